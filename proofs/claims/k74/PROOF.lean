import PyProof.Rows.All
import HandS.ForMost
import HandS.Deep
import HandS.TupAny
import HandS.TupLe
import HandS.FStr
import HandS.Flow
import HandS.Conv
import HandS.IsInst
import HandS.Zip
import HandS.Wide
import HandS.Exc
import HandS.ExcOwn
import HandS.ExcInit
import HandS.TryOnly
import HandS.CallSlots
import HandS.SortKw
import KE.SortData
import KE.DataCmp
import HandS.TupLen
import PyProof.CallFns
import HandS.Walk
import HandS.Comp
import HandS.Dict
import HandS.Codes
import HandS.Ends
import PyProof.StrLawsChain
import PyProof.StrLawsTight
import KE.LtData
import PyProof.Rows.RegFStrParts
import PySem.Challenge.RW_fankinds_k74_houses_written_and_read
set_option Elab.async false
set_option linter.all false
set_option autoImplicit false
set_option maxRecDepth 100000
set_option maxHeartbeats 4000000
/-! Data, the store, and what it is in the layer's heap -/
namespace Fk
open PySem L2

/-- a dict's key: an int or a text, or a tuple of such -/
abbrev Ky := Sum Key (List Key)

inductive D where
  | non | bl (b : Bool) | int (i : Int) | str (s : Str) | ty (n : String)
  | tup (ds : List D) | lst (ds : List D) | dct (t : Bool) (ks : List Ky) (vs : List D) | ktp (ds : List D)
  | obj (c : Str) (fs : List Str) (vs : List D) | hnd (n : Nat) | fn (x : Str) | scr (ns : List Int)
deriving Inhabited

/-- the addresses of the handles; those that are kept aside -/
structure Al where
  hs : List Addr
  hid : List Addr
instance : Membership Addr Al := ⟨fun α a => a ∈ α.hs ∨ a ∈ α.hid⟩
theorem mem_al {α : Al} {a : Addr} : a ∈ α ↔ a ∈ α.hs ∨ a ∈ α.hid := Iff.rfl
def Al.push (α : Al) (p : Addr) : Al := ⟨α.hs ++ [p], α.hid⟩
def Al.hide (α : Al) (p : Addr) : Al := ⟨α.hs, p :: α.hid⟩
def Al.nil : Al := ⟨[], []⟩
theorem not_nil {a : Addr} : a ∉ Al.nil := fun h => h.elim (fun z => by cases z) (fun z => by cases z)
/-- a store: what stands at each handle (lst, dct, obj) -/
abbrev Store := List D

structure RC where
  K : PySem.W.Frag
  /-- a class's address by its name -/
  ca : Str → Addr
  /-- a def's address by its name -/
  fa : Str → Addr

def zipK : List Ky → List V → Option (List (Key × V))
  | [], [] => some []
  | .inl k :: ks, v :: vs => (zipK ks vs).map ((k, v) :: ·)
  | _, _ => none
def zipT : List Ky → List V → Option (List (List Key × V))
  | [], [] => some []
  | .inr k :: ks, v :: vs => (zipT ks vs).map ((k, v) :: ·)
  | _, _ => none
/-- a dict's object -/
def DctO : Bool → HO → List Ky → List V → Prop
  | false, o, ks, vs => ∃ kvs, zipK ks vs = some kvs ∧ o = .dK kvs
  | true, o, ks, vs => ∃ kvs, zipT ks vs = some kvs ∧ o = .dT kvs

/-- a list of the written part -/
def KL (K : PySem.W.Frag) (a : Addr) (xs : List V) : Prop :=
  ∃ (o : Obj) (its : Array Value) (n : Nat), K.lookup a = some o ∧ o.cls = .type "list" ∧ o.dict = none ∧ o.data = .seq its n ∧ its.size ≤ sizeLine ∧ Vals xs its.toList
/-- a tuple of the written part -/
def KT (K : PySem.W.Frag) (a : Addr) (xs : List V) : Prop :=
  ∃ (o : Obj) (its : Array Value) (n : Nat), K.lookup a = some o ∧ o.cls = .type "tuple" ∧ o.data = .seq its n ∧ its.size ≤ sizeLine ∧ Vals xs its.toList
/-- the script -/
def ScrL (K : PySem.W.Frag) (H : Hp) (a : Addr) (vs : List V) : Prop := (∃ o, H a = some (.frz o (.lst vs))) ∨ KL K a vs
mutual
def Rep (R : RC) (α : Al) (H : Hp) : D → V → Prop
  | .non, v => v = .non
  | .bl b, v => v = .bl b
  | .int i, v => v = .int i
  | .str s, v => v = .str s
  | .ty n, v => v = .ty n
  | .tup ds, v => ∃ a vs, v = .ref a ∧ H a = some (.tup vs) ∧ Reps R α H ds vs
  | .ktp ds, v => ∃ a vs, v = .ref a ∧ KT R.K a vs ∧ Reps R α H ds vs
  | .lst ds, v => ∃ a vs, v = .ref a ∧ a ∉ α ∧ H a = some (.lst vs) ∧ Reps R α H ds vs
  | .dct t ks ds, v => ∃ a vs o, v = .ref a ∧ a ∉ α ∧ Rd H a o ∧ DctO t o ks vs ∧ Reps R α H ds vs
  | .obj c fs ds, v => ∃ a dx vs, v = .ref a ∧ a ∉ α ∧ H a = some (.ins (R.ca c) dx (fs.zip vs)) ∧ fs.length = vs.length ∧ Reps R α H ds vs
  | .hnd n, v => ∃ a, v = .ref a ∧ α.hs[n]? = some a
  | .fn x, v => v = .ref (R.fa x)
  | .scr ns, v => ∃ a, v = .ref a ∧ ScrL R.K H a (ns.map V.int)
def Reps (R : RC) (α : Al) (H : Hp) : List D → List V → Prop
  | [], [] => True
  | d :: ds, v :: vs => Rep R α H d v ∧ Reps R α H ds vs
  | _, _ => False
end

/-- what stands at a handle's address -/
def CellV (R : RC) (α : Al) (H : Hp) (o : HO) : D → Prop
  | .lst ds => ∃ vs, o = .lst vs ∧ Reps R α H ds vs
  | .dct t ks ds => ∃ vs, DctO t o ks vs ∧ Reps R α H ds vs
  | .obj c fs ds => ∃ dx vs, o = .ins (R.ca c) dx (fs.zip vs) ∧ fs.length = vs.length ∧ Reps R α H ds vs
  | _ => False

def MutO (o : HO) : Prop := (∀ xs, o ≠ .tup xs) ∧ ∀ ob u, o ≠ .frz ob u
structure Rel (R : RC) (α : Al) (H : Hp) (S : Store) : Prop where
  len : α.hs.length = S.length
  nd : α.hs.Nodup
  ap : ∀ a, a ∈ α.hs → a ∉ α.hid
  hd : ∀ a, a ∈ α.hid → ∃ o, H a = some o ∧ MutO o
  cell : ∀ (n : Nat) (a : Addr) (d : D), α.hs[n]? = some a → S[n]? = some d → ∃ o, H a = some o ∧ CellV R α H o d

structure Ext (α : Al) (H : Hp) (α' : Al) (H' : Hp) : Prop where
  pre : ∃ β, α'.hs = α.hs ++ β
  hid : α'.hid = α.hid
  hk : ∀ a, a ∈ α.hid → H' a = H a
  keep : ∀ a o, H a = some o → a ∉ α → H' a = some o ∧ a ∉ α'
  dom : ∀ a, H' a = none → H a = none
  tup : ∀ a xs, H a = some (.tup xs) → H' a = some (.tup xs)
  frz : ∀ a o u, H a = some (.frz o u) → H' a = some (.frz o u)

structure Wk (α : Al) (H : Hp) (α' : Al) (H' : Hp) : Prop where
  pre : ∃ β, α'.hs = α.hs ++ β
  keep : ∀ a o, H a = some o → a ∉ α → H' a = some o ∧ a ∉ α'
  tup : ∀ a xs, H a = some (.tup xs) → H' a = some (.tup xs)
  frz : ∀ a o u, H a = some (.frz o u) → H' a = some (.frz o u)
theorem Ext.wk {α α' : Al} {H H' : Hp} (e : Ext α H α' H') : Wk α H α' H' := ⟨e.pre, e.keep, e.tup, e.frz⟩

theorem Ext.refl {α : Al} {H : Hp} : Ext α H α H := ⟨⟨[], by simp⟩, rfl, fun _ _ => rfl, fun _ _ h n => ⟨h, n⟩, fun _ h => h, fun _ _ h => h, fun _ _ _ h => h⟩
theorem Ext.trans {α α1 α2 : Al} {H H1 H2 : Hp} (a : Ext α H α1 H1) (b : Ext α1 H1 α2 H2) : Ext α H α2 H2 := by
  refine ⟨?_, by rw [b.hid, a.hid], fun x h => by rw [b.hk x (by rw [a.hid]; exact h), a.hk x h], fun x o h n => ?_, fun x h => a.dom x (b.dom x h), fun x xs h => b.tup x xs (a.tup x xs h), fun x o u h => b.frz x o u (a.frz x o u h)⟩
  · obtain ⟨β, e⟩ := a.pre
    obtain ⟨γ, e'⟩ := b.pre
    exact ⟨β ++ γ, by rw [e', e, List.append_assoc]⟩
  · obtain ⟨h1, n1⟩ := a.keep x o h n
    exact b.keep x o h1 n1

section
variable {R : RC} {α α' : Al} {H H' : Hp} {S S' : Store}
theorem Rd.wk (e : Wk α H α' H') {a : Addr} {u : HO} (h : Rd H a u) (n : a ∉ α) : Rd H' a u := by
  rcases h with h | ⟨o, h⟩
  · exact .inl (e.keep a u h n).1
  · exact .inr ⟨o, e.frz a o u h⟩
theorem Rd.out (e : Wk α H α' H') {a : Addr} {u : HO} (h : Rd H a u) (n : a ∉ α) : a ∉ α' := by
  rcases h with h | ⟨o, h⟩
  · exact (e.keep a u h n).2
  · exact (e.keep a _ h n).2
theorem SqT.wk {K : PySem.W.Frag} (e : Wk α H α' H') {a : Addr} {vs : List V} (h : SqT K H a vs) : SqT K H' a vs := by
  rcases h with (h | ⟨o, h⟩) | h
  · exact .inl (.inl (e.tup a vs h))
  · exact .inl (.inr ⟨o, e.frz a o _ h⟩)
  · exact .inr h
theorem ScrL.wk {K : PySem.W.Frag} (e : Wk α H α' H') {a : Addr} {vs : List V} (h : ScrL K H a vs) : ScrL K H' a vs := by
  rcases h with ⟨o, h⟩ | h
  · exact .inl ⟨o, e.frz a o _ h⟩
  · exact .inr h
theorem ScrL.sq {K : PySem.W.Frag} {a : Addr} {vs : List V} (h : ScrL K H a vs) : SqL K H a vs := by
  rcases h with ⟨o, h⟩ | h
  · exact .inl (.inr ⟨o, h⟩)
  · exact .inr h
theorem pre_get {α α' β : List Addr} (e : α' = α ++ β) {n : Nat} {a : Addr} (h : α[n]? = some a) : α'[n]? = some a := by
  rw [e, List.getElem?_append_left (List.getElem?_eq_some_iff.mp h).1]
  exact h
mutual
theorem Rep.wk (e : Wk α H α' H') : ∀ (d : D) (v : V), Rep R α H d v → Rep R α' H' d v
  | .non, v, h => by unfold Rep at h ⊢; exact h
  | .bl _, v, h => by unfold Rep at h ⊢; exact h
  | .int _, v, h => by unfold Rep at h ⊢; exact h
  | .str _, v, h => by unfold Rep at h ⊢; exact h
  | .ty _, v, h => by unfold Rep at h ⊢; exact h
  | .fn _, v, h => by unfold Rep at h ⊢; exact h
  | .tup ds, v, h => by
    unfold Rep at h ⊢
    obtain ⟨a, vs, h1, h2, h3⟩ := h
    exact ⟨a, vs, h1, e.tup a vs h2, Reps.wk e ds vs h3⟩
  | .ktp ds, v, h => by
    unfold Rep at h ⊢
    obtain ⟨a, vs, h1, h2, h3⟩ := h
    exact ⟨a, vs, h1, h2, Reps.wk e ds vs h3⟩
  | .lst ds, v, h => by
    unfold Rep at h ⊢
    obtain ⟨a, vs, h1, h2, h3, h4⟩ := h
    exact ⟨a, vs, h1, (e.keep a _ h3 h2).2, (e.keep a _ h3 h2).1, Reps.wk e ds vs h4⟩
  | .scr ns, v, h => by
    unfold Rep at h ⊢
    obtain ⟨a, h1, h2⟩ := h
    exact ⟨a, h1, ScrL.wk e h2⟩
  | .dct t ks ds, v, h => by
    unfold Rep at h ⊢
    obtain ⟨a, vs, o, h1, h2, h3, h4, h5⟩ := h
    exact ⟨a, vs, o, h1, Rd.out e h3 h2, Rd.wk e h3 h2, h4, Reps.wk e ds vs h5⟩
  | .obj c fs ds, v, h => by
    unfold Rep at h ⊢
    obtain ⟨a, dx, vs, h1, h2, h3, h4, h5⟩ := h
    exact ⟨a, dx, vs, h1, (e.keep a _ h3 h2).2, (e.keep a _ h3 h2).1, h4, Reps.wk e ds vs h5⟩
  | .hnd n, v, h => by
    unfold Rep at h ⊢
    obtain ⟨a, h1, h2⟩ := h
    obtain ⟨β, eb⟩ := e.pre
    exact ⟨a, h1, pre_get eb h2⟩
theorem Reps.wk (e : Wk α H α' H') : ∀ (ds : List D) (vs : List V), Reps R α H ds vs → Reps R α' H' ds vs
  | [], [], h => by unfold Reps; trivial
  | [], _ :: _, h => by unfold Reps at h; exact h.elim
  | _ :: _, [], h => by unfold Reps at h; exact h.elim
  | d :: ds, v :: vs, h => by
    unfold Reps at h ⊢
    exact ⟨Rep.wk e d v h.1, Reps.wk e ds vs h.2⟩
end
theorem CellV.wk (e : Wk α H α' H') {o : HO} {d : D} (h : CellV R α H o d) : CellV R α' H' o d := by
  cases d with
  | lst ds => obtain ⟨vs, h1, h2⟩ := h; exact ⟨vs, h1, Reps.wk e _ _ h2⟩
  | dct t ks ds => obtain ⟨vs, h1, h2⟩ := h; exact ⟨vs, h1, Reps.wk e _ _ h2⟩
  | obj c fs ds => obtain ⟨dx, vs, h1, h2, h3⟩ := h; exact ⟨dx, vs, h1, h2, Reps.wk e _ _ h3⟩
  | _ => exact h.elim
theorem Rd.ext (e : Ext α H α' H') {a : Addr} {u : HO} (h : Rd H a u) (n : a ∉ α) : Rd H' a u := Rd.wk e.wk h n
theorem SqT.ext {K : PySem.W.Frag} (e : Ext α H α' H') {a : Addr} {vs : List V} (h : SqT K H a vs) : SqT K H' a vs := SqT.wk e.wk h
theorem ScrL.ext {K : PySem.W.Frag} (e : Ext α H α' H') {a : Addr} {vs : List V} (h : ScrL K H a vs) : ScrL K H' a vs := ScrL.wk e.wk h
theorem Rep.ext (e : Ext α H α' H') (d : D) (v : V) (h : Rep R α H d v) : Rep R α' H' d v := Rep.wk e.wk d v h
theorem Reps.ext (e : Ext α H α' H') (ds : List D) (vs : List V) (h : Reps R α H ds vs) : Reps R α' H' ds vs := Reps.wk e.wk ds vs h
theorem CellV.ext (e : Ext α H α' H') {o : HO} {d : D} (h : CellV R α H o d) : CellV R α' H' o d := CellV.wk e.wk h
theorem CellV.mut {o : HO} {d : D} (h : CellV R α H o d) : (∀ xs, o ≠ .tup xs) ∧ ∀ ob u, o ≠ .frz ob u := by
  cases d with
  | lst ds => obtain ⟨vs, h1, h2⟩ := h; subst h1; exact ⟨fun _ z => (by cases z), fun _ _ z => (by cases z)⟩
  | dct t ks ds =>
    obtain ⟨vs, h1, h2⟩ := h
    cases t <;> obtain ⟨_, _, rfl⟩ := h1 <;> exact ⟨fun _ z => (by cases z), fun _ _ z => (by cases z)⟩
  | obj c fs ds => obtain ⟨dx, vs, h1, h2, h3⟩ := h; subst h1; exact ⟨fun _ z => (by cases z), fun _ _ z => (by cases z)⟩
  | _ => exact h.elim
theorem Rel.at (r : Rel R α H S) {n : Nat} {a : Addr} (h : α.hs[n]? = some a) : ∃ d o, S[n]? = some d ∧ H a = some o ∧ CellV R α H o d := by
  have hn : n < S.length := by
    rw [← r.len]
    exact (List.getElem?_eq_some_iff.mp h).1
  have hs : S[n]? = some S[n] := by simp [hn]
  obtain ⟨o, h1, h2⟩ := r.cell n a _ h hs
  exact ⟨_, o, hs, h1, h2⟩
theorem Rel.mem (r : Rel R α H S) {a : Addr} (h : a ∈ α) : ∃ o, H a = some o ∧ (∀ xs, o ≠ .tup xs) ∧ ∀ ob u, o ≠ .frz ob u := by
  rcases h with h | h
  · obtain ⟨n, hn⟩ := List.getElem?_of_mem h
    obtain ⟨d, o, _, h1, h2⟩ := r.at hn
    exact ⟨o, h1, CellV.mut h2⟩
  · exact r.hd a h
theorem Rel.out (r : Rel R α H S) {a : Addr} (h : H a = none) : a ∉ α := fun m => by
  obtain ⟨o, h1, _⟩ := r.mem m
  rw [h] at h1
  cases h1
/-- a new thing that stays as it is -/
theorem Ext.new (r : Rel R α H S) {p : Addr} {o : HO} (h : H p = none) : Ext α H α (upd H p o) where
  pre := ⟨[], by simp⟩
  hid := rfl
  hk := fun a ha => by
    obtain ⟨xs, e, _⟩ := r.hd a ha
    rw [upd_ne (ne_of_none e h)]
  keep := fun a u e n => ⟨by rw [upd_ne (ne_of_none e h)]; exact e, n⟩
  dom := fun a e => by
    by_cases q : a = p
    · rw [q, upd_same] at e; cases e
    · rw [upd_ne q] at e; exact e
  tup := fun a xs e => by rw [upd_ne (ne_of_none e h)]; exact e
  frz := fun a ob u e => by rw [upd_ne (ne_of_none e h)]; exact e
theorem Rel.new (r : Rel R α H S) {p : Addr} {o : HO} (h : H p = none) : Rel R α (upd H p o) S where
  len := r.len
  nd := r.nd
  ap := r.ap
  hd := fun a ha => by
    obtain ⟨xs, e, m⟩ := r.hd a ha
    exact ⟨xs, by rw [upd_ne (ne_of_none e h)]; exact e, m⟩
  cell := fun n a d h1 h2 => by
    obtain ⟨u, h3, h4⟩ := r.cell n a d h1 h2
    exact ⟨u, by rw [upd_ne (ne_of_none h3 h)]; exact h3, CellV.ext (Ext.new r h) h4⟩
/-- a new thing that a handle is given to -/
theorem Ext.thaw (r : Rel R α H S) {p : Addr} {o : HO} (h : H p = none) : Ext α H (α.push p) (upd H p o) where
  pre := ⟨[p], rfl⟩
  hid := rfl
  hk := (Ext.new (o := o) r h).hk
  keep := fun a u e n => ⟨by rw [upd_ne (ne_of_none e h)]; exact e, fun z => by
    rcases z with z | z
    · rcases List.mem_append.mp z with z | z
      · exact n (.inl z)
      · exact ne_of_none e h (by simpa using z)
    · exact n (.inr z)⟩
  dom := (Ext.new (o := o) r h).dom
  tup := (Ext.new (o := o) r h).tup
  frz := (Ext.new (o := o) r h).frz
theorem Rel.thaw (r : Rel R α H S) {p : Addr} {o : HO} {d : D} (h : H p = none) (c : CellV R α H o d) : Rel R (α.push p) (upd H p o) (S ++ [d]) where
  len := by
    show (α.hs ++ [p]).length = (S ++ [d]).length
    rw [List.length_append, List.length_append, r.len]
    rfl
  nd := by
    show (α.hs ++ [p]).Nodup
    rw [List.nodup_append]
    refine ⟨r.nd, by simp, fun a ha b hb => ?_⟩
    have e : b = p := by simpa using hb
    rw [e]
    exact fun z => r.out h (.inl (z ▸ ha))
  ap := fun a ha hb => by
    rcases List.mem_append.mp (show a ∈ α.hs ++ [p] from ha) with z | z
    · exact r.ap a z hb
    · have e : a = p := by simpa using z
      exact r.out h (.inr (e ▸ hb))
  hd := (Rel.new (o := o) r h).hd
  cell := fun n a d' h1 h2 => by
    have h1 : (α.hs ++ [p])[n]? = some a := h1
    by_cases hn : n < S.length
    · rw [List.getElem?_append_left hn] at h2
      rw [List.getElem?_append_left (by rw [r.len]; exact hn)] at h1
      obtain ⟨u, h3, h4⟩ := r.cell n a d' h1 h2
      exact ⟨u, by rw [upd_ne (ne_of_none h3 h)]; exact h3, CellV.ext (Ext.thaw r h) h4⟩
    · have hn' : n = S.length := by
        have z := (List.getElem?_eq_some_iff.mp h2).1
        rw [List.length_append, List.length_singleton] at z
        omega
      subst hn'
      rw [List.getElem?_append_right (Nat.le_refl _), Nat.sub_self] at h2
      rw [List.getElem?_append_right (by rw [r.len]; exact Nat.le_refl _), r.len, Nat.sub_self] at h1
      have e1 : p = a := by simpa using h1
      have e2 : d = d' := by simpa using h2
      subst e1 e2
      exact ⟨o, upd_same, CellV.ext (Ext.thaw r h) c⟩
/-- what a handle has is changed -/
theorem Ext.mut (r : Rel R α H S) {a : Addr} {o : HO} {n : Nat} (h : α.hs[n]? = some a) : Ext α H α (upd H a o) where
  pre := ⟨[], by simp⟩
  hid := rfl
  hk := fun b hb => upd_ne fun z => r.ap a (List.mem_of_getElem? h) (z ▸ hb)
  keep := fun b u e nb => ⟨by rw [upd_ne (fun z => nb (.inl (by rw [z]; exact List.mem_of_getElem? h)))]; exact e, nb⟩
  dom := fun b e => by
    by_cases q : b = a
    · rw [q, upd_same] at e; cases e
    · rw [upd_ne q] at e; exact e
  tup := fun b xs e => by
    obtain ⟨d, u, _, h1, h2⟩ := r.at h
    rw [upd_ne fun z => by rw [z, h1] at e; cases e; exact (CellV.mut h2).1 _ rfl]
    exact e
  frz := fun b ob v e => by
    obtain ⟨d, u, _, h1, h2⟩ := r.at h
    rw [upd_ne fun z => by rw [z, h1] at e; cases e; exact (CellV.mut h2).2 _ _ rfl]
    exact e
theorem Rel.mut (r : Rel R α H S) {a : Addr} {o : HO} {n : Nat} {d : D} (h : α.hs[n]? = some a) (c : CellV R α H o d) : Rel R α (upd H a o) (S.set n d) where
  len := by rw [List.length_set]; exact r.len
  nd := r.nd
  ap := r.ap
  hd := fun b hb => by
    obtain ⟨xs, e, m⟩ := r.hd b hb
    exact ⟨xs, by rw [(Ext.mut (o := o) r h).hk b hb]; exact e, m⟩
  cell := fun m b d' h1 h2 => by
    by_cases hm : m = n
    · subst hm
      rw [h] at h1
      cases h1
      have hn := (List.getElem?_eq_some_iff.mp h2).1
      rw [List.length_set] at hn
      rw [List.getElem?_set_self hn] at h2
      cases h2
      exact ⟨o, upd_same, CellV.ext (Ext.mut r h) c⟩
    · rw [List.getElem?_set_ne (Ne.symm hm)] at h2
      obtain ⟨u, h3, h4⟩ := r.cell m b d' h1 h2
      have hb : b ≠ a := fun z => hm ((List.getElem?_inj (List.getElem?_eq_some_iff.mp h1).1 r.nd).mp (by rw [h1, h, z]))
      exact ⟨u, by rw [upd_ne hb]; exact h3, CellV.ext (Ext.mut r h) h4⟩
/-- the handles from some on are let go -/
def Al.take (α : Al) (n : Nat) : Al := ⟨α.hs.take n, α.hid⟩
theorem Ext.take {n : Nat} (e : Ext α H α' H') (hn : α.hs.length = n) : Ext α H (α'.take n) H' where
  pre := by
    obtain ⟨β, eb⟩ := e.pre
    refine ⟨[], ?_⟩
    show α'.hs.take n = α.hs ++ []
    rw [eb, ← hn]
    simp
  hid := e.hid
  hk := e.hk
  keep := fun a o h m => ⟨(e.keep a o h m).1, fun z => (e.keep a o h m).2 (z.imp List.mem_of_mem_take id)⟩
  dom := e.dom
  tup := e.tup
  frz := e.frz
/-! ### a list that is being filled, unseen -/
def del (H : Hp) (a : Addr) : Hp := fun b => if b = a then none else H b
theorem del_same {a : Addr} : del H a a = none := if_pos rfl
theorem del_ne {a b : Addr} (h : b ≠ a) : del H a b = H b := if_neg h
theorem del_upd {a : Addr} {o : HO} : del (upd H a o) a = del H a := funext fun b => by
  by_cases h : b = a
  · rw [h, del_same, del_same]
  · rw [del_ne h, del_ne h, upd_ne h]
theorem upd_del {a : Addr} {o : HO} (h : H a = some o) : upd (del H a) a o = H := funext fun b => by
  by_cases q : b = a
  · rw [q, upd_same, h]
  · rw [upd_ne q, del_ne q]
theorem del_none {a : Addr} (h : H a = none) : del H a = H := funext fun b => by
  by_cases q : b = a
  · rw [q, del_same, h]
  · rw [del_ne q]
def Al.un (α : Al) : Al := ⟨α.hs, α.hid.tail⟩
theorem Al.un_hide {a : Addr} : (α.hide a).un = α := rfl
theorem Wk.hide {D : Addr} {o : HO} (h : H D = none) : Wk α H (α.hide D) (upd H D o) where
  pre := ⟨[], by simp [Al.hide]⟩
  keep := fun a u e n => ⟨by rw [upd_ne (ne_of_none e h)]; exact e, fun z => by
    rcases z with z | z
    · exact n (.inl z)
    · rcases List.mem_cons.mp z with z | z
      · exact ne_of_none e h z
      · exact n (.inr z)⟩
  tup := fun a xs e => by rw [upd_ne (ne_of_none e h)]; exact e
  frz := fun a ob u e => by rw [upd_ne (ne_of_none e h)]; exact e
theorem Rel.hide {D : Addr} {o : HO} (r : Rel R α H S) (h : H D = none) (m : MutO o) : Rel R (α.hide D) (upd H D o) S where
  len := r.len
  nd := r.nd
  ap := fun a ha hb => by
    rcases List.mem_cons.mp hb with z | z
    · exact r.out h (.inl (z ▸ ha))
    · exact r.ap a ha z
  hd := fun a ha => by
    rcases List.mem_cons.mp ha with z | z
    · exact ⟨o, by rw [z, upd_same], m⟩
    · obtain ⟨u, e, m⟩ := r.hd a z
      exact ⟨u, by rw [upd_ne (ne_of_none e h)]; exact e, m⟩
  cell := fun n a d h1 h2 => by
    obtain ⟨u, h3, h4⟩ := r.cell n a d h1 h2
    exact ⟨u, by rw [upd_ne (ne_of_none h3 h)]; exact h3, CellV.wk (Wk.hide h) h4⟩
theorem Wk.hset {D : Addr} {o : HO} (hD : D ∈ α.hid) (r : Rel R α H S) : Wk α H α (upd H D o) where
  pre := ⟨[], by simp⟩
  keep := fun a u e n => ⟨by rw [upd_ne (fun (z : a = D) => n (.inr (z ▸ hD)))]; exact e, n⟩
  tup := fun a xs e => by
    obtain ⟨u, h1, h2⟩ := r.hd D hD
    rw [upd_ne fun z => by rw [z, h1] at e; cases e; exact h2.1 _ rfl]
    exact e
  frz := fun a ob v e => by
    obtain ⟨u, h1, h2⟩ := r.hd D hD
    rw [upd_ne fun z => by rw [z, h1] at e; cases e; exact h2.2 _ _ rfl]
    exact e
theorem Rel.hset {D : Addr} {o : HO} (hD : D ∈ α.hid) (r : Rel R α H S) (m : MutO o) : Rel R α (upd H D o) S where
  len := r.len
  nd := r.nd
  ap := r.ap
  hd := fun a ha => by
    by_cases q : a = D
    · exact ⟨o, by rw [q, upd_same], m⟩
    · rw [upd_ne q]; exact r.hd a ha
  cell := fun n a d h1 h2 => by
    obtain ⟨u, h3, h4⟩ := r.cell n a d h1 h2
    exact ⟨u, by rw [upd_ne (fun (z : a = D) => r.ap a (List.mem_of_getElem? h1) (z ▸ hD))]; exact h3, CellV.wk (Wk.hset hD r) h4⟩
theorem Wk.un {D : Addr} {l : List Addr} (e : α.hid = D :: l) (r : Rel R α H S) : Wk α H α.un (del H D) where
  pre := ⟨[], by simp [Al.un]⟩
  keep := fun a u h n => ⟨by rw [del_ne (fun z => n (.inr (by rw [e, z]; exact List.mem_cons_self)))]; exact h, fun z => by
    rcases z with z | z
    · exact n (.inl z)
    · exact n (.inr (by rw [e]; rw [Al.un, e] at z; exact List.mem_cons_of_mem _ z))⟩
  tup := fun a xs h => by
    obtain ⟨u, h1, h2⟩ := r.hd D (by rw [e]; exact List.mem_cons_self)
    rw [del_ne fun z => by rw [z, h1] at h; cases h; exact h2.1 _ rfl]
    exact h
  frz := fun a ob v h => by
    obtain ⟨u, h1, h2⟩ := r.hd D (by rw [e]; exact List.mem_cons_self)
    rw [del_ne fun z => by rw [z, h1] at h; cases h; exact h2.2 _ _ rfl]
    exact h
theorem Rel.un {D : Addr} {l : List Addr} (e : α.hid = D :: l) (nl : D ∉ l) (r : Rel R α H S) : Rel R α.un (del H D) S where
  len := r.len
  nd := r.nd
  ap := fun a ha hb => r.ap a ha (by rw [e]; rw [Al.un, e] at hb; exact List.mem_cons_of_mem _ hb)
  hd := fun a ha => by
    rw [Al.un, e] at ha
    rw [del_ne fun z => nl (by rw [← z]; exact ha)]
    exact r.hd a (by rw [e]; exact List.mem_cons_of_mem _ ha)
  cell := fun n a d h1 h2 => by
    obtain ⟨u, h3, h4⟩ := r.cell n a d h1 h2
    exact ⟨u, by rw [del_ne (fun z => r.ap a (List.mem_of_getElem? h1) (by rw [e, z]; exact List.mem_cons_self))]; exact h3, CellV.wk (Wk.un e r) h4⟩
theorem Ext.un {D : Addr} {l : List Addr} (q : α.hid = D :: l) (e : Ext α H α' H') : Ext α.un (del H D) α'.un (del H' D) where
  pre := e.pre
  hid := by rw [Al.un, Al.un]; show α'.hid.tail = α.hid.tail; rw [e.hid]
  hk := fun a ha => by
    by_cases z : a = D
    · rw [z, del_same, del_same]
    · rw [del_ne z, del_ne z]
      exact e.hk a (by rw [q]; rw [Al.un, q] at ha; exact List.mem_cons_of_mem _ ha)
  keep := fun a o h n => by
    by_cases z : a = D
    · rw [z, del_same] at h; cases h
    · rw [del_ne z] at h ⊢
      obtain ⟨h1, h2⟩ := e.keep a o h fun m => by
        rcases m with m | m
        · exact n (.inl m)
        · rw [q] at m
          rcases List.mem_cons.mp m with m | m
          · exact z m
          · exact n (.inr (by rw [Al.un, q]; exact m))
      exact ⟨h1, fun m => h2 (m.imp id List.mem_of_mem_tail)⟩
  dom := fun a h => by
    by_cases z : a = D
    · rw [z, del_same]
    · rw [del_ne z] at h ⊢
      exact e.dom a h
  tup := fun a xs h => by
    by_cases z : a = D
    · rw [z, del_same] at h; cases h
    · rw [del_ne z] at h ⊢
      exact e.tup a xs h
  frz := fun a ob v h => by
    by_cases z : a = D
    · rw [z, del_same] at h; cases h
    · rw [del_ne z] at h ⊢
      exact e.frz a ob v h
end
end Fk
set_option Elab.async false
set_option linter.all false
set_option autoImplicit false
set_option maxRecDepth 100000
set_option maxHeartbeats 4000000
/-! The language of the bodies, and what they do -/
namespace Fk
open PySem L2

inductive M where
  | var (i : Nat) | non | bl (b : Bool) | int (i : Int) | str (s : Str) | glob (x : Str)
  | nil | cons (a r : M) | tup (as : M) | lst (as : M) | emp (t : Bool)
  | bin (op : Operator) (a b : M) | neg (a : M)
  | cmp (op : CmpOp) (a b : M) | chn (op op' : CmpOp) (a b c : M)
  | and (a b : M) | or (a b : M) | one (a : M) | not (a : M) | ite (c a b : M)
  | sub (a i : M) | slc (a lo hi : M) | no
  | attr (a : M) (f : Str)
  | call (f : Str) (as : M) | new (c : Str) (as : M) | bif (f : Str) (as : M) | isi (a : M) (t : String)
  | met (o : M) (m : Str) (as : M) | bim (o : M) (m : Str) (as : M)
  | fst (as : M) | fc (a r : M)
  | lc (own : List Nat) (tg it e : M) | lcf (own : List Nat) (tg it c e : M)
  | rng1 (a : M) | rng2 (a b : M) | enu (a : M) | zip (a b : M)
  | thaw (a : M)
deriving Inhabited

inductive MS where
  | nl | cn (s r : MS)
  | asg (tg e : M) | exp (e : M) | ret (e : M) | retn
  | ite (c : M) (a b : MS) | for_ (tg it : M) (b : MS) | whl (c : M) (b : MS)
  | brk | cnt | pas | stop
deriving Inhabited

inductive Res where
  | ok (d : D) (S : Store) | ex (c : Str) (fs : List Str) (vs : List D) (S : Store) | stuck
deriving Inhabited
def Res.bind (r : Res) (k : D → Store → Res) : Res := match r with
  | .ok d S => k d S
  | .ex c fs vs S => .ex c fs vs S
  | .stuck => .stuck
abbrev Env' := List (Option D)
inductive Out where
  | nx (e : Env') (S : Store) | rt (d : D) (S : Store) | bk (e : Env') (S : Store) | ct (e : Env') (S : Store)
  | ex (c : Str) (fs : List Str) (vs : List D) (e : Env') (S : Store) | stuck
deriving Inhabited

/-! ### data -/
mutual
def D.beq : D → D → Bool
  | .non, .non => true
  | .bl a, .bl b => a == b
  | .int a, .int b => a == b
  | .str a, .str b => decide (a = b)
  | .ty a, .ty b => a == b
  | .tup a, .tup b => D.beqs a b
  | .lst a, .lst b => D.beqs a b
  | .dct t k a, .dct u l b => (t == u) && (decide (k = l) && D.beqs a b)
  | .ktp a, .ktp b => D.beqs a b
  | .obj c f a, .obj c' f' b => decide (c = c') && (decide (f = f') && D.beqs a b)
  | .hnd a, .hnd b => a == b
  | .fn a, .fn b => decide (a = b)
  | .scr a, .scr b => decide (a = b)
  | _, _ => false
def D.beqs : List D → List D → Bool
  | [], [] => true
  | a :: as, b :: bs => D.beq a b && D.beqs as bs
  | _, _ => false
end
mutual
theorem D.beq_self : ∀ d : D, D.beq d d = true
  | .non => by simp [D.beq]
  | .bl _ => by simp [D.beq]
  | .int _ => by simp [D.beq]
  | .str _ => by simp [D.beq]
  | .ty _ => by simp [D.beq]
  | .tup a => by simp [D.beq, D.beqs_self a]
  | .lst a => by simp [D.beq, D.beqs_self a]
  | .dct t k a => by simp [D.beq, D.beqs_self a]
  | .ktp a => by simp [D.beq, D.beqs_self a]
  | .obj c f a => by simp [D.beq, D.beqs_self a]
  | .hnd _ => by simp [D.beq]
  | .fn _ => by simp [D.beq]
  | .scr _ => by simp [D.beq]
theorem D.beqs_self : ∀ d : List D, D.beqs d d = true
  | [] => by simp [D.beqs]
  | a :: as => by simp [D.beqs, D.beq_self a, D.beqs_self as]
end
mutual
theorem D.beq_eq : ∀ d e : D, D.beq d e = true → d = e
  | .non, e, h => by cases e <;> simp [D.beq] at h ⊢
  | .bl _, e, h => by cases e <;> simp [D.beq] at h ⊢; exact h
  | .int _, e, h => by cases e <;> simp [D.beq] at h ⊢; exact h
  | .str _, e, h => by cases e <;> simp [D.beq] at h ⊢; exact h
  | .ty _, e, h => by cases e <;> simp [D.beq] at h ⊢; exact h
  | .tup a, e, h => by
    cases e with
    | tup b => simp [D.beq] at h; rw [D.beqs_eq a b h]
    | _ => simp [D.beq] at h
  | .lst a, e, h => by
    cases e with
    | lst b => simp [D.beq] at h; rw [D.beqs_eq a b h]
    | _ => simp [D.beq] at h
  | .dct t k a, e, h => by
    cases e with
    | dct u l b => simp [D.beq] at h; rw [D.beqs_eq a b h.2.2, h.1, h.2.1]
    | _ => simp [D.beq] at h
  | .ktp a, e, h => by
    cases e with
    | ktp b => simp [D.beq] at h; rw [D.beqs_eq a b h]
    | _ => simp [D.beq] at h
  | .obj c f a, e, h => by
    cases e with
    | obj c' f' b => simp [D.beq] at h; rw [D.beqs_eq a b h.2.2, h.1, h.2.1]
    | _ => simp [D.beq] at h
  | .hnd _, e, h => by cases e <;> simp [D.beq] at h ⊢; exact h
  | .fn _, e, h => by cases e <;> simp [D.beq] at h ⊢; exact h
  | .scr _, e, h => by cases e <;> simp [D.beq] at h ⊢; exact h
theorem D.beqs_eq : ∀ d e : List D, D.beqs d e = true → d = e
  | [], [], _ => rfl
  | [], _ :: _, h => by simp [D.beqs] at h
  | _ :: _, [], h => by simp [D.beqs] at h
  | a :: as, b :: bs, h => by
    simp [D.beqs] at h
    rw [D.beq_eq a b h.1, D.beqs_eq as bs h.2]
end
def isMut : D → Bool
  | .lst _ => true
  | .dct _ _ _ => true
  | _ => false
/-- what a handle has, else the thing itself -/
def deref (S : Store) (d : D) : D := match d with
  | .hnd n => match S[n]? with
    | some c => c
    | none => .hnd n
  | .ktp ds => .tup ds
  | d => d
mutual
/-- handles from m on let go: what they have, by g -/
def frzG (m : Nat) (g : Nat → Option D) : D → Option D
  | .tup ds => (frzGs m g ds).map .tup
  | .lst ds => (frzGs m g ds).map .lst
  | .dct t ks ds => (frzGs m g ds).map (.dct t ks)
  | .ktp ds => (frzGs m g ds).map .ktp
  | .obj c fs ds => (frzGs m g ds).map (.obj c fs)
  | .hnd n => if n < m then some (.hnd n) else g n
  | .non => some .non
  | .bl b => some (.bl b)
  | .int i => some (.int i)
  | .str s => some (.str s)
  | .ty n => some (.ty n)
  | .fn x => some (.fn x)
  | .scr x => some (.scr x)
def frzGs (m : Nat) (g : Nat → Option D) : List D → Option (List D)
  | [] => some []
  | d :: ds => match frzG m g d, frzGs m g ds with
    | some e, some es => some (e :: es)
    | _, _ => none
end
def resolve (m : Nat) (S : Store) : Nat → Nat → Option D
  | 0, _ => none
  | k + 1, n => (S[n]?).bind (frzG m (resolve m S k))
def frz (m : Nat) (S : Store) (k : Nat) (d : D) : Option D := frzG m (resolve m S k) d
mutual
def pyD : D → Option PyData
  | .non => some .none
  | .bl b => some (.bool b)
  | .int i => some (.int i)
  | .str s => some (.str s)
  | .tup ds => (pyDs ds).map .tuple
  | .lst ds => (pyDs ds).map .list
  | .ktp ds => (pyDs ds).map .tuple
  | _ => none
def pyDs : List D → Option (List PyData)
  | [] => some []
  | d :: ds => match pyD d, pyDs ds with
    | some e, some es => some (e :: es)
    | _, _ => none
end
/-- as data: its handles' lists too -/
def pyS (S : Store) (d : D) : Option PyData := (frz 0 S 4 d).bind pyD

def toKy : Bool → D → Option Ky
  | false, .int i => some (.inl (.inl i))
  | false, .str s => some (.inl (.inr s))
  | true, .tup ds => (toKeys ds).map Sum.inr
  | _, _ => none
where toKeys : List D → Option (List Key)
  | [] => some []
  | .int i :: ds => (toKeys ds).map (Sum.inl i :: ·)
  | .str s :: ds => (toKeys ds).map (Sum.inr s :: ·)
  | _ => none
def ofKey : Key → D
  | .inl i => .int i
  | .inr s => .str s
def ofKy : Ky → D
  | .inl k => ofKey k
  | .inr ks => .tup (ks.map ofKey)
def hasK (k : Ky) : List Ky → Bool
  | l :: ks => decide (k = l) || hasK k ks
  | [] => false
def lookK (k : Ky) : List Ky → List D → Option D
  | l :: ks, v :: vs => if k = l then some v else lookK k ks vs
  | _, _ => none
def putA {α : Type} (k : Ky) (d : α) : List Ky → List α → List α
  | l :: ks, v :: vs => (if l = k then d else v) :: putA k d ks vs
  | _, _ => []
def putK (k : Ky) (d : D) (ks : List Ky) (vs : List D) : List Ky × List D := if hasK k ks = true then (ks, putA k d ks vs) else (ks ++ [k], vs ++ [d])
def truth (S : Store) (d : D) : Option Bool := match deref S d with
  | .non => some false
  | .bl b => some b
  | .int i => some (i != 0)
  | .str s => if s.length ≤ sizeLine then some (s.length != 0) else none
  | .tup ds => some (!ds.isEmpty)
  | .lst ds => some (!ds.isEmpty)
  | _ => none
def signs (s : Str) : List D := s.cps.toList.map fun c => .str ⟨#[c]⟩
/-- the things that a walk gives -/
def items (S : Store) (d : D) : Option (List D) := match deref S d with
  | .tup ds => some ds
  | .lst ds => some ds
  | .str s => some (signs s)
  | _ => none
def hndOf : D → List Nat
  | .hnd n => [n]
  | _ => []
def itemsM (m : M) (S : Store) (d : D) : Option (List D) := match m with
  | .enu _ => match deref S d with
    | .lst ds => some (ds.mapIdx fun i x => .tup [.int i, x])
    | _ => none
  | .zip _ _ => match d with
    | .tup [x, y] => match deref S x, deref S y with
      | .lst xs, .lst ys => some ((xs.zip ys).map fun p => .tup [p.1, p.2])
      | .tup xs, .tup ys => some ((xs.zip ys).map fun p => .tup [p.1, p.2])
      | _, _ => none
    | _ => none
  | _ => items S d
/-- the handles that must stay meanwhile -/
def guardsM (m : M) (d : D) : List Nat := match m with
  | .zip _ _ => match d with
    | .tup [x, y] => hndOf x ++ hndOf y
    | _ => []
  | _ => hndOf d
def stays (gs : List Nat) (S S' : Store) : Bool := gs.all fun n => D.beqs (S[n]?).toList (S'[n]?).toList
def seqOf (S : Store) (d : D) : Option (List D) := match deref S d with
  | .tup ds => some ds
  | .lst ds => some ds
  | _ => none

/-! ### operations -/
def intOf : D → Option Int
  | .int i => some i
  | _ => none
def isTup : D → Bool
  | .tup _ => true
  | _ => false
def binD (S : Store) (op : Operator) (x y : D) : Option D := match op, deref S x, deref S y with
  | .Add, .int i, .int j => some (.int (i + j))
  | .Sub, .int i, .int j => some (.int (i - j))
  | .Mult, .int i, .int j => if i.natAbs < 2 ^ 64 ∨ j.natAbs < 2 ^ 64 then some (.int (i * j)) else none
  | .FloorDiv, .int i, .int j => if 0 < j ∧ j.natAbs.log2 < 9000 then some (.int (i / j)) else none
  | .Mod, .int i, .int j => if 0 < j then some (.int (i % j)) else none
  | .Pow, .int i, .int j => if 0 ≤ j ∧ j ≤ 1000000 ∧ i.natAbs < 2 ^ 64 then some (.int (i ^ j.toNat)) else none
  | .Add, .str i, .str j => if i.length + j.length ≤ sizeLine then some (.str (i ++ j)) else none
  | .Add, .tup a, .tup b => if a.length + b.length ≤ sizeLine ∧ isTup x = true ∧ isTup y = true then some (.tup (a ++ b)) else none
  | .Add, .lst a, .lst b => if a.length + b.length ≤ sizeLine then some (.lst (a ++ b)) else none
  | .Mult, .lst a, .int k => if -2 ^ 63 ≤ k ∧ k < 2 ^ 63 ∧ a.length * k.toNat ≤ sizeLine then some (.lst (List.replicate k.toNat a).flatten) else none
  | _, _, _ => none
def isNoneP : PyData → Bool
  | .none => true
  | _ => false
def okData (p q : PyData) : Bool := SeqAt.shaped p && SeqAt.shaped q
def ltD (S : Store) (x y : D) (f : PyData → PyData → Bool) : Option Bool := match pyS S x, pyS S y with
  | some p, some q => if (PySem.W.alike p q && okData p q) = true ∧ isNoneP p = false then some (f p q) else none
  | _, _ => none
def eqP (S : Store) (x y : D) : Option Bool := match pyS S x, pyS S y with
  | some p, some q => if okData p q = true then some (PyData.eqv p q) else none
  | _, _ => none
def eqD (S : Store) (x y : D) : Option Bool := match x, y with
  | .str a, .str b => some (a == b)
  | x, y => eqP S x y
/-- x in y -/
def inD (S : Store) (x y : D) : Option Bool := match deref S y with
  | .str t => match x with
    | .str s => if s.length = 1 then some (decide (s.cps.getD 0 0 ∈ t.cps.toList)) else none
    | _ => none
  | .dct t ks _ => (toKy t x).bind fun k => some (hasK k ks)
  | _ => match pyS S x, pyS S y with
    | some p, some (.list qs) => if SeqAt.shaped p && SeqAt.shaped (.list qs) then some (qs.any fun q => PyData.eqv q p) else none
    | some p, some (.tuple qs) => if SeqAt.shaped p && SeqAt.shaped (.list qs) then some (qs.any fun q => PyData.eqv q p) else none
    | _, _ => none
def isD (x y : D) : Option Bool := match x, y with
  | .non, .non => some true
  | .hnd _, .non => some false
  | .non, _ => none
  | _, .non => some false
  | .bl a, .bl b => some (a == b)
  | _, _ => none
def cmpD (S : Store) (op : CmpOp) (x y : D) : Option Bool := match op with
  | .Eq => eqD S x y
  | .NotEq => (eqD S x y).map (!·)
  | .Lt => ltD S x y PySem.W.dataLt
  | .LtE => ltD S x y fun p q => !PySem.W.dataLt q p
  | .Gt => ltD S x y fun p q => PySem.W.dataLt q p
  | .GtE => ltD S x y fun p q => !PySem.W.dataLt p q
  | .In => inD S x y
  | .NotIn => (inD S x y).map (!·)
  | .Is => isD x y
  | .IsNot => (isD x y).map (!·)
def subD (S : Store) (x i : D) : Option D := match deref S x, i with
  | .tup ds, .int i => atI ds i
  | .lst ds, .int i => atI ds i
  | .scr ns, .int i => (atI ns i).map .int
  | .str s, .int i => if s.length ≤ sizeLine then (atI s.cps.toList i).map fun c => .str ⟨#[c]⟩ else none
  | .dct t ks vs, i => (toKy t i).bind fun k => lookK k ks vs
  | _, _ => none
def cutD {α : Type} (xs : List α) (lo hi : Option Int) : List α := (xs.drop (HT.sIx xs.length 0 lo)).take (HT.sIx xs.length xs.length hi - HT.sIx xs.length 0 lo)
/-- a part of a slice, none where it is left out -/
def partM : M → D → Option (Option Int)
  | .no, .non => some none
  | .no, _ => none
  | _, .int i => some (some i)
  | _, _ => none
def slcD (S : Store) (x : D) (l h : Option Int) : Option D := match deref S x with
  | .tup ds => if HT.sIx ds.length 0 l = 0 ∧ HT.sIx ds.length ds.length h = ds.length then some x else some (.tup (cutD ds l h))
  | .lst ds => some (.lst (cutD ds l h))
  | .str s => if s.length ≤ sizeLine then some (.str ⟨(cutD s.cps.toList l h).toArray⟩) else none
  | _ => none
def lookF (f : Str) : List Str → List D → Option D
  | g :: fs, v :: vs => if f = g then some v else lookF f fs vs
  | _, _ => none
def putFD (f : Str) (d : D) : List Str → List D → List Str × List D
  | g :: fs, v :: vs => if f = g then (g :: fs, d :: vs) else (g :: (putFD f d fs vs).1, v :: (putFD f d fs vs).2)
  | _, _ => ([f], [d])
def attrD (fld : Str → Str → Bool) (S : Store) (x : D) (f : Str) : Option D := match deref S x with
  | .obj c fs vs => if fld c f = true then lookF f fs vs else none
  | _ => none
def asStrs : List D → Option (List Str)
  | [] => some []
  | .str s :: ds => (asStrs ds).map (s :: ·)
  | _ => none
def asBls : List D → Option (List Bool)
  | [] => some []
  | .bl s :: ds => (asBls ds).map (s :: ·)
  | _ => none
def asInts : List D → Option (List Int)
  | [] => some []
  | .int s :: ds => (asInts ds).map (s :: ·)
  | _ => none
/-- str of an item of an f-string, str() -/
def isSeqP : PyData → Bool
  | .tuple _ => true
  | .list _ => true
  | _ => false
def strOf : D → Option Str
  | .str s => if s.length ≤ sizeLine then some s else none
  | .int i => if i.natAbs.log2 < 1920 then some (toString i) else none
  | _ => none
def strOfI : D → Option Str
  | .non => some "None"
  | .int i => if i.natAbs.log2 < 1920 then some (toString i) else none
  | _ => none
def joinF : List D → Str → Option Str
  | [], acc => some acc
  | .str s :: ds, acc => if (acc ++ s).length ≤ sizeLine then joinF ds (acc ++ s) else none
  | _, _ => none
def isTupNe : PyData → Bool
  | .tuple (_ :: _) => true
  | _ => false
def isPlainP : PyData → Bool
  | .none => false
  | .tuple _ => false
  | _ => true
/-- data that sorted takes -/
def sortable (ps : List PyData) : Bool := (ps.all fun p => ps.all fun q => PySem.W.alike p q) && ((ps.all isTupNe || ps.all isPlainP) && ((ps.all SeqAt.shaped) && decide (ps.length ≤ sizeLine)))
def pyOr (d : D) : PyData := (pyD d).getD .none
def sortD (ds : List D) : Option (List D) := (pyDs ds).bind fun ps => if sortable ps then some (ds.mergeSort (PySem.W.dataLe false pyOr)) else none
def tupArg (S : Store) (x : D) : Option D := match deref S x with
  | .lst xs => some (.tup xs)
  | _ => match x with
    | .tup xs => some (.tup xs)
    | _ => none
def bifD (S : Store) (f : Str) (ds : List D) : Option D :=
  if f = "len" then match ds with
    | [x] => match deref S x with
      | .tup xs => some (.int xs.length)
      | .lst xs => some (.int xs.length)
      | .str s => if s.length ≤ sizeLine then some (.int s.length) else none
      | .dct _ ks _ => some (.int ks.length)
      | .scr ns => some (.int ns.length)
      | _ => none
    | _ => none
  else if f = "tuple" then match ds with
    | [x] => tupArg S x
    | _ => none
  else if f = "list" then match ds with
    | [x] => match deref S x with
      | .tup xs => some (.lst xs)
      | .lst xs => some (.lst xs)
      | .dct _ ks _ => some (.lst (ks.map ofKy))
      | _ => none
    | _ => none
  else if f = "all" then match ds with
    | [x] => match deref S x with
      | .lst xs => (asBls xs).map fun bs => .bl (bs.all id)
      | _ => none
    | _ => none
  else if f = "any" then match ds with
    | [x] => match deref S x with
      | .lst xs => (asBls xs).map fun bs => .bl (bs.any id)
      | _ => none
    | _ => none
  else if f = "int" then match ds with
    | [.int i] => some (.int i)
    | [.bl b] => some (.int (if b then 1 else 0))
    | [.str s] => if s.length ≤ 640 then (PySem.intText? s).map .int else none
    | _ => none
  else if f = "str" then match ds with
    | [d] => (strOfI d).map .str
    | _ => none
  else if f = "max" then match ds with
    | [.int i, .int j] => some (.int (if j > i then j else i))
    | _ => none
  else if f = "min" then match ds with
    | [.int i, .int j] => some (.int (if j < i then j else i))
    | _ => none
  else if f = "abs" then match ds with
    | [.int i] => some (.int (if i < 0 then -i else i))
    | _ => none
  else if f = "repr" then match ds with
    | [x] => (pyS S x).bind fun p => if SeqAt.shaped p && (decide (p.shown.length ≤ sizeLine) && (p.showable && !p.hasDict)) then some (.str p.shown) else none
    | _ => none
  else if f = "sorted" then match ds with
    | [x] => match deref S x with
      | .lst xs => (sortD xs).map .lst
      | _ => none
    | _ => none
  else none
/-- the name of a thing's type -/
def tyName : D → Option String
  | .non => some "NoneType"
  | .bl _ => some "bool"
  | .int _ => some "int"
  | .str _ => some "str"
  | .tup _ => some "tuple"
  | .lst _ => some "list"
  | .dct false _ _ => some "dict"
  | _ => none
def isiD (S : Store) (x : D) (t : String) : Option Bool := (tyName (deref S x)).bind fun n => kitB n t
/-- methods of lists, dicts, texts: what is told, and the store -/
def bimD (S : Store) (x : D) (m : Str) (ds : List D) : Option (D × Store) :=
  if m = "append" then match x, deref S x, ds with
    | .hnd n, .lst xs, [d] => if xs.length < sizeLine then some (.non, S.set n (.lst (xs ++ [d]))) else none
    | _, _, _ => none
  else if m = "extend" then match x, deref S x, ds with
    | .hnd n, .lst xs, [d] => match deref S d with
      | .lst ys => if xs.length + ys.length ≤ sizeLine ∧ d.beq x = false then some (.non, S.set n (.lst (xs ++ ys))) else none
      | _ => none
    | _, _, _ => none
  else if m = "pop" then match x, deref S x, ds with
    | .hnd n, .lst xs, [.int i] => if 0 ≤ i ∧ i < xs.length then (xs[i.toNat]?).map fun d => (d, S.set n (.lst (xs.eraseIdx i.toNat))) else none
    | _, _, _ => none
  else if m = "join" then match x, ds with
    | .str s, [d] => ((seqOf S d).bind asStrs).bind fun ys => if (ys.map (·.length)).sum + ys.length * s.length ≤ 16777216 then some (.str (Txt.join s ys), S) else none
    | _, _ => none
  else if m = "split" then match x, ds with
    | .str s, [.str t] => if t.length ≠ 0 ∧ s.length + 2 ≤ sizeLine then some (.lst ((Txt.split s t).map .str), S) else none
    | _, _ => none
  else if m = "get" then match deref S x, ds with
    | .dct t ks vs, [k, d] => (toKy t k).bind fun k => some ((lookK k ks vs).getD d, S)
    | .dct t ks vs, [k] => (toKy t k).bind fun k => some ((lookK k ks vs).getD .non, S)
    | _, _ => none
  else none
/-- whether it is of the type that has the method -/
def bimK (S : Store) (x : D) (m : Str) : Bool := match deref S x with
  | .lst _ => decide (m = "append" ∨ m = "extend" ∨ m = "pop")
  | .str _ => decide (m = "join" ∨ m = "split")
  | .dct _ _ _ => decide (m = "get")
  | _ => false
/-- o[i] = d -/
def setD (S : Store) (x i d : D) : Option Store := match x, deref S x, i with
  | .hnd n, .lst xs, .int i => (ixN xs.length i).map fun j => S.set n (.lst (xs.set j d))
  | .hnd n, .dct t ks vs, i => (toKy t i).bind fun k => if ks.length < sizeLine then some (S.set n (.dct t (putK k d ks vs).1 (putK k d ks vs).2)) else none
  | _, _, _ => none
def setA (fld : Str → Str → Bool) (S : Store) (x : D) (f : Str) (d : D) : Option Store := match x, deref S x with
  | .hnd n, .obj c fs vs => if fs.length < 1000 ∧ fld c f = true then some (S.set n (.obj c (putFD f d fs vs).1 (putFD f d fs vs).2)) else none
  | _, _ => none

/-! ### expressions -/
structure Tab where
  consts : Str → Option D
  mth : Str → Str → Option Str
  ini : Str → Option Str
  fld : Str → Str → Bool
  fuel : Nat
def opt (o : Option D) (S : Store) : Res := match o with
  | some d => .ok d S
  | none => .stuck
def optB (o : Option Bool) (S : Store) : Res := match o with
  | some b => .ok (.bl b) S
  | none => .stuck
mutual
/-- a name, or names in tuples -/
def bindT : M → D → Env' → Option Env'
  | .var i, d, env => some (env.set i (some d))
  | .tup ts, .tup ds, env => bindTs ts ds env
  | .tup ts, .ktp ds, env => bindTs ts ds env
  | _, _, _ => none
def bindTs : M → List D → Env' → Option Env'
  | .nil, [], env => some env
  | .cons t r, d :: ds, env => match bindT t d env with
    | some env1 => bindTs r ds env1
    | none => none
  | _, _, _ => none
end
def wipeE (env : Env') : List Nat → Env'
  | [] => env
  | v :: vs => (wipeE env vs).set v none
def lcL (tg : M) (own : List Nat) (e : Env' → Store → Res) (gs : List Nat) (S0 : Store) (env : Env') : List D → List D → Store → Res
  | [], acc, S => .ok (.lst acc) S
  | x :: xs, acc, S => match bindT tg x (wipeE env own) with
    | some env' => match e env' S with
      | .ok d S' => if stays gs S0 S' = true ∧ acc.length < sizeLine then lcL tg own e gs S0 env xs (acc ++ [d]) S' else .stuck
      | _ => .stuck
    | none => .stuck
def lcF (tg : M) (own : List Nat) (c e : Env' → Store → Res) (gs : List Nat) (S0 : Store) (env : Env') : List D → List D → Store → Res
  | [], acc, S => .ok (.lst acc) S
  | x :: xs, acc, S => match bindT tg x (wipeE env own) with
    | some env' => match c env' S with
      | .ok b S1 => match truth S1 b with
        | some true => match e env' S1 with
          | .ok d S' => if stays gs S0 S' = true ∧ acc.length < sizeLine then lcF tg own c e gs S0 env xs (acc ++ [d]) S' else .stuck
          | _ => .stuck
        | some false => if stays gs S0 S1 = true then lcF tg own c e gs S0 env xs acc S1 else .stuck
        | none => .stuck
      | _ => .stuck
    | none => .stuck
def tupOf (d : D) : List D := match d with
  | .tup ds => ds
  | _ => []
abbrev Cl := Str → List D → Store → Res
def metOf (mth : Str → Str → Option Str) (S : Store) (d : D) (m : Str) : Option Str := match deref S d with
  | .obj c fs _ => if m ∈ fs then none else mth c m
  | _ => none
def ev (T : Tab) (cl : Cl) : M → Env' → Store → Res
  | .var i, env, S => opt (env.getD i none) S
  | .non, _, S => .ok .non S
  | .bl b, _, S => .ok (.bl b) S
  | .int i, _, S => .ok (.int i) S
  | .str s, _, S => .ok (.str s) S
  | .glob x, _, S => opt (T.consts x) S
  | .nil, _, S => .ok (.tup []) S
  | .cons a r, env, S => (ev T cl a env S).bind fun d S1 => (ev T cl r env S1).bind fun ds S2 => .ok (.tup (d :: tupOf ds)) S2
  | .tup as, env, S => (ev T cl as env S).bind fun ds S1 => if (tupOf ds).length ≤ sizeLine then .ok (.tup (tupOf ds)) S1 else .stuck
  | .lst as, env, S => (ev T cl as env S).bind fun ds S1 => if (tupOf ds).length ≤ sizeLine then .ok (.lst (tupOf ds)) S1 else .stuck
  | .emp t, _, S => .ok (.dct t [] []) S
  | .bin op a b, env, S => (ev T cl a env S).bind fun x S1 => (ev T cl b env S1).bind fun y S2 => opt (binD S2 op x y) S2
  | .neg a, env, S => (ev T cl a env S).bind fun x S1 => match x with
    | .int i => .ok (.int (-i)) S1
    | _ => .stuck
  | .cmp op a b, env, S => (ev T cl a env S).bind fun x S1 => (ev T cl b env S1).bind fun y S2 => optB (cmpD S2 op x y) S2
  | .chn op op' a b c, env, S => (ev T cl a env S).bind fun x S1 => (ev T cl b env S1).bind fun y S2 => match cmpD S2 op x y with
    | some true => (ev T cl c env S2).bind fun z S3 => optB (cmpD S3 op' y z) S3
    | some false => .ok (.bl false) S2
    | none => .stuck
  | .and a b, env, S => (ev T cl a env S).bind fun x S1 => match truth S1 x with
    | some true => ev T cl b env S1
    | some false => .ok x S1
    | none => .stuck
  | .or a b, env, S => (ev T cl a env S).bind fun x S1 => match truth S1 x with
    | some true => .ok x S1
    | some false => ev T cl b env S1
    | none => .stuck
  | .one a, env, S => ev T cl a env S
  | .not a, env, S => (ev T cl a env S).bind fun x S1 => optB ((truth S1 x).map (!·)) S1
  | .ite c a b, env, S => (ev T cl c env S).bind fun x S1 => match truth S1 x with
    | some true => ev T cl a env S1
    | some false => ev T cl b env S1
    | none => .stuck
  | .sub a i, env, S => (ev T cl a env S).bind fun x S1 => (ev T cl i env S1).bind fun y S2 => opt (subD S2 x y) S2
  | .slc a lo hi, env, S => (ev T cl a env S).bind fun x S1 => (ev T cl lo env S1).bind fun l S2 => match partM lo l with
    | some l => (ev T cl hi env S2).bind fun h S3 => match partM hi h with
      | some h => opt (slcD S3 x l h) S3
      | none => .stuck
    | none => .stuck
  | .no, _, S => .ok .non S
  | .attr a f, env, S => (ev T cl a env S).bind fun x S1 => opt (attrD T.fld S1 x f) S1
  | .call f as, env, S => (ev T cl as env S).bind fun ds S1 => cl f (tupOf ds) S1
  | .new c as, env, S => (ev T cl as env S).bind fun ds S1 => match T.ini c with
    | some f => (cl f (.hnd S1.length :: tupOf ds) (S1 ++ [.obj c [] []])).bind fun d S2 => match d with
      | .non => .ok (.hnd S1.length) S2
      | _ => .stuck
    | none => .stuck
  | .bif f as, env, S => (ev T cl as env S).bind fun ds S1 => opt (bifD S1 f (tupOf ds)) S1
  | .isi a t, env, S => (ev T cl a env S).bind fun x S1 => optB (isiD S1 x t) S1
  | .met o m as, env, S => (ev T cl o env S).bind fun x S1 => match metOf T.mth S1 x m with
    | some f => (ev T cl as env S1).bind fun ds S2 => cl f (x :: tupOf ds) S2
    | none => .stuck
  | .bim o m as, env, S => (ev T cl o env S).bind fun x S1 => bif bimK S1 x m then (ev T cl as env S1).bind fun ds S2 => match bimD S2 x m (tupOf ds) with
    | some (d, S3) => .ok d S3
    | none => .stuck
    else .stuck
  | .fst as, env, S => (ev T cl as env S).bind fun ds S1 => opt ((joinF (tupOf ds) Str.empty).map .str) S1
  | .fc a r, env, S => (ev T cl a env S).bind fun d S1 => match strOf d with
    | some y => match ev T cl r env S1 with
      | .ok ds S2 => .ok (.tup (.str y :: tupOf ds)) S2
      | _ => .stuck
    | none => .stuck
  | .lc own tg it e, env, S => (ev T cl it env S).bind fun x S1 => match itemsM it S1 x with
    | some xs => lcL tg own (ev T cl e) (guardsM it x) S1 env xs [] S1
    | none => .stuck
  | .lcf own tg it c e, env, S => (ev T cl it env S).bind fun x S1 => match itemsM it S1 x with
    | some xs => lcF tg own (ev T cl c) (ev T cl e) (guardsM it x) S1 env xs [] S1
    | none => .stuck
  | .rng1 a, env, S => (ev T cl a env S).bind fun x S1 => match x with
    | .int n => if n < 2 ^ 62 ∧ -(2 ^ 62) ≤ n then .ok (.lst ((List.range n.toNat).map fun (i : Nat) => .int (0 + (i : Int)))) S1 else .stuck
    | _ => .stuck
  | .rng2 a b, env, S => (ev T cl a env S).bind fun x S1 => (ev T cl b env S1).bind fun y S2 => match x, y with
    | .int a, .int n => if a < 2 ^ 62 ∧ -(2 ^ 62) ≤ a ∧ n < 2 ^ 62 ∧ -(2 ^ 62) ≤ n then .ok (.lst ((List.range (n - a).toNat).map fun (i : Nat) => .int (a + (i : Int)))) S2 else .stuck
    | _, _ => .stuck
  | .enu a, env, S => ev T cl a env S
  | .zip a b, env, S => (ev T cl a env S).bind fun x S1 => (ev T cl b env S1).bind fun y S2 => .ok (.tup [x, y]) S2
  | .thaw a, env, S => (ev T cl a env S).bind fun x S1 => if isMut x = true then .ok (.hnd S1.length) (S1 ++ [x]) else .stuck

/-! ### statements -/
def Res.out (r : Res) (env : Env') (k : D → Store → Out) : Out := match r with
  | .ok d S => k d S
  | .ex c fs vs S => .ex c fs vs env S
  | .stuck => .stuck
def optS (o : Option Store) (env : Env') : Out := match o with
  | some S => .nx env S
  | none => .stuck
def names : M → Option (List Nat)
  | .nil => some []
  | .cons (.var i) r => (names r).map (i :: ·)
  | _ => none
def asgT (T : Tab) (cl : Cl) (tg : M) (d : D) (env : Env') (S : Store) : Out := match tg with
  | .var i => .nx (env.set i (some d)) S
  | .tup ts => match seqOf S d with
    | some ds => match bindTs ts ds env with
      | some env' => .nx env' S
      | none => .stuck
    | none => .stuck
  | .sub o i => (ev T cl o env S).out env fun x S1 => (ev T cl i env S1).out env fun y S2 => optS (setD S2 x y d) env
  | .attr o f => (ev T cl o env S).out env fun x S1 => optS (setA T.fld S1 x f d) env
  | _ => .stuck
def forL (T : Tab) (cl : Cl) (tg : M) (body : Env' → Store → Out) (gs : List Nat) (S0 : Store) : List D → Env' → Store → Out
  | [], env, S => .nx env S
  | x :: xs, env, S => match bindT tg x env with
    | some env' => match body env' S with
      | .nx e1 S1 => if stays gs S0 S1 then forL T cl tg body gs S0 xs e1 S1 else .stuck
      | .ct e1 S1 => if stays gs S0 S1 then forL T cl tg body gs S0 xs e1 S1 else .stuck
      | .bk e1 S1 => .nx e1 S1
      | .rt d S1 => .rt d S1
      | .ex c fs vs e1 S1 => .ex c fs vs e1 S1
      | .stuck => .stuck
    | none => .stuck
def whlL (c : Env' → Store → Res) (body : Env' → Store → Out) : Nat → Env' → Store → Out
  | 0, _, _ => .stuck
  | n + 1, env, S => (c env S).out env fun x S1 => match truth S1 x with
    | some true => match body env S1 with
      | .nx e1 S2 => whlL c body n e1 S2
      | .ct e1 S2 => whlL c body n e1 S2
      | .bk e1 S2 => .nx e1 S2
      | .rt d S2 => .rt d S2
      | .ex c fs vs e1 S2 => .ex c fs vs e1 S2
      | .stuck => .stuck
    | some false => .nx env S1
    | none => .stuck
def run (T : Tab) (cl : Cl) : MS → Env' → Store → Out
  | .nl, env, S => .nx env S
  | .cn s r, env, S => match run T cl s env S with
    | .nx e1 S1 => run T cl r e1 S1
    | o => o
  | .asg tg e, env, S => (ev T cl e env S).out env fun d S1 => asgT T cl tg d env S1
  | .exp e, env, S => (ev T cl e env S).out env fun _ S1 => .nx env S1
  | .ret e, env, S => (ev T cl e env S).out env fun d S1 => .rt d S1
  | .retn, _, S => .rt .non S
  | .ite c a b, env, S => (ev T cl c env S).out env fun x S1 => match truth S1 x with
    | some true => run T cl a env S1
    | some false => run T cl b env S1
    | none => .stuck
  | .for_ tg it b, env, S => (ev T cl it env S).out env fun x S1 => match itemsM it S1 x with
    | some xs => forL T cl tg (run T cl b) (guardsM it x) S1 xs env S1
    | none => .stuck
  | .whl c b, env, S => whlL (ev T cl c) (run T cl b) T.fuel env S
  | .brk, env, S => .bk env S
  | .cnt, env, S => .ct env S
  | .pas, env, S => .nx env S
  | .stop, _, _ => .stuck

/-! ### defs -/
structure Fn where
  ps : Nat
  n : Nat
  pure : Bool
  body : MS
/-- no handle from m on in it -/
def closed (m : Nat) (d : D) : Bool := match frzG m (fun _ => none) d with
  | some e => D.beq e d
  | none => false
def fin (F : Fn) (S : Store) : Out → Res
  | .rt d S1 => bif F.pure then (if (S1.take S.length).all (closed S.length) = true then opt (frz S.length S1 4 d) (S1.take S.length) else .stuck) else .ok d S1
  | .nx _ S1 => bif F.pure then (if (S1.take S.length).all (closed S.length) = true then .ok .non (S1.take S.length) else .stuck) else .ok .non S1
  | .ex c fs vs _ S1 => .ex c fs vs S1
  | _ => .stuck
def callF (T : Tab) (fn : Str → Option Fn) : Nat → Cl
  | 0 => fun _ _ _ => .stuck
  | k + 1 => fun f ds S => match fn f with
    | some F => if ds.length = F.ps then fin F S (run T (callF T fn k) F.body (ds.map some ++ List.replicate (F.n - F.ps) none) S) else .stuck
    | none => .stuck
end Fk
set_option Elab.async false
set_option linter.all false
set_option autoImplicit false
set_option maxRecDepth 100000
set_option maxHeartbeats 4000000
/-! What a piece of the language promises of the text it stands for -/
namespace Fk
open PySem L2

structure GA where
  ca : Str → Addr
  fa : Str → Addr
abbrev rc (G : GA) (X : Cx) : RC := ⟨X.K, G.ca, G.fa⟩

/-- the slots -/
structure Sl (R : RC) (α : Al) (H : Hp) (env : Env') (σ : L2.St) : Prop where
  len : env.length = σ.length
  at_ : ∀ (i : Nat) (d : D), env[i]? = some (some d) → ∃ v : V, σ[i]? = some (some v) ∧ Rep R α H d v
/-- an exception: its class, its own dict -/
def ExR (R : RC) (α : Al) (H : Hp) (c : Str) (fs : List Str) (ds : List D) (cls : Value) (dx : Option Addr) : Prop :=
  cls = .ref (R.ca c) ∧ ((fs = [] ∧ ds = [] ∧ dx = none) ∨ ∃ p vs, dx = some p ∧ H p = some (.xd (fs.zip vs)) ∧ fs.length = vs.length ∧ Reps R α H ds vs)

def Post (R : RC) (α : Al) (H : Hp) (d : D) (S' : Store) (Q : VK) : Prop := ∀ α' H' v, Ext α H α' H' → Rel R α' H' S' → Rep R α' H' d v → Q v H'
def PostF (R : RC) (α : Al) (H : Hp) (d : D) (S' : Store) (Q : VK) : Prop := ∀ α' H1 a o, Ext α H α' H1 → Rel R α' H1 S' → H1 a = none → CellV R α' H1 o d → Q (.ref a) (upd H1 a o)
/-- new things are told as new -/
def Pst (fr : Bool) (R : RC) (α : Al) (H : Hp) (d : D) (S' : Store) (Q : VK) : Prop := if (fr && isMut d) = true then PostF R α H d S' Q else Post R α H d S' Q
def Bad (R : RC) (W : WX) (σ : L2.St) (α : Al) (H : Hp) (c : Str) (fs : List Str) (ds : List D) (S' : Store) : Prop :=
  ∀ α' H' cls dx, Ext α H α' H' → Rel R α' H' S' → ExR R α' H' c fs ds cls dx → W cls dx σ H'
def Good (fr : Bool) (R : RC) (W : WX) (σ : L2.St) (α : Al) (H : Hp) (r : Res) (Q : VK) : Prop := match r with
  | .ok d S' => Pst fr R α H d S' Q
  | .ex c fs ds S' => Bad R W σ α H c fs ds S'
  | .stuck => False
def GoodA (R : RC) (W : WX) (σ : L2.St) (α : Al) (H : Hp) (r : Res) (Q : List V → Hp → Prop) : Prop := match r with
  | .ok d S' => ∀ α' H' vs, Ext α H α' H' → Rel R α' H' S' → Reps R α' H' (tupOf d) vs → Q vs H'
  | .ex c fs ds S' => Bad R W σ α H c fs ds S'
  | .stuck => False
def GoodT (R : RC) (W : WX) (σ : L2.St) (α : Al) (H : Hp) (r : Res) (Q : Bool → Hp → Prop) : Prop := match r with
  | .ok d S' => ∃ b, truth S' d = some b ∧ ∀ α' H', Ext α H α' H' → Rel R α' H' S' → Q b H'
  | .ex c fs ds S' => Bad R W σ α H c fs ds S'
  | .stuck => False

section
variable {R : RC} {α α' α1 : Al} {H H' H1 : Hp} {S S' S1 : Store} {W : WX} {σ : L2.St} {env : Env'} {fr : Bool} {d : D} {v : V} {Q : VK} {r : Res}
theorem Sl.ext (s : Sl R α H env σ) (e : Ext α H α' H') : Sl R α' H' env σ := ⟨s.len, fun i d h => by
  obtain ⟨v, h1, h2⟩ := s.at_ i d h
  exact ⟨v, h1, Rep.ext e d v h2⟩⟩
theorem Sl.set (s : Sl R α H env σ) {i : Nat} (h : Rep R α H d v) : Sl R α H (env.set i (some d)) (σ.set i (some v)) := ⟨by rw [List.length_set, List.length_set]; exact s.len, fun j e hj => by
  by_cases q : i = j
  · subst q
    have hi : i < env.length := by
      have z := (List.getElem?_eq_some_iff.mp hj).1
      rw [List.length_set] at z
      exact z
    rw [List.getElem?_set_self hi] at hj
    cases hj
    exact ⟨v, by rw [List.getElem?_set_self (by rw [← s.len]; exact hi)], h⟩
  · rw [List.getElem?_set_ne q] at hj ⊢
    exact s.at_ j e hj⟩
theorem getD_some {env : Env'} {i : Nat} {d : D} (h : env.getD i none = some d) : env[i]? = some (some d) := by
  rw [List.getD_eq_getElem?_getD] at h
  cases e : env[i]? with
  | none => rw [e] at h; cases h
  | some o => rw [e] at h; exact congrArg some h
theorem PostF.post (h : Post R α H d S' Q) (hm : isMut d = true) : PostF R α H d S' Q := fun α' H1 a o e r n c => by
  refine h α' _ _ (e.trans (Ext.new r n)) (r.new n) ?_
  cases d with
  | lst ds =>
    obtain ⟨vs, rfl, h2⟩ := c
    unfold Rep
    exact ⟨a, vs, rfl, r.out n, upd_same, Reps.ext (Ext.new r n) _ _ h2⟩
  | dct t ks ds =>
    obtain ⟨vs, h1, h2⟩ := c
    unfold Rep
    exact ⟨a, vs, o, rfl, r.out n, .inl upd_same, h1, Reps.ext (Ext.new r n) _ _ h2⟩
  | _ => cases hm
theorem Pst.post (h : Post R α H d S' Q) : Pst fr R α H d S' Q := by
  unfold Pst
  split
  · rename_i q
    rw [Bool.and_eq_true] at q
    exact PostF.post h q.2
  · exact h
theorem Post.ext (h : Post R α H d S' Q) (e : Ext α H α1 H1) : Post R α1 H1 d S' Q := fun α' H' v e' => h α' H' v (e.trans e')
theorem PostF.ext (h : PostF R α H d S' Q) (e : Ext α H α1 H1) : PostF R α1 H1 d S' Q := fun α' H' v o e' => h α' H' v o (e.trans e')
theorem Pst.ext (h : Pst fr R α H d S' Q) (e : Ext α H α1 H1) : Pst fr R α1 H1 d S' Q := by
  unfold Pst at h ⊢
  split at h
  · rename_i q; rw [if_pos q]; exact PostF.ext h e
  · rename_i q; rw [if_neg q]; exact Post.ext h e
theorem Bad.ext {c : Str} {fs : List Str} {ds : List D} (h : Bad R W σ α H c fs ds S') (e : Ext α H α1 H1) : Bad R W σ α1 H1 c fs ds S' := fun α' H' cls dx e' => h α' H' cls dx (e.trans e')
theorem Good.ext (h : Good fr R W σ α H r Q) (e : Ext α H α1 H1) : Good fr R W σ α1 H1 r Q := by
  cases r with
  | ok d S' => exact Pst.ext h e
  | ex c fs ds S' => exact Bad.ext h e
  | stuck => exact h
theorem Good.any (h : Good false R W σ α H r Q) : Good fr R W σ α H r Q := by
  cases r with
  | ok d S' => exact Pst.post h
  | ex c fs ds S' => exact h
  | stuck => exact h
theorem GoodA.ext {Q : List V → Hp → Prop} (h : GoodA R W σ α H r Q) (e : Ext α H α1 H1) : GoodA R W σ α1 H1 r Q := by
  cases r with
  | ok d S' => exact fun α' H' vs e' => h α' H' vs (e.trans e')
  | ex c fs ds S' => exact Bad.ext h e
  | stuck => exact h
theorem GoodT.ext {Q : Bool → Hp → Prop} (h : GoodT R W σ α H r Q) (e : Ext α H α1 H1) : GoodT R W σ α1 H1 r Q := by
  cases r with
  | ok d S' =>
    obtain ⟨b, h1, h2⟩ := h
    exact ⟨b, h1, fun α' H' e' => h2 α' H' (e.trans e')⟩
  | ex c fs ds S' => exact Bad.ext h e
  | stuck => exact h
/-- one expression, then the rest -/
theorem Good.bind {k : D → Store → Res} {P : Res → Al → Hp → Prop} (hP : ∀ c fs ds S' α H, P (.ex c fs ds S') α H → Bad R W σ α H c fs ds S') (hS : ∀ α H, ¬ P .stuck α H) (hE : ∀ r α H α1 H1, P r α H → Ext α H α1 H1 → P r α1 H1)
    (h : P (r.bind k) α H) : Good false R W σ α H r (fun v H1 => ∃ α1 S1 d, Ext α H α1 H1 ∧ Rel R α1 H1 S1 ∧ Rep R α1 H1 d v ∧ P (k d S1) α1 H1) := by
  cases r with
  | ok d S' => exact fun α1 H1 v e1 r1 p1 => ⟨α1, S', d, e1, r1, p1, hE _ _ _ _ _ h e1⟩
  | ex c fs ds S' => exact hP _ _ _ _ _ _ h
  | stuck => exact hS _ _ h
theorem GoodA.bind {k : D → Store → Res} {P : Res → Al → Hp → Prop} (hP : ∀ c fs ds S' α H, P (.ex c fs ds S') α H → Bad R W σ α H c fs ds S') (hS : ∀ α H, ¬ P .stuck α H) (hE : ∀ r α H α1 H1, P r α H → Ext α H α1 H1 → P r α1 H1)
    (h : P (r.bind k) α H) : GoodA R W σ α H r (fun vs H1 => ∃ α1 S1 d, Ext α H α1 H1 ∧ Rel R α1 H1 S1 ∧ Reps R α1 H1 (tupOf d) vs ∧ P (k d S1) α1 H1) := by
  cases r with
  | ok d S' => exact fun α1 H1 v e1 r1 p1 => ⟨α1, S', d, e1, r1, p1, hE _ _ _ _ _ h e1⟩
  | ex c fs ds S' => exact hP _ _ _ _ _ _ h
  | stuck => exact hS _ _ h
theorem Good.step {k : D → Store → Res} (h : Good fr R W σ α H (r.bind k) Q) : Good false R W σ α H r (fun v H1 => ∃ α1 S1 d, Ext α H α1 H1 ∧ Rel R α1 H1 S1 ∧ Rep R α1 H1 d v ∧ Good fr R W σ α1 H1 (k d S1) Q) :=
  Good.bind (P := fun r α H => Good fr R W σ α H r Q) (fun _ _ _ _ _ _ h => h) (fun _ _ h => h) (fun _ _ _ _ _ h e => h.ext e) h
theorem Good.stepA {k : D → Store → Res} (h : Good fr R W σ α H (r.bind k) Q) : GoodA R W σ α H r (fun vs H1 => ∃ α1 S1 d, Ext α H α1 H1 ∧ Rel R α1 H1 S1 ∧ Reps R α1 H1 (tupOf d) vs ∧ Good fr R W σ α1 H1 (k d S1) Q) :=
  GoodA.bind (P := fun r α H => Good fr R W σ α H r Q) (fun _ _ _ _ _ _ h => h) (fun _ _ h => h) (fun _ _ _ _ _ h e => h.ext e) h
theorem GoodA.step {k : D → Store → Res} {Q : List V → Hp → Prop} (h : GoodA R W σ α H (r.bind k) Q) : Good false R W σ α H r (fun v H1 => ∃ α1 S1 d, Ext α H α1 H1 ∧ Rel R α1 H1 S1 ∧ Rep R α1 H1 d v ∧ GoodA R W σ α1 H1 (k d S1) Q) :=
  Good.bind (P := fun r α H => GoodA R W σ α H r Q) (fun _ _ _ _ _ _ h => h) (fun _ _ h => h) (fun _ _ _ _ _ h e => h.ext e) h
theorem GoodA.stepA {k : D → Store → Res} {Q : List V → Hp → Prop} (h : GoodA R W σ α H (r.bind k) Q) : GoodA R W σ α H r (fun vs H1 => ∃ α1 S1 d, Ext α H α1 H1 ∧ Rel R α1 H1 S1 ∧ Reps R α1 H1 (tupOf d) vs ∧ GoodA R W σ α1 H1 (k d S1) Q) :=
  GoodA.bind (P := fun r α H => GoodA R W σ α H r Q) (fun _ _ _ _ _ _ h => h) (fun _ _ h => h) (fun _ _ _ _ _ h e => h.ext e) h
theorem GoodT.step {k : D → Store → Res} {Q : Bool → Hp → Prop} (h : GoodT R W σ α H (r.bind k) Q) : Good false R W σ α H r (fun v H1 => ∃ α1 S1 d, Ext α H α1 H1 ∧ Rel R α1 H1 S1 ∧ Rep R α1 H1 d v ∧ GoodT R W σ α1 H1 (k d S1) Q) :=
  Good.bind (P := fun r α H => GoodT R W σ α H r Q) (fun _ _ _ _ _ _ h => h) (fun _ _ h => h) (fun _ _ _ _ _ h e => h.ext e) h
theorem Good.opt {o : Option D} (h : Good fr R W σ α H (opt o S) Q) : ∃ d, o = some d ∧ Pst fr R α H d S Q := by
  cases o with
  | none => exact h.elim
  | some d => exact ⟨d, rfl, h⟩
theorem Good.optB {o : Option Bool} (h : Good fr R W σ α H (optB o S) Q) : ∃ b, o = some b ∧ Post R α H (.bl b) S Q := by
  cases o with
  | none => exact h.elim
  | some d =>
    have h' : Pst fr R α H (.bl d) S Q := h
    unfold Pst isMut at h'
    simp at h'
    exact ⟨d, rfl, h'⟩
theorem GoodT.optB {o : Option Bool} {Q : Bool → Hp → Prop} (h : GoodT R W σ α H (optB o S) Q) : ∃ b, o = some b ∧ ∀ α' H', Ext α H α' H' → Rel R α' H' S → Q b H' := by
  cases o with
  | none => exact h.elim
  | some d =>
    obtain ⟨b, h1, h2⟩ := h
    have e : d = b := by simpa [truth, deref] using h1
    subst e
    exact ⟨d, rfl, h2⟩
end

variable (G : GA) (T : Tab) (cl : Cl)
def tE' (fr : Bool) (X : Cx) (W : WX) (m : M) : TE := fun σ H Q => ∃ α env S, Rel (rc G X) α H S ∧ Sl (rc G X) α H env σ ∧ Good fr (rc G X) W σ α H (ev T cl m env S) Q
def isFresh : M → Bool
  | .lst _ => true
  | .emp _ => true
  | .bin _ _ _ => true
  | .slc _ _ _ => true
  | .bif _ _ => true
  | .lc _ _ _ _ => true
  | .lcf _ _ _ _ _ => true
  | .bim _ m _ => decide (m = "split")
  | _ => false
abbrev tE (X : Cx) (W : WX) (m : M) : TE := tE' G T cl (isFresh m) X W m
abbrev tE0 (X : Cx) (W : WX) (m : M) : TE := tE' G T cl false X W m
def tAr (X : Cx) (W : WX) (m : M) : TA := fun σ H Q => ∃ α env S, Rel (rc G X) α H S ∧ Sl (rc G X) α H env σ ∧ GoodA (rc G X) W σ α H (ev T cl m env S) Q
def tTs (X : Cx) (W : WX) (m : M) : TT := fun σ H Q => ∃ α env S, Rel (rc G X) α H S ∧ Sl (rc G X) α H env σ ∧ GoodT (rc G X) W σ α H (ev T cl m env S) Q

section
variable {G : GA} {T : Tab} {cl : Cl} {X : Cx} {W : WX} {e e1 e2 e3 : Expr} {a b c m : M} {pos : Pos} {t : TE}
theorem pe_imp {t' : TE} (h : PE X e t) (k : ∀ σ H Q, t' σ H Q → t σ H Q) : PE X e t' := ⟨fun pins s σ H Q I q => h.run pins s σ H Q I (k σ H Q q)⟩
theorem pt_imp {t t' : TT} (h : PT X e t) (k : ∀ σ H Q, t' σ H Q → t σ H Q) : PT X e t' := ⟨fun pins s σ H Q I q => h.run pins s σ H Q I (k σ H Q q)⟩
theorem pw_imp {t t' : TT} (h : PW X e t) (k : ∀ σ H Q, t' σ H Q → t σ H Q) : PW X e t' := ⟨fun w pins s σ H Q I q => h.run w pins s σ H Q I (k σ H Q q)⟩
theorem pa_imp {es : List Expr} {t t' : TA} (h : PA X es t) (k : ∀ σ H Q, t' σ H Q → t σ H Q) : PA X es t' := ⟨fun p pins s σ H Q I q => h.run p pins s σ H Q I (k σ H Q q)⟩
theorem ps_imp {st : Stmt} {t t' : TS} (h : PS X st t) (k : ∀ D σ H, t' D σ H → t D σ H) : PS X st t' := ⟨fun pins s σ H D I q => h.run pins s σ H D I (k D σ H q)⟩
theorem pss_imp {st : List Stmt} {t t' : TS} (h : PSs X st t) (k : ∀ D σ H, t' D σ H → t D σ H) : PSs X st t' := ⟨fun pins s σ H D I q => h.run pins s σ H D I (k D σ H q)⟩
theorem PE.z (h : PE X e (tE G T cl X W m)) : PE X e (tE0 G T cl X W m) := pe_imp h fun σ H Q ⟨α, env, S, r, s, g⟩ => ⟨α, env, S, r, s, g.any⟩
/-- a value that is there -/
theorem post_now {R : RC} {α : Al} {H : Hp} {S : Store} {d : D} {v : V} {Q : VK} (h : Post R α H d S Q) (r : Rel R α H S) (p : Rep R α H d v) : Q v H := h α H v Ext.refl r p
theorem g_post {R : RC} {σ : L2.St} {α : Al} {H : Hp} {S : Store} {d : D} {Q : VK} (h : Good false R W σ α H (.ok d S) Q) : Post R α H d S Q := h
theorem g_post' {fr : Bool} {R : RC} {σ : L2.St} {α : Al} {H : Hp} {S : Store} {d : D} {Q : VK} (h : Good fr R W σ α H (.ok d S) Q) (hm : isMut d = false) : Post R α H d S Q := by
  have h' : Pst fr R α H d S Q := h
  unfold Pst at h'
  rw [hm, Bool.and_false] at h'
  exact h'

/-! ### names, constants -/
theorem s_var {i : Nat} {x : Str} (hN : X.N[i]? = some x) (hv : Vis X.env.scope x) (hd : (x == ("__debug__" : Str)) = false) (hc : (x == ("__classdict__" : Str)) = false) : PE X (.Name x pos) (tE G T cl X W (.var i)) :=
  pe_imp (pe_var hN hv hd hc) fun σ H Q ⟨α, env, S, r, s, g⟩ => by
    obtain ⟨d, h1, h2⟩ := Good.opt (show Good false (rc G X) W σ α H (opt (env.getD i none) S) Q from g)
    obtain ⟨v, h3, h4⟩ := s.at_ i d (getD_some h1)
    exact ⟨v, h3, post_now (show Post _ _ _ _ _ _ from h2) r h4⟩
theorem s_non {j} : PE X (.Constant .none j pos) (tE G T cl X W .non) := pe_imp pe_non fun σ H Q ⟨α, env, S, r, s, g⟩ => post_now (g_post g) r (by unfold Rep; rfl)
theorem s_bl {j b} : PE X (.Constant (.bool b) j pos) (tE G T cl X W (.bl b)) := pe_imp pe_bl fun σ H Q ⟨α, env, S, r, s, g⟩ => post_now (g_post g) r (by unfold Rep; rfl)
theorem s_int {i : Int} {j} : PE X (.Constant (.int i) j pos) (tE G T cl X W (.int i)) := pe_imp pe_int fun σ H Q ⟨α, env, S, r, s, g⟩ => post_now (g_post g) r (by unfold Rep; rfl)
theorem s_str {x : Str} {j} : PE X (.Constant (.str x) j pos) (tE G T cl X W (.str x)) := pe_imp pe_str fun σ H Q ⟨α, env, S, r, s, g⟩ => post_now (g_post g) r (by unfold Rep; rfl)
/-- a constant of the module -/
def CnOk (G : GA) (X : Cx) (d : D) (u : Value) : Prop := ∃ v, RelV v u ∧ ∀ α H, Rep (rc G X) α H d v
theorem s_glob {x : Str} {d : D} {u : Value} (hg : Gl X x) (hm : X.mg x = some u) (hd : (x == ("__debug__" : Str)) = false) (hT : T.consts x = some d) (c : CnOk G X d u) : PE X (.Name x pos) (tE G T cl X W (.glob x)) := by
  obtain ⟨v, rv, rep⟩ := c
  refine pe_imp (pe_glob hg hm rv hd) fun σ H Q ⟨α, env, S, r, s, g⟩ => ?_
  obtain ⟨d', h1, h2⟩ := Good.opt (show Good false (rc G X) W σ α H (opt (T.consts x) S) Q from g)
  rw [hT] at h1
  cases h1
  exact post_now (show Post _ _ _ _ _ _ from h2) r (rep α H)

/-! ### arguments, displays -/
theorem s_nil : PA X [] (tAr G T cl X W .nil) := pa_imp pa_nil fun σ H Q ⟨α, env, S, r, s, g⟩ => g α H [] Ext.refl r (by unfold tupOf Reps; trivial)
theorem s_cons {es : List Expr} (ha : PE X e (tE0 G T cl X W a)) (hr : PA X es (tAr G T cl X W b)) (hs : starEach (e :: es) X.env = (false, eval e X.env) :: starEach es X.env) : PA X (e :: es) (tAr G T cl X W (.cons a b)) :=
  pa_imp (pa_cons ha hr hs) fun σ H Q ⟨α, env, S, r, s, g⟩ => by
    refine ⟨α, env, S, r, s, ?_⟩
    refine Good.bind (P := fun r α H => GoodA (rc G X) W σ α H r Q) (fun _ _ _ _ _ _ h => h) (fun _ _ h => h) (fun _ _ _ _ _ h e => h.ext e) g |> fun h => ?_
    revert h
    cases ev T cl a env S with
    | stuck => exact fun h => h
    | ex c fs ds S' => exact fun h => h
    | ok d S' =>
      intro h α1 H1 v e1 r1 p1
      obtain ⟨α1', S1, d', e1', r1', p1', g1⟩ := h α1 H1 v e1 r1 p1
      refine ⟨α1', env, S1, r1', s.ext e1', ?_⟩
      have g2 := GoodA.stepA g1
      revert g2
      cases ev T cl b env S1 with
      | stuck => exact fun h => h
      | ex c fs ds S' => exact fun h => h
      | ok d2 S2 =>
        intro h2 α2 H2 vs e2 r2 p2
        obtain ⟨α3, S3, d3, e3, r3, p3, g3⟩ := h2 α2 H2 vs e2 r2 p2
        refine g3 α3 H2 (v :: vs) Ext.refl r3 ?_
        unfold tupOf Reps
        exact ⟨Rep.ext e3 _ _ p1', p3⟩
end
end Fk
set_option Elab.async false
set_option linter.all false
set_option autoImplicit false
set_option maxRecDepth 100000
set_option maxHeartbeats 4000000
/-! The operations -/
namespace Fk
open PySem L2 PySem.Spec PyProof.Rows

section
variable {R : RC} {α α' : Al} {H H' : Hp} {S S' : Store} {d e : D} {v : V} {Q : VK} {fr : Bool}
theorem Pst.flat (h : Pst fr R α H d S Q) (hm : isMut d = false) : Post R α H d S Q := by
  unfold Pst at h
  rw [hm, Bool.and_false] at h
  exact h
theorem Pst.int {i : Int} (h : Pst fr R α H (.int i) S Q) (r : Rel R α H S) : Q (.int i) H := post_now (h.flat rfl) r (by unfold Rep; rfl)
theorem Pst.bl {i : Bool} (h : Pst fr R α H (.bl i) S Q) (r : Rel R α H S) : Q (.bl i) H := post_now (h.flat rfl) r (by unfold Rep; rfl)
theorem Post.bl {i : Bool} (h : Post R α H (.bl i) S Q) (r : Rel R α H S) : Q (.bl i) H := post_now h r (by unfold Rep; rfl)
theorem Pst.str {i : Str} (h : Pst fr R α H (.str i) S Q) (r : Rel R α H S) : Q (.str i) H := post_now (h.flat rfl) r (by unfold Rep; rfl)
theorem Pst.non (h : Pst fr R α H .non S Q) (r : Rel R α H S) : Q .non H := post_now (h.flat rfl) r (by unfold Rep; rfl)
theorem Pst.tup {ds : List D} {a : Addr} {vs : List V} (h : Pst fr R α H (.tup ds) S Q) (r : Rel R α H S) (t : H a = some (.tup vs)) (p : Reps R α H ds vs) : Q (.ref a) H :=
  post_now (h.flat rfl) r (by unfold Rep; exact ⟨a, vs, rfl, t, p⟩)
theorem Pst.newTup {ds : List D} {a : Addr} {vs : List V} (h : Pst fr R α H (.tup ds) S Q) (r : Rel R α H S) (n : H a = none) (p : Reps R α H ds vs) : Q (.ref a) (upd H a (.tup vs)) :=
  h.flat rfl α _ _ (Ext.new r n) (r.new n) (by unfold Rep; exact ⟨a, vs, rfl, upd_same, Reps.ext (Ext.new r n) _ _ p⟩)
theorem Pst.newLst {ds : List D} {a : Addr} {vs : List V} (h : Pst true R α H (.lst ds) S Q) (r : Rel R α H S) (n : H a = none) (p : Reps R α H ds vs) : Q (.ref a) (upd H a (.lst vs)) := by
  have h' : PostF R α H (.lst ds) S Q := h
  exact h' α H a (.lst vs) Ext.refl r n ⟨vs, rfl, p⟩
theorem Reps.len : ∀ {ds : List D} {vs : List V}, Reps R α H ds vs → ds.length = vs.length
  | [], [], _ => rfl
  | [], _ :: _, h => by unfold Reps at h; exact h.elim
  | _ :: _, [], h => by unfold Reps at h; exact h.elim
  | d :: ds, v :: vs, h => by
    unfold Reps at h
    rw [List.length_cons, List.length_cons, Reps.len h.2]
theorem Reps.append : ∀ {ds es : List D} {vs us : List V}, Reps R α H ds vs → Reps R α H es us → Reps R α H (ds ++ es) (vs ++ us)
  | [], es, [], us, _, q => q
  | [], _, _ :: _, _, h, _ => by unfold Reps at h; exact h.elim
  | _ :: _, _, [], _, h, _ => by unfold Reps at h; exact h.elim
  | d :: ds, es, v :: vs, us, h, q => by
    unfold Reps at h
    show Reps R α H (d :: (ds ++ es)) (v :: (vs ++ us))
    unfold Reps
    exact ⟨h.1, Reps.append h.2 q⟩
theorem Reps.take : ∀ {ds : List D} {vs : List V} (n : Nat), Reps R α H ds vs → Reps R α H (ds.take n) (vs.take n)
  | _, _, 0, _ => by simp [Reps]
  | [], [], n + 1, _ => by simp [Reps]
  | [], _ :: _, _, h => by unfold Reps at h; exact h.elim
  | _ :: _, [], _, h => by unfold Reps at h; exact h.elim
  | d :: ds, v :: vs, n + 1, h => by
    unfold Reps at h
    show Reps R α H (d :: ds.take n) (v :: vs.take n)
    unfold Reps
    exact ⟨h.1, Reps.take n h.2⟩
theorem Reps.drop : ∀ {ds : List D} {vs : List V} (n : Nat), Reps R α H ds vs → Reps R α H (ds.drop n) (vs.drop n)
  | _, _, 0, h => h
  | [], [], n + 1, _ => by simp [Reps]
  | [], _ :: _, _, h => by unfold Reps at h; exact h.elim
  | _ :: _, [], _, h => by unfold Reps at h; exact h.elim
  | d :: ds, v :: vs, n + 1, h => by
    unfold Reps at h
    exact Reps.drop n h.2
theorem Reps.get : ∀ {ds : List D} {vs : List V} {i : Nat} {d : D}, Reps R α H ds vs → ds[i]? = some d → ∃ v, vs[i]? = some v ∧ Rep R α H d v
  | [], _, _, _, _, e => by simp at e
  | _ :: _, [], _, _, h, _ => by unfold Reps at h; exact h.elim
  | a :: ds, v :: vs, 0, d, h, e => by
    unfold Reps at h
    have e' : a = d := by simpa using e
    exact ⟨v, rfl, e' ▸ h.1⟩
  | a :: ds, v :: vs, i + 1, d, h, e => by
    unfold Reps at h
    obtain ⟨w, h1, h2⟩ := Reps.get (i := i) h.2 (by simpa using e)
    exact ⟨w, by simpa using h1, h2⟩
theorem Reps.getV : ∀ {ds : List D} {vs : List V} {i : Nat} {v : V}, Reps R α H ds vs → vs[i]? = some v → ∃ d, ds[i]? = some d ∧ Rep R α H d v := fun {ds vs i v} h e => by
  have hi := (List.getElem?_eq_some_iff.mp e).1
  rw [← h.len] at hi
  obtain ⟨w, h1, h2⟩ := h.get (show ds[i]? = some ds[i] by simp [hi])
  rw [e] at h1
  cases h1
  exact ⟨_, by simp [hi], h2⟩
theorem Reps.set : ∀ {ds : List D} {vs : List V} {d : D} {v : V} (i : Nat), Reps R α H ds vs → Rep R α H d v → Reps R α H (ds.set i d) (vs.set i v)
  | [], [], _, _, _, h, _ => by simp [Reps]
  | [], _ :: _, _, _, _, h, _ => by unfold Reps at h; exact h.elim
  | _ :: _, [], _, _, _, h, _ => by unfold Reps at h; exact h.elim
  | a :: ds, w :: vs, d, v, 0, h, q => by
    unfold Reps at h
    show Reps R α H (d :: ds) (v :: vs)
    unfold Reps
    exact ⟨q, h.2⟩
  | a :: ds, w :: vs, d, v, i + 1, h, q => by
    unfold Reps at h
    show Reps R α H (a :: ds.set i d) (w :: vs.set i v)
    unfold Reps
    exact ⟨h.1, Reps.set i h.2 q⟩
theorem Reps.erase : ∀ {ds : List D} {vs : List V} (i : Nat), Reps R α H ds vs → Reps R α H (ds.eraseIdx i) (vs.eraseIdx i)
  | [], [], _, h => by simp [Reps]
  | [], _ :: _, _, h => by unfold Reps at h; exact h.elim
  | _ :: _, [], _, h => by unfold Reps at h; exact h.elim
  | a :: ds, w :: vs, 0, h => by
    unfold Reps at h
    exact h.2
  | a :: ds, w :: vs, i + 1, h => by
    unfold Reps at h
    show Reps R α H (a :: ds.eraseIdx i) (w :: vs.eraseIdx i)
    unfold Reps
    exact ⟨h.1, Reps.erase i h.2⟩
theorem Reps.rep : ∀ {ds : List D} {vs : List V} (n : Nat), Reps R α H ds vs → Reps R α H (List.replicate n ds).flatten (List.replicate n vs).flatten
  | _, _, 0, _ => by simp [Reps]
  | ds, vs, n + 1, h => by
    rw [List.replicate_succ, List.replicate_succ, List.flatten_cons, List.flatten_cons]
    exact h.append (Reps.rep n h)

/-! what a thing is, by what its handle has -/
theorem rep_hnd {n : Nat} (r : Rel R α H S) (p : Rep R α H (.hnd n) v) : ∃ a c o, v = .ref a ∧ α.hs[n]? = some a ∧ S[n]? = some c ∧ H a = some o ∧ CellV R α H o c := by
  unfold Rep at p
  obtain ⟨a, h1, h2⟩ := p
  obtain ⟨c, o, h3, h4, h5⟩ := r.at h2
  exact ⟨a, c, o, h1, h2, h3, h4, h5⟩
theorem deref_hnd {n : Nat} {c : D} (h : S[n]? = some c) : deref S (.hnd n) = c := by unfold deref; simp only [h]
/-- handles have lists, dicts, objects alone -/
theorem deref_flat (r : Rel R α H S) (p : Rep R α H d v) (he : deref S d = e) (hn : ∀ o, ¬ CellV R α H o e) (hh : ∀ n, e ≠ .hnd n) (ht : ∀ ds, e ≠ .tup ds) : d = e := by
  cases d with
  | hnd n =>
    obtain ⟨a, c, o, h1, h2, h3, h4, h5⟩ := rep_hnd r p
    rw [deref_hnd h3] at he
    rw [he] at h5
    exact (hn o h5).elim
  | ktp ds => exact (ht ds he.symm).elim
  | _ => exact he
theorem rep_int {i : Int} (r : Rel R α H S) (p : Rep R α H d v) (he : deref S d = .int i) : d = .int i ∧ v = .int i := by
  have e := deref_flat r p he (fun _ h => h) (fun _ h => by cases h) (fun _ h => by cases h)
  subst e
  unfold Rep at p
  exact ⟨rfl, p⟩
theorem rep_str {i : Str} (r : Rel R α H S) (p : Rep R α H d v) (he : deref S d = .str i) : d = .str i ∧ v = .str i := by
  have e := deref_flat r p he (fun _ h => h) (fun _ h => by cases h) (fun _ h => by cases h)
  subst e
  unfold Rep at p
  exact ⟨rfl, p⟩
theorem rep_bl {i : Bool} (r : Rel R α H S) (p : Rep R α H d v) (he : deref S d = .bl i) : d = .bl i ∧ v = .bl i := by
  have e := deref_flat r p he (fun _ h => h) (fun _ h => by cases h) (fun _ h => by cases h)
  subst e
  unfold Rep at p
  exact ⟨rfl, p⟩
theorem rep_non (r : Rel R α H S) (p : Rep R α H d v) (he : deref S d = .non) : d = .non ∧ v = .non := by
  have e := deref_flat r p he (fun _ h => h) (fun _ h => by cases h) (fun _ h => by cases h)
  subst e
  unfold Rep at p
  exact ⟨rfl, p⟩
theorem KT.sq {K : PySem.W.Frag} {a : Addr} {vs : List V} (h : KT K a vs) : SqT K H a vs := .inr h
theorem rep_tup {ds : List D} (r : Rel R α H S) (p : Rep R α H d v) (he : deref S d = .tup ds) : ∃ a vs, v = .ref a ∧ SqT R.K H a vs ∧ Reps R α H ds vs ∧ ((d = .tup ds ∧ H a = some (.tup vs)) ∨ d = .ktp ds) := by
  cases d with
  | hnd n =>
    obtain ⟨a, c, o, h1, h2, h3, h4, h5⟩ := rep_hnd r p
    rw [deref_hnd h3] at he
    rw [he] at h5
    exact h5.elim
  | tup es =>
    have e : es = ds := by simpa [deref] using he
    subst e
    unfold Rep at p
    obtain ⟨a, vs, h1, h2, h3⟩ := p
    exact ⟨a, vs, h1, SqT.of h2, h3, .inl ⟨rfl, h2⟩⟩
  | ktp es =>
    have e : es = ds := by simpa [deref] using he
    subst e
    unfold Rep at p
    obtain ⟨a, vs, h1, h2, h3⟩ := p
    exact ⟨a, vs, h1, h2.sq, h3, .inr rfl⟩
  | _ => simp [deref] at he
theorem rep_lst {ds : List D} (r : Rel R α H S) (p : Rep R α H d v) (he : deref S d = .lst ds) : ∃ a vs, v = .ref a ∧ H a = some (.lst vs) ∧ Reps R α H ds vs := by
  cases d with
  | hnd n =>
    obtain ⟨a, c, o, h1, h2, h3, h4, h5⟩ := rep_hnd r p
    rw [deref_hnd h3] at he
    subst he
    obtain ⟨vs, rfl, h6⟩ := h5
    exact ⟨a, vs, h1, h4, h6⟩
  | lst es =>
    have e : es = ds := by simpa [deref] using he
    subst e
    unfold Rep at p
    obtain ⟨a, vs, h1, h2, h3, h4⟩ := p
    exact ⟨a, vs, h1, h3, h4⟩
  | _ => simp [deref] at he
theorem rep_scr {ns : List Int} (r : Rel R α H S) (p : Rep R α H d v) (he : deref S d = .scr ns) : ∃ a, v = .ref a ∧ ScrL R.K H a (ns.map V.int) := by
  have e := deref_flat r p he (fun _ h => h) (fun _ h => by cases h) (fun _ h => by cases h)
  subst e
  unfold Rep at p
  exact p
theorem rep_lstH {n : Nat} {ds : List D} (r : Rel R α H S) (p : Rep R α H (.hnd n) v) (he : deref S (.hnd n) = .lst ds) : ∃ a vs, v = .ref a ∧ α.hs[n]? = some a ∧ H a = some (.lst vs) ∧ Reps R α H ds vs := by
  obtain ⟨a, c, o, h1, h2, h3, h4, h5⟩ := rep_hnd r p
  rw [deref_hnd h3] at he
  subst he
  obtain ⟨vs, rfl, h6⟩ := h5
  exact ⟨a, vs, h1, h2, h4, h6⟩
theorem rep_dct {t : Bool} {ks : List Ky} {ds : List D} (r : Rel R α H S) (p : Rep R α H d v) (he : deref S d = .dct t ks ds) : ∃ a vs o, v = .ref a ∧ Rd H a o ∧ DctO t o ks vs ∧ Reps R α H ds vs := by
  cases d with
  | hnd n =>
    obtain ⟨a, c, o, h1, h2, h3, h4, h5⟩ := rep_hnd r p
    rw [deref_hnd h3] at he
    subst he
    obtain ⟨vs, h6, h7⟩ := h5
    exact ⟨a, vs, o, h1, .inl h4, h6, h7⟩
  | dct u l es =>
    have e : u = t ∧ l = ks ∧ es = ds := by simpa [deref] using he
    obtain ⟨e0, e1, e2⟩ := e
    subst e0 e1 e2
    unfold Rep at p
    obtain ⟨a, vs, o, h1, h2, h3, h4, h5⟩ := p
    exact ⟨a, vs, o, h1, h3, h4, h5⟩
  | _ => simp [deref] at he
theorem rep_dctH {n : Nat} {t : Bool} {ks : List Ky} {ds : List D} (r : Rel R α H S) (p : Rep R α H (.hnd n) v) (he : deref S (.hnd n) = .dct t ks ds) : ∃ a vs o, v = .ref a ∧ α.hs[n]? = some a ∧ H a = some o ∧ DctO t o ks vs ∧ Reps R α H ds vs := by
  obtain ⟨a, c, o, h1, h2, h3, h4, h5⟩ := rep_hnd r p
  rw [deref_hnd h3] at he
  subst he
  obtain ⟨vs, h6, h7⟩ := h5
  exact ⟨a, vs, o, h1, h2, h4, h6, h7⟩
theorem rep_obj {c : Str} {fs : List Str} {ds : List D} (r : Rel R α H S) (p : Rep R α H d v) (he : deref S d = .obj c fs ds) : ∃ a dx vs, v = .ref a ∧ H a = some (.ins (R.ca c) dx (fs.zip vs)) ∧ fs.length = vs.length ∧ Reps R α H ds vs := by
  cases d with
  | hnd n =>
    obtain ⟨a, c', o, h1, h2, h3, h4, h5⟩ := rep_hnd r p
    rw [deref_hnd h3] at he
    subst he
    obtain ⟨dx, vs, rfl, h6, h7⟩ := h5
    exact ⟨a, dx, vs, h1, h4, h6, h7⟩
  | obj c' fs' es =>
    have e : c' = c ∧ fs' = fs ∧ es = ds := by simpa [deref] using he
    obtain ⟨e1, e2, e3⟩ := e
    subst e1 e2 e3
    unfold Rep at p
    obtain ⟨a, dx, vs, h1, h2, h3, h4, h5⟩ := p
    exact ⟨a, dx, vs, h1, h3, h4, h5⟩
  | _ => simp [deref] at he
theorem rep_objH {n : Nat} {c : Str} {fs : List Str} {ds : List D} (r : Rel R α H S) (p : Rep R α H (.hnd n) v) (he : deref S (.hnd n) = .obj c fs ds) : ∃ a dx vs, v = .ref a ∧ α.hs[n]? = some a ∧ H a = some (.ins (R.ca c) dx (fs.zip vs)) ∧ fs.length = vs.length ∧ Reps R α H ds vs := by
  obtain ⟨a, c', o, h1, h2, h3, h4, h5⟩ := rep_hnd r p
  rw [deref_hnd h3] at he
  subst he
  obtain ⟨dx, vs, rfl, h6, h7⟩ := h5
  exact ⟨a, dx, vs, h1, h2, h4, h6, h7⟩

/-! ### as data of the library -/
mutual
theorem Rep.dp : ∀ (d : D) (v : V) (p : PyData), Rep R α H d v → pyD d = some p → Dp R.K H v p
  | .non, v, p, h, e => by unfold Rep at h; unfold pyD at e; cases e; subst h; exact .non
  | .bl b, v, p, h, e => by unfold Rep at h; unfold pyD at e; cases e; subst h; exact .bl b
  | .int b, v, p, h, e => by unfold Rep at h; unfold pyD at e; cases e; subst h; exact .int b
  | .str b, v, p, h, e => by unfold Rep at h; unfold pyD at e; cases e; subst h; exact .str b
  | .tup ds, v, p, h, e => by
    unfold Rep at h
    unfold pyD at e
    obtain ⟨a, vs, rfl, h2, h3⟩ := h
    cases q : pyDs ds with
    | none => rw [q] at e; cases e
    | some ps =>
      rw [q] at e
      cases e
      exact .tup (SqT.of h2) (Reps.dp ds vs ps h3 q)
  | .ktp ds, v, p, h, e => by
    unfold Rep at h
    unfold pyD at e
    obtain ⟨a, vs, rfl, h2, h3⟩ := h
    cases q : pyDs ds with
    | none => rw [q] at e; cases e
    | some ps =>
      rw [q] at e
      cases e
      exact .tup h2.sq (Reps.dp ds vs ps h3 q)
  | .lst ds, v, p, h, e => by
    unfold Rep at h
    unfold pyD at e
    obtain ⟨a, vs, rfl, _, h2, h3⟩ := h
    cases q : pyDs ds with
    | none => rw [q] at e; cases e
    | some ps =>
      rw [q] at e
      cases e
      exact .lst (SqL.of h2) (Reps.dp ds vs ps h3 q)
  | .ty _, v, p, h, e => by unfold pyD at e; cases e
  | .dct _ _ _, v, p, h, e => by unfold pyD at e; cases e
  | .obj _ _ _, v, p, h, e => by unfold pyD at e; cases e
  | .hnd _, v, p, h, e => by unfold pyD at e; cases e
  | .fn _, v, p, h, e => by unfold pyD at e; cases e
  | .scr _, v, p, h, e => by unfold pyD at e; cases e
theorem Reps.dp : ∀ (ds : List D) (vs : List V) (ps : List PyData), Reps R α H ds vs → pyDs ds = some ps → DpAll R.K H vs ps
  | [], [], ps, _, e => by unfold pyDs at e; cases e; exact .nil
  | [], _ :: _, _, h, _ => by unfold Reps at h; exact h.elim
  | _ :: _, [], _, h, _ => by unfold Reps at h; exact h.elim
  | d :: ds, v :: vs, ps, h, e => by
    unfold Reps at h
    unfold pyDs at e
    cases q1 : pyD d with
    | none => rw [q1] at e; cases e
    | some p =>
      cases q2 : pyDs ds with
      | none => rw [q1, q2] at e; cases e
      | some qs =>
        rw [q1, q2] at e
        cases e
        exact .cons (Rep.dp d v p h.1 q1) (Reps.dp ds vs qs h.2 q2)
end
/-- a cell as a thing that stays (for reading alone: no handles) -/
theorem CellV.rep0 {o : HO} {c : D} {a : Addr} (r : Rel R α H S) (e : H a = some o) (h : CellV R α H o c) : ∃ β, (∀ x ∈ β, x ∈ α) ∧ β = α ∧ CellV R α H o c := ⟨α, fun _ h => h, rfl, h⟩
theorem not_take {m : Nat} {a : Addr} (h : a ∉ α) : a ∉ α.take m := fun z => h (z.imp List.mem_of_mem_take id)
theorem take_out {m n : Nat} {a : Addr} (r : Rel R α H S) (hm : m ≤ n) (hn : α.hs[n]? = some a) : a ∉ α.take m := fun z => by
  rcases z with z | z
  · obtain ⟨j, hj⟩ := List.getElem?_of_mem (show a ∈ α.hs.take m from z)
    have hjm : j < m := by
      have := (List.getElem?_eq_some_iff.mp hj).1
      rw [List.length_take] at this
      omega
    rw [List.getElem?_take_of_lt hjm] at hj
    have e : j = n := (List.getElem?_inj (List.getElem?_eq_some_iff.mp hj).1 r.nd).mp (hj.trans hn.symm)
    omega
  · exact r.ap a (List.mem_of_getElem? hn) z
mutual
theorem frzG_rep {m : Nat} {g : Nat → Option D} (hg : ∀ n a d', m ≤ n → α.hs[n]? = some a → g n = some d' → Rep R (α.take m) H d' (.ref a)) : ∀ (d d' : D) (v : V), Rep R α H d v → frzG m g d = some d' → Rep R (α.take m) H d' v
  | .non, d', v, h, e => by unfold frzG at e; cases e; unfold Rep at h ⊢; exact h
  | .bl _, d', v, h, e => by unfold frzG at e; cases e; unfold Rep at h ⊢; exact h
  | .int _, d', v, h, e => by unfold frzG at e; cases e; unfold Rep at h ⊢; exact h
  | .str _, d', v, h, e => by unfold frzG at e; cases e; unfold Rep at h ⊢; exact h
  | .ty _, d', v, h, e => by unfold frzG at e; cases e; unfold Rep at h ⊢; exact h
  | .fn _, d', v, h, e => by unfold frzG at e; cases e; unfold Rep at h ⊢; exact h
  | .scr _, d', v, h, e => by unfold frzG at e; cases e; unfold Rep at h ⊢; exact h
  | .hnd n, d', v, h, e => by
    unfold frzG at e
    unfold Rep at h
    obtain ⟨a, rfl, h2⟩ := h
    by_cases hm : n < m
    · rw [if_pos hm] at e
      cases e
      unfold Rep
      refine ⟨a, rfl, ?_⟩
      show (α.hs.take m)[n]? = some a
      rw [List.getElem?_take_of_lt hm]
      exact h2
    · rw [if_neg hm] at e
      exact hg n a d' (Nat.le_of_not_lt hm) h2 e
  | .tup ds, d', v, h, e => by
    unfold frzG at e
    unfold Rep at h
    obtain ⟨a, vs, h1, h2, h3⟩ := h
    cases q : frzGs m g ds with
    | none => rw [q] at e; cases e
    | some es =>
      rw [q] at e
      cases e
      unfold Rep
      exact ⟨a, vs, h1, h2, frzGs_rep hg ds es vs h3 q⟩
  | .ktp ds, d', v, h, e => by
    unfold frzG at e
    unfold Rep at h
    obtain ⟨a, vs, h1, h2, h3⟩ := h
    cases q : frzGs m g ds with
    | none => rw [q] at e; cases e
    | some es =>
      rw [q] at e
      cases e
      unfold Rep
      exact ⟨a, vs, h1, h2, frzGs_rep hg ds es vs h3 q⟩
  | .lst ds, d', v, h, e => by
    unfold frzG at e
    unfold Rep at h
    obtain ⟨a, vs, h1, h2, h3, h4⟩ := h
    cases q : frzGs m g ds with
    | none => rw [q] at e; cases e
    | some es =>
      rw [q] at e
      cases e
      unfold Rep
      exact ⟨a, vs, h1, not_take h2, h3, frzGs_rep hg ds es vs h4 q⟩
  | .dct t ks ds, d', v, h, e => by
    unfold frzG at e
    unfold Rep at h
    obtain ⟨a, vs, o, h1, h2, h3, h4, h5⟩ := h
    cases q : frzGs m g ds with
    | none => rw [q] at e; cases e
    | some es =>
      rw [q] at e
      cases e
      unfold Rep
      exact ⟨a, vs, o, h1, not_take h2, h3, h4, frzGs_rep hg ds es vs h5 q⟩
  | .obj c fs ds, d', v, h, e => by
    unfold frzG at e
    unfold Rep at h
    obtain ⟨a, dx, vs, h1, h2, h3, h4, h5⟩ := h
    cases q : frzGs m g ds with
    | none => rw [q] at e; cases e
    | some es =>
      rw [q] at e
      cases e
      unfold Rep
      exact ⟨a, dx, vs, h1, not_take h2, h3, h4, frzGs_rep hg ds es vs h5 q⟩
theorem frzGs_rep {m : Nat} {g : Nat → Option D} (hg : ∀ n a d', m ≤ n → α.hs[n]? = some a → g n = some d' → Rep R (α.take m) H d' (.ref a)) : ∀ (ds es : List D) (vs : List V), Reps R α H ds vs → frzGs m g ds = some es → Reps R (α.take m) H es vs
  | [], es, [], _, e => by unfold frzGs at e; cases e; unfold Reps; trivial
  | [], _, _ :: _, h, _ => by unfold Reps at h; exact h.elim
  | _ :: _, _, [], h, _ => by unfold Reps at h; exact h.elim
  | d :: ds, es, v :: vs, h, e => by
    unfold Reps at h
    unfold frzGs at e
    cases q1 : frzG m g d with
    | none => rw [q1] at e; cases e
    | some p =>
      cases q2 : frzGs m g ds with
      | none => rw [q1, q2] at e; cases e
      | some qs =>
        rw [q1, q2] at e
        cases e
        unfold Reps
        exact ⟨frzG_rep hg d p v h.1 q1, frzGs_rep hg ds qs vs h.2 q2⟩
end
theorem cell_frz {m : Nat} {g : Nat → Option D} (hg : ∀ n a d', m ≤ n → α.hs[n]? = some a → g n = some d' → Rep R (α.take m) H d' (.ref a)) {a : Addr} {o : HO} {c c' : D} (na : a ∉ α.take m) (h2 : H a = some o) (h3 : CellV R α H o c) (hc : frzG m g c = some c') : Rep R (α.take m) H c' (.ref a) := by
  cases c with
  | lst ds =>
    obtain ⟨vs, rfl, h4⟩ := h3
    unfold frzG at hc
    cases q2 : frzGs m g ds with
    | none => rw [q2] at hc; cases hc
    | some es =>
      rw [q2] at hc
      cases hc
      unfold Rep
      exact ⟨a, vs, rfl, na, h2, frzGs_rep hg ds es vs h4 q2⟩
  | dct t ks ds =>
    obtain ⟨vs, h5, h4⟩ := h3
    unfold frzG at hc
    cases q2 : frzGs m g ds with
    | none => rw [q2] at hc; cases hc
    | some es =>
      rw [q2] at hc
      cases hc
      unfold Rep
      exact ⟨a, vs, o, rfl, na, .inl h2, h5, frzGs_rep hg ds es vs h4 q2⟩
  | obj c fs ds =>
    obtain ⟨dx, vs, rfl, h5, h4⟩ := h3
    unfold frzG at hc
    cases q2 : frzGs m g ds with
    | none => rw [q2] at hc; cases hc
    | some es =>
      rw [q2] at hc
      cases hc
      unfold Rep
      exact ⟨a, dx, vs, rfl, na, h2, h5, frzGs_rep hg ds es vs h4 q2⟩
  | _ => exact h3.elim
theorem resolve_rep {m : Nat} (r : Rel R α H S) : ∀ (k n : Nat) (a : Addr) (d' : D), m ≤ n → α.hs[n]? = some a → resolve m S k n = some d' → Rep R (α.take m) H d' (.ref a)
  | 0, _, _, _, _, _, e => by cases e
  | k + 1, n, a, d', hm, hn, e => by
    obtain ⟨c, o, h1, h2, h3⟩ := r.at hn
    unfold resolve at e
    rw [h1, Option.bind_some] at e
    exact cell_frz (fun j b d2 hj hb q => resolve_rep r k j b d2 hj hb q) (take_out r hm hn) h2 h3 e
theorem frz_rep {m : Nat} (r : Rel R α H S) (k : Nat) (d d' : D) (v : V) (h : Rep R α H d v) (e : frz m S k d = some d') : Rep R (α.take m) H d' v :=
  frzG_rep (fun j b d2 hj hb q => resolve_rep r k j b d2 hj hb q) d d' v h e
theorem pyS_dp (r : Rel R α H S) {p : PyData} (h : Rep R α H d v) (e : pyS S d = some p) : Dp R.K H v p := by
  unfold pyS at e
  cases q : frz 0 S 4 d with
  | none => rw [q] at e; cases e
  | some d' =>
    rw [q] at e
    exact Rep.dp d' v p (frz_rep r 4 d d' v h q) e
end
end Fk
set_option Elab.async false
set_option linter.all false
set_option autoImplicit false
set_option maxRecDepth 100000
set_option maxHeartbeats 4000000
/-! The operations: rules by values -/
namespace Fk
open PySem L2 PySem.Spec PyProof.Rows

def rBin (R : RC) (op : Operator) : R2 := fun x y H Q => ∃ α S d e r, Rel R α H S ∧ Rep R α H d x ∧ Rep R α H e y ∧ binD S op d e = some r ∧ Pst true R α H r S Q
section
variable {X : Cx} {G : GA} {op : Operator}
theorem op_bin : OpR X (binaryOp op) (rBin (rc G X) op) := by
  intro pins s σ H x y v u Q I rx ry h
  obtain ⟨α, S, d, e, r, rel, p1, p2, hb, q⟩ := h
  unfold binD at hb
  split at hb
  · rename_i i j h1 h2
    obtain ⟨_, rfl⟩ := rep_int rel p1 h1
    obtain ⟨_, rfl⟩ := rep_int rel p2 h2
    cases hb
    exact op_add pins s σ H _ _ v u Q I rx ry ⟨_, _, rfl, rfl, q.int rel⟩
  · rename_i i j h1 h2
    obtain ⟨_, rfl⟩ := rep_int rel p1 h1
    obtain ⟨_, rfl⟩ := rep_int rel p2 h2
    cases hb
    exact op_sub pins s σ H _ _ v u Q I rx ry ⟨_, _, rfl, rfl, q.int rel⟩
  · rename_i i j h1 h2
    obtain ⟨_, rfl⟩ := rep_int rel p1 h1
    obtain ⟨_, rfl⟩ := rep_int rel p2 h2
    split at hb
    · rename_i hc
      cases hb
      exact op_mul pins s σ H _ _ v u Q I rx ry ⟨_, _, rfl, rfl, (by unfold CMul; omega), q.int rel⟩
    · cases hb
  · rename_i i j h1 h2
    obtain ⟨_, rfl⟩ := rep_int rel p1 h1
    obtain ⟨_, rfl⟩ := rep_int rel p2 h2
    split at hb
    · rename_i hc
      cases hb
      exact op_fdivW pins s σ H _ _ v u Q I rx ry ⟨_, _, rfl, rfl, hc, q.int rel⟩
    · cases hb
  · rename_i i j h1 h2
    obtain ⟨_, rfl⟩ := rep_int rel p1 h1
    obtain ⟨_, rfl⟩ := rep_int rel p2 h2
    split at hb
    · rename_i hc
      cases hb
      exact op_mod pins s σ H _ _ v u Q I rx ry ⟨_, _, rfl, rfl, hc, q.int rel⟩
    · cases hb
  · rename_i i j h1 h2
    obtain ⟨_, rfl⟩ := rep_int rel p1 h1
    obtain ⟨_, rfl⟩ := rep_int rel p2 h2
    split at hb
    · rename_i hc
      cases hb
      exact op_pow pins s σ H _ _ v u Q I rx ry ⟨_, _, rfl, rfl, hc, q.int rel⟩
    · cases hb
  · rename_i i j h1 h2
    obtain ⟨_, rfl⟩ := rep_str rel p1 h1
    obtain ⟨_, rfl⟩ := rep_str rel p2 h2
    split at hb
    · rename_i hc
      cases hb
      exact op_add_str pins s σ H _ _ v u Q I rx ry ⟨_, _, rfl, rfl, hc, q.str rel⟩
    · cases hb
  · rename_i i j h1 h2
    obtain ⟨a, vs, rfl, t1, r1, c1⟩ := rep_tup rel p1 h1
    obtain ⟨b, us, rfl, t2, r2, c2⟩ := rep_tup rel p2 h2
    split at hb
    · rename_i hc
      cases hb
      obtain ⟨hc, hk⟩ := hc
      refine op_catA pins s σ H _ _ v u Q I rx ry ⟨_, _, _, _, rfl, rfl, t1, t2, (by rw [← r1.len, ← r2.len]; exact hc), fun z => ?_, fun z z2 => ?_, fun z z2 p n => q.newTup rel n (r1.append r2)⟩
      · subst z
        rcases hk with ⟨hk1, hk2⟩
        have e1 : i = [] := List.eq_nil_of_length_eq_zero (by rw [r1.len]; rfl)
        subst e1
        refine post_now (q.flat rfl) rel ?_
        rw [List.nil_append]
        rcases c2 with ⟨c2, _⟩ | c2
        · rw [c2] at p2; exact p2
        · rw [c2] at hk2; cases hk2
      · subst z2
        rcases hk with ⟨hk1, hk2⟩
        have e1 : j = [] := List.eq_nil_of_length_eq_zero (by rw [r2.len]; rfl)
        subst e1
        refine post_now (q.flat rfl) rel ?_
        rw [List.append_nil]
        rcases c1 with ⟨c1, _⟩ | c1
        · rw [c1] at p1; exact p1
        · rw [c1] at hk1; cases hk1
    · cases hb
  · rename_i i j h1 h2
    obtain ⟨a, vs, rfl, t1, r1⟩ := rep_lst rel p1 h1
    obtain ⟨b, us, rfl, t2, r2⟩ := rep_lst rel p2 h2
    split at hb
    · rename_i hc
      cases hb
      exact op_cat pins s σ H _ _ v u Q I rx ry ⟨_, _, _, _, rfl, rfl, t1, t2, (by rw [← r1.len, ← r2.len]; exact hc), fun p n => q.newLst rel n (r1.append r2)⟩
    · cases hb
  · rename_i i k h1 h2
    obtain ⟨a, vs, rfl, t1, r1⟩ := rep_lst rel p1 h1
    obtain ⟨_, rfl⟩ := rep_int rel p2 h2
    split at hb
    · rename_i hc
      cases hb
      exact op_rep pins s σ H _ _ v u Q I rx ry ⟨_, _, _, rfl, rfl, t1, hc.1, hc.2.1, (by rw [← r1.len]; exact hc.2.2), fun p n => q.newLst rel n (r1.rep k.toNat)⟩
    · cases hb
  · cases hb

/-! ### comparisons -/
def rCmp (R : RC) (op : CmpOp) : R2 := fun x y H Q => ∃ α S d e b, Rel R α H S ∧ Rep R α H d x ∧ Rep R α H e y ∧ cmpD S op d e = some b ∧ Q (.bl b) H
theorem hu64 {k : Nat} {A : Around} (hr : Room k A) : A.units + 64 < cLine := hr.units
theorem eqP_get {S : Store} {d e : D} {b : Bool} (h : eqP S d e = some b) : ∃ p r, pyS S d = some p ∧ pyS S e = some r ∧ SeqAt.shaped p = true ∧ SeqAt.shaped r = true ∧ b = PyData.eqv p r := by
  unfold eqP at h
  split at h
  · rename_i p r h1 h2
    split at h
    · rename_i hc
      cases h
      unfold okData at hc
      rw [Bool.and_eq_true] at hc
      exact ⟨p, r, h1, h2, hc.1, hc.2, rfl⟩
    · cases h
  · cases h
theorem eqD_or {S : Store} {d e : D} {b : Bool} (h : eqD S d e = some b) : (∃ x y, d = .str x ∧ e = .str y ∧ b = (x == y)) ∨ eqP S d e = some b := by
  unfold eqD at h
  split at h
  · cases h; exact .inl ⟨_, _, rfl, rfl, rfl⟩
  · exact .inr h
theorem op_cEq (hu : X.A.units + 65 < cLine) : OpR X (compareOp .Eq) (rCmp (rc G X) .Eq) := by
  intro pins s σ H x y v u Q I rx ry h
  obtain ⟨α, S, d, e, b, rel, p1, p2, hb, q⟩ := h
  rcases eqD_or (show eqD S d e = some b from hb) with ⟨a, c, rfl, rfl, rfl⟩ | hb
  · unfold Rep at p1 p2
    subst p1 p2
    exact op_eq pins s σ H _ _ v u Q I rx ry ⟨rfl, by rw [dec_str]; exact q⟩
  · obtain ⟨p, r, h1, h2, hs, hs2, rfl⟩ := eqP_get hb
    exact op_eqD (by omega) pins s σ H x y v u Q I rx ry ⟨_, _, pyS_dp rel p1 h1, pyS_dp rel p2 h2, hs, hs2, q⟩
theorem op_cNe (hu : X.A.units + 65 < cLine) : OpR X (compareOp .NotEq) (rCmp (rc G X) .NotEq) := by
  intro pins s σ H x y v u Q I rx ry h
  obtain ⟨α, S, d, e, b, rel, p1, p2, hb, q⟩ := h
  have hb' : (eqD S d e).map (!·) = some b := hb
  cases he : eqD S d e with
  | none => rw [he] at hb'; cases hb'
  | some c =>
    rw [he] at hb'
    cases hb'
    rcases eqD_or he with ⟨a, c, rfl, rfl, rfl⟩ | he
    · unfold Rep at p1 p2
      subst p1 p2
      exact op_ne pins s σ H _ _ v u Q I rx ry ⟨rfl, by rw [dec_str]; exact q⟩
    · obtain ⟨p, r, h1, h2, hs, hs2, rfl⟩ := eqP_get he
      exact op_neD (by omega) pins s σ H x y v u Q I rx ry ⟨_, _, pyS_dp rel p1 h1, pyS_dp rel p2 h2, hs, hs2, q⟩
theorem isNoneP_ne {p : PyData} (h : isNoneP p = false) : p ≠ .none := fun e => by subst e; cases h
theorem ltD_get {S : Store} {d e : D} {f : PyData → PyData → Bool} {b : Bool} (h : ltD S d e f = some b) : ∃ p r, pyS S d = some p ∧ pyS S e = some r ∧ PySem.W.alike p r = true ∧ p ≠ .none ∧ SeqAt.shaped p = true ∧ SeqAt.shaped r = true ∧ b = f p r := by
  unfold ltD at h
  split at h
  · rename_i p r h1 h2
    split at h
    · rename_i hc
      cases h
      obtain ⟨hc, hn⟩ := hc
      rw [Bool.and_eq_true] at hc
      unfold okData at hc
      rw [Bool.and_eq_true] at hc
      exact ⟨p, r, h1, h2, hc.1, isNoneP_ne hn, hc.2.1, hc.2.2, rfl⟩
    · cases h
  · cases h
theorem op_cLt (hu : X.A.units + 65 < cLine) : OpR X (compareOp .Lt) (rCmp (rc G X) .Lt) := by
  intro pins s σ H x y v u Q I rx ry h
  obtain ⟨α, S, d, e, b, rel, p1, p2, hb, q⟩ := h
  obtain ⟨p, r, h1, h2, ha, hn, hs, hs2, rfl⟩ := ltD_get hb
  obtain ⟨as, r1⟩ := Dp.reads I p x v (pyS_dp rel p1 h1) rx
  obtain ⟨bs, r2⟩ := Dp.reads I r y u (pyS_dp rel p2 h2) ry
  exact PySem.W.lt_data r1 r2 ha hn (SeqAt.room_of_shaped hs (by omega)) ⟨.bl _, H, I, rfl, q⟩
theorem op_cGt (hu : X.A.units + 65 < cLine) : OpR X (compareOp .Gt) (rCmp (rc G X) .Gt) := by
  intro pins s σ H x y v u Q I rx ry h
  obtain ⟨α, S, d, e, b, rel, p1, p2, hb, q⟩ := h
  obtain ⟨p, r, h1, h2, ha, hn, hs, hs2, rfl⟩ := ltD_get hb
  obtain ⟨as, r1⟩ := Dp.reads I p x v (pyS_dp rel p1 h1) rx
  obtain ⟨bs, r2⟩ := Dp.reads I r y u (pyS_dp rel p2 h2) ry
  exact PySem.W.gt_data r1 r2 ha hn (SeqAt.room_of_shaped hs (by omega)) ⟨.bl _, H, I, rfl, q⟩
theorem op_cLe (hu : X.A.units + 65 < cLine) : OpR X (compareOp .LtE) (rCmp (rc G X) .LtE) := by
  intro pins s σ H x y v u Q I rx ry h
  obtain ⟨α, S, d, e, b, rel, p1, p2, hb, q⟩ := h
  obtain ⟨p, r, h1, h2, ha, hn, hs, hs2, rfl⟩ := ltD_get hb
  obtain ⟨as, r1⟩ := Dp.reads I p x v (pyS_dp rel p1 h1) rx
  obtain ⟨bs, r2⟩ := Dp.reads I r y u (pyS_dp rel p2 h2) ry
  exact PySem.W.le_data r1 r2 ha hn (SeqAt.room_of_shaped hs (by omega)) ⟨.bl _, H, I, rfl, q⟩
theorem op_cGe (hu : X.A.units + 65 < cLine) : OpR X (compareOp .GtE) (rCmp (rc G X) .GtE) := by
  intro pins s σ H x y v u Q I rx ry h
  obtain ⟨α, S, d, e, b, rel, p1, p2, hb, q⟩ := h
  obtain ⟨p, r, h1, h2, ha, hn, hs, hs2, rfl⟩ := ltD_get hb
  obtain ⟨as, r1⟩ := Dp.reads I p x v (pyS_dp rel p1 h1) rx
  obtain ⟨bs, r2⟩ := Dp.reads I r y u (pyS_dp rel p2 h2) ry
  exact PySem.W.ge_data r1 r2 ha hn (SeqAt.room_of_shaped hs (by omega)) ⟨.bl _, H, I, rfl, q⟩

/-! ### is -/
theorem isD_get {R : RC} {α : Al} {H : Hp} {d e : D} {x y : V} {b : Bool} (p1 : Rep R α H d x) (p2 : Rep R α H e y) (h : isD d e = some b) :
    (y = .non ∧ b = decide (x = .non)) ∨ ∃ i j, x = .bl i ∧ y = .bl j ∧ b = decide (i = j) := by
  have nn : ∀ a : Addr, decide (V.ref a = .non) = false := fun a => decide_eq_false (fun z => by cases z)
  unfold isD at h
  split at h
  · unfold Rep at p1 p2; subst p1 p2; cases h; exact .inl ⟨rfl, by simp⟩
  · unfold Rep at p1 p2
    obtain ⟨a, rfl, _⟩ := p1
    subst p2
    cases h
    exact .inl ⟨rfl, (nn a).symm⟩
  · cases h
  · rename_i hx1 hx2
    unfold Rep at p2
    subst p2
    cases h
    refine .inl ⟨rfl, (decide_eq_false (fun z => ?_)).symm⟩
    subst z
    cases d <;> unfold Rep at p1 <;> first
      | (cases p1; done)
      | (obtain ⟨_, z, _⟩ := p1; cases z; done)
      | (obtain ⟨_, _, z, _⟩ := p1; cases z; done)
      | (obtain ⟨_, _, _, z, _⟩ := p1; cases z; done)
      | (first | (exact hx1 rfl) | (exact hx2 rfl) | simp_all)
  · unfold Rep at p1 p2
    subst p1 p2
    cases h
    refine .inr ⟨_, _, rfl, rfl, ?_⟩
    rename_i a b
    cases a <;> cases b <;> rfl
  · cases h
theorem op_cIs : OpR X (compareOp .Is) (rCmp (rc G X) .Is) := by
  intro pins s σ H x y v u Q I rx ry h
  obtain ⟨α, S, d, e, b, rel, p1, p2, hb, q⟩ := h
  rcases isD_get p1 p2 hb with ⟨rfl, rfl⟩ | ⟨i, j, rfl, rfl, rfl⟩
  · exact op_isN pins s σ H x _ v u Q I rx ry ⟨rfl, q⟩
  · exact op_is_bl pins s σ H _ _ v u Q I rx ry ⟨i, j, rfl, rfl, q⟩
theorem op_cIsNot : OpR X (compareOp .IsNot) (rCmp (rc G X) .IsNot) := by
  intro pins s σ H x y v u Q I rx ry h
  obtain ⟨α, S, d, e, b, rel, p1, p2, hb, q⟩ := h
  have hb' : (isD d e).map (!·) = some b := hb
  cases hi : isD d e with
  | none => rw [hi] at hb'; cases hb'
  | some c =>
    rw [hi] at hb'
    cases hb'
    rcases isD_get p1 p2 hi with ⟨rfl, rfl⟩ | ⟨i, j, rfl, rfl, rfl⟩
    · exact op_notN pins s σ H x _ v u Q I rx ry ⟨rfl, q⟩
    · exact op_isnot_bl pins s σ H _ _ v u Q I rx ry ⟨i, j, rfl, rfl, q⟩

/-! ### in -/
theorem str_one {s : Str} (h : s.length = 1) : s = ⟨#[s.cps.getD 0 0]⟩ := by
  obtain ⟨c⟩ := s
  have h' : c.size = 1 := h
  have : c = #[c.getD 0 0] := by
    apply Array.ext
    · simp [h']
    · intro i h1 h2
      have e : i = 0 := by omega
      subst e
      simp [Array.getD, h']
  exact congrArg Str.mk this
theorem zipK_val : ∀ {ks : List Ky} {ds : List D} {vs : List V} {kvs : List (Key × V)} {R : RC} {α : Al} {H : Hp} (k : Key), Reps R α H ds vs → zipK ks vs = some kvs →
    hasK (.inl k) ks = (valV kvs k).isSome ∧ (∀ d, lookK (.inl k) ks ds = some d → ∃ v, valV kvs k = some v ∧ Rep R α H d v) ∧ (lookK (.inl k) ks ds = none → valV kvs k = none) ∧ kvs.length = ks.length
  | [], [], [], kvs, R, α, H, k, _, e => by
    unfold zipK at e
    cases e
    exact ⟨rfl, fun d h => by simp [lookK] at h, fun _ => rfl, rfl⟩
  | [], _ :: _, [], _, _, _, _, _, h, _ => by unfold Reps at h; exact h.elim
  | [], [], _ :: _, _, _, _, _, _, h, _ => by unfold Reps at h; exact h.elim
  | [], _ :: _, _ :: _, _, _, _, _, _, _, e => by simp [zipK] at e
  | _ :: _, [], _ :: _, _, _, _, _, _, h, _ => by unfold Reps at h; exact h.elim
  | _ :: _, _ :: _, [], _, _, _, _, _, h, _ => by unfold Reps at h; exact h.elim
  | .inl l :: ks, [], [], _, _, _, _, _, _, e => by simp [zipK] at e
  | .inr l :: ks, [], [], _, _, _, _, _, _, e => by simp [zipK] at e
  | .inr l :: ks, _ :: _, _ :: _, _, _, _, _, _, _, e => by simp [zipK] at e
  | .inl l :: ks, d :: ds, v :: vs, kvs, R, α, H, k, h, e => by
    unfold Reps at h
    unfold zipK at e
    cases q : zipK ks vs with
    | none => rw [q] at e; cases e
    | some kv =>
      rw [q] at e
      cases e
      obtain ⟨h1, h2, h3, h4⟩ := zipK_val k h.2 q
      by_cases hk : l = k
      · subst hk
        refine ⟨by simp [hasK, valV_pos (p := (l, v)) rfl], fun d' hd => ?_, fun hn => ?_, by simp [h4]⟩
        · simp only [lookK, if_true] at hd
          cases hd
          exact ⟨v, valV_pos (p := (l, v)) rfl, h.1⟩
        · simp [lookK] at hn
      · have hk' : ¬ (Sum.inl k : Ky) = .inl l := fun z => hk (Sum.inl.inj z).symm
        rw [valV_neg (p := (l, v)) hk]
        refine ⟨by simp [hasK, hk', h1], fun d' hd => h2 d' ?_, fun hn => h3 ?_, by simp [h4]⟩
        · simpa [lookK, hk'] using hd
        · simpa [lookK, hk'] using hn
theorem zipT_val : ∀ {ks : List Ky} {ds : List D} {vs : List V} {kvs : List (List Key × V)} {R : RC} {α : Al} {H : Hp} (k : List Key), Reps R α H ds vs → zipT ks vs = some kvs →
    hasK (.inr k) ks = (valV kvs k).isSome ∧ (∀ d, lookK (.inr k) ks ds = some d → ∃ v, valV kvs k = some v ∧ Rep R α H d v) ∧ (lookK (.inr k) ks ds = none → valV kvs k = none) ∧ kvs.length = ks.length
  | [], [], [], kvs, R, α, H, k, _, e => by
    unfold zipT at e
    cases e
    exact ⟨rfl, fun d h => by simp [lookK] at h, fun _ => rfl, rfl⟩
  | [], _ :: _, [], _, _, _, _, _, h, _ => by unfold Reps at h; exact h.elim
  | [], [], _ :: _, _, _, _, _, _, h, _ => by unfold Reps at h; exact h.elim
  | [], _ :: _, _ :: _, _, _, _, _, _, _, e => by simp [zipT] at e
  | _ :: _, [], _ :: _, _, _, _, _, _, h, _ => by unfold Reps at h; exact h.elim
  | _ :: _, _ :: _, [], _, _, _, _, _, h, _ => by unfold Reps at h; exact h.elim
  | .inl l :: ks, [], [], _, _, _, _, _, _, e => by simp [zipT] at e
  | .inr l :: ks, [], [], _, _, _, _, _, _, e => by simp [zipT] at e
  | .inl l :: ks, _ :: _, _ :: _, _, _, _, _, _, _, e => by simp [zipT] at e
  | .inr l :: ks, d :: ds, v :: vs, kvs, R, α, H, k, h, e => by
    unfold Reps at h
    unfold zipT at e
    cases q : zipT ks vs with
    | none => rw [q] at e; cases e
    | some kv =>
      rw [q] at e
      cases e
      obtain ⟨h1, h2, h3, h4⟩ := zipT_val k h.2 q
      by_cases hk : l = k
      · subst hk
        refine ⟨by simp [hasK, valV_pos (p := (l, v)) rfl], fun d' hd => ?_, fun hn => ?_, by simp [h4]⟩
        · simp only [lookK, if_true] at hd
          cases hd
          exact ⟨v, valV_pos (p := (l, v)) rfl, h.1⟩
        · simp [lookK] at hn
      · have hk' : ¬ (Sum.inr k : Ky) = .inr l := fun z => hk (Sum.inr.inj z).symm
        rw [valV_neg (p := (l, v)) hk]
        refine ⟨by simp [hasK, hk', h1], fun d' hd => h2 d' ?_, fun hn => h3 ?_, by simp [h4]⟩
        · simpa [lookK, hk'] using hd
        · simpa [lookK, hk'] using hn
theorem toKeys_rep : ∀ {ds : List D} {vs : List V} {ks : List Key} {R : RC} {α : Al} {H : Hp}, Reps R α H ds vs → toKy.toKeys ds = some ks → vs = ks.map kV
  | [], [], ks, _, _, _, _, e => by unfold toKy.toKeys at e; cases e; rfl
  | [], _ :: _, _, _, _, _, h, _ => by unfold Reps at h; exact h.elim
  | _ :: _, [], _, _, _, _, h, _ => by unfold Reps at h; exact h.elim
  | d :: ds, v :: vs, ks, _, _, _, h, e => by
    unfold Reps at h
    cases d <;> unfold toKy.toKeys at e <;> first
      | (cases e; done)
      | (cases q : toKy.toKeys ds with
        | none => rw [q] at e; cases e
        | some ks' =>
          rw [q] at e
          cases e
          have e1 := toKeys_rep h.2 q
          have e2 := h.1
          unfold Rep at e2
          subst e1 e2
          rfl)
/-- the key that a thing is -/
theorem toKy_rep {R : RC} {α : Al} {H : Hp} {d : D} {v : V} {t : Bool} {k : Ky} (h : Rep R α H d v) (e : toKy t d = some k) :
    (t = false ∧ ∃ k', k = .inl k' ∧ v = kV k') ∨ (t = true ∧ ∃ k' b, k = .inr k' ∧ v = .ref b ∧ H b = some (.tup (k'.map kV))) := by
  unfold toKy at e
  split at e
  · cases e; unfold Rep at h; subst h; exact .inl ⟨rfl, _, rfl, rfl⟩
  · cases e; unfold Rep at h; subst h; exact .inl ⟨rfl, _, rfl, rfl⟩
  · rename_i ds
    unfold Rep at h
    obtain ⟨a, vs, rfl, h2, h3⟩ := h
    cases q : toKy.toKeys ds with
    | none => rw [q] at e; cases e
    | some ks =>
      rw [q] at e
      cases e
      have e1 := toKeys_rep h3 q
      subst e1
      exact .inr ⟨rfl, ks, a, rfl, rfl, h2⟩
  · cases e
theorem dget_of {R : RC} {α : Al} {H : Hp} {t : Bool} {o : HO} {ks : List Ky} {ds : List D} {vs : List V} {a : Addr} {d : D} {v : V} {k : Ky} (ho : Rd H a o) (c : DctO t o ks vs) (r : Reps R α H ds vs) (h : Rep R α H d v) (e : toKy t d = some k) :
    ∃ ov, DGet H a v ov ∧ hasK k ks = ov.isSome ∧ (∀ x, lookK k ks ds = some x → ∃ w, ov = some w ∧ Rep R α H x w) ∧ (lookK k ks ds = none → ov = none) := by
  rcases toKy_rep h e with ⟨rfl, k', rfl, rfl⟩ | ⟨rfl, k', b, rfl, rfl, hb⟩
  · obtain ⟨kvs, hz, rfl⟩ := c
    obtain ⟨h1, h2, h3, _⟩ := zipK_val k' r hz
    exact ⟨_, .inl ⟨kvs, k', ho, rfl, rfl⟩, h1, h2, h3⟩
  · obtain ⟨kvs, hz, rfl⟩ := c
    obtain ⟨h1, h2, h3, _⟩ := zipT_val k' r hz
    exact ⟨_, .inr ⟨kvs, k', b, ho, rfl, hb, rfl⟩, h1, h2, h3⟩
theorem inD_get {S : Store} {x y : D} {b : Bool} (h : inD S x y = some b) :
    (∃ s t, deref S y = .str t ∧ x = .str s ∧ s.length = 1 ∧ b = decide (s.cps.getD 0 0 ∈ t.cps.toList)) ∨
    (∃ t ks vs k, deref S y = .dct t ks vs ∧ toKy t x = some k ∧ b = hasK k ks) ∨
    (∃ p qs, pyS S x = some p ∧ (pyS S y = some (.list qs) ∨ pyS S y = some (.tuple qs)) ∧ SeqAt.shaped p = true ∧ SeqAt.shaped (.list qs) = true ∧ b = qs.any fun q => PyData.eqv q p) := by
  unfold inD at h
  split at h
  · rename_i t h1
    split at h
    · rename_i s
      split at h
      · rename_i hc
        cases h
        exact .inl ⟨s, t, h1, rfl, hc, rfl⟩
      · cases h
    · cases h
  · rename_i t ks vs h1
    cases q : toKy t x with
    | none => rw [q] at h; cases h
    | some k =>
      rw [q] at h
      cases h
      exact .inr (.inl ⟨t, ks, vs, k, h1, q, rfl⟩)
  · split at h
    · rename_i p qs h1 h2
      split at h
      · rename_i hc
        cases h
        rw [Bool.and_eq_true] at hc
        exact .inr (.inr ⟨p, qs, h1, .inl h2, hc.1, hc.2, rfl⟩)
      · cases h
    · rename_i p qs h1 h2
      split at h
      · rename_i hc
        cases h
        rw [Bool.and_eq_true] at hc
        exact .inr (.inr ⟨p, qs, h1, .inr h2, hc.1, hc.2, rfl⟩)
      · cases h
    · cases h

theorem in_ok (hu : X.A.units + 65 < cLine) {pins : List (Addr × Obj)} {s : Shared} {σ : L2.St} {H : Hp} {x y : V} {v u : Value} {Q : Bool → Value → Shared → Prop} (I : Inv X pins σ H s) (rx : RelV x v) (ry : RelV y u) {α : Al} {S : Store} {d e : D} {b : Bool}
    (rel : Rel (rc G X) α H S) (p1 : Rep (rc G X) α H d x) (p2 : Rep (rc G X) α H e y) (hb : inD S d e = some b) (Qv : Value → Shared → Prop) :
    ((∀ s', Inv X pins σ H s' → Qv (.bool b) s') → wpAny (model X.prog X.w) X.A (compareOp .In v u) Qv X.xe s) ∧ ((∀ s', Inv X pins σ H s' → Qv (.bool (!b)) s') → wpAny (model X.prog X.w) X.A (compareOp .NotIn v u) Qv X.xe s) := by
  rcases inD_get hb with ⟨w, t, h1, rfl, hl, rfl⟩ | ⟨t, ks, vs, k, h1, h2, rfl⟩ | ⟨p, qs, h1, h2, hs, hs2, rfl⟩
  · obtain ⟨_, rfl⟩ := rep_str rel p2 h1
    unfold Rep at p1
    subst p1
    have e1 := str_one hl
    constructor
    · intro hq
      refine thn (op_in_sign pins s σ H _ _ v u (fun z H' => z = .bl (decide (w.cps.getD 0 0 ∈ t.cps.toList)) ∧ H' = H) I rx ry ⟨w.cps.getD 0 0, t, congrArg V.str e1, rfl, rfl, rfl⟩) fun z s' ⟨zv, H', I', rz, ez, eH⟩ => ?_
      subst ez eH
      cases rz
      exact hq s' I'
    · intro hq
      refine thn (op_notIn_sign pins s σ H _ _ v u (fun z H' => z = .bl (!decide (w.cps.getD 0 0 ∈ t.cps.toList)) ∧ H' = H) I rx ry ⟨w.cps.getD 0 0, t, congrArg V.str e1, rfl, rfl, rfl⟩) fun z s' ⟨zv, H', I', rz, ez, eH⟩ => ?_
      subst ez eH
      cases rz
      exact hq s' I'
  · obtain ⟨a, us, o, rfl, ho, hc, hr⟩ := rep_dct rel p2 h1
    obtain ⟨ov, g, e1, _⟩ := dget_of ho hc hr p1 h2
    obtain rfl : u = Value.ref a := ry
    constructor
    · intro hq
      exact d_in (by omega) I g rx fun s' I' => by rw [← e1]; exact hq s' I'
    · intro hq
      exact d_notIn (by omega) I g rx fun s' I' => by rw [← e1]; exact hq s' I'
  · obtain ⟨as, r1⟩ := Dp.reads I p x v (pyS_dp rel p1 h1) rx
    rcases h2 with h2 | h2
    · obtain ⟨bs, r2⟩ := Dp.reads I _ y u (pyS_dp rel p2 h2) ry
      exact ⟨fun hq => SeqAt.in_list_reads r2 r1 (SeqAt.canLay_of_shaped hs2) (SeqAt.canLay_of_shaped hs) (room_in_shaped hs hu) (hq s I), fun hq => SeqAt.notIn_list_reads r2 r1 (SeqAt.canLay_of_shaped hs2) (SeqAt.canLay_of_shaped hs) (room_in_shaped hs hu) (hq s I)⟩
    · obtain ⟨bs, r2⟩ := Dp.reads I _ y u (pyS_dp rel p2 h2) ry
      exact ⟨fun hq => SeqAt.in_tuple_reads r2 r1 (SeqAt.canLay_of_shaped hs2) (SeqAt.canLay_of_shaped hs) (room_in_shaped hs hu) (hq s I), fun hq => SeqAt.notIn_tuple_reads r2 r1 (SeqAt.canLay_of_shaped hs2) (SeqAt.canLay_of_shaped hs) (room_in_shaped hs hu) (hq s I)⟩
theorem op_cIn (hu : X.A.units + 65 < cLine) : OpR X (compareOp .In) (rCmp (rc G X) .In) := by
  intro pins s σ H x y v u Q I rx ry h
  obtain ⟨α, S, d, e, b, rel, p1, p2, hb, q⟩ := h
  exact (in_ok (Q := fun _ _ _ => True) hu I rx ry rel p1 p2 (show inD S d e = some b from hb) _).1 fun s' I' => ⟨.bl b, H, I', rfl, q⟩
theorem op_cNotIn (hu : X.A.units + 65 < cLine) : OpR X (compareOp .NotIn) (rCmp (rc G X) .NotIn) := by
  intro pins s σ H x y v u Q I rx ry h
  obtain ⟨α, S, d, e, b, rel, p1, p2, hb, q⟩ := h
  have hb' : (inD S d e).map (!·) = some b := hb
  cases hi : inD S d e with
  | none => rw [hi] at hb'; cases hb'
  | some c =>
    rw [hi] at hb'
    cases hb'
    exact (in_ok (Q := fun _ _ _ => True) hu I rx ry rel p1 p2 hi _).2 fun s' I' => ⟨.bl (!c), H, I', rfl, q⟩
theorem op_cmp (hu : X.A.units + 65 < cLine) (op : CmpOp) : OpR X (compareOp op) (rCmp (rc G X) op) := by
  cases op with
  | Eq => exact op_cEq hu
  | NotEq => exact op_cNe hu
  | Lt => exact op_cLt hu
  | LtE => exact op_cLe hu
  | Gt => exact op_cGt hu
  | GtE => exact op_cGe hu
  | Is => exact op_cIs
  | IsNot => exact op_cIsNot
  | In => exact op_cIn hu
  | NotIn => exact op_cNotIn hu

/-! ### truth -/
theorem truV {R : RC} {α : Al} {H : Hp} {S : Store} {d : D} {v : V} {b : Bool} (rel : Rel R α H S) (p : Rep R α H d v) (h : truth S d = some b) : TruV R.K v H b := by
  unfold truth at h
  split at h
  · rename_i h1; obtain ⟨_, rfl⟩ := rep_non rel p h1; cases h; rfl
  · rename_i c h1; obtain ⟨_, rfl⟩ := rep_bl rel p h1; cases h; rfl
  · rename_i c h1; obtain ⟨_, rfl⟩ := rep_int rel p h1; cases h; rfl
  · rename_i c h1
    obtain ⟨_, rfl⟩ := rep_str rel p h1
    split at h
    · rename_i hc
      cases h
      refine ⟨hc, ?_⟩
      rw [Bool.eq_iff_iff]
      simp [bne_iff_ne]
    · cases h
  · rename_i ds h1
    obtain ⟨a, vs, rfl, t1, r1, _⟩ := rep_tup rel p h1
    cases h
    refine .inr (.inl ⟨vs, t1, ?_⟩)
    have e := r1.len
    cases ds <;> cases vs <;> first | rfl | cases e
  · rename_i ds h1
    obtain ⟨a, vs, rfl, t1, r1⟩ := rep_lst rel p h1
    cases h
    refine .inl ⟨vs, SqL.of t1, ?_⟩
    have e := r1.len
    cases ds <;> cases vs <;> first | rfl | cases e
  · cases h
end
end Fk
set_option Elab.async false
set_option linter.all false
set_option autoImplicit false
set_option maxRecDepth 100000
set_option maxHeartbeats 4000000
/-! Expressions -/
namespace Fk
open PySem L2 PySem.Spec PyProof.Rows

section
variable {R : RC} {α α' : Al} {H H' : Hp} {S S' : Store} {W : WX} {σ : L2.St} {fr : Bool} {r : Res}
theorem Good.mono {Q Q' : VK} (h : Good false R W σ α H r Q) (k : ∀ v H', Q v H' → Q' v H') : Good false R W σ α H r Q' := by
  cases r with
  | ok d S' =>
    have h' : Post R α H d S' Q := h
    have z : Post R α H d S' Q' := fun α' H' v e r p => k _ _ (h' α' H' v e r p)
    exact z
  | ex c fs ds S' => exact h
  | stuck => exact h
theorem GoodA.mono {Q Q' : List V → Hp → Prop} (h : GoodA R W σ α H r Q) (k : ∀ v H', Q v H' → Q' v H') : GoodA R W σ α H r Q' := by
  cases r with
  | ok d S' => exact fun α' H' v e r p => k _ _ (h α' H' v e r p)
  | ex c fs ds S' => exact h
  | stuck => exact h
theorem GoodT.mono {Q Q' : Bool → Hp → Prop} (h : GoodT R W σ α H r Q) (k : ∀ v H', Q v H' → Q' v H') : GoodT R W σ α H r Q' := by
  cases r with
  | ok d S' =>
    obtain ⟨b, h1, h2⟩ := h
    exact ⟨b, h1, fun α' H' e r => k _ _ (h2 α' H' e r)⟩
  | ex c fs ds S' => exact h
  | stuck => exact h
theorem Good.ofBl {d : Bool} {S : Store} {Q : VK} (h : Good fr R W σ α H (.ok (.bl d) S) Q) : Post R α H (.bl d) S Q := g_post' h rfl
theorem Good.fl {d : D} {S : Store} {Q : VK} (h : Good fr R W σ α H (.ok d S) Q) : Pst fr R α H d S Q := h
end

section
variable {G : GA} {T : Tab} {cl : Cl} {X : Cx} {W : WX} {e e1 e2 e3 : Expr} {a b c m : M} {pos : Pos} {t : TE} {es : List Expr}
theorem pe_or {t1 t2 : TE} (h1 : PE X e t1) (h2 : PE X e t2) : PE X e (fun σ H Q => t1 σ H Q ∨ t2 σ H Q) := ⟨fun pins s σ H Q I q => q.elim (h1.run pins s σ H Q I) (h2.run pins s σ H Q I)⟩

/-! ### operators -/
theorem s_bin {op : Operator} (ha : PE X e1 (tE0 G T cl X W a)) (hb : PE X e2 (tE0 G T cl X W b)) : PE X (.BinOp e1 op e2 pos) (tE G T cl X W (.bin op a b)) :=
  pe_imp (pe_op (op_bin (G := G)) ha hb) fun σ H Q ⟨α, env, S, r, s, g⟩ => by
    refine ⟨α, env, S, r, s, (Good.step g).mono fun x H1 ⟨α1, S1, d, e1, r1, p1, g1⟩ => ?_⟩
    refine ⟨α1, env, S1, r1, s.ext e1, (Good.step g1).mono fun y H2 ⟨α2, S2, d2, e2, r2, p2, g2⟩ => ?_⟩
    obtain ⟨z, h1, h2⟩ := Good.opt g2
    exact ⟨α2, S2, d, d2, z, r2, Rep.ext e2 _ _ p1, p2, h1, h2⟩
theorem s_neg (ha : PE X e1 (tE0 G T cl X W a)) : PE X (.UnaryOp .USub e1 pos) (tE G T cl X W (.neg a)) :=
  pe_imp (pe_un un_neg ha) fun σ H Q ⟨α, env, S, r, s, g⟩ => by
    refine ⟨α, env, S, r, s, (Good.step g).mono fun x H1 ⟨α1, S1, d, e1, r1, p1, g1⟩ => ?_⟩
    cases d with
    | int i =>
      unfold Rep at p1
      subst p1
      exact ⟨i, rfl, post_now (g_post g1) r1 (by unfold Rep; rfl)⟩
    | _ => exact g1.elim
theorem s_cmp {op : CmpOp} (hu : X.A.units + 65 < cLine) (ha : PE X e1 (tE0 G T cl X W a)) (hb : PE X e2 (tE0 G T cl X W b)) (hm : behindInMarks op e2 = false) : PE X (.Compare e1 [op] [e2] pos) (tE G T cl X W (.cmp op a b)) :=
  pe_imp (pe_cmpR (op_cmp (G := G) hu op) ha hb hm) fun σ H Q ⟨α, env, S, r, s, g⟩ => by
    refine ⟨α, env, S, r, s, (Good.step g).mono fun x H1 ⟨α1, S1, d, e1, r1, p1, g1⟩ => ?_⟩
    refine ⟨α1, env, S1, r1, s.ext e1, (Good.step g1).mono fun y H2 ⟨α2, S2, d2, e2, r2, p2, g2⟩ => ?_⟩
    obtain ⟨z, h1, h2⟩ := Good.optB g2
    exact ⟨α2, S2, d, d2, z, r2, Rep.ext e2 _ _ p1, p2, h1, h2.bl r2⟩
theorem st_cmp {op : CmpOp} (hu : X.A.units + 65 < cLine) (ha : PE X e1 (tE0 G T cl X W a)) (hb : PE X e2 (tE0 G T cl X W b)) (hm : behindInMarks op e2 = false) : PT X (.Compare e1 [op] [e2] pos) (tTs G T cl X W (.cmp op a b)) :=
  pt_imp (pt_cmpR (op_cmp (G := G) hu op) ha hb hm) fun σ H Q ⟨α, env, S, r, s, g⟩ => by
    refine ⟨α, env, S, r, s, (GoodT.step g).mono fun x H1 ⟨α1, S1, d, e1, r1, p1, g1⟩ => ?_⟩
    refine ⟨α1, env, S1, r1, s.ext e1, (GoodT.step g1).mono fun y H2 ⟨α2, S2, d2, e2, r2, p2, g2⟩ => ?_⟩
    obtain ⟨z, h1, h2⟩ := GoodT.optB g2
    exact ⟨α2, S2, d, d2, z, r2, Rep.ext e2 _ _ p1, p2, h1, z, rfl, h2 _ _ Ext.refl r2⟩
theorem s_chn {op op' : CmpOp} (hu : X.A.units + 65 < cLine) (ha : PE X e1 (tE0 G T cl X W a)) (hb : PE X e2 (tE0 G T cl X W b)) (hc : PE X e3 (tE0 G T cl X W c)) (hm : lastMarks [op, op'] [e2, e3] = false) :
    PE X (.Compare e1 [op, op'] [e2, e3] pos) (tE G T cl X W (.chn op op' a b c)) :=
  pe_imp (pe_chain (op_cmp (G := G) hu op) (op_cmp (G := G) hu op') ha hb hc hm) fun σ H Q ⟨α, env, S, r, s, g⟩ => by
    refine ⟨α, env, S, r, s, (Good.step g).mono fun x H1 ⟨α1, S1, d, e1, r1, p1, g1⟩ => ?_⟩
    refine ⟨α1, env, S1, r1, s.ext e1, (Good.step g1).mono fun y H2 ⟨α2, S2, d2, e2, r2, p2, g2⟩ => ?_⟩
    cases h1 : cmpD S2 op d d2 with
    | none => simp only [h1] at g2; exact g2.elim
    | some k =>
      refine ⟨α2, S2, d, d2, k, r2, Rep.ext e2 _ _ p1, p2, h1, k, rfl, ?_⟩
      cases k with
      | false =>
        simp only [h1] at g2
        exact iteF (post_now (g_post' g2 rfl) r2 (by unfold Rep; rfl))
      | true =>
        simp only [h1] at g2
        refine iteT ⟨α2, env, S2, r2, (s.ext e1).ext e2, (Good.step g2).mono fun z H3 ⟨α3, S3, d3, e3, r3, p3, g3⟩ => ?_⟩
        obtain ⟨w, h3, h4⟩ := Good.optB g3
        exact ⟨α3, S3, d2, d3, w, r3, Rep.ext e3 _ _ p2, p3, h3, h4.bl r3⟩
theorem st_chn {op op' : CmpOp} (hu : X.A.units + 65 < cLine) (ha : PE X e1 (tE0 G T cl X W a)) (hb : PE X e2 (tE0 G T cl X W b)) (hc : PE X e3 (tE0 G T cl X W c)) (hm : lastMarks [op, op'] [e2, e3] = false) :
    PT X (.Compare e1 [op, op'] [e2, e3] pos) (tTs G T cl X W (.chn op op' a b c)) :=
  pt_imp (pt_chain (op_cmp (G := G) hu op) (op_cmp (G := G) hu op') ha hb hc hm) fun σ H Q ⟨α, env, S, r, s, g⟩ => by
    refine ⟨α, env, S, r, s, (GoodT.step g).mono fun x H1 ⟨α1, S1, d, e1, r1, p1, g1⟩ => ?_⟩
    refine ⟨α1, env, S1, r1, s.ext e1, (GoodT.step g1).mono fun y H2 ⟨α2, S2, d2, e2, r2, p2, g2⟩ => ?_⟩
    cases h1 : cmpD S2 op d d2 with
    | none => simp only [h1] at g2; exact g2.elim
    | some k =>
      refine ⟨α2, S2, d, d2, k, r2, Rep.ext e2 _ _ p1, p2, h1, k, rfl, ?_⟩
      cases k with
      | false =>
        simp only [h1] at g2
        obtain ⟨bb, hb1, hb2⟩ := g2
        have e : false = bb := by simpa [truth, deref] using hb1
        subst e
        exact iteF ⟨false, rfl, hb2 _ _ Ext.refl r2⟩
      | true =>
        simp only [h1] at g2
        refine iteT ⟨α2, env, S2, r2, (s.ext e1).ext e2, (GoodT.step g2).mono fun z H3 ⟨α3, S3, d3, e3, r3, p3, g3⟩ => ?_⟩
        obtain ⟨w, h3, h4⟩ := GoodT.optB g3
        exact ⟨α3, S3, d2, d3, w, r3, Rep.ext e3 _ _ p2, p3, h3, w, rfl, h4 _ _ Ext.refl r3⟩

/-! ### and, or, not, if -/
theorem s_one {op : BoolOp} (ha : PE X e1 (tE0 G T cl X W a)) : PE X (.BoolOp op [e1] pos) (tE G T cl X W (.one a)) := pe_one ha
theorem s_and {rest : List Expr} (ha : PE X e1 (tE0 G T cl X W a)) (hb : PE X (.BoolOp .And (e2 :: rest) pos) (tE0 G T cl X W b)) : PE X (.BoolOp .And (e1 :: e2 :: rest) pos) (tE G T cl X W (.and a b)) :=
  pe_imp (pe_andT ha hb) fun σ H Q ⟨α, env, S, r, s, g⟩ => by
    refine ⟨α, env, S, r, s, (Good.step g).mono fun x H1 ⟨α1, S1, d, e1, r1, p1, g1⟩ => ?_⟩
    cases h1 : truth S1 d with
    | none => simp only [h1] at g1; exact g1.elim
    | some k =>
      refine ⟨k, truV r1 p1 h1, ?_⟩
      cases k with
      | true => simp only [h1] at g1; exact iteT ⟨α1, env, S1, r1, s.ext e1, g1⟩
      | false => simp only [h1] at g1; exact iteF (post_now (g_post g1) r1 p1)
theorem s_or {rest : List Expr} (ha : PE X e1 (tE0 G T cl X W a)) (hb : PE X (.BoolOp .Or (e2 :: rest) pos) (tE0 G T cl X W b)) : PE X (.BoolOp .Or (e1 :: e2 :: rest) pos) (tE G T cl X W (.or a b)) :=
  pe_imp (pe_orT ha hb) fun σ H Q ⟨α, env, S, r, s, g⟩ => by
    refine ⟨α, env, S, r, s, (Good.step g).mono fun x H1 ⟨α1, S1, d, e1, r1, p1, g1⟩ => ?_⟩
    cases h1 : truth S1 d with
    | none => simp only [h1] at g1; exact g1.elim
    | some k =>
      refine ⟨k, truV r1 p1 h1, ?_⟩
      cases k with
      | true => simp only [h1] at g1; exact iteT (post_now (g_post g1) r1 p1)
      | false => simp only [h1] at g1; exact iteF ⟨α1, env, S1, r1, s.ext e1, g1⟩
theorem s_not (ha : PE X e1 (tE0 G T cl X W a)) : PE X (.UnaryOp .Not e1 pos) (tE G T cl X W (.not a)) :=
  pe_imp (pe_notT ha) fun σ H Q ⟨α, env, S, r, s, g⟩ => by
    refine ⟨α, env, S, r, s, (Good.step g).mono fun x H1 ⟨α1, S1, d, e1, r1, p1, g1⟩ => ?_⟩
    obtain ⟨z, h1, h2⟩ := Good.optB g1
    cases h3 : truth S1 d with
    | none => rw [h3] at h1; cases h1
    | some k =>
      rw [h3] at h1
      cases h1
      exact ⟨k, truV r1 p1 h3, h2.bl r1⟩
theorem s_ite (hc : PT X e1 (tTs G T cl X W c)) (ha : PE X e2 (tE0 G T cl X W a)) (hb : PE X e3 (tE0 G T cl X W b)) : PE X (.IfExp e1 e2 e3 pos) (tE G T cl X W (.ite c a b)) :=
  pe_imp (pe_ifExp hc ha hb) fun σ H Q ⟨α, env, S, r, s, g⟩ => by
    refine ⟨α, env, S, r, s, ?_⟩
    have g' : Good false (rc G X) W σ α H ((ev T cl c env S).bind fun x S1 => match truth S1 x with
      | some true => ev T cl a env S1
      | some false => ev T cl b env S1
      | none => .stuck) Q := g
    cases h0 : ev T cl c env S with
    | stuck => rw [h0] at g'; exact g'
    | ex c fs ds S' => rw [h0] at g'; exact g'
    | ok d S1 =>
      rw [h0] at g'
      have g2 : Good false (rc G X) W σ α H (match truth S1 d with
        | some true => ev T cl a env S1
        | some false => ev T cl b env S1
        | none => .stuck) Q := g'
      cases h1 : truth S1 d with
      | none => simp only [h1] at g2; exact g2.elim
      | some k =>
        refine ⟨k, h1, fun α1 H1 e1 r1 => ?_⟩
        cases k with
        | true => simp only [h1] at g2; exact iteT ⟨α1, env, S1, r1, s.ext e1, g2.ext e1⟩
        | false => simp only [h1] at g2; exact iteF ⟨α1, env, S1, r1, s.ext e1, g2.ext e1⟩
/-- a test that is any value's truth -/
theorem st_any (ha : PE X e1 (tE0 G T cl X W a)) (he : ∀ whole, PySem.isTrue e1 X.env whole = (do let v ← whole; standAt e1.pos; holding [v] (truthy v))) : PT X e1 (tTs G T cl X W a) :=
  pt_imp (pt_truth ha he) fun σ H Q ⟨α, env, S, r, s, g⟩ => by
    refine ⟨α, env, S, r, s, ?_⟩
    cases h0 : ev T cl a env S with
    | stuck => rw [h0] at g; exact g
    | ex c fs ds S' => rw [h0] at g; exact g
    | ok d S1 =>
      rw [h0] at g
      obtain ⟨k, h1, h2⟩ := g
      have z : Post (rc G X) α H d S1 (fun x H' => ∃ k, TruV X.K x H' k ∧ Q k H') := fun α1 H1 v e1 r1 p1 => ⟨k, truV r1 p1 h1, h2 α1 H1 e1 r1⟩
      exact z
theorem st_not (ha : PT X e1 (tTs G T cl X W a)) : PT X (.UnaryOp .Not e1 pos) (tTs G T cl X W (.not a)) :=
  pt_imp (pt_not ha) fun σ H Q ⟨α, env, S, r, s, g⟩ => by
    refine ⟨α, env, S, r, s, ?_⟩
    have g' : GoodT (rc G X) W σ α H ((ev T cl a env S).bind fun x S1 => optB ((truth S1 x).map (!·)) S1) Q := g
    cases h0 : ev T cl a env S with
    | stuck => rw [h0] at g'; exact g'
    | ex c fs ds S' => rw [h0] at g'; exact g'
    | ok d S1 =>
      rw [h0] at g'
      obtain ⟨z, h1, h2⟩ := GoodT.optB (show GoodT (rc G X) W σ α H (optB ((truth S1 d).map (!·)) S1) Q from g')
      cases h3 : truth S1 d with
      | none => rw [h3] at h1; cases h1
      | some k =>
        rw [h3] at h1
        cases h1
        exact ⟨k, h3, h2⟩
theorem sw_one {op : BoolOp} (ha : PT X e1 (tTs G T cl X W a)) : PW X (.BoolOp op [e1] pos) (tTs G T cl X W (.one a)) := by
  cases op with
  | And => exact pw_and1 ha
  | Or => exact pw_or1 ha
theorem sw_and {rest : List Expr} (ha : PT X e1 (tTs G T cl X W a)) (hb : PW X (.BoolOp .And (e2 :: rest) pos) (tTs G T cl X W b)) : PW X (.BoolOp .And (e1 :: e2 :: rest) pos) (tTs G T cl X W (.and a b)) :=
  pw_imp (pw_and ha hb) fun σ H Q ⟨α, env, S, r, s, g⟩ => by
    refine ⟨α, env, S, r, s, ?_⟩
    have g' : GoodT (rc G X) W σ α H ((ev T cl a env S).bind fun x S1 => match truth S1 x with
      | some true => ev T cl b env S1
      | some false => .ok x S1
      | none => .stuck) Q := g
    cases h0 : ev T cl a env S with
    | stuck => rw [h0] at g'; exact g'
    | ex c fs ds S' => rw [h0] at g'; exact g'
    | ok d S1 =>
      rw [h0] at g'
      have g2 : GoodT (rc G X) W σ α H (match truth S1 d with
        | some true => ev T cl b env S1
        | some false => .ok d S1
        | none => .stuck) Q := g'
      cases h1 : truth S1 d with
      | none => simp only [h1] at g2; exact g2.elim
      | some k =>
        refine ⟨k, h1, fun α1 H1 e1 r1 => ?_⟩
        cases k with
        | true => simp only [h1] at g2; exact iteT ⟨α1, env, S1, r1, s.ext e1, g2.ext e1⟩
        | false =>
          simp only [h1] at g2
          obtain ⟨bb, hb1, hb2⟩ := g2
          rw [h1] at hb1
          cases hb1
          exact iteF (hb2 α1 H1 e1 r1)
theorem sw_or {rest : List Expr} (ha : PT X e1 (tTs G T cl X W a)) (hb : PW X (.BoolOp .Or (e2 :: rest) pos) (tTs G T cl X W b)) : PW X (.BoolOp .Or (e1 :: e2 :: rest) pos) (tTs G T cl X W (.or a b)) :=
  pw_imp (pw_or ha hb) fun σ H Q ⟨α, env, S, r, s, g⟩ => by
    refine ⟨α, env, S, r, s, ?_⟩
    have g' : GoodT (rc G X) W σ α H ((ev T cl a env S).bind fun x S1 => match truth S1 x with
      | some true => .ok x S1
      | some false => ev T cl b env S1
      | none => .stuck) Q := g
    cases h0 : ev T cl a env S with
    | stuck => rw [h0] at g'; exact g'
    | ex c fs ds S' => rw [h0] at g'; exact g'
    | ok d S1 =>
      rw [h0] at g'
      have g2 : GoodT (rc G X) W σ α H (match truth S1 d with
        | some true => .ok d S1
        | some false => ev T cl b env S1
        | none => .stuck) Q := g'
      cases h1 : truth S1 d with
      | none => simp only [h1] at g2; exact g2.elim
      | some k =>
        refine ⟨k, h1, fun α1 H1 e1 r1 => ?_⟩
        cases k with
        | false => simp only [h1] at g2; exact iteF ⟨α1, env, S1, r1, s.ext e1, g2.ext e1⟩
        | true =>
          simp only [h1] at g2
          obtain ⟨bb, hb1, hb2⟩ := g2
          rw [h1] at hb1
          cases hb1
          exact iteT (hb2 α1 H1 e1 r1)

/-! ### displays -/
theorem s_tup {k : Nat} (ha : PA X es (tAr G T cl X W a)) : PE X (.Tuple es k pos) (tE G T cl X W (.tup a)) :=
  pe_imp (pe_tup ha) fun σ H Q ⟨α, env, S, r, s, g⟩ => by
    refine ⟨α, env, S, r, s, (Good.stepA g).mono fun vs H1 ⟨α1, S1, d, e1, r1, p1, g1⟩ => ?_⟩
    split at g1
    · rename_i hc
      refine ⟨by rw [← p1.len]; exact hc, fun p n => ?_⟩
      exact (Good.fl g1).newTup r1 n p1
    · exact g1.elim
theorem s_lst (ha : PA X es (tAr G T cl X W a)) : PE X (.List es pos) (tE G T cl X W (.lst a)) :=
  pe_imp (pe_lst ha) fun σ H Q ⟨α, env, S, r, s, g⟩ => by
    refine ⟨α, env, S, r, s, (Good.stepA g).mono fun vs H1 ⟨α1, S1, d, e1, r1, p1, g1⟩ => ?_⟩
    split at g1
    · rename_i hc
      refine ⟨by rw [← p1.len]; exact hc, fun p n => ?_⟩
      exact (Good.fl g1).newLst r1 n p1
    · exact g1.elim
theorem s_emp {t : Bool} : PE X (.Dict [] [] pos) (tE G T cl X W (.emp t)) := by
  cases t with
  | false =>
    refine pe_imp pe_dnewK fun σ H Q ⟨α, env, S, r, s, g⟩ => fun p n => ?_
    have g' : PostF (rc G X) α H (.dct false [] []) S Q := g
    exact g' α H p (.dK []) Ext.refl r n ⟨[], ⟨[], rfl, rfl⟩, by unfold Reps; trivial⟩
  | true =>
    refine pe_imp pe_dnewT fun σ H Q ⟨α, env, S, r, s, g⟩ => fun p n => ?_
    have g' : PostF (rc G X) α H (.dct true [] []) S Q := g
    exact g' α H p (.dT []) Ext.refl r n ⟨[], ⟨[], rfl, rfl⟩, by unfold Reps; trivial⟩
/-- a new thing gets a handle -/
theorem thaw_imp (hf : isFresh a = true) {σ : L2.St} {H : Hp} {Q : VK} (h : tE G T cl X W (.thaw a) σ H Q) : tE G T cl X W a σ H Q := by
    obtain ⟨α, env, S, r, s, g⟩ := h
    refine ⟨α, env, S, r, s, ?_⟩
    have g' : Good false (rc G X) W σ α H ((ev T cl a env S).bind fun x S1 => if isMut x = true then .ok (.hnd S1.length) (S1 ++ [x]) else .stuck) Q := g
    cases h0 : ev T cl a env S with
    | stuck => rw [h0] at g'; exact g'.elim
    | ex c fs ds S' => rw [h0] at g'; exact g'
    | ok d S1 =>
      rw [h0] at g'
      have g2 : Good false (rc G X) W σ α H (if isMut d = true then .ok (.hnd S1.length) (S1 ++ [d]) else .stuck) Q := g'
      split at g2
      · rename_i hm
        have g3 : Post (rc G X) α H (.hnd S1.length) (S1 ++ [d]) Q := g2
        have z : PostF (rc G X) α H d S1 Q := fun α1 H1 p o e1 r1 n c => by
          refine g3 (α1.push p) _ _ (e1.trans (Ext.thaw r1 n)) (r1.thaw n c) ?_
          unfold Rep
          exact ⟨p, rfl, by rw [← r1.len]; simp [Al.push]⟩
        show Pst (isFresh a) (rc G X) α H d S1 Q
        unfold Pst
        rw [hf, hm]
        exact z
      · exact g2.elim
theorem s_thaw (ha : PE X e (tE G T cl X W a)) (hf : isFresh a = true) : PE X e (tE G T cl X W (.thaw a)) := pe_imp ha fun σ H Q h => thaw_imp hf h
end
end Fk
set_option Elab.async false
set_option linter.all false
set_option autoImplicit false
set_option maxRecDepth 100000
set_option maxHeartbeats 4000000
/-! Items, slices, fields, built-in calls -/
namespace Fk
open PySem L2 PySem.Spec PyProof.Rows

section
variable {G : GA} {T : Tab} {cl : Cl} {X : Cx} {W : WX} {e e1 e2 e3 : Expr} {a b c m : M} {pos : Pos} {t : TE} {es : List Expr}
theorem at_map {α β : Type} {xs : List α} {f : α → β} {i : Int} {v : α} (h : atI xs i = some v) : atI (xs.map f) i = some (f v) := by
  unfold atI at h ⊢
  rw [List.length_map]
  cases q : ixN xs.length i with
  | none => rw [q] at h; cases h
  | some j =>
    rw [q] at h
    show (xs.map f)[j]? = some (f v)
    rw [List.getElem?_map]
    have h' : xs[j]? = some v := h
    rw [h']
    rfl
theorem at_rep {R : RC} {α : Al} {H : Hp} {ds : List D} {vs : List V} {i : Int} {d : D} (r : Reps R α H ds vs) (h : atI ds i = some d) : ∃ v, atI vs i = some v ∧ Rep R α H d v := by
  unfold atI at h ⊢
  rw [← r.len]
  cases q : ixN ds.length i with
  | none => rw [q] at h; cases h
  | some j =>
    rw [q] at h
    exact r.get (show ds[j]? = some d from h)
theorem subD_get {S : Store} {x i r : D} (h : subD S x i = some r) :
    (∃ ds k, deref S x = .tup ds ∧ i = .int k ∧ atI ds k = some r) ∨ (∃ ds k, deref S x = .lst ds ∧ i = .int k ∧ atI ds k = some r) ∨
    (∃ ns k n, deref S x = .scr ns ∧ i = .int k ∧ atI ns k = some n ∧ r = .int n) ∨ (∃ s k c, deref S x = .str s ∧ i = .int k ∧ s.length ≤ sizeLine ∧ atI s.cps.toList k = some c ∧ r = .str ⟨#[c]⟩) ∨
    (∃ u ks vs k, deref S x = .dct u ks vs ∧ toKy u i = some k ∧ lookK k ks vs = some r) := by
  unfold subD at h
  split at h
  · rename_i ds k h1; exact .inl ⟨ds, k, h1, rfl, h⟩
  · rename_i ds k h1; exact .inr (.inl ⟨ds, k, h1, rfl, h⟩)
  · rename_i ns k h1
    cases q : atI ns k with
    | none => rw [q] at h; cases h
    | some n => rw [q] at h; cases h; exact .inr (.inr (.inl ⟨ns, k, n, h1, rfl, q, rfl⟩))
  · rename_i s k h1
    split at h
    · rename_i hc
      cases q : atI s.cps.toList k with
      | none => rw [q] at h; cases h
      | some n => rw [q] at h; cases h; exact .inr (.inr (.inr (.inl ⟨s, k, n, h1, rfl, hc, q, rfl⟩)))
    · cases h
  · rename_i i0 x0 x1 u ks vs h1
    cases q : toKy u i0 with
    | none => rw [q] at h; cases h
    | some k => rw [q] at h; exact .inr (.inr (.inr (.inr ⟨u, ks, vs, k, h1, q, h⟩)))
  · cases h
theorem pst_false {R : RC} {α : Al} {H : Hp} {d : D} {S : Store} {Q : VK} (h : Pst false R α H d S Q) : Post R α H d S Q := h
theorem s_sub (hu : X.A.units + 1 < cLine) (ha : PE X e1 (tE0 G T cl X W a)) (hb : PE X e2 (tE0 G T cl X W b)) (hs : PlainIx e2) : PE X (.Subscript e1 e2 pos) (tE G T cl X W (.sub a b)) :=
  pe_imp (pe_or (pe_ix (ix_seq (X := X)) ha hb hs) (pe_dget hu ha hb hs)) fun σ H Q ⟨α, env, S, r, s, g⟩ => by
    have g' : Good false (rc G X) W σ α H ((ev T cl a env S).bind fun x S1 => (ev T cl b env S1).bind fun y S2 => opt (subD S2 x y) S2) Q := g
    cases h1 : ev T cl a env S with
    | stuck => rw [h1] at g'; exact g'.elim
    | ex c fs ds S' => rw [h1] at g'; exact .inl ⟨α, env, S, r, s, by rw [h1]; exact g'⟩
    | ok d S1 =>
      rw [h1] at g'
      have g1 : Good false (rc G X) W σ α H ((ev T cl b env S1).bind fun y S2 => opt (subD S2 d y) S2) Q := g'
      cases h2 : ev T cl b env S1 with
      | stuck => rw [h2] at g1; exact g1.elim
      | ex c fs ds S' =>
        rw [h2] at g1
        refine .inl ⟨α, env, S, r, s, ?_⟩
        rw [h1]
        refine fun α1 H1 x e1 r1 p1 => ⟨α1, env, S1, r1, s.ext e1, ?_⟩
        rw [h2]
        exact Bad.ext g1 e1
      | ok d2 S2 =>
        rw [h2] at g1
        obtain ⟨w, hw, hp⟩ := Good.opt (show Good false (rc G X) W σ α H (opt (subD S2 d d2) S2) Q from g1)
        have hp' := pst_false hp
        have left : (∀ α2 H2 x y, Ext α H α2 H2 → Rel (rc G X) α2 H2 S2 → Rep (rc G X) α2 H2 d x → Rep (rc G X) α2 H2 d2 y → rIx X.K x y H2 Q) → tOp (rIx X.K) (tE0 G T cl X W a) (tE0 G T cl X W b) σ H Q := fun k => by
          refine ⟨α, env, S, r, s, ?_⟩
          rw [h1]
          refine fun α1 H1 x e1 r1 p1 => ⟨α1, env, S1, r1, s.ext e1, ?_⟩
          rw [h2]
          exact fun α2 H2 y e2 r2 p2 => k α2 H2 x y (e1.trans e2) r2 (Rep.ext e2 _ _ p1) p2
        rcases subD_get hw with ⟨ds, k, q1, rfl, q2⟩ | ⟨ds, k, q1, rfl, q2⟩ | ⟨ns, k, n, q1, rfl, q2, rfl⟩ | ⟨ds, k, n, q1, rfl, q2, q3, rfl⟩ | ⟨t', ks', vs', k, q1, q2, q3⟩
        · refine .inl (left fun α2 H2 x y e2 r2 p1 p2 => ?_)
          obtain ⟨p, vs, rfl, t1, t2, _⟩ := rep_tup r2 p1 q1
          unfold Rep at p2
          subst p2
          obtain ⟨v, hv, rv⟩ := at_rep t2 q2
          exact .inr (.inl ⟨p, vs, k, v, rfl, rfl, t1, hv, hp' α2 H2 v e2 r2 rv⟩)
        · refine .inl (left fun α2 H2 x y e2 r2 p1 p2 => ?_)
          obtain ⟨p, vs, rfl, t1, t2⟩ := rep_lst r2 p1 q1
          unfold Rep at p2
          subst p2
          obtain ⟨v, hv, rv⟩ := at_rep t2 q2
          exact .inl ⟨p, vs, k, v, rfl, rfl, SqL.of t1, hv, hp' α2 H2 v e2 r2 rv⟩
        · refine .inl (left fun α2 H2 x y e2 r2 p1 p2 => ?_)
          obtain ⟨p, rfl, t1⟩ := rep_scr r2 p1 q1
          unfold Rep at p2
          subst p2
          exact .inl ⟨p, _, k, .int n, rfl, rfl, t1.sq, at_map q2, hp' α2 H2 _ e2 r2 (by unfold Rep; rfl)⟩
        · refine .inl (left fun α2 H2 x y e2 r2 p1 p2 => ?_)
          obtain ⟨_, rfl⟩ := rep_str r2 p1 q1
          unfold Rep at p2
          subst p2
          exact .inr (.inr ⟨_, k, n, rfl, rfl, q2, q3, hp' α2 H2 _ e2 r2 (by unfold Rep; rfl)⟩)
        · refine .inr ⟨α, env, S, r, s, ?_⟩
          rw [h1]
          refine fun α1 H1 x e1 r1 p1 => ⟨α1, env, S1, r1, s.ext e1, ?_⟩
          rw [h2]
          refine fun α2 H2 y e2 r2 p2 => ?_
          obtain ⟨a', us, o, rfl, ho, hc, hr⟩ := rep_dct r2 (Rep.ext e2 _ _ p1) q1
          obtain ⟨ov, gg, _, hl, _⟩ := dget_of ho hc hr p2 q2
          obtain ⟨v, rfl, hv⟩ := hl w q3
          exact ⟨a', v, rfl, gg, hp' α2 H2 v (e1.trans e2) r2 hv⟩

/-! ### slices -/
def tPt (X : Cx) (W : WX) (m : M) : TO := fun σ H Q => ∃ α env S, Rel (rc G X) α H S ∧ Sl (rc G X) α H env σ ∧ match ev T cl m env S with
  | .ok d S' => ∃ o, partM m d = some o ∧ ∀ α' H', Ext α H α' H' → Rel (rc G X) α' H' S' → Q o H'
  | .ex c fs ds S' => Bad (rc G X) W σ α H c fs ds S'
  | .stuck => False
theorem s_some (ha : PE X e (tE0 G T cl X W a)) (hno : a ≠ .no) : PO X (some e) (tPt (G := G) (T := T) (cl := cl) X W a) := by
  have h := po_some ha
  refine ⟨fun pins s σ H Q I q => h.run pins s σ H Q I ?_⟩
  obtain ⟨α, env, S, r, sl, g⟩ := q
  refine ⟨α, env, S, r, sl, ?_⟩
  cases h1 : ev T cl a env S with
  | stuck => rw [h1] at g; exact g
  | ex c fs ds S' => rw [h1] at g; exact g
  | ok d S1 =>
    rw [h1] at g
    obtain ⟨o, ho, k⟩ := g
    have hk : ∃ i, d = .int i ∧ o = some i := by
      cases d <;> cases a <;> first
        | (cases ho; done)
        | (cases ho; exact ⟨_, rfl, rfl⟩)
        | exact absurd rfl hno
    obtain ⟨i, rfl, rfl⟩ := hk
    exact fun α1 H1 x e1 r1 p1 => by
      unfold Rep at p1
      subst p1
      exact ⟨i, rfl, k α1 H1 e1 r1⟩
theorem s_no : PO X none (tPt (G := G) (T := T) (cl := cl) X W .no) := ⟨fun pins s σ H Q I q => (po_none (X := X)).run pins s σ H Q I (by
  obtain ⟨α, env, S, r, sl, g⟩ := q
  obtain ⟨o, ho, k⟩ := (show ∃ o, partM .no .non = some o ∧ ∀ α' H', Ext α H α' H' → Rel (rc G X) α' H' S → Q o H' from g)
  cases ho
  exact k α H Ext.refl r)⟩
def rSlc (R : RC) : V → Option Int → Option Int → Hp → VK → Prop := fun x lo hi H Q => ∃ α S d r, Rel R α H S ∧ Rep R α H d x ∧ slcD S d lo hi = some r ∧ Pst true R α H r S Q
theorem slc_ok : SlR X (rSlc (rc G X)) := by
  intro pins s σ H x v vl vu lo hi sl Q I rx hs pl pu h
  obtain ⟨α, S, d, r, rel, p, hr, q⟩ := h
  unfold slcD at hr
  split at hr
  · rename_i ds h1
    obtain ⟨a, vs, rfl, t1, t2, t3⟩ := rep_tup rel p h1
    have ln := t2.len
    split at hr
    · rename_i hw
      cases hr
      refine sl_tupA pins s σ H _ v vl vu _ _ sl Q I rx hs pl pu ⟨a, vs, rfl, t1, fun _ => post_now (q.flat (by rcases t3 with ⟨e, _⟩ | e <;> rw [e] <;> rfl)) rel p, fun z => absurd (by rw [← ln]; exact hw) z⟩
    · rename_i hw
      cases hr
      refine sl_tupA pins s σ H _ v vl vu _ _ sl Q I rx hs pl pu ⟨a, vs, rfl, t1, fun z => absurd (by rw [ln]; exact z) hw, fun _ p' n => ?_⟩
      refine q.newTup rel n ?_
      unfold cutD cutV
      rw [ln]
      exact (t2.drop _).take _
  · rename_i ds h1
    cases hr
    obtain ⟨a, vs, rfl, t1, t2⟩ := rep_lst rel p h1
    refine sl_list pins s σ H _ v vl vu _ _ sl Q I rx hs pl pu ⟨a, vs, rfl, SqL.of t1, fun p' n => q.newLst rel n ?_⟩
    unfold cutD cutV
    rw [t2.len]
    exact (t2.drop _).take _
  · rename_i z h1
    obtain ⟨_, rfl⟩ := rep_str rel p h1
    split at hr
    · rename_i hc
      cases hr
      exact sl_str pins s σ H _ v vl vu _ _ sl Q I rx hs pl pu ⟨_, rfl, hc, q.str rel⟩
    · cases hr
  · cases hr
theorem s_slc {lo hi : Option Expr} {p2 : Pos} (ha : PE X e (tE0 G T cl X W a)) (hl : PO X lo (tPt (G := G) (T := T) (cl := cl) X W b)) (hh : PO X hi (tPt (G := G) (T := T) (cl := cl) X W c)) : PE X (.Subscript e (.Slice lo hi none p2) pos) (tE G T cl X W (.slc a b c)) :=
  pe_imp (pe_slice (slc_ok (G := G)) ha hl hh) fun σ H Q ⟨α, env, S, r, s, g⟩ => by
    refine ⟨α, env, S, r, s, (Good.step g).mono fun x H1 ⟨α1, S1, d, e1, r1, p1, g1⟩ => ?_⟩
    refine ⟨α1, env, S1, r1, s.ext e1, ?_⟩
    cases h2 : ev T cl b env S1 with
    | stuck => rw [h2] at g1; exact g1.elim
    | ex c fs ds S' => rw [h2] at g1; exact g1
    | ok l S2 =>
      rw [h2] at g1
      have g2 : Good true (rc G X) W σ α1 H1 (match partM b l with
        | some l => (ev T cl c env S2).bind fun h S3 => match partM c h with
          | some h => opt (slcD S3 d l h) S3
          | none => .stuck
        | none => .stuck) Q := g1
      cases hpl : partM b l with
      | none => rw [hpl] at g2; exact g2.elim
      | some lo' =>
      rw [hpl] at g2
      have g2 : Good true (rc G X) W σ α1 H1 ((ev T cl c env S2).bind fun h S3 => match partM c h with
          | some h => opt (slcD S3 d lo' h) S3
          | none => .stuck) Q := g2
      cases h3 : ev T cl c env S2 with
      | stuck => rw [h3] at g2; exact g2.elim
      | ex c' fs ds S' =>
        rw [h3] at g2
        exact ⟨lo', hpl, fun α2 H2 e2 r2 => ⟨α2, env, S2, r2, (s.ext e1).ext e2, by rw [h3]; exact Bad.ext g2 e2⟩⟩
      | ok h S3 =>
        rw [h3] at g2
        have g3 : Good true (rc G X) W σ α1 H1 (match partM c h with
          | some h => opt (slcD S3 d lo' h) S3
          | none => .stuck) Q := g2
        cases hph : partM c h with
        | none => rw [hph] at g3; exact g3.elim
        | some hi' =>
        rw [hph] at g3
        obtain ⟨w, hw, hp⟩ := Good.opt (show Good true (rc G X) W σ α1 H1 (opt (slcD S3 d lo' hi') S3) Q from g3)
        refine ⟨lo', hpl, fun α2 H2 e2 r2 => ⟨α2, env, S2, r2, (s.ext e1).ext e2, ?_⟩⟩
        rw [h3]
        refine ⟨hi', hph, fun α3 H3 e3 r3 => ?_⟩
        exact ⟨α3, S3, d, w, r3, Rep.ext (e2.trans e3) _ _ p1, hw, hp.ext (e2.trans e3)⟩
end
end Fk
set_option Elab.async false
set_option linter.all false
set_option autoImplicit false
set_option maxRecDepth 100000
set_option maxHeartbeats 4000000
/-! Fields, built-in calls -/
namespace Fk
open PySem L2 PySem.Spec PyProof.Rows

/-- what the written part says of the classes and their fields -/
structure ClOk (G : GA) (T : Tab) (K : PySem.W.Frag) : Prop where
  cls : ∀ c f, T.fld c f = true → Cls K (G.ca c) ∧ NoAttr K (G.ca c) f
section
variable {R : RC} {α : Al} {H : Hp}
theorem look_zip {f : Str} : ∀ {fs : List Str} {ds : List D} {vs : List V} {d : D}, Reps R α H ds vs → lookF f fs ds = some d → ∃ v, (fs.zip vs).lookup f = some v ∧ Rep R α H d v
  | [], _, _, _, _, h => by simp [lookF] at h
  | g :: fs, [], _, _, _, h => by simp [lookF] at h
  | g :: fs, d' :: ds, [], _, r, _ => by unfold Reps at r; exact r.elim
  | g :: fs, d' :: ds, v :: vs, d, r, h => by
    unfold Reps at r
    unfold lookF at h
    by_cases e : f = g
    · rw [if_pos e] at h
      cases h
      refine ⟨v, ?_, r.1⟩
      show List.lookup f ((g, v) :: fs.zip vs) = some v
      simp [List.lookup, e]
    · rw [if_neg e] at h
      obtain ⟨w, h1, h2⟩ := look_zip r.2 h
      refine ⟨w, ?_, h2⟩
      show List.lookup f ((g, v) :: fs.zip vs) = some w
      have e' : (f == g) = false := by simpa using e
      simp [List.lookup, e', h1]
theorem strs_rep : ∀ {ds : List D} {vs : List V} {ss : List Str}, Reps R α H ds vs → asStrs ds = some ss → vs = ss.map V.str
  | [], [], _, _, e => by unfold asStrs at e; cases e; rfl
  | [], _ :: _, _, h, _ => by unfold Reps at h; exact h.elim
  | _ :: _, [], _, h, _ => by unfold Reps at h; exact h.elim
  | d :: ds, v :: vs, ss, h, e => by
    unfold Reps at h
    cases d <;> unfold asStrs at e <;> first
      | (cases e; done)
      | (cases q : asStrs ds with
        | none => rw [q] at e; cases e
        | some k =>
          rw [q] at e
          cases e
          have e1 := strs_rep h.2 q
          have e2 := h.1
          unfold Rep at e2
          subst e1 e2
          rfl)
theorem bls_rep : ∀ {ds : List D} {vs : List V} {ss : List Bool}, Reps R α H ds vs → asBls ds = some ss → vs = ss.map V.bl
  | [], [], _, _, e => by unfold asBls at e; cases e; rfl
  | [], _ :: _, _, h, _ => by unfold Reps at h; exact h.elim
  | _ :: _, [], _, h, _ => by unfold Reps at h; exact h.elim
  | d :: ds, v :: vs, ss, h, e => by
    unfold Reps at h
    cases d <;> unfold asBls at e <;> first
      | (cases e; done)
      | (cases q : asBls ds with
        | none => rw [q] at e; cases e
        | some k =>
          rw [q] at e
          cases e
          have e1 := bls_rep h.2 q
          have e2 := h.1
          unfold Rep at e2
          subst e1 e2
          rfl)
theorem reps1 {d : D} {vs : List V} (h : Reps R α H [d] vs) : ∃ v, vs = [v] ∧ Rep R α H d v := by
  cases vs with
  | nil => unfold Reps at h; exact h.elim
  | cons v vs =>
    unfold Reps at h
    cases vs with
    | nil => exact ⟨v, rfl, h.1⟩
    | cons _ _ => have h2 := h.2; unfold Reps at h2; exact h2.elim
theorem reps2 {d e : D} {vs : List V} (h : Reps R α H [d, e] vs) : ∃ v u, vs = [v, u] ∧ Rep R α H d v ∧ Rep R α H e u := by
  cases vs with
  | nil => unfold Reps at h; exact h.elim
  | cons v vs =>
    unfold Reps at h
    obtain ⟨u, rfl, hu⟩ := reps1 h.2
    exact ⟨v, u, rfl, h.1, hu⟩
theorem key_rep (k : Key) : Rep R α H (ofKey k) (kV k) := by cases k <;> (unfold ofKey Rep; rfl)
theorem keys_rep : ∀ (ks : List Key), Reps R α H (ks.map ofKey) (ks.map kV)
  | [] => by unfold List.map Reps; trivial
  | k :: ks => by
    show Reps R α H (ofKey k :: ks.map ofKey) (kV k :: ks.map kV)
    unfold Reps
    exact ⟨key_rep k, keys_rep ks⟩
theorem kys_rep : ∀ {ks : List Ky} {vs : List V} {kvs : List (Key × V)}, zipK ks vs = some kvs → Reps R α H (ks.map ofKy) (kvs.map fun kv => kV kv.1)
  | [], [], _, e => by unfold zipK at e; cases e; unfold List.map Reps; trivial
  | [], _ :: _, _, e => by simp [zipK] at e
  | .inl k :: ks, [], _, e => by simp [zipK] at e
  | .inr k :: ks, [], _, e => by simp [zipK] at e
  | .inr k :: ks, _ :: _, _, e => by simp [zipK] at e
  | .inl k :: ks, v :: vs, kvs, e => by
    unfold zipK at e
    cases q : zipK ks vs with
    | none => rw [q] at e; cases e
    | some kv =>
      rw [q] at e
      cases e
      show Reps R α H (ofKey k :: ks.map ofKy) (kV k :: kv.map fun kv => kV kv.1)
      unfold Reps
      exact ⟨key_rep k, kys_rep q⟩
theorem kysT_rep : ∀ {ks : List Ky} {vs : List V} {kvs : List (List Key × V)} {bs : List Addr}, zipT ks vs = some kvs → IsKeys H kvs bs → Reps R α H (ks.map ofKy) (bs.map V.ref)
  | [], [], _, _, e, h => by unfold zipT at e; cases e; cases h; unfold List.map Reps; trivial
  | [], _ :: _, _, _, e, _ => by simp [zipT] at e
  | .inl k :: ks, [], _, _, e, _ => by simp [zipT] at e
  | .inr k :: ks, [], _, _, e, _ => by simp [zipT] at e
  | .inl k :: ks, _ :: _, _, _, e, _ => by simp [zipT] at e
  | .inr k :: ks, v :: vs, kvs, bs, e, h => by
    unfold zipT at e
    cases q : zipT ks vs with
    | none => rw [q] at e; cases e
    | some kv =>
      rw [q] at e
      cases e
      cases h with
      | @cons _ b _ bs h1 h2 =>
        show Reps R α H (.tup (k.map ofKey) :: ks.map ofKy) (.ref b :: bs.map V.ref)
        unfold Reps
        exact ⟨by unfold Rep; exact ⟨b, _, rfl, h1, keys_rep k⟩, kysT_rep q h2⟩
end

section
variable {G : GA} {T : Tab} {cl : Cl} {X : Cx} {W : WX} {e e1 e2 e3 : Expr} {a b c m : M} {pos : Pos} {t : TE} {es : List Expr}
theorem s_attr {f : Str} (C : ClOk G T X.K) (ha : PE X e (tE0 G T cl X W a)) (hb : attributeBase e f X.env (eval e X.env) = eval e X.env) : PE X (.Attribute e f pos) (tE G T cl X W (.attr a f)) :=
  pe_imp (pe_fld ha hb) fun σ H Q ⟨α, env, S, r, s, g⟩ => by
    refine ⟨α, env, S, r, s, (Good.step g).mono fun x H1 ⟨α1, S1, d, e1, r1, p1, g1⟩ => ?_⟩
    obtain ⟨z, h1, h2⟩ := Good.opt g1
    unfold attrD at h1
    split at h1
    · rename_i c fs ds h3
      split at h1
      · rename_i hf
        obtain ⟨p, dx, vs, rfl, hp, hl, hr⟩ := rep_obj r1 p1 h3
        obtain ⟨v, h4, h5⟩ := look_zip hr h1
        exact ⟨p, _, dx, _, v, rfl, hp, (C.cls c f hf).1, (C.cls c f hf).2, h4, post_now (pst_false h2) r1 h5⟩
      · cases h1
    · cases h1
def rBif (R : RC) (f : Str) : List V → Hp → VK → Prop := fun vs H Q => ∃ α S ds r, Rel R α H S ∧ Reps R α H ds vs ∧ bifD S f ds = some r ∧ Pst true R α H r S Q
theorem list_K (hc : X.calm = true) {pins : List (Addr × Obj)} {s : Shared} {σ : L2.St} {H : Hp} {p : Addr} {kvs : List (Key × V)} {Q : VK} (I : Inv X pins σ H s) (hk : Rd H p (.dK kvs))
    (q : ∀ l, H l = none → Q (.ref l) (upd H l (.lst (kvs.map fun kv => kV kv.1)))) : wpAny (model X.prog X.w) X.A (call (.type "list") [.ref p]) (EP X pins σ Q) X.xe s := by
  obtain ⟨z, lo, vs, rk, hd⟩ := dk_rd I.hok hk
  obtain ⟨ep, hat⟩ := hd.dictAt
  have hl : kvs.length = vs.length := Paired.length rk
  refine PySem.W.kdl_call (PySem.W.kdl_dict (kvs := vs) (ep := ep) (knd := mixKind X.prog X.w) lo) (I.ok.hd hc) hat (hl ▸ z) fun h' tk acc c kp hS it => ?_
  have lz : (kvs.map fun kv => kV kv.1).length ≤ sizeLine := by rw [List.length_map]; exact z
  have vv : Vals (kvs.map fun kv => kV kv.1) acc.toList := by
    have el : acc.toList.length = vs.length := by rw [Array.length_toList]; exact it.1
    refine vals_of_at (by rw [el, List.length_map]; exact hl) fun j x w h1 h2 => ?_
    obtain ⟨k, y, hky, hi⟩ := it.2 j w (by rw [← Array.getElem?_toList]; exact h2)
    have e1 : (kvs.map (·.1))[j]? = some k := by rw [KV.keys rk, List.getElem?_map, hky]; rfl
    rw [List.getElem?_map] at e1
    cases hj : kvs[j]? with
    | none => rw [hj] at e1; cases e1
    | some kv =>
      rw [hj] at e1
      cases e1
      rw [List.getElem?_map, hj] at h1
      cases h1
      exact keyIs_rel hi
  exact ⟨.ref s.heap.objs.size, _, I.laid (t' := tk) (o := .lst (kvs.map fun kv => kV kv.1)) kp (Nat.le_refl _) ⟨lz, acc.toList, c, vv, by rw [Array.toArray_toList]; exact hS⟩, rfl, q _ (I.hok.fresh (Nat.le_refl _))⟩
theorem len_T {pins : List (Addr × Obj)} {s : Shared} {σ : L2.St} {H : Hp} {p : Addr} {kvs : List (List Key × V)} {Q : VK} (I : Inv X pins σ H s) (hk : Rd H p (.dT kvs)) (q : Q (.int (kvs.length : Nat)) H) :
    wpAny (model X.prog X.w) X.A (call (.builtin "len") [.ref p]) (EP X pins σ Q) X.xe s := by
  obtain ⟨z, hd, ys, rel, dd⟩ := dt_rd I.hok hk
  have hl : kvs.length = ys.length := Paired.length rel
  rw [sizeLine_eq] at z
  refine PySem.call_len_dictH hd dd (by omega) ?_
  exact ⟨.int (kvs.length : Nat), H, I.tok _, ⟨_, by rw [hl]⟩, q⟩
theorem b_len : CallR X (.builtin "len") (rBif (rc G X) "len") := by
  intro pins s σ H vs us Q I rv h
  obtain ⟨α, S, ds, r, rel, rp, hb, q⟩ := h
  unfold bifD at hb
  rw [if_pos rfl] at hb
  split at hb
  · rename_i x
    obtain ⟨v, rfl, p⟩ := reps1 rp
    split at hb
    · rename_i xs h1
      cases hb
      obtain ⟨a, ws, rfl, t1, t2, _⟩ := rep_tup rel p h1
      exact call_len pins s σ H _ us Q I rv ⟨_, xs.length, rfl, .inr ⟨ws, t1, t2.len⟩, q.int rel⟩
    · rename_i xs h1
      cases hb
      obtain ⟨a, ws, rfl, t1, t2⟩ := rep_lst rel p h1
      exact call_len pins s σ H _ us Q I rv ⟨_, xs.length, rfl, .inl ⟨ws, SqL.of t1, t2.len⟩, q.int rel⟩
    · rename_i z h1
      obtain ⟨_, rfl⟩ := rep_str rel p h1
      split at hb
      · rename_i hz
        cases hb
        exact call_len pins s σ H _ us Q I rv ⟨_, z.length, rfl, ⟨hz, rfl⟩, q.int rel⟩
      · cases hb
    · rename_i u ks ws h1
      cases hb
      obtain ⟨a, us', o, rfl, ho, hc, hr⟩ := rep_dct rel p h1
      obtain ⟨u1, rfl, ru⟩ := vals1 rv
      cases ru
      cases u with
      | false =>
        obtain ⟨kvs, hz, rfl⟩ := hc
        have hl := (zipK_val (.inl 0) hr hz).2.2.2
        exact d_len I ho fun t s' I' => ⟨.int kvs.length, H, I', ⟨t, rfl⟩, by have := q.int rel; rw [← hl] at this; exact this⟩
      | true =>
        obtain ⟨kvs, hz, rfl⟩ := hc
        have hl := (zipT_val [] hr hz).2.2.2
        exact len_T I ho (by have := q.int rel; rw [← hl] at this; exact this)
    · rename_i ns h1
      cases hb
      obtain ⟨a, rfl, t1⟩ := rep_scr rel p h1
      exact call_len pins s σ H _ us Q I rv ⟨_, ns.length, rfl, .inl ⟨_, t1.sq, by rw [List.length_map]⟩, q.int rel⟩
    · cases hb
  · cases hb
theorem bif_tuple {S : Store} {ds : List D} {r : D} (h : bifD S "tuple" ds = some r) : ∃ x xs, ds = [x] ∧ (deref S x = .lst xs ∨ x = .tup xs) ∧ r = .tup xs := by
  unfold bifD at h
  rw [if_neg (by decide +kernel), if_pos rfl] at h
  split at h
  · rename_i x
    unfold tupArg at h
    split at h
    · rename_i xs h1; cases h; exact ⟨x, xs, rfl, .inl h1, rfl⟩
    · split at h
      · cases h; exact ⟨_, _, rfl, .inr rfl, rfl⟩
      · cases h
  · cases h
theorem b_tuple : CallR X (.type "tuple") (rBif (rc G X) "tuple") := by
  intro pins s σ H vs us Q I rv h
  obtain ⟨α, S, ds, r, rel, rp, hb, q⟩ := h
  obtain ⟨x, xs, rfl, h1, rfl⟩ := bif_tuple hb
  obtain ⟨v, rfl, p⟩ := reps1 rp
  rcases h1 with h1 | rfl
  · obtain ⟨a, ws, rfl, t1, t2⟩ := rep_lst rel p h1
    exact call_tuple_of pins s σ H _ us Q I rv ⟨a, ws, rfl, .inl ⟨SqL.of t1, fun l n => q.newTup rel n t2⟩⟩
  · have p' := p
    unfold Rep at p
    obtain ⟨a, ws, rfl, t1, t2⟩ := p
    exact call_tuple_of pins s σ H _ us Q I rv ⟨a, ws, rfl, .inr ⟨SqT.of t1, post_now (q.flat rfl) rel p'⟩⟩
theorem b_list (hc : X.calm = true) : CallR X (.type "list") (rBif (rc G X) "list") := by
  intro pins s σ H vs us Q I rv h
  obtain ⟨α, S, ds, r, rel, rp, hb, q⟩ := h
  unfold bifD at hb
  rw [if_neg (by decide +kernel), if_neg (by decide +kernel), if_pos rfl] at hb
  split at hb
  · rename_i x
    obtain ⟨v, rfl, p⟩ := reps1 rp
    split at hb
    · rename_i xs h1
      cases hb
      obtain ⟨a, ws, rfl, t1, t2, _⟩ := rep_tup rel p h1
      exact call_list_of pins s σ H _ us Q I rv ⟨a, ws, rfl, .inr t1, fun l n => q.newLst rel n t2⟩
    · rename_i xs h1
      cases hb
      obtain ⟨a, ws, rfl, t1, t2⟩ := rep_lst rel p h1
      exact call_list_of pins s σ H _ us Q I rv ⟨a, ws, rfl, .inl (SqL.of t1), fun l n => q.newLst rel n t2⟩
    · rename_i u ks ws h1
      cases hb
      obtain ⟨a, us', o, rfl, ho, hcc, hr⟩ := rep_dct rel p h1
      cases u with
      | false =>
        obtain ⟨kvs, hz, rfl⟩ := hcc
        obtain ⟨u1, rfl, ru⟩ := vals1 rv
        cases ru
        exact list_K hc I ho fun l n => q.newLst rel n (kys_rep hz)
      | true =>
        obtain ⟨kvs, hz, rfl⟩ := hcc
        exact call_list_dT hc pins s σ H _ us Q I rv ⟨a, kvs, rfl, ho, fun l bs n k => q.newLst rel n (kysT_rep hz k)⟩
    · cases hb
  · cases hb
theorem b_all (hc : X.calm = true) : CallR X (.builtin "all") (rBif (rc G X) "all") := by
  intro pins s σ H vs us Q I rv h
  obtain ⟨α, S, ds, r, rel, rp, hb, q⟩ := h
  unfold bifD at hb
  rw [if_neg (by decide +kernel), if_neg (by decide +kernel), if_neg (by decide +kernel), if_pos rfl] at hb
  split at hb
  · rename_i x
    obtain ⟨v, rfl, p⟩ := reps1 rp
    split at hb
    · rename_i xs h1
      cases hk : asBls xs with
      | none => rw [hk] at hb; cases hb
      | some bs =>
        rw [hk] at hb
        cases hb
        obtain ⟨a, ws, rfl, t1, t2⟩ := rep_lst rel p h1
        have e := bls_rep t2 hk
        subst e
        exact cr_all hc pins s σ H _ us Q I rv ⟨a, bs, rfl, SqL.of t1, q.bl rel⟩
    · cases hb
  · cases hb
theorem b_any (hc : X.calm = true) : CallR X (.builtin "any") (rBif (rc G X) "any") := by
  intro pins s σ H vs us Q I rv h
  obtain ⟨α, S, ds, r, rel, rp, hb, q⟩ := h
  unfold bifD at hb
  rw [if_neg (by decide +kernel), if_neg (by decide +kernel), if_neg (by decide +kernel), if_neg (by decide +kernel), if_pos rfl] at hb
  split at hb
  · rename_i x
    obtain ⟨v, rfl, p⟩ := reps1 rp
    split at hb
    · rename_i xs h1
      cases hk : asBls xs with
      | none => rw [hk] at hb; cases hb
      | some bs =>
        rw [hk] at hb
        cases hb
        obtain ⟨a, ws, rfl, t1, t2⟩ := rep_lst rel p h1
        have e := bls_rep t2 hk
        subst e
        exact cr_any hc pins s σ H _ us Q I rv ⟨a, bs, rfl, SqL.of t1, q.bl rel⟩
    · cases hb
  · cases hb
theorem b_int : CallR X (.type "int") (rBif (rc G X) "int") := by
  intro pins s σ H vs us Q I rv h
  obtain ⟨α, S, ds, r, rel, rp, hb, q⟩ := h
  unfold bifD at hb
  rw [if_neg (by decide +kernel), if_neg (by decide +kernel), if_neg (by decide +kernel), if_neg (by decide +kernel), if_neg (by decide +kernel), if_pos rfl] at hb
  split at hb
  · obtain ⟨v, rfl, p⟩ := reps1 rp
    unfold Rep at p
    subst p
    cases hb
    exact call_int1 pins s σ H _ us Q I rv (.inl ⟨_, rfl, q.int rel⟩)
  · obtain ⟨v, rfl, p⟩ := reps1 rp
    unfold Rep at p
    subst p
    cases hb
    exact call_int1 pins s σ H _ us Q I rv (.inr ⟨_, rfl, q.int rel⟩)
  · obtain ⟨v, rfl, p⟩ := reps1 rp
    unfold Rep at p
    subst p
    split at hb
    · rename_i z hz
      cases hk : PySem.intText? z with
      | none => rw [hk] at hb; cases hb
      | some n =>
        rw [hk] at hb
        cases hb
        exact call_int_str pins s σ H _ us Q I rv ⟨z, n, rfl, hk, hz, q.int rel⟩
    · cases hb
  · cases hb
theorem b_max (hc : X.calm = true) : CallR X (.builtin "max") (rBif (rc G X) "max") := by
  intro pins s σ H vs us Q I rv h
  obtain ⟨α, S, ds, r, rel, rp, hb, q⟩ := h
  unfold bifD at hb
  rw [if_neg (by decide +kernel), if_neg (by decide +kernel), if_neg (by decide +kernel), if_neg (by decide +kernel), if_neg (by decide +kernel), if_neg (by decide +kernel), if_neg (by decide +kernel), if_pos rfl] at hb
  split at hb
  · obtain ⟨v, u, rfl, p1, p2⟩ := reps2 rp
    unfold Rep at p1 p2
    subst p1 p2
    cases hb
    exact call_max2 hc pins s σ H _ us Q I rv ⟨_, _, rfl, q.int rel⟩
  · cases hb
theorem b_min (hc : X.calm = true) : CallR X (.builtin "min") (rBif (rc G X) "min") := by
  intro pins s σ H vs us Q I rv h
  obtain ⟨α, S, ds, r, rel, rp, hb, q⟩ := h
  unfold bifD at hb
  rw [if_neg (by decide +kernel), if_neg (by decide +kernel), if_neg (by decide +kernel), if_neg (by decide +kernel), if_neg (by decide +kernel), if_neg (by decide +kernel), if_neg (by decide +kernel), if_neg (by decide +kernel), if_pos rfl] at hb
  split at hb
  · obtain ⟨v, u, rfl, p1, p2⟩ := reps2 rp
    unfold Rep at p1 p2
    subst p1 p2
    cases hb
    exact call_min2 hc pins s σ H _ us Q I rv ⟨_, _, rfl, q.int rel⟩
  · cases hb
end
end Fk
set_option Elab.async false
set_option linter.all false
set_option autoImplicit false
set_option maxRecDepth 100000
set_option maxHeartbeats 4000000
/-! sorted, repr, str, isinstance, f-strings, methods of lists and texts -/
namespace Fk
open PySem L2 PySem.Spec PyProof.Rows

section
variable {R : RC} {α : Al} {H : Hp} {S : Store}
/-! ### sorted -/
theorem pyDs_map : ∀ {ds : List D} {ps : List PyData}, pyDs ds = some ps → ps = ds.map pyOr ∧ ∀ d ∈ ds, pyD d = some (pyOr d)
  | [], ps, h => by unfold pyDs at h; cases h; exact ⟨rfl, fun d hd => by cases hd⟩
  | d :: ds, ps, h => by
    unfold pyDs at h
    cases q1 : pyD d with
    | none => rw [q1] at h; cases h
    | some p =>
      cases q2 : pyDs ds with
      | none => rw [q1, q2] at h; cases h
      | some qs =>
        rw [q1, q2] at h
        cases h
        obtain ⟨e, k⟩ := pyDs_map q2
        have ed : pyOr d = p := by unfold pyOr; rw [q1]; rfl
        refine ⟨by rw [List.map_cons, ed, ← e], fun x hx => ?_⟩
        rcases List.mem_cons.mp hx with rfl | hx
        · rw [q1, ed]
        · exact k x hx
def RelP (u : Value) (p : D × V) : Prop := RelV p.2 u
theorem each_vals : ∀ {ds : List D} {vs : List V} {us : List Value}, ds.length = vs.length → Vals vs us → PySem.W.EachIs RelP us (ds.zip vs)
  | [], [], _, _, .nil => .nil
  | d :: ds, v :: vs, _, hl, .cons r t => .cons r (each_vals (by simpa using hl) t)
theorem vals_each : ∀ {ps : List (D × V)} {us : List Value}, PySem.W.EachIs RelP us ps → Vals (ps.map (·.2)) us
  | [], _, h => by cases h; exact .nil
  | p :: ps, _, h => by
    cases h with
    | cons r t => exact .cons r (vals_each t)
theorem reps_zip : ∀ {ds : List D} {vs : List V}, Reps R α H ds vs → ∀ p ∈ ds.zip vs, Rep R α H p.1 p.2
  | [], _, _, p, hp => by simp at hp
  | _ :: _, [], _, p, hp => by simp at hp
  | d :: ds, v :: vs, h, p, hp => by
    unfold Reps at h
    rw [List.zip_cons_cons, List.mem_cons] at hp
    rcases hp with rfl | hp
    · exact h.1
    · exact reps_zip h.2 p hp
theorem zip_reps : ∀ {ps : List (D × V)}, (∀ p ∈ ps, Rep R α H p.1 p.2) → Reps R α H (ps.map (·.1)) (ps.map (·.2))
  | [], _ => by unfold List.map Reps; trivial
  | p :: ps, h => by
    show Reps R α H (p.1 :: ps.map (·.1)) (p.2 :: ps.map (·.2))
    unfold Reps
    exact ⟨h p (List.mem_cons_self ..), zip_reps fun q hq => h q (List.mem_cons_of_mem _ hq)⟩
theorem sortD_get {ds es : List D} (h : sortD ds = some es) : ∃ ps, pyDs ds = some ps ∧ sortable ps = true ∧ es = ds.mergeSort (PySem.W.dataLe false pyOr) := by
  unfold sortD at h
  cases q : pyDs ds with
  | none => rw [q] at h; cases h
  | some ps =>
    rw [q] at h
    have h' : (if sortable ps = true then some (ds.mergeSort (PySem.W.dataLe false pyOr)) else none) = some es := h
    split at h'
    · rename_i hc; cases h'; exact ⟨ps, rfl, hc, rfl⟩
    · cases h'
end
section
variable {G : GA} {T : Tab} {cl : Cl} {X : Cx} {W : WX} {e e1 e2 e3 : Expr} {a b c m : M} {pos : Pos} {t : TE} {es : List Expr}
theorem each_reads {pins : List (Addr × Obj)} {s : Shared} {σ : L2.St} {H : Hp} {α : Al} (I : Inv X pins σ H s) : ∀ {ps : List (D × V)} {us : List Value}, (∀ p ∈ ps, Rep (rc G X) α H p.1 p.2 ∧ pyD p.1 = some (pyOr p.1)) → PySem.W.EachIs RelP us ps →
    PySem.W.EachIs (fun v b => ∃ as, Reads s.heap v (pyOr b.1) as) us ps
  | [], _, _, h => by cases h; exact .nil
  | p :: ps, _, k, h => by
    cases h with
    | cons r t =>
      obtain ⟨k1, k2⟩ := k p (List.mem_cons_self ..)
      exact .cons (Dp.reads I (pyOr p.1) p.2 _ (Rep.dp _ _ _ k1 k2) r) (each_reads I (fun q hq => k q (List.mem_cons_of_mem _ hq)) t)
theorem tupNe_get {p : PyData} (h : isTupNe p = true) : ∃ x r, p = .tuple (x :: r) := by
  unfold isTupNe at h
  split at h
  · exact ⟨_, _, rfl⟩
  · cases h
theorem plainP_get {p : PyData} (h : isPlainP p = true) : p ≠ .none ∧ ∀ xs, p ≠ .tuple xs := by
  unfold isPlainP at h
  split at h
  · cases h
  · cases h
  · rename_i h1 h2
    exact ⟨fun e => h1 e, fun xs e => h2 xs e⟩
theorem b_sorted (hu : X.A.units + 70 < cLine) : CallR X (.builtin "sorted") (rBif (rc G X) "sorted") := by
  intro pins s σ H vs us Q I rv h
  obtain ⟨α, S, ds, r, rel, rp, hb, q⟩ := h
  unfold bifD at hb
  iterate 10 rw [if_neg (by decide +kernel)] at hb
  rw [if_neg (by decide +kernel), if_pos rfl] at hb
  split at hb
  · rename_i x
    obtain ⟨v, rfl, p⟩ := reps1 rp
    split at hb
    · rename_i xs h1
      cases hs : sortD xs with
      | none => rw [hs] at hb; cases hb
      | some ys =>
        rw [hs] at hb
        cases hb
        obtain ⟨ps, hps, hso, rfl⟩ := sortD_get hs
        obtain ⟨ep, kp⟩ := pyDs_map hps
        obtain ⟨a, ws, rfl, t1, t2⟩ := rep_lst rel p h1
        obtain ⟨its, rvs, hl, hz⟩ := I.list (SqL.of (K := X.K) t1)
        have len := t2.len
        obtain ⟨u1, rfl, ru⟩ := vals1 rv
        cases ru
        unfold sortable at hso
        simp only [Bool.and_eq_true, Bool.or_eq_true, decide_eq_true_eq] at hso
        obtain ⟨al, so, sh, sz⟩ := hso
        have fstz : (xs.zip ws).map (fun b => pyOr b.1) = ps := by
          have e1 : (xs.zip ws).map (fun b => pyOr b.1) = ((xs.zip ws).map (·.1)).map pyOr := by rw [List.map_map]; rfl
          rw [e1, List.map_fst_zip (by omega), ep]
        have ea : PySem.W.EachIs RelP its (xs.zip ws) := each_vals len rvs
        have hm : ∀ p ∈ xs.zip ws, Rep (rc G X) α H p.1 p.2 ∧ pyD p.1 = some (pyOr p.1) := fun p hp => ⟨reps_zip t2 p hp, kp p.1 (List.of_mem_zip hp).1⟩
        refine PySem.W.sorted_data (enc := fun b : D × V => pyOr b.1) (R := RelP) hl.isList ea (each_reads (G := G) I hm ea) ?_ ?_ ?_ ?_ fun out hlen hout => ?_
        · rw [fstz]
          intro d hd d' hd'
          exact List.all_eq_true.mp (List.all_eq_true.mp al d hd) d' hd'
        · rw [fstz]
          rcases so with so | so
          · exact .inl fun d hd => tupNe_get (List.all_eq_true.mp so d hd)
          · exact .inr fun d hd => plainP_get (List.all_eq_true.mp so d hd)
        · rw [List.length_zip]
          have : ps.length = xs.length := by rw [ep, List.length_map]
          omega
        · intro b hb'
          have hd : pyOr b.1 ∈ ps := by rw [← fstz]; exact List.mem_map.mpr ⟨b, hb', rfl⟩
          have := SeqAt.depth_of_shaped (List.all_eq_true.mp sh _ hd)
          omega
        · obtain ⟨ep', he'⟩ := PyProof.Rows.sortedAll_at s.heap its out.toArray
          have ev := vals_each hout
          -- the pairs sorted are the things sorted
          have efst : ((xs.zip ws).mergeSort (PySem.W.dataLe false fun b => pyOr b.1)).map (·.1) = xs.mergeSort (PySem.W.dataLe false pyOr) := by
            have e2 := List.map_mergeSort (r := PySem.W.dataLe false fun b : D × V => pyOr b.1) (s := PySem.W.dataLe false pyOr) (f := Prod.fst) (l := xs.zip ws) (fun a _ b _ => rfl)
            rw [e2, List.map_fst_zip (by omega)]
          have mem : ∀ p ∈ (xs.zip ws).mergeSort (PySem.W.dataLe false fun b => pyOr b.1), Rep (rc G X) α H p.1 p.2 := fun p hp => (hm p ((List.mergeSort_perm _ _).mem_iff.mp hp)).1
          have rr := zip_reps mem
          rw [efst] at rr
          have lz : (((xs.zip ws).mergeSort (PySem.W.dataLe false fun b => pyOr b.1)).map (·.2)).length ≤ sizeLine := by
            rw [List.length_map, List.length_mergeSort, List.length_zip]
            omega
          exact ⟨.ref _, _, I.laid (t' := s.toks) (o := .lst (((xs.zip ws).mergeSort (PySem.W.dataLe false fun b => pyOr b.1)).map (·.2))) (fun _ _ => PyProof.Rows.sortedAll_old) (Nat.le_succ _)
            ⟨lz, out, ep', ev, he'⟩, rfl, q.newLst rel (I.hok.fresh (Nat.le_succ _)) rr⟩
    · cases hb
  · cases hb
/-! ### str, repr -/
theorem strOf_get {d : D} {z : Str} (h : strOf d = some z) : (d = .str z ∧ z.length ≤ sizeLine) ∨ ∃ i, d = .int i ∧ i.natAbs.log2 < 1920 ∧ z = toString i := by
  unfold strOf at h
  split at h
  · split at h
    · rename_i hc; cases h; exact .inl ⟨rfl, hc⟩
    · cases h
  · split at h
    · rename_i hc; cases h; exact .inr ⟨_, rfl, hc, rfl⟩
    · cases h
  · cases h
theorem b_str : CallR X (.type "str") (rBif (rc G X) "str") := by
  intro pins s σ H vs us Q I rv h
  obtain ⟨α, S, ds, r, rel, rp, hb, q⟩ := h
  unfold bifD at hb
  iterate 6 rw [if_neg (by decide +kernel)] at hb
  rw [if_pos rfl] at hb
  split at hb
  · rename_i d
    obtain ⟨v, rfl, p⟩ := reps1 rp
    cases hk : strOfI d with
    | none => rw [hk] at hb; cases hb
    | some z =>
      rw [hk] at hb
      cases hb
      unfold strOfI at hk
      split at hk
      · cases hk
        unfold Rep at p
        subst p
        obtain ⟨u, rfl, ru⟩ := vals1 rv
        cases (show u = Value.none from ru)
        exact PySem.P.str_of_none ⟨.str "None", H, I.tok _, ⟨_, rfl⟩, q.str rel⟩
      · split at hk
        · rename_i i hc
          cases hk
          unfold Rep at p
          subst p
          exact call_str_int pins s σ H _ us Q I rv ⟨_, rfl, hc, q.str rel⟩
        · cases hk
      · cases hk
  · cases hb
theorem seqP_get {p : PyData} (h : isSeqP p = true) : (∃ xs, p = .tuple xs) ∨ ∃ xs, p = .list xs := by
  unfold isSeqP at h
  split at h
  · exact .inl ⟨_, rfl⟩
  · exact .inr ⟨_, rfl⟩
  · cases h
theorem b_repr (hu : X.A.units + 70 < cLine) (hg : X.A.guards = some []) : CallR X (.builtin "repr") (rBif (rc G X) "repr") := by
  intro pins s σ H vs us Q I rv h
  obtain ⟨α, S, ds, r, rel, rp, hb, q⟩ := h
  unfold bifD at hb
  iterate 10 rw [if_neg (by decide +kernel)] at hb
  rw [if_pos rfl] at hb
  split at hb
  · rename_i d
    obtain ⟨v, rfl, p⟩ := reps1 rp
    cases hk : pyS S d with
    | none => rw [hk] at hb; cases hb
    | some z =>
      rw [hk] at hb
      have hb' : (if SeqAt.shaped z && (decide (z.shown.length ≤ sizeLine) && (z.showable && !z.hasDict)) then some (D.str z.shown) else none) = some r := hb
      split at hb'
      · rename_i hc
        cases hb'
        simp only [Bool.and_eq_true, decide_eq_true_eq, Bool.not_eq_true'] at hc
        obtain ⟨c1, c2, c3, c4⟩ := hc
        obtain ⟨u1, rfl, ru⟩ := vals1 rv
        obtain ⟨as, rd⟩ := Dp.reads I z v u1 (pyS_dp rel p hk) ru
        have hd := SeqAt.depth_of_shaped c1
        have fin : ∀ (h' : Heap) (u : Tok) (tk : Nat), (∀ b o, s.heap.get? b = some o → h'.get? b = some o) → EP X pins σ Q (.str z.shown u) { s with heap := h', toks := tk } := fun h' u tk k => ⟨.str z.shown, H, I.kept (t' := tk) k, ⟨u, rfl⟩, q.str rel⟩
        cases u1 with
        | ref a' => exact repr_of_reads' rd c3 (fun z' => by rw [c4] at z'; cases z') hg (by omega) (fun _ _ z => z) fin c2
        | none => cases rd; exact PySem.P.repr_of_none (fin s.heap s.toks _ fun _ _ z => z)
        | bool b => cases rd; exact PySem.P.repr_of_bool (fin s.heap s.toks _ fun _ _ z => z)
        | int i t => cases rd; exact PySem.P.repr_of_int (of_decide_eq_true c3) (fin s.heap s.toks _ fun _ _ z => z)
        | str x t => cases rd; exact PySem.P.repr_of_str (fin s.heap s.toks _ fun _ _ z => z) c2
        | _ => cases rd
      · cases hb'
  · cases hb
end
end Fk
set_option Elab.async false
set_option linter.all false
set_option autoImplicit false
set_option maxRecDepth 100000
set_option maxHeartbeats 4000000
/-! isinstance, f-strings, methods of lists and texts; built-in calls as expressions -/
namespace Fk
open PySem L2 PySem.Spec PyProof.Rows

section
variable {G : GA} {T : Tab} {cl : Cl} {X : Cx} {W : WX} {e e1 e2 e3 : Expr} {a b c m : M} {pos : Pos} {t : TE} {es : List Expr}
/-! ### calls of built-in functions -/
/-- what a built-in's name stands for -/
inductive BifV : Str → Value → Prop where
  | fn (x : Str) (id : String) (h : bootBuiltins x = some (.builtin id)) : BifV x (.builtin id)
  | ty (x : Str) (n : String) (h : bootBuiltins x = some (.type n)) : BifV x (.type n)
theorem s_bif {f : Str} {u : Value} {p : Pos} (hb : BifV f u) (hr : CallR X u (rBif (rc G X) f)) (hg : Gl X f) (hm : X.mg f = none) (ha : PA X (e :: es) (tAr G T cl X W a)) (hn : f ≠ "__name__") (hd : (f == ("__debug__" : Str)) = false)
    (he : starEach (e :: es) X.env = (false, eval e X.env) :: starEach es X.env) (hpl : (backTo pos (starEach es X.env)).any (·.1) = false) : PE X (.Call (.Name f p) (e :: es) [] pos) (tE G T cl X W (.bif f a)) := by
  have key : PE X (.Call (.Name f p) (e :: es) [] pos) (tCB (rBif (rc G X) f) (tAr G T cl X W a)) := by
    cases hb with
    | fn id h => exact pe_callB hr hg hm h ha hn hd he hpl
    | ty n h => exact pe_callTy hr hg hm h ha hn hd he hpl
  refine pe_imp key fun σ H Q ⟨α, env, S, r, s, g⟩ => ?_
  refine ⟨α, env, S, r, s, (Good.stepA g).mono fun vs H1 ⟨α1, S1, d, e1, r1, p1, g1⟩ => ?_⟩
  obtain ⟨z, h1, h2⟩ := Good.opt g1
  exact ⟨α1, S1, tupOf d, z, r1, p1, h1, h2⟩

/-! ### isinstance -/
theorem tyName_of {R : RC} {α : Al} {H : Hp} {S : Store} {d : D} {v : V} {n : String} (rel : Rel R α H S) (p : Rep R α H d v) (h : tyName (deref S d) = some n) : TyX R.K H v (.type n) := by
  cases hd : deref S d with
  | non => rw [hd] at h; cases h; obtain ⟨_, rfl⟩ := rep_non rel p hd; exact .base .non
  | bl b => rw [hd] at h; cases h; obtain ⟨_, rfl⟩ := rep_bl rel p hd; exact .base (.bl b)
  | int i => rw [hd] at h; cases h; obtain ⟨_, rfl⟩ := rep_int rel p hd; exact .base (.int i)
  | str z => rw [hd] at h; cases h; obtain ⟨_, rfl⟩ := rep_str rel p hd; exact .base (.str z)
  | tup ds =>
    rw [hd] at h; cases h
    obtain ⟨a, vs, rfl, _, _, c⟩ := rep_tup rel p hd
    rcases c with ⟨_, c⟩ | rfl
    · exact .base (.tup c)
    · unfold Rep at p
      obtain ⟨a', vs', e, ⟨o, its, k, h1, h2, _⟩, _⟩ := p
      cases e
      exact .kTuple h1 h2
  | lst ds =>
    rw [hd] at h; cases h
    obtain ⟨a, vs, rfl, c, _⟩ := rep_lst rel p hd
    exact .base (.lst c)
  | dct u ks ds =>
    cases u with
    | true => rw [hd] at h; cases h
    | false =>
      rw [hd] at h; cases h
      obtain ⟨a, vs, o, rfl, ho, ⟨kvs, _, rfl⟩, _⟩ := rep_dct rel p hd
      rcases ho with ho | ⟨ob, ho⟩
      · exact .base (.dK ho)
      · exact .fDict ho
  | _ => rw [hd] at h; cases h
theorem s_isi {n : String} {x2 : Str} {p p2 : Pos} (hg : Gl X "isinstance") (hm : X.mg "isinstance" = none) (ha : PE X e (tE0 G T cl X W a)) (hg2 : Gl X x2) (hm2 : X.mg x2 = none) (hv : bootBuiltins x2 = some (.type n)) (hn : x2 ≠ "__name__") (hd : (x2 == ("__debug__" : Str)) = false)
    (h1 : starEach [e, .Name x2 p2] X.env = (false, eval e X.env) :: starEach [.Name x2 p2] X.env) : PE X (.Call (.Name "isinstance" p) [e, .Name x2 p2] [] pos) (tE G T cl X W (.isi a n)) := by
  refine pe_imp (pe_callB (call_isi (X := X)) hg hm (by decide +kernel) (pa_cons ha (pa_cons (pe_bltn (v := .ty n) hg2 hm2 hv rfl hn hd) pa_nil (by rfl)) h1) (by decide +kernel) (by decide +kernel) h1 (by rfl)) fun σ H Q ⟨α, env, S, r, s, g⟩ => ?_
  refine ⟨α, env, S, r, s, (Good.step g).mono fun x H1 ⟨α1, S1, d, e1, r1, p1, g1⟩ => ?_⟩
  obtain ⟨z, h2, h3⟩ := Good.optB g1
  unfold isiD at h2
  cases q : tyName (deref S1 d) with
  | none => rw [q] at h2; cases h2
  | some k =>
    rw [q] at h2
    exact ⟨x, .ty n, .type k, .type n, z, rfl, .ty n, tyName_of r1 p1 q, kit_ty h2, h3.bl r1⟩

/-! ### f-strings -/
def tF (G : GA) (T : Tab) (cl : Cl) (X : Cx) (W : WX) (m : M) : TE := fun σ H Q => ∃ α env S, Rel (rc G X) α H S ∧ Sl (rc G X) α H env σ ∧ match ev T cl m env S with
  | .ok d S' => ∃ y, strOf d = some y ∧ ∀ α' H', Ext α H α' H' → Rel (rc G X) α' H' S' → Q (.str y) H'
  | .ex c fs ds S' => Bad (rc G X) W σ α H c fs ds S'
  | .stuck => False
theorem s_fmt (ha : PE X e (tE0 G T cl X W a)) : PE X (.FormattedValue e (-1) none pos) (tF G T cl X W a) :=
  pe_imp (pe_fmt ha) fun σ H Q ⟨α, env, S, r, s, g⟩ => by
    refine ⟨α, env, S, r, s, ?_⟩
    cases h1 : ev T cl a env S with
    | stuck => rw [h1] at g; exact g
    | ex c fs ds S' => rw [h1] at g; exact g
    | ok d S1 =>
      rw [h1] at g
      obtain ⟨y, hy, k⟩ := g
      exact fun α1 H1 x e1 r1 p1 => by
        rcases strOf_get hy with ⟨rfl, hz⟩ | ⟨i, rfl, hz, rfl⟩
        · unfold Rep at p1
          subst p1
          exact .inl ⟨y, rfl, hz, k α1 H1 e1 r1⟩
        · unfold Rep at p1
          subst p1
          exact .inr ⟨i, rfl, hz, k α1 H1 e1 r1⟩
theorem s_fcst {z : Str} {j : Nat} : PE X (.Constant (.str z) j pos) (tF G T cl X W (.str z)) :=
  pe_imp pe_str fun σ H Q ⟨α, env, S, r, s, g⟩ => by
    obtain ⟨y, hy, k⟩ := (show ∃ y, strOf (.str z) = some y ∧ ∀ α' H', Ext α H α' H' → Rel (rc G X) α' H' S → Q (.str y) H' from g)
    have e : y = z := by
      rcases strOf_get hy with ⟨e, _⟩ | ⟨i, e, _⟩
      · cases e; rfl
      · cases e
    subst e
    exact k α H Ext.refl r
inductive PF (G : GA) (T : Tab) (cl : Cl) (X : Cx) (W : WX) : List Expr → M → Prop where
  | nil : PF G T cl X W [] .nil
  | cons {e : Expr} {a : M} {es : List Expr} {r : M} (h : PE X e (tF G T cl X W a)) (k : PF G T cl X W es r) : PF G T cl X W (e :: es) (.fc a r)
def tFs (G : GA) (T : Tab) (cl : Cl) (X : Cx) (W : WX) : M → List TE
  | .fc a r => tF G T cl X W a :: tFs G T cl X W r
  | _ => []
theorem PF.pj {es : List Expr} {m : M} (h : PF G T cl X W es m) : PJ X es (tFs G T cl X W m) := by
  induction h with
  | nil => exact .nil
  | cons h k ih => exact .cons h ih
theorem fst_run {es : List Expr} {m : M} (h : PF G T cl X W es m) : ∀ (acc : Str) (α : Al) (env : Env') (S : Store) (σ : L2.St) (H : Hp) (Q : Str → Hp → Prop), Rel (rc G X) α H S → Sl (rc G X) α H env σ →
    (match ev T cl m env S with
      | .ok d S' => ∃ out, joinF (tupOf d) acc = some out ∧ ∀ α' H', Ext α H α' H' → Rel (rc G X) α' H' S' → Q out H'
      | .ex c fs ds S' => Bad (rc G X) W σ α H c fs ds S'
      | .stuck => False) → tJs (tFs G T cl X W m) acc σ H Q := by
  induction h with
  | nil =>
    intro acc α env S σ H Q r s g
    obtain ⟨out, h1, h2⟩ := (show ∃ out, joinF [] acc = some out ∧ ∀ α' H', Ext α H α' H' → Rel (rc G X) α' H' S → Q out H' from g)
    unfold joinF at h1
    cases h1
    exact h2 α H Ext.refl r
  | @cons e a es m2 h k ih =>
    intro acc α env S σ H Q r s g
    have ee : ev T cl (.fc a m2) env S = (ev T cl a env S).bind fun d S1 => match strOf d with
      | some y => match ev T cl m2 env S1 with
        | .ok ds S2 => .ok (.tup (.str y :: tupOf ds)) S2
        | _ => .stuck
      | none => .stuck := by rfl
    rw [ee] at g
    refine ⟨α, env, S, r, s, ?_⟩
    cases h1 : ev T cl a env S with
    | stuck => rw [h1] at g; exact g
    | ex c fs ds S' => rw [h1] at g; exact g
    | ok d S1 =>
      rw [h1] at g
      cases h2 : strOf d with
      | none => simp only [Res.bind, h2] at g
      | some y =>
        simp only [Res.bind, h2] at g
        refine ⟨y, h2, fun α1 H1 e1 r1 => ?_⟩
        cases h3 : ev T cl m2 env S1 with
        | stuck => rw [h3] at g; exact g.elim
        | ex c fs ds S' => rw [h3] at g; exact g.elim
        | ok d2 S2 =>
          rw [h3] at g
          obtain ⟨out, h4, h5⟩ := (show ∃ out, joinF (.str y :: tupOf d2) acc = some out ∧ ∀ α' H', Ext α H α' H' → Rel (rc G X) α' H' S2 → Q out H' from g)
          unfold joinF at h4
          split at h4
          · rename_i hc
            refine ⟨y, rfl, hc, ih (acc ++ y) α1 env S1 σ H1 Q r1 (s.ext e1) ?_⟩
            rw [h3]
            exact ⟨out, h4, fun α2 H2 e2 r2 => h5 α2 H2 (e1.trans e2) r2⟩
          · cases h4
theorem s_fst {v1 v2 : Expr} {rest : List Expr} {as : M} (h : PF G T cl X W (v1 :: v2 :: rest) as) : PE X (.JoinedStr (v1 :: v2 :: rest) pos) (tE G T cl X W (.fst as)) :=
  pe_imp (pe_joined h.pj) fun σ H Q ⟨α, env, S, r, s, g⟩ => by
    refine fst_run h Str.empty α env S σ H _ r s ?_
    have g' : Good false (rc G X) W σ α H ((ev T cl as env S).bind fun ds S1 => opt ((joinF (tupOf ds) Str.empty).map .str) S1) Q := g
    cases h1 : ev T cl as env S with
    | stuck => rw [h1] at g'; exact g'
    | ex c fs ds S' => rw [h1] at g'; exact g'
    | ok d S1 =>
      rw [h1] at g'
      obtain ⟨z, h2, h3⟩ := Good.opt (show Good false (rc G X) W σ α H (opt ((joinF (tupOf d) Str.empty).map .str) S1) Q from g')
      cases h4 : joinF (tupOf d) Str.empty with
      | none => rw [h4] at h2; cases h2
      | some out =>
        rw [h4] at h2
        cases h2
        exact ⟨out, h4, fun α1 H1 e1 r1 => (show Post (rc G X) α H (.str out) S1 Q from h3) α1 H1 _ e1 r1 (by unfold Rep; rfl)⟩

/-! ### methods of lists and texts -/
def bimT (m : Str) : String := if m = "join" ∨ m = "split" then "str" else if m = "get" then "dict" else "list"
/-- what a method does -/
def rBim (R : RC) (m : Str) : V → List V → Hp → VK → Prop := fun x vs H Q => ∃ α S d ds r S', Rel R α H S ∧ Rep R α H d x ∧ Reps R α H ds vs ∧ bimD S d m ds = some (r, S') ∧ Pst (decide (m = "split")) R α H r S' Q
theorem s_bim {m : Str} {T' id : String} {o : Expr} {apos cpos : Pos} (hT : bimT m = T') (pa : PlainAttrs T') (slot : Slot T' m id) (hty : typeOf (.builtin id) = pure (.type "method_descriptor")) (hm : MtR X id (rBim (rc G X) m)) (hlist : T' ≠ "dict")
    (ho : PE X o (tE0 G T cl X W a)) (ha : PA X (e :: es) (tAr G T cl X W b)) (h1 : attributeBase o m X.env (eval o X.env) = eval o X.env)
    (h2 : ((backTo cpos (starEach (e :: es) X.env)).all (fun x => !x.fst) && (backToKw cpos (keywordEach [] X.env)).all (fun x => x.fst.isSome) && decide ((e :: es).length + ([] : List Keyword).length + (if ([] : List Keyword).isEmpty = true then 0 else 1) < 30)) = true)
    (h3 : (apos.endLine == cpos.line) = true) (h4 : starEach (e :: es) X.env = (false, eval e X.env) :: starEach es X.env) (h5 : (backTo cpos (starEach es X.env)).any (·.1) = false) :
    PE X (.Call (.Attribute o m apos) (e :: es) [] cpos) (tE G T cl X W (.bim a m b)) := by
  refine pe_imp (pe_bm pa slot hty hm ho ha h1 h2 h3 h4 h5) fun σ H Q ⟨α, env, S, r, s, g⟩ => ?_
  refine ⟨α, env, S, r, s, (Good.step g).mono fun x H1 ⟨α1, S1, d, e1, r1, p1, g1⟩ => ?_⟩
  cases hk : bimK S1 d m with
  | false => rw [hk] at g1; exact g1.elim
  | true =>
    rw [hk] at g1
    have g1 : Good (decide (m = "split")) (rc G X) W σ α1 H1 ((ev T cl b env S1).bind fun ds S2 => match bimD S2 d m (tupOf ds) with
      | some (d, S3) => .ok d S3
      | none => .stuck) Q := g1
    refine ⟨?_, α1, env, S1, r1, s.ext e1, (Good.stepA g1).mono fun vs H2 ⟨α2, S2, d2, e2, r2, p2, g2⟩ => ?_⟩
    · subst hT
      unfold bimK at hk
      split at hk
      · rename_i xs hd
        obtain ⟨p, ws, rfl, t1, _⟩ := rep_lst r1 p1 hd
        have e : bimT m = "list" := by
          unfold bimT
          have hm' := of_decide_eq_true hk
          rcases hm' with rfl | rfl | rfl <;> decide +kernel
        rw [e]
        exact .inl ⟨rfl, ws, SqL.of t1⟩
      · rename_i z hd
        obtain ⟨_, rfl⟩ := rep_str r1 p1 hd
        have e : bimT m = "str" := by
          unfold bimT
          rw [if_pos (of_decide_eq_true hk)]
        rw [e]
        exact rfl
      · have e : bimT m = "dict" := by
          unfold bimT
          have hm' := of_decide_eq_true hk
          rcases hm' with rfl <;> decide +kernel
        exact absurd e hlist
      · cases hk
    · cases hq : bimD S2 d m (tupOf d2) with
      | none => rw [hq] at g2; exact g2.elim
      | some z =>
        rw [hq] at g2
        obtain ⟨r', S3⟩ := z
        exact ⟨α2, S2, d, tupOf d2, r', S3, r2, Rep.ext e2 _ _ p1, p2, hq, g2⟩
theorem Post.mutN {R : RC} {α : Al} {H : Hp} {S : Store} {Q : VK} {n : Nat} {a : Addr} {o : HO} {d c : D} {v : V} (h : Post R α H d (S.set n c) Q) (r : Rel R α H S) (hn : α.hs[n]? = some a) (hc : CellV R α H o c) (hd : Rep R α H d v) : Q v (upd H a o) :=
  h α _ v (Ext.mut r hn) (r.mut hn hc) (Rep.ext (Ext.mut r hn) _ _ hd)
theorem m_append : MtR X "list.append" (rBim (rc G X) "append") := by
  intro pins s σ H x vs v us Q I rx rv h
  obtain ⟨α, S, d, ds, r, S', rel, p1, p2, hb, q⟩ := h
  unfold bimD at hb
  rw [if_pos rfl] at hb
  split at hb
  · rename_i n xs d1 hd
    split at hb
    · rename_i hz
      cases hb
      obtain ⟨a, ws, rfl, hn, t1, t2⟩ := rep_lstH rel p1 hd
      obtain ⟨w, rfl, p3⟩ := reps1 p2
      refine mt_append pins s σ H _ _ v us Q I rx rv ⟨a, ws, w, rfl, rfl, t1, by rw [← t2.len]; exact hz, ?_⟩
      exact (pst_false (show Pst false _ _ _ _ _ _ from q)).mutN rel hn ⟨_, rfl, t2.append (by unfold Reps; exact ⟨p3, by unfold Reps; trivial⟩)⟩ (by unfold Rep; rfl)
    · cases hb
  · cases hb
theorem m_extend : MtR X "list.extend" (rBim (rc G X) "extend") := by
  intro pins s σ H x vs v us Q I rx rv h
  obtain ⟨α, S, d, ds, r, S', rel, p1, p2, hb, q⟩ := h
  unfold bimD at hb
  rw [if_neg (by decide +kernel), if_pos rfl] at hb
  split at hb
  · rename_i n xs d1 hd
    split at hb
    · rename_i ys hd1
      split at hb
      · rename_i hz
        cases hb
        obtain ⟨a, ws, rfl, hn, t1, t2⟩ := rep_lstH rel p1 hd
        obtain ⟨w, rfl, p3⟩ := reps1 p2
        obtain ⟨b, zs, rfl, u1, u2⟩ := rep_lst rel p3 hd1
        refine mt_extend pins s σ H _ _ v us Q I rx rv ⟨a, b, ws, zs, rfl, rfl, t1, u1, by rw [← t2.len, ← u2.len]; exact hz.1, ?_⟩
        exact (pst_false (show Pst false _ _ _ _ _ _ from q)).mutN rel hn ⟨_, rfl, t2.append u2⟩ (by unfold Rep; rfl)
      · cases hb
    · cases hb
  · cases hb
theorem m_pop : MtR X "list.pop" (rBim (rc G X) "pop") := by
  intro pins s σ H x vs v us Q I rx rv h
  obtain ⟨α, S, d, ds, r, S', rel, p1, p2, hb, q⟩ := h
  unfold bimD at hb
  rw [if_neg (by decide +kernel), if_neg (by decide +kernel), if_pos rfl] at hb
  split at hb
  · rename_i n xs i hd
    split at hb
    · rename_i hz
      cases hx : xs[i.toNat]? with
      | none => rw [hx] at hb; cases hb
      | some y =>
        rw [hx] at hb
        cases hb
        obtain ⟨a, ws, rfl, hn, t1, t2⟩ := rep_lstH rel p1 hd
        obtain ⟨w, rfl, p3⟩ := reps1 p2
        unfold Rep at p3
        subst p3
        obtain ⟨yv, hy, hyr⟩ := t2.get hx
        obtain ⟨zl, _⟩ := I.lstM t1
        rw [sizeLine_eq] at zl
        have ln := t2.len
        have sq : seqIndex? i ws.length = some i.toNat := (ixN_seq (n := ws.length) (i := i) (j := i.toNat) (by unfold ixN; rw [if_pos hz.1, if_pos (by omega)])).1
        refine mt_popAt pins s σ H _ _ v us Q I rx rv ⟨a, ws, i, i.toNat, yv, rfl, rfl, t1, by omega, by omega, sq, hy, ?_⟩
        exact (pst_false (show Pst false _ _ _ _ _ _ from q)).mutN rel hn ⟨_, rfl, t2.erase _⟩ hyr
    · cases hb
  · cases hb
theorem m_join : MtR X "str.join" (rBim (rc G X) "join") := by
  intro pins s σ H x vs v us Q I rx rv h
  obtain ⟨α, S, d, ds, r, S', rel, p1, p2, hb, q⟩ := h
  unfold bimD at hb
  iterate 3 rw [if_neg (by decide +kernel)] at hb
  rw [if_pos rfl] at hb
  split at hb
  · rename_i z d1
    unfold Rep at p1
    subst p1
    obtain ⟨w, rfl, p3⟩ := reps1 p2
    cases h1 : seqOf S d1 with
    | none => rw [h1] at hb; cases hb
    | some xs =>
      rw [h1] at hb
      cases h2 : asStrs xs with
      | none => rw [Option.bind_some, h2] at hb; cases hb
      | some ys =>
        rw [Option.bind_some, h2, Option.bind_some] at hb
        split at hb
        · rename_i hz
          cases hb
          have q' := pst_false (show Pst false _ _ _ _ _ _ from q)
          unfold seqOf at h1
          split at h1
          · rename_i xs' hd
            cases h1
            obtain ⟨a, ws, rfl, t1, t2, _⟩ := rep_tup rel p3 hd
            have e := strs_rep t2 h2
            subst e
            exact mt_join pins s σ H _ _ v us Q I rx rv ⟨z, a, ys, rfl, rfl, .inr t1, hz, post_now q' rel (by unfold Rep; rfl)⟩
          · rename_i xs' hd
            cases h1
            obtain ⟨a, ws, rfl, t1, t2⟩ := rep_lst rel p3 hd
            have e := strs_rep t2 h2
            subst e
            exact mt_join pins s σ H _ _ v us Q I rx rv ⟨z, a, ys, rfl, rfl, .inl (SqL.of t1), hz, post_now q' rel (by unfold Rep; rfl)⟩
          · cases h1
        · cases hb
  · cases hb
theorem reps_strs {R : RC} {α : Al} {H : Hp} : ∀ (ys : List Str), Reps R α H (ys.map D.str) (ys.map V.str)
  | [] => by unfold List.map Reps; trivial
  | y :: ys => by
    show Reps R α H (D.str y :: ys.map D.str) (V.str y :: ys.map V.str)
    unfold Reps
    exact ⟨by unfold Rep; rfl, reps_strs ys⟩
theorem m_split : MtR X "str.split" (rBim (rc G X) "split") := by
  intro pins s σ H x vs v us Q I rx rv h
  obtain ⟨α, S, d, ds, r, S', rel, p1, p2, hb, q⟩ := h
  unfold bimD at hb
  iterate 4 rw [if_neg (by decide +kernel)] at hb
  rw [if_pos rfl] at hb
  split at hb
  · rename_i z t1
    unfold Rep at p1
    subst p1
    obtain ⟨w, rfl, p3⟩ := reps1 p2
    unfold Rep at p3
    subst p3
    split at hb
    · rename_i hz
      cases hb
      have q' : Pst true (rc G X) α H (.lst ((Txt.split z t1).map .str)) S Q := q
      exact mt_split pins s σ H _ _ v us Q I rx rv ⟨z, t1, rfl, rfl, by simpa using hz.1, hz.2, fun p n => q'.newLst rel n (reps_strs _)⟩
    · cases hb
  · cases hb
end
end Fk
set_option Elab.async false
set_option linter.all false
set_option autoImplicit false
set_option maxRecDepth 100000
set_option maxHeartbeats 4000000
/-! What is walked -/
namespace Fk
open PySem L2 PySem.Spec PyProof.Rows

/-- J gives the things xs, as long as P and the guarded handles stay -/
structure WalkI (R : RC) (J : It) (xs : List D) (gs : List Nat) (S0 : Store) (P : Al → Hp → Prop) : Prop where
  go : ∀ α H S i, Rel R α H S → P α H → stays gs S0 S = true → i < xs.length → J.go i H
  stop : ∀ α H S, Rel R α H S → P α H → stays gs S0 S = true → J.stop xs.length H
  yld : ∀ α H S i v H', Rel R α H S → P α H → stays gs S0 S = true → J.yld i H v H' → ∀ d, xs[i]? = some d → Ext α H α H' ∧ Rel R α H' S ∧ Rep R α H' d v
  pst : ∀ α H α' H', P α H → Wk α H α' H' → P α' H'
def iIt (G : GA) (T : Tab) (cl : Cl) (X : Cx) (W : WX) (m : M) : TI := fun σ H Q => ∃ α env S, Rel (rc G X) α H S ∧ Sl (rc G X) α H env σ ∧ match ev T cl m env S with
  | .ok d S1 => ∃ xs, itemsM m S1 d = some xs ∧ ∀ α' H' J P, Ext α H α' H' → Rel (rc G X) α' H' S1 → WalkI (rc G X) J xs (guardsM m d) S1 P → P α' H' → Q J H'
  | .ex c fs ds S' => Bad (rc G X) W σ α H c fs ds S'
  | .stuck => False

theorem stays_get {S0 S : Store} {n : Nat} {c : D} {gs : List Nat} (h : stays gs S0 S = true) (hn : n ∈ gs) (hc : S0[n]? = some c) : S[n]? = some c := by
  have e := D.beqs_eq _ _ (List.all_eq_true.mp h n hn)
  rw [hc] at e
  cases q : S[n]? with
  | none => rw [q] at e; cases e
  | some d =>
    rw [q] at e
    have e' : [c] = [d] := e
    cases e'
    rfl
theorem stays_nil {S0 S : Store} : stays [] S0 S = true := rfl
theorem stays_self {S0 : Store} (gs : List Nat) : stays gs S0 S0 = true := List.all_eq_true.mpr fun n _ => D.beqs_self _
section
variable {R : RC} {α : Al} {H : Hp} {S S0 : Store} {d : D} {v : V}
/-- what is walked stays readable: a list of xs -/
def PLs (R : RC) (d : D) (a : Addr) (xs : List D) (α : Al) (H : Hp) : Prop := match d with
  | .hnd n => α.hs[n]? = some a
  | _ => ∃ ws, a ∉ α ∧ H a = some (.lst ws) ∧ Reps R α H xs ws
theorem pls_of {xs : List D} (r : Rel R α H S) (p : Rep R α H d v) (h : deref S d = .lst xs) : ∃ a, v = .ref a ∧ PLs R d a xs α H := by
  cases d with
  | hnd n =>
    obtain ⟨a, ws, h1, h2, _⟩ := rep_lstH r p h
    exact ⟨a, h1, h2⟩
  | lst es =>
    have e : es = xs := by simpa [deref] using h
    subst e
    unfold Rep at p
    obtain ⟨a, ws, h1, h2, h3, h4⟩ := p
    exact ⟨a, h1, ws, h2, h3, h4⟩
  | _ => simp [deref] at h
theorem pls_st {xs : List D} {a : Addr} {α' : Al} {H' : Hp} (p : PLs R d a xs α H) (e : Wk α H α' H') : PLs R d a xs α' H' := by
  have other : (∃ ws, a ∉ α ∧ H a = some (.lst ws) ∧ Reps R α H xs ws) → ∃ ws, a ∉ α' ∧ H' a = some (.lst ws) ∧ Reps R α' H' xs ws := fun ⟨ws, h1, h2, h3⟩ => ⟨ws, (e.keep a _ h2 h1).2, (e.keep a _ h2 h1).1, Reps.wk e _ _ h3⟩
  cases d with
  | hnd n =>
    obtain ⟨β, eb⟩ := e.pre
    exact pre_get eb p
  | _ => exact other p
theorem pls_get {xs : List D} {a : Addr} {gs : List Nat} (r : Rel R α H S) (p : PLs R d a xs α H) (h : deref S0 d = .lst xs) (st : stays gs S0 S = true) (hg : ∀ n, d = .hnd n → n ∈ gs) : ∃ ws, H a = some (.lst ws) ∧ Reps R α H xs ws := by
  cases d with
  | hnd n =>
    have p' : α.hs[n]? = some a := p
    obtain ⟨c, o, h1, h2, h3⟩ := r.at p'
    have hc : S0[n]? = some (.lst xs) := by
      cases q : S0[n]? with
      | none => simp [deref, q] at h
      | some c' =>
        have e : c' = .lst xs := by simpa [deref, q] using h
        rw [e]
    rw [stays_get st (hg n rfl) hc] at h1
    cases h1
    obtain ⟨ws, rfl, h4⟩ := h3
    exact ⟨ws, h2, h4⟩
  | lst es => obtain ⟨ws, _, h2, h3⟩ := p; exact ⟨ws, h2, h3⟩
  | _ => simp [deref] at h
theorem get_of_len {xs : List D} {ws : List V} {i : Nat} {v : V} {d : D} (r : Reps R α H xs ws) (h : ws[i]? = some v) (hd : xs[i]? = some d) : Rep R α H d v := by
  obtain ⟨w, h1, h2⟩ := r.get hd
  rw [h] at h1
  cases h1
  exact h2
theorem wi_list {a : Addr} {xs : List D} {gs : List Nat} (h : deref S0 d = .lst xs) (hg : ∀ n, d = .hnd n → n ∈ gs) : WalkI R (Itl R.K a) xs gs S0 (PLs R d a xs) where
  go := fun α H S i r p st hi => by
    obtain ⟨ws, h1, h2⟩ := pls_get r p h st hg
    exact walk_list.goes i H (by rw [← h2.len]; exact hi) (SqL.of h1)
  stop := fun α H S r p st => by
    obtain ⟨ws, h1, h2⟩ := pls_get r p h st hg
    have := (walk_list (K := R.K) (a := a) (xs := ws)).stops H (SqL.of h1)
    rw [← h2.len] at this
    exact this
  yld := fun α H S i v H' r p st y d' hd => by
    obtain ⟨ws, h1, h2⟩ := pls_get r p h st hg
    have hi : i < ws.length := by rw [← h2.len]; exact (List.getElem?_eq_some_iff.mp hd).1
    obtain ⟨e1, e2⟩ := (walk_list (K := R.K) (a := a) (xs := ws)).yields i H v H' hi (SqL.of h1) y
    subst e1
    exact ⟨Ext.refl, r, get_of_len h2 e2 hd⟩
  pst := fun α H α' H' p e => pls_st p e
theorem wi_tup {a : Addr} {xs : List D} {gs : List Nat} : WalkI R (Itt R.K a) xs gs S0 (fun α H => ∃ ws, SqT R.K H a ws ∧ Reps R α H xs ws) where
  go := fun α H S i r ⟨ws, h1, h2⟩ st hi => walk_tup.goes i H (by rw [← h2.len]; exact hi) h1
  stop := fun α H S r ⟨ws, h1, h2⟩ st => by
    have := (walk_tup (K := R.K) (a := a) (xs := ws)).stops H h1
    rw [← h2.len] at this
    exact this
  yld := fun α H S i v H' r ⟨ws, h1, h2⟩ st y d' hd => by
    have hi : i < ws.length := by rw [← h2.len]; exact (List.getElem?_eq_some_iff.mp hd).1
    obtain ⟨e1, e2⟩ := (walk_tup (K := R.K) (a := a) (xs := ws)).yields i H v H' hi h1 y
    subst e1
    exact ⟨Ext.refl, r, get_of_len h2 e2 hd⟩
  pst := fun α H α' H' ⟨ws, h1, h2⟩ e => ⟨ws, SqT.wk e h1, Reps.wk e _ _ h2⟩
theorem signs_get {z : Str} {i : Nat} {d : D} (h : (signs z)[i]? = some d) : ∃ c, z.cps[i]? = some c ∧ d = .str ⟨#[c]⟩ := by
  unfold signs at h
  rw [List.getElem?_map] at h
  cases q : z.cps.toList[i]? with
  | none => rw [q] at h; cases h
  | some c =>
    rw [q] at h
    cases h
    exact ⟨c, by rw [← Array.getElem?_toList]; exact q, rfl⟩
theorem signs_len {z : Str} : (signs z).length = z.cps.size := by unfold signs; rw [List.length_map, Array.length_toList]
theorem wi_str {z : Str} {gs : List Nat} : WalkI R (Its z) (signs z) gs S0 (fun _ _ => True) where
  go := fun α H S i r p st hi => walk_str.goes i H (by rw [← signs_len]; exact hi) trivial
  stop := fun α H S r p st => by
    have := (walk_str (z := z)).stops H trivial
    rw [← signs_len] at this
    exact this
  yld := fun α H S i v H' r p st y d' hd => by
    obtain ⟨c, hc, rfl⟩ := signs_get hd
    have hi : i < z.cps.size := (Array.getElem?_eq_some_iff.mp hc).1
    obtain ⟨e1, c', h1, h2⟩ := (walk_str (z := z)).yields i H v H' hi trivial y
    subst e1 h2
    rw [hc] at h1
    cases h1
    exact ⟨Ext.refl, r, by unfold Rep; rfl⟩
  pst := fun _ _ _ _ _ _ => trivial
theorem wi_rng {lo : Int} {n : Nat} {gs : List Nat} : WalkI R (Itr lo n) ((List.range n).map fun (i : Nat) => .int (lo + (i : Int))) gs S0 (fun _ _ => True) where
  go := fun α H S i r p st hi => walk_range.goes i H (by simpa using hi) trivial
  stop := fun α H S r p st => by
    have := (walk_range (lo := lo) (n := n)).stops H trivial
    simpa using this
  yld := fun α H S i v H' r p st y d' hd => by
    rw [List.getElem?_map] at hd
    cases q : (List.range n)[i]? with
    | none => rw [q] at hd; cases hd
    | some j =>
      rw [q] at hd
      have hi : i < n := by have := (List.getElem?_eq_some_iff.mp q).1; simpa using this
      have ej : j = i := by
        have z := List.getElem?_range hi
        rw [z] at q
        cases q
        rfl
      subst ej
      cases hd
      obtain ⟨e1, e2⟩ := (walk_range (lo := lo) (n := n)).yields j H v H' hi trivial y
      subst e1 e2
      exact ⟨Ext.refl, r, by unfold Rep; rfl⟩
  pst := fun _ _ _ _ _ _ => trivial
theorem wi_enu {a : Addr} {xs : List D} {gs : List Nat} (h : deref S0 d = .lst xs) (hg : ∀ n, d = .hnd n → n ∈ gs) : WalkI R (Ite R.K a) (xs.mapIdx fun i x => .tup [.int i, x]) gs S0 (PLs R d a xs) where
  go := fun α H S i r p st hi => by
    obtain ⟨ws, h1, h2⟩ := pls_get r p h st hg
    exact (walk_enum (K := R.K) (a := a) (xs := ws)).goes i H (by rw [← h2.len]; simpa using hi) (SqL.of h1)
  stop := fun α H S r p st => by
    obtain ⟨ws, h1, h2⟩ := pls_get r p h st hg
    have := (walk_enum (K := R.K) (a := a) (xs := ws)).stops H (SqL.of h1)
    rw [← h2.len] at this
    simpa using this
  yld := fun α H S i v H' r p st y d' hd => by
    obtain ⟨ws, h1, h2⟩ := pls_get r p h st hg
    rw [List.getElem?_mapIdx] at hd
    cases q : xs[i]? with
    | none => rw [q] at hd; cases hd
    | some x =>
      rw [q] at hd
      cases hd
      have hi : i < ws.length := by rw [← h2.len]; exact (List.getElem?_eq_some_iff.mp q).1
      obtain ⟨t, x', w, rfl, hn, rfl, e1, e2⟩ := (walk_enum (K := R.K) (a := a) (xs := ws)).yields i H v H' hi (SqL.of h1) y
      have e1' : V.int (i : Nat) = x' := Option.some.inj e1
      subst e1'
      refine ⟨Ext.new r hn, r.new hn, ?_⟩
      unfold Rep
      refine ⟨t, _, rfl, upd_same, ?_⟩
      unfold Reps
      refine ⟨by unfold Rep; rfl, ?_⟩
      unfold Reps
      exact ⟨Rep.ext (Ext.new r hn) _ _ (get_of_len h2 e2 q), by unfold Reps; trivial⟩
  pst := fun α H α' H' p e => pls_st p e
theorem wi_zipL {d' : D} {a b : Addr} {xs ys : List D} {gs : List Nat} (h : deref S0 d = .lst xs) (hg : ∀ n, d = .hnd n → n ∈ gs) (h' : deref S0 d' = .lst ys) (hg' : ∀ n, d' = .hnd n → n ∈ gs) :
    WalkI R (Itz R.K a b) ((xs.zip ys).map fun p => .tup [p.1, p.2]) gs S0 (fun α H => PLs R d a xs α H ∧ PLs R d' b ys α H) where
  go := fun α H S i r p st hi => by
    obtain ⟨ws, h1, h2⟩ := pls_get r p.1 h st hg
    obtain ⟨us, h3, h4⟩ := pls_get r p.2 h' st hg'
    exact (walk_zip (K := R.K) (a := a) (b := b) (xs := ws) (ys := us) rfl).goes i H (by rw [← h2.len, ← h4.len]; simpa using hi) ⟨SqL.of h1, SqL.of h3⟩
  stop := fun α H S r p st => by
    obtain ⟨ws, h1, h2⟩ := pls_get r p.1 h st hg
    obtain ⟨us, h3, h4⟩ := pls_get r p.2 h' st hg'
    have := (walk_zip (K := R.K) (a := a) (b := b) (xs := ws) (ys := us) rfl).stops H ⟨SqL.of h1, SqL.of h3⟩
    rw [← h2.len, ← h4.len] at this
    simpa using this
  yld := fun α H S i v H' r p st y d2 hd => by
    obtain ⟨ws, h1, h2⟩ := pls_get r p.1 h st hg
    obtain ⟨us, h3, h4⟩ := pls_get r p.2 h' st hg'
    rw [List.getElem?_map] at hd
    cases q : (xs.zip ys)[i]? with
    | none => rw [q] at hd; cases hd
    | some z =>
      rw [q] at hd
      cases hd
      obtain ⟨q1, q2⟩ := List.getElem?_zip_eq_some.mp q
      have hi : i < min ws.length us.length := by
        rw [← h2.len, ← h4.len]
        have := (List.getElem?_eq_some_iff.mp q1).1
        have := (List.getElem?_eq_some_iff.mp q2).1
        omega
      obtain ⟨t, w, u, rfl, hn, rfl, e1, e2⟩ := (walk_zip (K := R.K) (a := a) (b := b) (xs := ws) (ys := us) rfl).yields i H v H' hi ⟨SqL.of h1, SqL.of h3⟩ y
      refine ⟨Ext.new r hn, r.new hn, ?_⟩
      unfold Rep
      refine ⟨t, _, rfl, upd_same, ?_⟩
      unfold Reps
      refine ⟨Rep.ext (Ext.new r hn) _ _ (get_of_len h2 e1 q1), ?_⟩
      unfold Reps
      exact ⟨Rep.ext (Ext.new r hn) _ _ (get_of_len h4 e2 q2), by unfold Reps; trivial⟩
  pst := fun α H α' H' p e => ⟨pls_st p.1 e, pls_st p.2 e⟩
theorem wi_zipT {a b : Addr} {xs ys : List D} {gs : List Nat} : WalkI R (RZ.ItzT R.K a b) ((xs.zip ys).map fun p => .tup [p.1, p.2]) gs S0 (fun α H => (∃ ws, SqT R.K H a ws ∧ Reps R α H xs ws) ∧ ∃ us, SqT R.K H b us ∧ Reps R α H ys us) where
  go := fun α H S i r ⟨⟨ws, h1, h2⟩, us, h3, h4⟩ st hi => by
    have hi' : i < (xs.zip ys).length := by simpa using hi
    rw [List.length_zip] at hi'
    have l1 : i < ws.length := by rw [← h2.len]; omega
    have l2 : i < us.length := by rw [← h4.len]; omega
    exact ⟨ws, us, ws[i], us[i], h1, h3, by simp [l1], by simp [l2]⟩
  stop := fun α H S r ⟨⟨ws, h1, h2⟩, us, h3, h4⟩ st => by
    refine ⟨ws, us, h1, h3, ?_⟩
    rw [List.length_map, List.length_zip, h2.len, h4.len]
    omega
  yld := fun α H S i v H' r ⟨⟨ws, h1, h2⟩, us, h3, h4⟩ st y d2 hd => by
    rw [List.getElem?_map] at hd
    cases q : (xs.zip ys)[i]? with
    | none => rw [q] at hd; cases hd
    | some z =>
      rw [q] at hd
      cases hd
      obtain ⟨q1, q2⟩ := List.getElem?_zip_eq_some.mp q
      obtain ⟨t, w, u, rfl, hn, rfl, e1, e2⟩ := y
      refine ⟨Ext.new r hn, r.new hn, ?_⟩
      unfold Rep
      refine ⟨t, _, rfl, upd_same, ?_⟩
      unfold Reps
      refine ⟨Rep.ext (Ext.new r hn) _ _ (get_of_len h2 (e1 ws h1) q1), ?_⟩
      unfold Reps
      exact ⟨Rep.ext (Ext.new r hn) _ _ (get_of_len h4 (e2 us h3) q2), by unfold Reps; trivial⟩
  pst := fun α H α' H' ⟨⟨ws, h1, h2⟩, us, h3, h4⟩ e => ⟨⟨ws, SqT.wk e h1, Reps.wk e _ _ h2⟩, us, SqT.wk e h3, Reps.wk e _ _ h4⟩
end
section
variable {G : GA} {T : Tab} {cl : Cl} {X : Cx} {W : WX} {e e1 e2 e3 : Expr} {a b c m : M} {pos : Pos} {tg : Expr} {es : List Expr}
theorem pi_imp {t t' : TI} (h : PI X tg e t) (k : ∀ σ H R, t' σ H R → t σ H R) : PI X tg e t' := ⟨fun pins s σ H R I q => h.run pins s σ H R I (k σ H R q)⟩
theorem pi_or {t1 t2 : TI} (h1 : PI X tg e t1) (h2 : PI X tg e t2) : PI X tg e (fun σ H R => t1 σ H R ∨ t2 σ H R) := ⟨fun pins s σ H R I q => q.elim (h1.run pins s σ H R I) (h2.run pins s σ H R I)⟩
/-- a walk over any value -/
def plainIt : M → Bool
  | .enu _ => false
  | .zip _ _ => false
  | .rng1 _ => false
  | .rng2 _ _ => false
  | _ => true
theorem hnd_mem {d : D} : ∀ n, d = .hnd n → n ∈ hndOf d := fun n e => by subst e; exact List.mem_singleton.mpr rfl
theorem i_any (ha : PE X e (tE0 G T cl X W a)) (hp : plainIt a = true) : PI X tg e (iIt G T cl X W a) :=
  pi_imp (pi_or (pi_list ha) (pi_or (pi_tup ha) (pi_str ha))) fun σ H Q ⟨α, env, S, r, s, g⟩ => by
    have hi : ∀ S d, itemsM a S d = items S d := fun S d => by cases a <;> first | rfl | cases hp
    have hgd : ∀ d, guardsM a d = hndOf d := fun d => by cases a <;> first | rfl | cases hp
    cases h1 : ev T cl a env S with
    | stuck => rw [h1] at g; exact g.elim
    | ex c fs ds S' => rw [h1] at g; exact .inl ⟨α, env, S, r, s, by rw [h1]; exact g⟩
    | ok d S1 =>
      rw [h1] at g
      obtain ⟨xs, hx, k⟩ := g
      rw [hi] at hx
      rw [hgd] at k
      unfold items at hx
      split at hx
      · rename_i ds hd
        cases hx
        refine .inr (.inl ⟨α, env, S, r, s, ?_⟩)
        rw [h1]
        refine fun α1 H1 v e1 r1 p1 => ?_
        obtain ⟨p, ws, rfl, t1, t2, _⟩ := rep_tup r1 p1 hd
        exact ⟨p, rfl, ⟨ws, t1⟩, k α1 H1 _ _ e1 r1 wi_tup ⟨ws, t1, t2⟩⟩
      · rename_i ds hd
        cases hx
        refine .inl ⟨α, env, S, r, s, ?_⟩
        rw [h1]
        refine fun α1 H1 v e1 r1 p1 => ?_
        obtain ⟨p, rfl, pl⟩ := pls_of r1 p1 hd
        obtain ⟨ws, t1, t2⟩ := pls_get r1 pl hd (stays_self _) hnd_mem
        exact ⟨p, rfl, ⟨ws, SqL.of t1⟩, k α1 H1 _ _ e1 r1 (wi_list hd hnd_mem) pl⟩
      · rename_i z hd
        cases hx
        refine .inr (.inr ⟨α, env, S, r, s, ?_⟩)
        rw [h1]
        refine fun α1 H1 v e1 r1 p1 => ?_
        obtain ⟨_, rfl⟩ := rep_str r1 p1 hd
        exact ⟨z, rfl, k α1 H1 _ _ e1 r1 wi_str trivial⟩
      · cases hx
theorem i_rng1 {p : Pos} (hg : Gl X "range") (hm : X.mg "range" = none) (ha : PE X e (tE0 G T cl X W a)) (hs : starEach [e] X.env = [(false, eval e X.env)]) : PI X tg (.Call (.Name "range" p) [e] [] pos) (iIt G T cl X W (.rng1 a)) :=
  pi_imp (pi_range1 hg hm (pa_cons ha pa_nil hs) hs) fun σ H Q ⟨α, env, S, r, s, g⟩ => by
    refine ⟨α, env, S, r, s, ?_⟩
    have ee : ev T cl (.rng1 a) env S = (ev T cl a env S).bind fun x S1 => match x with
      | .int n => if n < 2 ^ 62 ∧ -(2 ^ 62) ≤ n then .ok (.lst ((List.range n.toNat).map fun (i : Nat) => .int (0 + (i : Int)))) S1 else .stuck
      | _ => .stuck := by rfl
    rw [ee] at g
    cases h1 : ev T cl a env S with
    | stuck => rw [h1] at g; exact g
    | ex c fs ds S' => rw [h1] at g; exact g
    | ok d S1 =>
      rw [h1] at g
      cases d with
      | int n =>
        simp only [Res.bind] at g
        by_cases hc : n < 2 ^ 62 ∧ -(2 ^ 62) ≤ n
        · rw [if_pos hc] at g
          obtain ⟨xs, hx, k⟩ := g
          have hx' : some ((List.range n.toNat).map fun (i : Nat) => D.int (0 + (i : Int))) = some xs := hx
          cases hx'
          exact fun α1 H1 v e1 r1 p1 => by
            unfold Rep at p1
            subst p1
            exact ⟨n, rfl, hc.2, hc.1, k α1 H1 _ _ e1 r1 (wi_rng (lo := 0)) trivial⟩
        · rw [if_neg hc] at g; exact g.elim
      | _ => exact g.elim
theorem i_rng2 {p : Pos} (hg : Gl X "range") (hm : X.mg "range" = none) (ha : PE X e1 (tE0 G T cl X W a)) (hb : PE X e2 (tE0 G T cl X W b)) (hs : starEach [e1, e2] X.env = [(false, eval e1 X.env), (false, eval e2 X.env)]) (hs2 : starEach [e2] X.env = [(false, eval e2 X.env)]) :
    PI X tg (.Call (.Name "range" p) [e1, e2] [] pos) (iIt G T cl X W (.rng2 a b)) :=
  pi_imp (pi_range2 hg hm (pa_cons ha (pa_cons hb pa_nil hs2) (by rw [hs, hs2])) hs hs2) fun σ H Q ⟨α, env, S, r, s, g⟩ => by
    refine ⟨α, env, S, r, s, ?_⟩
    have ee : ev T cl (.rng2 a b) env S = (ev T cl a env S).bind fun x S1 => (ev T cl b env S1).bind fun y S2 => match x, y with
      | .int a, .int n => if a < 2 ^ 62 ∧ -(2 ^ 62) ≤ a ∧ n < 2 ^ 62 ∧ -(2 ^ 62) ≤ n then .ok (.lst ((List.range (n - a).toNat).map fun (i : Nat) => .int (a + (i : Int)))) S2 else .stuck
      | _, _ => .stuck := by rfl
    rw [ee] at g
    cases h1 : ev T cl a env S with
    | stuck => rw [h1] at g; exact g
    | ex c fs ds S' => rw [h1] at g; exact g
    | ok d S1 =>
      rw [h1] at g
      cases h2 : ev T cl b env S1 with
      | stuck => simp only [Res.bind, h2] at g
      | ex c fs ds S' =>
        simp only [Res.bind, h2] at g
        refine fun α1 H1 v e1 r1 p1 => ⟨α1, env, S1, r1, s.ext e1, ?_⟩
        rw [h2]
        exact Bad.ext g e1
      | ok d2 S2 =>
        simp only [Res.bind, h2] at g
        cases d with
        | int i =>
          cases d2 with
          | int n =>
            simp only at g
            by_cases hc : i < 2 ^ 62 ∧ -(2 ^ 62) ≤ i ∧ n < 2 ^ 62 ∧ -(2 ^ 62) ≤ n
            · rw [if_pos hc] at g
              obtain ⟨xs, hx, k⟩ := g
              have hx' : some ((List.range (n - i).toNat).map fun (j : Nat) => D.int (i + (j : Int))) = some xs := hx
              cases hx'
              refine fun α1 H1 v e1 r1 p1 => ⟨α1, env, S1, r1, s.ext e1, ?_⟩
              rw [h2]
              exact fun α2 H2 u e2 r2 p2 => by
                unfold Rep at p1 p2
                subst p1 p2
                exact ⟨i, n, rfl, ⟨hc.2.1, hc.1, hc.2.2.2, hc.2.2.1⟩, k α2 H2 _ _ (e1.trans e2) r2 wi_rng trivial⟩
            · rw [if_neg hc] at g; exact g.elim
          | _ => exact g.elim
        | _ => exact g.elim
theorem i_enu {p tpos : Pos} {elts : List Expr} {kk : Nat} (hg : Gl X "enumerate") (hm : X.mg "enumerate" = none) (ha : PE X e (tE0 G T cl X W a)) (hs : starEach [e] X.env = [(false, eval e X.env)]) :
    PI X (.Tuple elts kk tpos) (.Call (.Name "enumerate" p) [e] [] pos) (iIt G T cl X W (.enu a)) :=
  pi_imp (pi_enum hg hm (pa_cons ha pa_nil hs) hs) fun σ H Q ⟨α, env, S, r, s, g⟩ => by
    refine ⟨α, env, S, r, s, ?_⟩
    have ee : ev T cl (.enu a) env S = ev T cl a env S := by rfl
    rw [ee] at g
    cases h1 : ev T cl a env S with
    | stuck => rw [h1] at g; exact g
    | ex c fs ds S' => rw [h1] at g; exact g
    | ok d S1 =>
      rw [h1] at g
      obtain ⟨xs, hx, k⟩ := g
      unfold itemsM at hx
      simp only at hx
      split at hx
      · rename_i ds hd
        cases hx
        refine fun α1 H1 v e1 r1 p1 => ?_
        obtain ⟨p, rfl, pl⟩ := pls_of r1 p1 hd
        obtain ⟨ws, t1, t2⟩ := pls_get r1 pl hd (stays_self _) hnd_mem
        exact ⟨p, ws, rfl, SqL.of t1, k α1 H1 _ _ e1 r1 (wi_enu hd hnd_mem) pl⟩
      · cases hx
theorem i_zip {p tpos : Pos} {elts : List Expr} {kk : Nat} (hg : Gl X "zip") (hm : X.mg "zip" = none) (ha : PE X e1 (tE0 G T cl X W a)) (hb : PE X e2 (tE0 G T cl X W b)) (hs : starEach [e1, e2] X.env = (false, eval e1 X.env) :: starEach [e2] X.env)
    (hs2 : starEach [e2] X.env = [(false, eval e2 X.env)]) (hp : ((backTo pos (starEach [e2] X.env)).any fun x => x.fst) = false) :
    PI X (.Tuple elts kk tpos) (.Call (.Name "zip" p) [e1, e2] [] pos) (iIt G T cl X W (.zip a b)) :=
  pi_imp (RZ.pi_zipA hg hm (pa_cons ha (pa_cons hb pa_nil hs2) hs) hs hp) fun σ H Q ⟨α, env, S, r, s, g⟩ => by
    refine ⟨α, env, S, r, s, ?_⟩
    have ee : ev T cl (.zip a b) env S = (ev T cl a env S).bind fun x S1 => (ev T cl b env S1).bind fun y S2 => .ok (.tup [x, y]) S2 := by rfl
    rw [ee] at g
    cases h1 : ev T cl a env S with
    | stuck => rw [h1] at g; exact g
    | ex c fs ds S' => rw [h1] at g; exact g
    | ok d S1 =>
      rw [h1] at g
      cases h2 : ev T cl b env S1 with
      | stuck => simp only [Res.bind, h2] at g
      | ex c fs ds S' =>
        simp only [Res.bind, h2] at g
        refine fun α1 H1 v e1 r1 p1 => ⟨α1, env, S1, r1, s.ext e1, ?_⟩
        rw [h2]
        exact Bad.ext g e1
      | ok d2 S2 =>
        simp only [Res.bind, h2] at g
        obtain ⟨xs, hx, k⟩ := g
        refine fun α1 H1 v e1 r1 p1 => ⟨α1, env, S1, r1, s.ext e1, ?_⟩
        rw [h2]
        refine fun α2 H2 u e2 r2 p2 => ?_
        have p1' := Rep.ext e2 _ _ p1
        unfold itemsM at hx
        simp only at hx
        split at hx
        · rename_i zs ys hd1 hd2
          cases hx
          obtain ⟨q1, rfl, pl1⟩ := pls_of r2 p1' hd1
          obtain ⟨q2, rfl, pl2⟩ := pls_of r2 p2 hd2
          have m1 : ∀ n, d = .hnd n → n ∈ guardsM (.zip a b) (.tup [d, d2]) := fun n e => by subst e; exact List.mem_append_left _ (hnd_mem n rfl)
          have m2 : ∀ n, d2 = .hnd n → n ∈ guardsM (.zip a b) (.tup [d, d2]) := fun n e => by subst e; exact List.mem_append_right _ (hnd_mem n rfl)
          obtain ⟨ws, t1, t2⟩ := pls_get r2 pl1 hd1 (stays_self _) m1
          obtain ⟨us, t3, t4⟩ := pls_get r2 pl2 hd2 (stays_self _) m2
          exact ⟨q1, q2, ws, us, rfl, .inl ⟨SqL.of t1, SqL.of t3, k α2 H2 _ _ (e1.trans e2) r2 (wi_zipL hd1 m1 hd2 m2) ⟨pl1, pl2⟩⟩⟩
        · rename_i zs ys hd1 hd2
          cases hx
          obtain ⟨q1, ws, rfl, t1, t2, _⟩ := rep_tup r2 p1' hd1
          obtain ⟨q2, us, rfl, t3, t4, _⟩ := rep_tup r2 p2 hd2
          exact ⟨q1, q2, ws, us, rfl, .inr ⟨t1, t3, k α2 H2 _ _ (e1.trans e2) r2 wi_zipT ⟨⟨ws, t1, t2⟩, us, t3, t4⟩⟩⟩
        · cases hx
end
end Fk
set_option Elab.async false
set_option linter.all false
set_option autoImplicit false
set_option maxRecDepth 100000
set_option maxHeartbeats 4000000
/-! Targets; lists built in brackets -/
namespace Fk
open PySem L2 PySem.Spec PyProof.Rows

/-- only these slots differ -/
structure Same (vs : List Nat) (σ σ' : L2.St) : Prop where
  len : σ'.length = σ.length
  at_ : ∀ i, i ∉ vs → σ'[i]? = σ[i]?
theorem Same.refl {vs : List Nat} {σ : L2.St} : Same vs σ σ := ⟨rfl, fun _ _ => rfl⟩
theorem Same.trans {vs ws : List Nat} {σ σ1 σ2 : L2.St} (a : Same vs σ σ1) (b : Same ws σ1 σ2) : Same (vs ++ ws) σ σ2 := ⟨by rw [b.len, a.len], fun i h => by
  rw [b.at_ i fun m => h (List.mem_append_right _ m), a.at_ i fun m => h (List.mem_append_left _ m)]⟩
theorem Same.mono {vs ws : List Nat} {σ σ' : L2.St} (a : Same vs σ σ') (h : ∀ i, i ∈ vs → i ∈ ws) : Same ws σ σ' := ⟨a.len, fun i n => a.at_ i fun m => n (h i m)⟩
theorem wipe_in {σ : L2.St} {i : Nat} : ∀ {vs : List Nat}, i ∈ vs → (wipe σ vs)[i]? = if i < σ.length then some none else none
  | v :: vs, h => by
    unfold wipe
    by_cases e : v = i
    · subst e
      by_cases hv : v < σ.length
      · rw [if_pos hv, List.getElem?_set_self (by rw [wipe_length]; exact hv)]
      · rw [if_neg hv, List.getElem?_eq_none (by rw [List.length_set, wipe_length]; omega)]
    · rw [List.getElem?_set_ne e]
      exact wipe_in (by rcases List.mem_cons.mp h with z | z; exact absurd z.symm e; exact z)
theorem Same.wipe {vs : List Nat} {σ σ' : L2.St} (a : Same vs σ σ') : wipe σ' vs = wipe σ vs := List.ext_getElem? fun i => by
  by_cases h : i ∈ vs
  · rw [wipe_in h, wipe_in h, a.len]
  · rw [wipe_out h, wipe_out h, a.at_ i h]
theorem wipeE_len (env : Env') : ∀ vs : List Nat, (wipeE env vs).length = env.length
  | [] => rfl
  | v :: vs => by unfold wipeE; rw [List.length_set, wipeE_len env vs]
theorem wipeE_some {env : Env'} {i : Nat} {d : D} : ∀ {vs : List Nat}, (wipeE env vs)[i]? = some (some d) → env[i]? = some (some d) ∧ i ∉ vs
  | [], h => ⟨h, by simp⟩
  | v :: vs, h => by
    unfold wipeE at h
    by_cases hi : v = i
    · subst hi
      by_cases hv : v < (wipeE env vs).length
      · rw [List.getElem?_set_self hv] at h; cases h
      · rw [List.getElem?_eq_none (by rw [List.length_set]; omega)] at h; cases h
    · rw [List.getElem?_set_ne hi] at h
      obtain ⟨h1, h2⟩ := wipeE_some h
      exact ⟨h1, fun z => (List.mem_cons.mp z).elim (fun e => hi e.symm) h2⟩
section
variable {R : RC} {α α' α1 : Al} {H H' H1 : Hp} {S S' S0 : Store} {σ : L2.St} {env : Env'}
theorem Sl.wk (s : Sl R α H env σ) (e : Wk α H α' H') : Sl R α' H' env σ := ⟨s.len, fun i d h => by
  obtain ⟨v, h1, h2⟩ := s.at_ i d h
  exact ⟨v, h1, Rep.wk e d v h2⟩⟩
theorem Sl.wipe (s : Sl R α H env σ) (vs : List Nat) : Sl R α H (wipeE env vs) (L2.wipe σ vs) := ⟨by rw [wipeE_len, L2.wipe_length]; exact s.len, fun i d h => by
  obtain ⟨h1, h2⟩ := wipeE_some h
  obtain ⟨v, h3, h4⟩ := s.at_ i d h1
  exact ⟨v, by rw [L2.wipe_out h2]; exact h3, h4⟩⟩
end

/-! ### targets -/
def slots : M → List Nat
  | .var i => [i]
  | .tup ts => slots ts
  | .cons a r => slots a ++ slots r
  | _ => []
def gM (G : GA) (X : Cx) (m : M) : TG := fun v σ H Q => ∃ α env S d env', Rel (rc G X) α H S ∧ Sl (rc G X) α H env σ ∧ Rep (rc G X) α H d v ∧ bindT m d env = some env' ∧
  ∀ σ', Sl (rc G X) α H env' σ' → Same (slots m) σ σ' → Q σ' H
def gMs (G : GA) (X : Cx) (m : M) : TGs := fun vs σ H Q => ∃ α env S ds env', Rel (rc G X) α H S ∧ Sl (rc G X) α H env σ ∧ Reps (rc G X) α H ds vs ∧ bindTs m ds env = some env' ∧
  ∀ σ', Sl (rc G X) α H env' σ' → Same (slots m) σ σ' → Q σ' H
section
variable {G : GA} {X : Cx} {e : Expr} {es : List Expr} {pos : Pos} {t r m : M}
theorem pg_imp {t t' : TG} (h : PG X e t) (k : ∀ v σ H Q, t' v σ H Q → t v σ H Q) : PG X e t' := ⟨fun pins s σ H v u Q I r q => h.run pins s σ H v u Q I r (k v σ H Q q)⟩
theorem pgs_imp {t t' : TGs} (h : PGs X es t) (k : ∀ v σ H Q, t' v σ H Q → t v σ H Q) : PGs X es t' := ⟨fun pins s σ H v u Q I r q => h.run pins s σ H v u Q I r (k v σ H Q q)⟩
theorem same_set {σ : L2.St} {i : Nat} {v : Option V} : Same [i] σ (σ.set i v) := ⟨List.length_set, fun j h => List.getElem?_set_ne fun z => h (List.mem_singleton.mpr z.symm)⟩
theorem g_var {i : Nat} {x : Str} (hN : X.N.Nodup) (hi : X.N[i]? = some x) (hx : Loc X.env.scope x) (hf : X.fn x = true ∨ X.env.scope.names.lookup x = some .local) : PG X (.Name x pos) (gM G X (.var i)) :=
  pg_imp (pg_name hN hi hx hf) fun v σ H Q ⟨α, env, S, d, env', r, s, p, hb, k⟩ => by
    unfold bindT at hb
    cases hb
    exact k _ (s.set p) same_set
theorem gs_nil : PGs X [] (gMs G X .nil) := pgs_imp pgs_nil fun vs σ H Q ⟨α, env, S, ds, env', r, s, p, hb, k⟩ => by
  cases ds with
  | cons d ds => simp [bindTs] at hb
  | nil =>
    unfold bindTs at hb
    cases hb
    refine ⟨?_, k σ s ⟨rfl, fun _ _ => rfl⟩⟩
    cases vs with
    | nil => rfl
    | cons v vs => unfold Reps at p; exact p.elim
theorem gs_cons (h1 : PG X e (gM G X t)) (h2 : PGs X es (gMs G X r)) (hs : (assignEach (e :: es) X.env).map (·.2) = assign e X.env :: (assignEach es X.env).map (·.2)) : PGs X (e :: es) (gMs G X (.cons t r)) :=
  pgs_imp (pgs_cons h1 h2 hs) fun vs σ H Q ⟨α, env, S, ds, env', rl, s, p, hb, k⟩ => by
    cases ds with
    | nil => simp [bindTs] at hb
    | cons d ds =>
      cases vs with
      | nil => unfold Reps at p; exact p.elim
      | cons v vs =>
        unfold Reps at p
        unfold bindTs at hb
        split at hb
        · rename_i env1 h1
          exact ⟨v, vs, rfl, α, env, S, d, env1, rl, s, p.1, h1, fun σ1 s1 m1 => ⟨α, env1, S, ds, env', rl, s1, p.2, hb, fun σ2 s2 m2 => k σ2 s2 (m1.trans m2)⟩⟩
        · cases hb
theorem bindTs_len : ∀ {m : M} {ds : List D} {env env' : Env'} {n : Nat}, bindTs m ds env = some env' → (∀ ds' env1 env2, bindTs m ds' env1 = some env2 → ds'.length = n) → ds.length = n := fun h k => k _ _ _ h
def lenM : M → Nat
  | .cons _ r => lenM r + 1
  | _ => 0
theorem bindTs_lenM : ∀ (m : M) (ds : List D) (env env' : Env'), bindTs m ds env = some env' → ds.length = lenM m
  | .nil, [], _, _, _ => rfl
  | .nil, _ :: _, _, _, h => by simp [bindTs] at h
  | .cons t r, [], _, _, h => by simp [bindTs] at h
  | .cons t r, d :: ds, env, env', h => by
    unfold bindTs at h
    split at h
    · rename_i env1 h1
      have := bindTs_lenM r ds env1 env' h
      unfold lenM
      rw [List.length_cons, this]
    · cases h
  | .var _, _, _, _, h => by simp [bindTs] at h
  | .non, _, _, _, h => by simp [bindTs] at h
  | .bl _, _, _, _, h => by simp [bindTs] at h
  | .int _, _, _, _, h => by simp [bindTs] at h
  | .str _, _, _, _, h => by simp [bindTs] at h
  | .glob _, _, _, _, h => by simp [bindTs] at h
  | .tup _, _, _, _, h => by simp [bindTs] at h
  | .lst _, _, _, _, h => by simp [bindTs] at h
  | .emp _, _, _, _, h => by simp [bindTs] at h
  | .bin _ _ _, _, _, _, h => by simp [bindTs] at h
  | .neg _, _, _, _, h => by simp [bindTs] at h
  | .cmp _ _ _, _, _, _, h => by simp [bindTs] at h
  | .chn _ _ _ _ _, _, _, _, h => by simp [bindTs] at h
  | .and _ _, _, _, _, h => by simp [bindTs] at h
  | .or _ _, _, _, _, h => by simp [bindTs] at h
  | .one _, _, _, _, h => by simp [bindTs] at h
  | .not _, _, _, _, h => by simp [bindTs] at h
  | .ite _ _ _, _, _, _, h => by simp [bindTs] at h
  | .sub _ _, _, _, _, h => by simp [bindTs] at h
  | .slc _ _ _, _, _, _, h => by simp [bindTs] at h
  | .no, _, _, _, h => by simp [bindTs] at h
  | .attr _ _, _, _, _, h => by simp [bindTs] at h
  | .call _ _, _, _, _, h => by simp [bindTs] at h
  | .new _ _, _, _, _, h => by simp [bindTs] at h
  | .bif _ _, _, _, _, h => by simp [bindTs] at h
  | .isi _ _, _, _, _, h => by simp [bindTs] at h
  | .met _ _ _, _, _, _, h => by simp [bindTs] at h
  | .bim _ _ _, _, _, _, h => by simp [bindTs] at h
  | .fst _, _, _, _, h => by simp [bindTs] at h
  | .fc _ _, _, _, _, h => by simp [bindTs] at h
  | .lc _ _ _ _, _, _, _, h => by simp [bindTs] at h
  | .lcf _ _ _ _ _, _, _, _, h => by simp [bindTs] at h
  | .rng1 _, _, _, _, h => by simp [bindTs] at h
  | .rng2 _ _, _, _, _, h => by simp [bindTs] at h
  | .enu _, _, _, _, h => by simp [bindTs] at h
  | .zip _ _, _, _, _, h => by simp [bindTs] at h
  | .thaw _, _, _, _, h => by simp [bindTs] at h
theorem g_tup {k : Nat} (hc : X.calm = true) (h : PGs X es (gMs G X t)) (hn : (assignEach es X.env).length = lenM t) (hst : (assignEach es X.env).findIdx? (·.1) = none) : PG X (.Tuple es k pos) (gM G X (.tup t)) :=
  pg_imp (pg_tup hc h hn hst) fun v σ H Q ⟨α, env, S, d, env', r, s, p, hb, q⟩ => by
    have go : ∀ ds, deref S d = .tup ds → bindTs t ds env = some env' → gTup X.K (lenM t) (gMs G X t) v σ H Q := fun ds hd hb => by
      obtain ⟨a, ws, rfl, t1, t2, _⟩ := rep_tup r p hd
      exact ⟨a, ws, rfl, t1, by rw [← t2.len]; exact bindTs_lenM _ _ _ _ hb, α, env, S, ds, env', r, s, t2, hb, q⟩
    cases d with
    | tup ds => exact go ds rfl (by unfold bindT at hb; exact hb)
    | ktp ds => exact go ds rfl (by unfold bindT at hb; exact hb)
    | _ => simp [bindT] at hb
end

/-! ### comprehensions -/
abbrev W0 : WX := fun _ _ _ _ => False
/-- ahead of turn i: what is built stands at pD -/
def LcI (R : RC) (P : Al → Hp → Prop) (gs : List Nat) (S1 : Store) (env : Env') (σ : L2.St) (pD : Addr) (α1 : Al) (H1 : Hp) (f : List D → List D → Store → Prop) (xs : List D) (i : Nat) (H : Hp) : Prop :=
  ∃ α2 S2 acc vs l, α2.hid = pD :: l ∧ pD ∉ l ∧ H pD = some (.lst vs) ∧ Reps R α2 H acc vs ∧ Rel R α2 H S2 ∧ Ext α1 H1 α2.un (del H pD) ∧ Sl R α2 H env σ ∧ P α2 H ∧ stays gs S1 S2 = true ∧ f (xs.drop i) acc S2
section
variable {R : RC} {P : Al → Hp → Prop} {gs : List Nat} {S1 : Store} {env : Env'} {σ : L2.St} {pD : Addr} {α1 : Al} {H1 : Hp} {f : List D → List D → Store → Prop} {xs : List D}
theorem mutL {xs : List V} : MutO (.lst xs) := ⟨fun _ z => (by cases z), fun _ _ z => (by cases z)⟩
theorem LcI.start (r : Rel R α1 H1 S1) (s : Sl R α1 H1 env σ) (p : P α1 H1) (hP : ∀ α H α' H', P α H → Wk α H α' H' → P α' H') (hD : H1 pD = none) (h : f xs [] S1) : LcI R P gs S1 env σ pD α1 H1 f xs 0 (upd H1 pD (.lst [])) :=
  ⟨α1.hide pD, S1, [], [], α1.hid, rfl, (fun m => by
    obtain ⟨o, e, _⟩ := r.hd pD m
    rw [hD] at e; cases e), upd_same, by unfold Reps; trivial, r.hide hD mutL, by
      rw [del_upd, del_none hD, Al.un_hide]
      exact Ext.refl, s.wk (Wk.hide hD), hP _ _ _ _ p (Wk.hide hD), stays_self _, h⟩
/-- what a turn reaches without an item -/
theorem LcI.skip {i : Nat} {α2 α3 : Al} {H H3 : Hp} {S3 : Store} {acc : List D} {vs : List V} {l : List Addr} (hP : ∀ α H α' H', P α H → Wk α H α' H' → P α' H') (h1 : α2.hid = pD :: l) (h2 : pD ∉ l) (h3 : H pD = some (.lst vs)) (h4 : Reps R α2 H acc vs) (x1 : Ext α1 H1 α2.un (del H pD))
    (s : Sl R α2 H env σ) (p : P α2 H) (e : Ext α2 H α3 H3) (r3 : Rel R α3 H3 S3) (st : stays gs S1 S3 = true) (h : f (xs.drop i) acc S3) : LcI R P gs S1 env σ pD α1 H1 f xs i H3 :=
  ⟨α3, S3, acc, vs, l, by rw [e.hid, h1], h2, by rw [e.hk pD (by rw [h1]; exact List.mem_cons_self), h3], Reps.ext e _ _ h4, r3, x1.trans (e.un h1), s.ext e, hP _ _ _ _ p e.wk, st, h⟩
/-- and with one -/
theorem LcI.app {i : Nat} {α2 α3 : Al} {H H3 : Hp} {S3 : Store} {acc : List D} {vs : List V} {l : List Addr} {d : D} {v : V} (hP : ∀ α H α' H', P α H → Wk α H α' H' → P α' H') (h1 : α2.hid = pD :: l) (h2 : pD ∉ l) (h3 : H pD = some (.lst vs)) (h4 : Reps R α2 H acc vs) (x1 : Ext α1 H1 α2.un (del H pD))
    (s : Sl R α2 H env σ) (p : P α2 H) (e : Ext α2 H α3 H3) (r3 : Rel R α3 H3 S3) (st : stays gs S1 S3 = true) (pd : Rep R α3 H3 d v) (h : f (xs.drop i) (acc ++ [d]) S3) :
    H3 pD = some (.lst vs) ∧ LcI R P gs S1 env σ pD α1 H1 f xs i (upd H3 pD (.lst (vs ++ [v]))) := by
  have hm : pD ∈ α3.hid := by rw [e.hid, h1]; exact List.mem_cons_self
  have hw : Wk α3 H3 α3 (upd H3 pD (.lst (vs ++ [v]))) := Wk.hset hm r3
  refine ⟨by rw [e.hk pD (by rw [h1]; exact List.mem_cons_self), h3], α3, S3, acc ++ [d], vs ++ [v], l, by rw [e.hid, h1], h2, upd_same, ?_, r3.hset hm mutL, ?_, (s.ext e).wk hw, hP _ _ _ _ (hP _ _ _ _ p e.wk) hw, st, h⟩
  · refine Reps.wk hw _ _ (Reps.append (Reps.ext e _ _ h4) ?_)
    unfold Reps
    exact ⟨pd, by unfold Reps; trivial⟩
  · rw [del_upd]
    exact x1.trans (e.un h1)
theorem LcI.done {n : Nat} {H : Hp} {W : WX} {Q : VK} (hn : xs.length = n) (h : LcI R P gs S1 env σ pD α1 H1 f xs n H) (hf : ∀ acc S2, f [] acc S2 → PostF R α1 H1 (.lst acc) S2 Q) : Q (.ref pD) H := by
  obtain ⟨α2, S2, acc, vs, l, h1, h2, h3, h4, r, x1, s, p, st, q⟩ := h
  rw [← hn, List.drop_length] at q
  have := hf acc S2 q α2.un (del H pD) pD (.lst vs) x1 (r.un h1 h2) del_same ⟨vs, rfl, Reps.wk (Wk.un h1 r) _ _ h4⟩
  rw [upd_del h3] at this
  exact this
end
section
variable {G : GA} {T : Tab} {cl : Cl} {X : Cx} {W : WX} {elt tg iter c : Expr} {tm it e cm : M} {pos : Pos} {scope : Scope} {own : List (Str × Nat)}
theorem if_yes {p q : Prop} (h : p) : if true = true then p else q := by rw [if_pos rfl]; exact h
theorem lc_sound {ov : List Nat} (hsub : ∀ i, i ∈ slots tm → i ∈ ov) (σ : L2.St) (H : Hp) (Q : VK) (h : tE G T cl X W (.lc ov tm it e) σ H Q) :
    tLc (iIt G T cl X W it) (gM G X tm) tYes (tE0 G T cl X W0 e) ov σ H Q := by
  obtain ⟨α, env, S, r, s, g⟩ := h
  have ee : ev T cl (.lc ov tm it e) env S = (ev T cl it env S).bind fun x S1 => match itemsM it S1 x with
    | some xs => lcL tm ov (ev T cl e) (guardsM it x) S1 env xs [] S1
    | none => .stuck := by rfl
  rw [ee] at g
  refine ⟨α, env, S, r, s, ?_⟩
  cases h1 : ev T cl it env S with
  | stuck => rw [h1] at g; exact g
  | ex c fs ds S' => rw [h1] at g; exact g
  | ok d S1 =>
    rw [h1] at g
    simp only [Res.bind] at g
    split at g
    · rename_i xs hx
      refine ⟨xs, hx, fun α1 H1 J P e1 r1 wi p pD hD => ?_⟩
      have g1 := Good.ext g e1
      have inv0 := LcI.start (gs := guardsM it d) (f := fun rest acc S2 => Good true (rc G X) W σ α1 H1 (lcL tm ov (ev T cl e) (guardsM it d) S1 env rest acc S2) Q) r1 (s.ext e1) p wi.pst hD g1
      generalize hf : (fun rest acc S2 => Good true (rc G X) W σ α1 H1 (lcL tm ov (ev T cl e) (guardsM it d) S1 env rest acc S2) Q) = f at inv0
      refine ⟨fun i m H => m = xs.length - i ∧ i ≤ xs.length ∧ LcI (rc G X) P (guardsM it d) S1 env σ pD α1 H1 f xs i H, ⟨xs.length, by simp, Nat.zero_le _, inv0⟩, ?_⟩
      rintro i m H ⟨rfl, hi, inv⟩
      by_cases hlt : i < xs.length
      · obtain ⟨α2, S2, acc, vs, l, h1, h2, h3, h4, r2, x1, s2, p2, st, q⟩ := inv
        refine .inr ⟨wi.go α2 H S2 i r2 p2 st hlt, LcI (rc G X) P (guardsM it d) S1 env σ pD α1 H1 f xs (i + 1), fun H' n => ⟨xs.length - (i + 1), by omega, rfl, hlt, n⟩, fun x H' y => ?_⟩
        have hxd : xs[i]? = some xs[i] := by simp [hlt]
        obtain ⟨ey, ry, py⟩ := wi.yld α2 H S2 i x H' r2 p2 st y _ hxd
        rw [List.drop_eq_getElem_cons hlt, ← hf] at q
        simp only [lcL] at q
        split at q
        · rename_i env' hb
          refine ⟨α2, wipeE env ov, S2, xs[i], env', ry, (s2.ext ey).wipe _, py, hb, fun σ' sl same => ⟨?_, ?_⟩⟩
          · rw [(same.mono hsub).wipe]
            exact Same.wipe ⟨by rw [L2.wipe_length], fun j hj => L2.wipe_out hj⟩
          · show tE0 G T cl X W0 e σ' H' _
            refine ⟨α2, env', S2, ry, sl, ?_⟩
            split at q
            · rename_i dd S3 he
              rw [he]
              split at q
              · rename_i hst
                intro α3 H3 v e3 r3 p3
                obtain ⟨k1, k2⟩ := LcI.app (i := i + 1) (f := f) (xs := xs) wi.pst h1 h2 h3 h4 x1 s2 p2 (ey.trans e3) r3 hst.1 p3 (by rw [← hf]; exact q)
                exact ⟨vs, k1, by rw [← h4.len]; exact hst.2, k2⟩
              · exact q.elim
            · exact q.elim
        · exact q.elim
      · have e : i = xs.length := by omega
        subst e
        refine .inl ⟨?_, LcI.done (W := W) rfl inv fun acc S2 q => ?_⟩
        · obtain ⟨α2, S2, acc, vs, l, h1, h2, h3, h4, r2, x1, s2, p2, st, q⟩ := inv
          exact wi.stop α2 H S2 r2 p2 st
        · rw [← hf] at q
          exact q
    · exact g.elim
theorem lcf_sound {ov : List Nat} (hsub : ∀ i, i ∈ slots tm → i ∈ ov) (σ : L2.St) (H : Hp) (Q : VK) (h : tE G T cl X W (.lcf ov tm it cm e) σ H Q) :
    tLc (iIt G T cl X W it) (gM G X tm) (tTs G T cl X W0 cm) (tE0 G T cl X W0 e) ov σ H Q := by
  obtain ⟨α, env, S, r, s, g⟩ := h
  have ee : ev T cl (.lcf ov tm it cm e) env S = (ev T cl it env S).bind fun x S1 => match itemsM it S1 x with
    | some xs => lcF tm ov (ev T cl cm) (ev T cl e) (guardsM it x) S1 env xs [] S1
    | none => .stuck := by rfl
  rw [ee] at g
  refine ⟨α, env, S, r, s, ?_⟩
  cases h1 : ev T cl it env S with
  | stuck => rw [h1] at g; exact g
  | ex c fs ds S' => rw [h1] at g; exact g
  | ok d S1 =>
    rw [h1] at g
    simp only [Res.bind] at g
    split at g
    · rename_i xs hx
      refine ⟨xs, hx, fun α1 H1 J P e1 r1 wi p pD hD => ?_⟩
      have g1 := Good.ext g e1
      have inv0 := LcI.start (gs := guardsM it d) (f := fun rest acc S2 => Good true (rc G X) W σ α1 H1 (lcF tm ov (ev T cl cm) (ev T cl e) (guardsM it d) S1 env rest acc S2) Q) r1 (s.ext e1) p wi.pst hD g1
      generalize hf : (fun rest acc S2 => Good true (rc G X) W σ α1 H1 (lcF tm ov (ev T cl cm) (ev T cl e) (guardsM it d) S1 env rest acc S2) Q) = f at inv0
      refine ⟨fun i m H => m = xs.length - i ∧ i ≤ xs.length ∧ LcI (rc G X) P (guardsM it d) S1 env σ pD α1 H1 f xs i H, ⟨xs.length, by simp, Nat.zero_le _, inv0⟩, ?_⟩
      rintro i m H ⟨rfl, hi, inv⟩
      by_cases hlt : i < xs.length
      · obtain ⟨α2, S2, acc, vs, l, h1, h2, h3, h4, r2, x1, s2, p2, st, q⟩ := inv
        refine .inr ⟨wi.go α2 H S2 i r2 p2 st hlt, LcI (rc G X) P (guardsM it d) S1 env σ pD α1 H1 f xs (i + 1), fun H' n => ⟨xs.length - (i + 1), by omega, rfl, hlt, n⟩, fun x H' y => ?_⟩
        have hxd : xs[i]? = some xs[i] := by simp [hlt]
        obtain ⟨ey, ry, py⟩ := wi.yld α2 H S2 i x H' r2 p2 st y _ hxd
        rw [List.drop_eq_getElem_cons hlt, ← hf] at q
        simp only [lcF] at q
        split at q
        · rename_i env' hb
          refine ⟨α2, wipeE env ov, S2, xs[i], env', ry, (s2.ext ey).wipe _, py, hb, fun σ' sl same => ⟨?_, ?_⟩⟩
          · rw [(same.mono hsub).wipe]
            exact Same.wipe ⟨by rw [L2.wipe_length], fun j hj => L2.wipe_out hj⟩
          · refine ⟨α2, env', S2, ry, sl, ?_⟩
            split at q
            · rename_i b S3 hc
              rw [hc]
              split at q
              · rename_i ht
                refine ⟨true, ht, fun α3 H3 e3 r3 => ?_⟩
                show tE0 G T cl X W0 e σ' H3 _
                refine ⟨α3, env', S3, r3, sl.ext e3, ?_⟩
                split at q
                · rename_i dd S4 he
                  rw [he]
                  split at q
                  · rename_i hst
                    intro α4 H4 v e4 r4 p4
                    obtain ⟨k1, k2⟩ := LcI.app (i := i + 1) (f := f) (xs := xs) wi.pst h1 h2 h3 h4 x1 s2 p2 (ey.trans (e3.trans e4)) r4 hst.1 p4 (by rw [← hf]; exact q)
                    exact ⟨vs, k1, by rw [← h4.len]; exact hst.2, k2⟩
                  · exact q.elim
                · exact q.elim
              · rename_i ht
                refine ⟨false, ht, fun α3 H3 e3 r3 => ?_⟩
                show LcI (rc G X) P (guardsM it d) S1 env σ pD α1 H1 f xs (i + 1) H3
                split at q
                · rename_i hst
                  exact LcI.skip (i := i + 1) (f := f) (xs := xs) wi.pst h1 h2 h3 h4 x1 s2 p2 (ey.trans e3) r3 hst (by rw [← hf]; exact q)
                · exact q.elim
              · exact q.elim
            · exact q.elim
        · exact q.elim
      · have e : i = xs.length := by omega
        subst e
        refine .inl ⟨?_, LcI.done (W := W) rfl inv fun acc S2 q => ?_⟩
        · obtain ⟨α2, S2, acc, vs, l, h1, h2, h3, h4, r2, x1, s2, p2, st, q⟩ := inv
          exact wi.stop α2 H S2 r2 p2 st
        · rw [← hf] at q
          exact q
    · exact g.elim
theorem s_lc (hc : X.calm = true) (hN : X.N.Nodup) (hi : PI X tg iter (iIt G T cl X W it)) (ok : BlkOk X.N X.env.scope scope own)
    (hg : ∀ (s : Shared) (H : Hp) (C : Addr) (c' : List (Str × Addr)) (fp : List Addr), PG (X.blk s H scope (compEnvC scope c' C X.env) fp) tg (gM G X tm))
    (he : ∀ (s : Shared) (H : Hp) (C : Addr) (c' : List (Str × Addr)) (fp : List Addr), PE (X.blk s H scope (compEnvC scope c' C X.env) fp) elt (tE0 G T cl X W0 e)) (hsub : ∀ i, i ∈ slots tm → i ∈ own.map (·.2)) (hs : ∀ x, foldedSetIterable iter X.env x = pure x) :
    PE X (.ListComp elt [⟨tg, iter, [], 0⟩] scope pos) (tE G T cl X W (.lc (own.map (·.2)) tm it e)) :=
  pe_imp (pe_lc hc hN hi ok hg (fun _ _ _ _ _ => pts_nil) he hs) (lc_sound hsub)
theorem s_lcf (hc : X.calm = true) (hN : X.N.Nodup) (hi : PI X tg iter (iIt G T cl X W it)) (ok : BlkOk X.N X.env.scope scope own)
    (hg : ∀ (s : Shared) (H : Hp) (C : Addr) (c' : List (Str × Addr)) (fp : List Addr), PG (X.blk s H scope (compEnvC scope c' C X.env) fp) tg (gM G X tm))
    (ht : ∀ (s : Shared) (H : Hp) (C : Addr) (c' : List (Str × Addr)) (fp : List Addr), PT (X.blk s H scope (compEnvC scope c' C X.env) fp) c (tTs G T cl X W0 cm))
    (he : ∀ (s : Shared) (H : Hp) (C : Addr) (c' : List (Str × Addr)) (fp : List Addr), PE (X.blk s H scope (compEnvC scope c' C X.env) fp) elt (tE0 G T cl X W0 e)) (hsub : ∀ i, i ∈ slots tm → i ∈ own.map (·.2)) (hs : ∀ x, foldedSetIterable iter X.env x = pure x) :
    PE X (.ListComp elt [⟨tg, iter, [c], 0⟩] scope pos) (tE G T cl X W (.lcf (own.map (·.2)) tm it cm e)) :=
  pe_imp (pe_lc hc hN hi ok hg (fun _ _ _ _ _ => pts_one (ht _ _ _ _ _)) he hs) (lcf_sound hsub)
end
end Fk
set_option Elab.async false
set_option linter.all false
set_option autoImplicit false
set_option maxRecDepth 100000
set_option maxHeartbeats 4000000
/-! Statements -/
namespace Fk
open PySem L2 PySem.Spec PyProof.Rows

def GoodS (R : RC) (W : WX) (E : Ends) (α : Al) (H : Hp) (o : Out) : Prop := match o with
  | .nx e S' => ∀ α' H' σ', Ext α H α' H' → Rel R α' H' S' → Sl R α' H' e σ' → E.nx σ' H'
  | .rt d S' => ∀ α' H' v, Ext α H α' H' → Rel R α' H' S' → Rep R α' H' d v → E.rt v H'
  | .bk e S' => ∀ α' H' σ', Ext α H α' H' → Rel R α' H' S' → Sl R α' H' e σ' → E.bk σ' H'
  | .ct e S' => ∀ α' H' σ', Ext α H α' H' → Rel R α' H' S' → Sl R α' H' e σ' → E.ct σ' H'
  | .ex c fs ds e S' => ∀ α' H' σ' cls dx, Ext α H α' H' → Rel R α' H' S' → Sl R α' H' e σ' → ExR R α' H' c fs ds cls dx → W cls dx σ' H'
  | .stuck => False
section
variable {R : RC} {W : WX} {E E' : Ends} {α α1 : Al} {H H1 : Hp} {o : Out} {σ : L2.St} {env : Env'} {r : Res} {S : Store}
theorem GoodS.ext (h : GoodS R W E α H o) (e : Ext α H α1 H1) : GoodS R W E α1 H1 o := by
  cases o with
  | nx _ _ => exact fun α' H' σ' e' => h α' H' σ' (e.trans e')
  | rt _ _ => exact fun α' H' σ' e' => h α' H' σ' (e.trans e')
  | bk _ _ => exact fun α' H' σ' e' => h α' H' σ' (e.trans e')
  | ct _ _ => exact fun α' H' σ' e' => h α' H' σ' (e.trans e')
  | ex _ _ _ _ _ => exact fun α' H' σ' cls dx e' => h α' H' σ' cls dx (e.trans e')
  | stuck => exact h
/-- one value, then the rest -/
theorem GoodS.step {k : D → Store → Out} (s : Sl R α H env σ) (h : GoodS R W E α H (r.out env k)) :
    Good false R W σ α H r (fun v H1 => ∃ α1 S1 d, Ext α H α1 H1 ∧ Rel R α1 H1 S1 ∧ Rep R α1 H1 d v ∧ GoodS R W E α1 H1 (k d S1)) := by
  cases r with
  | ok d S' => exact fun α1 H1 v e1 r1 p1 => ⟨α1, S', d, e1, r1, p1, GoodS.ext h e1⟩
  | ex c fs ds S' => exact fun α' H' cls dx e1 r1 x => h α' H' σ cls dx e1 r1 (s.ext e1) x
  | stuck => exact h
end
variable (G : GA) (T : Tab) (cl : Cl)
def tS (X : Cx) (W : WX) (m : MS) : TS := fun E σ H => ∃ α env S, Rel (rc G X) α H S ∧ Sl (rc G X) α H env σ ∧ GoodS (rc G X) W E α H (run T cl m env S)
section
variable {G : GA} {T : Tab} {cl : Cl} {X : Cx} {W : WX} {e : Expr} {a b c m t : M} {pos : Pos} {st : Stmt} {rest sa sb : List Stmt} {u v : MS}
theorem ss_nil : PSs X [] (tS G T cl X W .nl) := pss_imp pss_nil fun E σ H ⟨α, env, S, r, s, g⟩ => (show GoodS _ _ _ _ _ (.nx env S) from g) α H σ Ext.refl r s
theorem ss_cons (h1 : PS X st (tS G T cl X W u)) (h2 : PSs X rest (tS G T cl X W v)) : PSs X (st :: rest) (tS G T cl X W (.cn u v)) := pss_imp (pss_cons h1 h2) fun E σ H ⟨α, env, S, r, s, g⟩ => by
  refine ⟨α, env, S, r, s, ?_⟩
  have ee : run T cl (.cn u v) env S = match run T cl u env S with
    | .nx e1 S1 => run T cl v e1 S1
    | o => o := by rfl
  rw [ee] at g
  cases h : run T cl u env S with
  | nx e1 S1 =>
    rw [h] at g
    exact fun α' H' σ' e' r' s' => ⟨α', e1, S1, r', s', GoodS.ext g e'⟩
  | rt _ _ => rw [h] at g; exact g
  | bk _ _ => rw [h] at g; exact g
  | ct _ _ => rw [h] at g; exact g
  | ex _ _ _ _ _ => rw [h] at g; exact g
  | stuck => rw [h] at g; exact g
theorem ss_one (h1 : PS X st (tS G T cl X W u)) : PSs X [st] (tS G T cl X W (.cn u .nl)) := ss_cons h1 ss_nil
theorem st_pass : PS X (.Pass pos) (tS G T cl X W .pas) := ps_imp ps_pass fun E σ H ⟨α, env, S, r, s, g⟩ => (show GoodS _ _ _ _ _ (.nx env S) from g) α H σ Ext.refl r s
theorem st_doc {x j pos'} : PS X (.Expr (.Constant (.str x) j pos) pos') (tS G T cl X W .pas) := ps_imp ps_doc fun E σ H ⟨α, env, S, r, s, g⟩ => (show GoodS _ _ _ _ _ (.nx env S) from g) α H σ Ext.refl r s
theorem st_brk : PS X (.Break pos) (tS G T cl X W .brk) := ps_imp ps_break fun E σ H ⟨α, env, S, r, s, g⟩ => (show GoodS _ _ _ _ _ (.bk env S) from g) α H σ Ext.refl r s
theorem st_cnt : PS X (.Continue pos) (tS G T cl X W .cnt) := ps_imp ps_continue fun E σ H ⟨α, env, S, r, s, g⟩ => (show GoodS _ _ _ _ _ (.ct env S) from g) α H σ Ext.refl r s
theorem st_stop : PS X st (tS G T cl X W .stop) := ps_imp ps_never fun E σ H ⟨α, env, S, r, s, g⟩ => g
theorem st_exp (he : PE X e (tE0 G T cl X W a)) (hs : swapsWith e none pos.line X.env = pure false) : PS X (.Expr e pos) (tS G T cl X W (.exp a)) := ps_imp (ps_expr he hs) fun E σ H ⟨α, env, S, r, s, g⟩ => by
  have g2 := GoodS.step s (show GoodS _ _ _ _ _ ((ev T cl a env S).out env fun _ S1 => .nx env S1) from g)
  refine ⟨α, env, S, r, s, ?_⟩
  cases h : ev T cl a env S with
  | stuck => rw [h] at g2; exact g2
  | ex c fs ds S' => rw [h] at g2; exact g2
  | ok d S1 =>
    rw [h] at g2
    intro α1 H1 v e1 r1 p1
    obtain ⟨α2, S2, d2, e2, r2, p2, g3⟩ := g2 α1 H1 v e1 r1 p1
    exact g3 α2 H1 σ Ext.refl r2 (s.ext e2)
theorem st_ret (he : PE X e (tE0 G T cl X W a)) : PS X (.Return (some e) pos) (tS G T cl X W (.ret a)) := ps_imp (ps_ret he) fun E σ H ⟨α, env, S, r, s, g⟩ => by
  have g2 := GoodS.step s (show GoodS _ _ _ _ _ ((ev T cl a env S).out env fun d S1 => .rt d S1) from g)
  refine ⟨α, env, S, r, s, ?_⟩
  cases h : ev T cl a env S with
  | stuck => rw [h] at g2; exact g2
  | ex c fs ds S' => rw [h] at g2; exact g2
  | ok d S1 =>
    rw [h] at g2
    intro α1 H1 v e1 r1 p1
    obtain ⟨α2, S2, d2, e2, r2, p2, g3⟩ := g2 α1 H1 v e1 r1 p1
    exact g3 α2 H1 v Ext.refl r2 p2
theorem st_retn : PS X (.Return none pos) (tS G T cl X W .retn) := ps_imp ps_retN fun E σ H ⟨α, env, S, r, s, g⟩ => (show GoodS _ _ _ _ _ (.rt .non S) from g) α H .non Ext.refl r (by unfold Rep; rfl)
/-- a value stored by a target -/
theorem asg_imp {g : TG} (hg : ∀ v σ H Q, (∃ α env S d, Rel (rc G X) α H S ∧ Sl (rc G X) α H env σ ∧ Rep (rc G X) α H d v ∧ ∃ E : Ends, E.nx = Q ∧ GoodS (rc G X) W E α H (asgT T cl t d env S)) → g v σ H Q) :
    ∀ E σ H, tS G T cl X W (.asg t a) E σ H → tAsg (tE0 G T cl X W a) g E σ H := fun E σ H ⟨α, env, S, r, s, q⟩ => by
  have g2 := GoodS.step s (show GoodS _ _ _ _ _ ((ev T cl a env S).out env fun d S1 => asgT T cl t d env S1) from q)
  refine ⟨α, env, S, r, s, ?_⟩
  cases h : ev T cl a env S with
  | stuck => rw [h] at g2; exact g2
  | ex c fs ds S' => rw [h] at g2; exact g2
  | ok d S1 =>
    rw [h] at g2
    intro α1 H1 v e1 r1 p1
    obtain ⟨α2, S2, d2, e2, r2, p2, g3⟩ := g2 α1 H1 v e1 r1 p1
    exact hg v σ H1 E.nx ⟨α2, env, S2, d2, r2, s.ext e2, p2, E, rfl, g3⟩
theorem var_goal {i : Nat} {v : V} {σ : L2.St} {H : Hp} {Q : L2.St → Hp → Prop} (h : ∃ α env S d, Rel (rc G X) α H S ∧ Sl (rc G X) α H env σ ∧ Rep (rc G X) α H d v ∧ ∃ E : Ends, E.nx = Q ∧ GoodS (rc G X) W E α H (asgT T cl (.var i) d env S)) : gName i v σ H Q := by
  obtain ⟨α, env, S, d, r, s, p, E, rfl, g⟩ := h
  exact (show GoodS _ _ _ _ _ (.nx (env.set i (some d)) S) from g) α H _ Ext.refl r (s.set p)
theorem st_set {i : Nat} {x : Str} {pos' : Pos} (hN : X.N.Nodup) (hi : X.N[i]? = some x) (hx : Loc X.env.scope x) (he : PE X e (tE0 G T cl X W a)) (hs : swapsWith e (some (.Name x pos')) pos.line X.env = pure false) (hf : X.fn x = true ∨ X.env.scope.names.lookup x = some .local) :
    PS X (.Assign [.Name x pos'] e pos) (tS G T cl X W (.asg (.var i) a)) := ps_imp (ps_set hN hi hx he hs hf) (asg_imp fun _ _ _ _ h => var_goal h)
theorem pg_or {tg : Expr} {t1 t2 : TG} (h1 : PG X tg t1) (h2 : PG X tg t2) : PG X tg (fun v σ H Q => t1 v σ H Q ∨ t2 v σ H Q) := ⟨fun pins s σ H v u Q I r q => q.elim (h1.run pins s σ H v u Q I r) (h2.run pins s σ H v u Q I r)⟩
/-- several names at once: a tuple, or a list -/
theorem st_unp {es : List Expr} {kk : Nat} {pt : Pos} (hc : X.calm = true) (hg : PGs X es (gMs G X t)) (hn : (assignEach es X.env).length = lenM t) (hst : (assignEach es X.env).findIdx? (·.1) = none) (he : PE X e (tE0 G T cl X W a))
    (hs : swapsWithSole [.Tuple es kk pt] e pos.line X.env = pure false) (hw : swappedStores [.Tuple es kk pt] e X.env = pure none) (h1 : (assignEach [.Tuple es kk pt] X.env).map (·.2) = [assign (.Tuple es kk pt) X.env]) :
    PS X (.Assign [.Tuple es kk pt] e pos) (tS G T cl X W (.asg (.tup t) a)) :=
  ps_imp (ps_asg he (pg_or (pg_tup hc hg hn hst) (pg_lst hc hg hn hst)) hs hw h1) (asg_imp fun v σ H Q ⟨α, env, S, d, r, s, p, E, eq, g⟩ => by
    subst eq
    have g1 : GoodS (rc G X) W E α H (match seqOf S d with
      | some ds => match bindTs t ds env with
        | some env' => .nx env' S
        | none => .stuck
      | none => .stuck) := g
    split at g1
    · rename_i ds hq
      split at g1
      · rename_i env' hb
        have fin : ∀ σ', Sl (rc G X) α H env' σ' → Same (slots t) σ σ' → E.nx σ' H := fun σ' sl _ => (show GoodS _ _ _ _ _ (.nx env' S) from g1) α H σ' Ext.refl r sl
        unfold seqOf at hq
        split at hq
        · rename_i ds' hd
          cases hq
          obtain ⟨p0, ws, rfl, t1, t2, _⟩ := rep_tup r p hd
          exact .inl ⟨p0, ws, rfl, t1, by rw [← t2.len]; exact bindTs_lenM _ _ _ _ hb, α, env, S, _, env', r, s, t2, hb, fin⟩
        · rename_i ds' hd
          cases hq
          obtain ⟨p0, rfl, pl⟩ := pls_of r p hd
          obtain ⟨ws, t1, t2⟩ := pls_get r pl hd (stays_self _) hnd_mem
          exact .inr ⟨p0, ws, rfl, SqL.of t1, by rw [← t2.len]; exact bindTs_lenM _ _ _ _ hb, α, env, S, _, env', r, s, t2, hb, fin⟩
        · cases hq
      · exact g1.elim
    · exact g1.elim)
theorem st_ite (hc : PT X e (tTs G T cl X W c)) (ha : PSs X sa (tS G T cl X W u)) (hb : PSs X sb (tS G T cl X W v)) : PS X (.If e sa sb pos) (tS G T cl X W (.ite c u v)) := ps_imp (ps_if hc ha hb) fun E σ H ⟨α, env, S, r, s, g⟩ => by
  refine ⟨α, env, S, r, s, ?_⟩
  have g1 : GoodS (rc G X) W E α H ((ev T cl c env S).out env fun x S1 => match truth S1 x with
    | some true => run T cl u env S1
    | some false => run T cl v env S1
    | none => .stuck) := g
  cases h : ev T cl c env S with
  | stuck => rw [h] at g1; exact g1
  | ex c fs ds S' => rw [h] at g1; exact fun α' H' cls dx e1 r1 x => g1 α' H' σ cls dx e1 r1 (s.ext e1) x
  | ok d S1 =>
    rw [h] at g1
    simp only [Res.out] at g1
    split at g1
    · rename_i ht
      exact ⟨true, ht, fun α' H' e' r' => show tS G T cl X W u E σ H' from ⟨α', env, S1, r', s.ext e', GoodS.ext g1 e'⟩⟩
    · rename_i ht
      exact ⟨false, ht, fun α' H' e' r' => show tS G T cl X W v E σ H' from ⟨α', env, S1, r', s.ext e', GoodS.ext g1 e'⟩⟩
    · exact g1.elim
theorem if_true_intro {p q : Prop} (h : p) : if true = true then p else q := by rw [if_pos rfl]; exact h
theorem if_false_intro {p q : Prop} (h : q) : if false = true then p else q := by rw [if_neg Bool.false_ne_true]; exact h
/-- while -/
theorem st_whl {body : List Stmt} (hp : PassesOwn (model X.prog X.w) X.A X.env X.xe) (hc : PT X e (tTs G T cl X W c)) (hb : PSs X body (tS G T cl X W u)) : PS X (.While e body [] pos) (tS G T cl X W (.whl c u)) := ps_imp (ps_while hp hc hb) fun E σ0 H0 ⟨α0, env0, S0, r0, s0, g0⟩ => by
  refine ⟨fun m σ H => ∃ α env S, Rel (rc G X) α H S ∧ Sl (rc G X) α H env σ ∧ GoodS (rc G X) W E α H (whlL (ev T cl c) (run T cl u) m env S), ⟨T.fuel, α0, env0, S0, r0, s0, g0⟩, ?_⟩
  rintro m σ H ⟨α, env, S, r, s, g⟩
  cases m with
  | zero => exact g.elim
  | succ m =>
    refine ⟨α, env, S, r, s, ?_⟩
    have g1 : GoodS (rc G X) W E α H ((ev T cl c env S).out env fun x S1 => match truth S1 x with
      | some true => match run T cl u env S1 with
        | .nx e1 S2 => whlL (ev T cl c) (run T cl u) m e1 S2
        | .ct e1 S2 => whlL (ev T cl c) (run T cl u) m e1 S2
        | .bk e1 S2 => .nx e1 S2
        | .rt d S2 => .rt d S2
        | .ex c fs vs e1 S2 => .ex c fs vs e1 S2
        | .stuck => .stuck
      | some false => .nx env S1
      | none => .stuck) := g
    cases h : ev T cl c env S with
    | stuck => rw [h] at g1; exact g1
    | ex c fs ds S' => rw [h] at g1; exact fun α' H' cls dx e1 r1 x => g1 α' H' σ cls dx e1 r1 (s.ext e1) x
    | ok d S1 =>
      rw [h] at g1
      simp only [Res.out] at g1
      split at g1
      · rename_i ht
        refine ⟨true, ht, fun α1 H1 e1 r1 => ?_⟩
        refine if_true_intro ?_
        refine ⟨fun σ' H' => ∃ α env S, Rel (rc G X) α H' S ∧ Sl (rc G X) α H' env σ' ∧ GoodS (rc G X) W E α H' (whlL (ev T cl c) (run T cl u) m env S), fun σ' H' n => ⟨m, Nat.lt_succ_self m, n⟩, α1, env, S1, r1, s.ext e1, ?_⟩
        cases h2 : run T cl u env S1 with
        | nx e2 S2 => rw [h2] at g1; exact fun α2 H2 σ2 x2 r2 s2 => ⟨α2, e2, S2, r2, s2, GoodS.ext g1 (e1.trans x2)⟩
        | ct e2 S2 => rw [h2] at g1; exact fun α2 H2 σ2 x2 r2 s2 => ⟨α2, e2, S2, r2, s2, GoodS.ext g1 (e1.trans x2)⟩
        | bk e2 S2 => rw [h2] at g1; exact fun α2 H2 σ2 x2 r2 s2 => g1 α2 H2 σ2 (e1.trans x2) r2 s2
        | rt d2 S2 => rw [h2] at g1; exact GoodS.ext g1 e1
        | ex c fs ds e2 S2 => rw [h2] at g1; exact GoodS.ext g1 e1
        | stuck => rw [h2] at g1; exact g1
      · rename_i ht
        refine ⟨false, ht, fun α1 H1 e1 r1 => ?_⟩
        exact if_false_intro <| g1 α1 H1 σ e1 r1 (s.ext e1)
      · exact g1.elim
/-- for -/
theorem st_for {tg iter : Expr} {body : List Stmt} (hp : PassesOwn (model X.prog X.w) X.A X.env X.xe) (hc : X.calm = true) (hi : PI X tg iter (iIt G T cl X W a)) (hg : PG X tg (gM G X t)) (hb : PSs X body (tS G T cl X W u)) (hs : ∀ x, foldedSetIterable iter X.env x = pure x) :
    PS X (.For tg iter body [] pos) (tS G T cl X W (.for_ t a u)) := ps_imp (ps_for hp hc hi hg hb hs) fun E σ0 H0 ⟨α0, env0, S0, r0, s0, g0⟩ => by
  refine ⟨α0, env0, S0, r0, s0, ?_⟩
  have g : GoodS (rc G X) W E α0 H0 ((ev T cl a env0 S0).out env0 fun x S1 => match itemsM a S1 x with
    | some xs => forL T cl t (run T cl u) (guardsM a x) S1 xs env0 S1
    | none => .stuck) := g0
  cases h : ev T cl a env0 S0 with
  | stuck => rw [h] at g; exact g
  | ex c fs ds S' => rw [h] at g; exact fun α' H' cls dx e1 r1 x => g α' H' σ0 cls dx e1 r1 (s0.ext e1) x
  | ok d S1 =>
    rw [h] at g
    simp only [Res.out] at g
    split at g
    · rename_i xs hx
      refine ⟨xs, hx, fun α1 H1 J P e1 r1 wi p => ?_⟩
      refine ⟨fun i m σ H => m = xs.length - i ∧ i ≤ xs.length ∧ ∃ α env S, Rel (rc G X) α H S ∧ Sl (rc G X) α H env σ ∧ P α H ∧ stays (guardsM a d) S1 S = true ∧ GoodS (rc G X) W E α H (forL T cl t (run T cl u) (guardsM a d) S1 (xs.drop i) env S),
        ⟨xs.length, by simp, Nat.zero_le _, α1, env0, S1, r1, s0.ext e1, p, stays_self _, GoodS.ext g e1⟩, ?_⟩
      rintro i m σ H ⟨rfl, hi, α, env, S, r, s, p, st, g⟩
      by_cases hlt : i < xs.length
      · have hxd : xs[i]? = some xs[i] := by simp [hlt]
        rw [List.drop_eq_getElem_cons hlt] at g
        simp only [forL] at g
        split at g
        · rename_i env' hb
          refine .inr ⟨wi.go α H S i r p st hlt, fun σ' H' => ∃ α' e' S', Rel (rc G X) α' H' S' ∧ Sl (rc G X) α' H' e' σ' ∧ P α' H' ∧ stays (guardsM a d) S1 S' = true ∧ GoodS (rc G X) W E α' H' (forL T cl t (run T cl u) (guardsM a d) S1 (xs.drop (i + 1)) e' S'),
            fun σ' H' n => ⟨xs.length - (i + 1), by omega, rfl, hlt, n⟩, fun x H' y => ?_⟩
          obtain ⟨ey, ry, py⟩ := wi.yld α H S i x H' r p st y _ hxd
          refine ⟨α, env, S, xs[i], env', ry, s.ext ey, py, hb, fun σ' sl same => ⟨α, env', S, ry, sl, ?_⟩⟩
          cases h2 : run T cl u env' S with
          | nx e2 S2 =>
            rw [h2] at g
            simp only at g
            split at g
            · rename_i hst
              exact fun α2 H2 σ2 x2 r2 s2 => ⟨α2, e2, S2, r2, s2, wi.pst _ _ _ _ p (ey.trans x2).wk, hst, GoodS.ext g (ey.trans x2)⟩
            · exact g.elim
          | ct e2 S2 =>
            rw [h2] at g
            simp only at g
            split at g
            · rename_i hst
              exact fun α2 H2 σ2 x2 r2 s2 => ⟨α2, e2, S2, r2, s2, wi.pst _ _ _ _ p (ey.trans x2).wk, hst, GoodS.ext g (ey.trans x2)⟩
            · exact g.elim
          | bk e2 S2 => rw [h2] at g; exact fun α2 H2 σ2 x2 r2 s2 => g α2 H2 σ2 (ey.trans x2) r2 s2
          | rt d2 S2 => rw [h2] at g; exact GoodS.ext g ey
          | ex c fs ds e2 S2 => rw [h2] at g; exact GoodS.ext g ey
          | stuck => rw [h2] at g; exact g
        · exact g.elim
      · have e : i = xs.length := by omega
        subst e
        rw [List.drop_length] at g
        exact .inl ⟨wi.stop α H S r p st, (show GoodS _ _ _ _ _ (.nx env S) from g) α H σ Ext.refl r s⟩
    · exact g.elim
theorem ps_or {t1 t2 : TS} (h1 : PS X st t1) (h2 : PS X st t2) : PS X st (fun E σ H => t1 E σ H ∨ t2 E σ H) := ⟨fun pins s σ H E I q => q.elim (h1.run pins s σ H E I) (h2.run pins s σ H E I)⟩
/-- a, b = x, y -/
theorem st_par {i j : Nat} {x y : Str} {e1 e2 : Expr} {px py pt : Pos} {kt k2 pt2} (hc : X.calm = true) (hN : X.N.Nodup) (hi : X.N[i]? = some x) (hj : X.N[j]? = some y) (hij : i ≠ j)
    (hx : X.env.scope.names.lookup x = some .local) (hy : X.env.scope.names.lookup y = some .local) (ha : PA X [e1, e2] (tAr G T cl X W (.cons a (.cons b .nil))))
    (hw : swappedStores [.Tuple [.Name x px, .Name y py] kt pt] (.Tuple [e1, e2] k2 pt2) X.env = pure (some [x, y]))
    (hs : swapsWithSole [.Tuple [.Name x px, .Name y py] kt pt] (.Tuple [e1, e2] k2 pt2) pos.line X.env = pure false) :
    PS X (.Assign [.Tuple [.Name x px, .Name y py] kt pt] (.Tuple [e1, e2] k2 pt2) pos) (tS G T cl X W (.asg (.tup (.cons (.var i) (.cons (.var j) .nil))) (.tup (.cons a (.cons b .nil))))) :=
  ps_imp (ps_par hc hN hi hj hij hx hy ha hw hs) fun E σ H ⟨α, env, S, r, s, g⟩ => by
    have g1 : GoodS (rc G X) W E α H (((ev T cl (.cons a (.cons b .nil)) env S).bind fun ds S1 => if (tupOf ds).length ≤ sizeLine then .ok (.tup (tupOf ds)) S1 else .stuck).out env fun d S1 => asgT T cl (.tup (.cons (.var i) (.cons (.var j) .nil))) d env S1) := g
    refine ⟨α, env, S, r, s, ?_⟩
    cases h : ev T cl (.cons a (.cons b .nil)) env S with
    | stuck => rw [h] at g1; exact g1
    | ex c fs ds S' => rw [h] at g1; exact fun α' H' cls dx e1 r1 x => g1 α' H' σ cls dx e1 r1 (s.ext e1) x
    | ok d S1 =>
      rw [h] at g1
      simp only [Res.bind] at g1
      intro α1 H1 vs e1 r1 p1
      generalize tupOf d = ds at g1 p1
      split at g1
      · simp only [Res.out, asgT, seqOf, deref] at g1
        match ds, vs, p1, g1 with
        | [], _, _, g1 => simp [bindTs] at g1; exact g1.elim
        | [_], _, _, g1 => simp [bindTs, bindT] at g1; exact g1.elim
        | _ :: _ :: _ :: _, _, _, g1 => simp [bindTs, bindT] at g1; exact g1.elim
        | [d1, d2], [], p1, _ => unfold Reps at p1; exact p1.elim
        | [d1, d2], [_], p1, _ => unfold Reps at p1; unfold Reps at p1; exact p1.2.elim
        | [d1, d2], _ :: _ :: _ :: _, p1, _ => unfold Reps at p1; unfold Reps at p1; unfold Reps at p1; exact p1.2.2.elim
        | [d1, d2], [v1, v2], p1, g1 =>
          unfold Reps at p1
          unfold Reps at p1
          simp only [bindTs, bindT] at g1
          exact ⟨v1, v2, rfl, g1 α1 H1 _ e1 r1 (((s.ext e1).set p1.1).set p1.2.1)⟩
      · exact g1.elim
/-- name = [.. for ..], on one line -/
theorem st_setLc {i : Nat} {y : Str} {py spos : Pos} {elt tg iter : Expr} {tm it e' : M} {scope : Scope} {own : List (Str × Nat)} (hc : X.calm = true) (hN : X.N.Nodup) (hy : X.N[i]? = some y) (hyl : X.env.scope.names.lookup y = some .local)
    (hsw : swapsWith (.ListComp elt [⟨tg, iter, [], 0⟩] scope pos) (some (.Name y py)) spos.line X.env = pure true) (hi : PI X tg iter (iIt G T cl X W it)) (ok : BlkOk X.N X.env.scope scope own)
    (hg : ∀ (s : Shared) (H : Hp) (C : Addr) (c' : List (Str × Addr)) (fp : List Addr), PG (X.blk s H scope (compEnvC scope c' C X.env) fp) tg (gM G X tm))
    (he : ∀ (s : Shared) (H : Hp) (C : Addr) (c' : List (Str × Addr)) (fp : List Addr), PE (X.blk s H scope (compEnvC scope c' C X.env) fp) elt (tE0 G T cl X W0 e')) (hsub : ∀ i, i ∈ slots tm → i ∈ own.map (·.2)) (hs : ∀ x, foldedSetIterable iter X.env x = pure x) :
    PS X (.Assign [.Name y py] (.ListComp elt [⟨tg, iter, [], 0⟩] scope pos) spos) (tS G T cl X W (.asg (.var i) (.lc (own.map (·.2)) tm it e'))) :=
  ps_imp (ps_setLc hc hN hy hyl hsw hi ok hg (fun _ _ _ _ _ => pts_nil) he hs) fun E σ H q => by
    obtain ⟨α, env, S, r, s, g⟩ := asg_imp (W := W) (g := gName i) (fun _ _ _ _ h => var_goal h) E σ H q
    exact lc_sound hsub σ H _ ⟨α, env, S, r, s, g.any⟩
theorem st_setLcf {i : Nat} {y : Str} {py spos : Pos} {elt tg iter ce : Expr} {tm it e' cm : M} {scope : Scope} {own : List (Str × Nat)} (hc : X.calm = true) (hN : X.N.Nodup) (hy : X.N[i]? = some y) (hyl : X.env.scope.names.lookup y = some .local)
    (hsw : swapsWith (.ListComp elt [⟨tg, iter, [ce], 0⟩] scope pos) (some (.Name y py)) spos.line X.env = pure true) (hi : PI X tg iter (iIt G T cl X W it)) (ok : BlkOk X.N X.env.scope scope own)
    (hg : ∀ (s : Shared) (H : Hp) (C : Addr) (c' : List (Str × Addr)) (fp : List Addr), PG (X.blk s H scope (compEnvC scope c' C X.env) fp) tg (gM G X tm))
    (ht : ∀ (s : Shared) (H : Hp) (C : Addr) (c' : List (Str × Addr)) (fp : List Addr), PT (X.blk s H scope (compEnvC scope c' C X.env) fp) ce (tTs G T cl X W0 cm))
    (he : ∀ (s : Shared) (H : Hp) (C : Addr) (c' : List (Str × Addr)) (fp : List Addr), PE (X.blk s H scope (compEnvC scope c' C X.env) fp) elt (tE0 G T cl X W0 e')) (hsub : ∀ i, i ∈ slots tm → i ∈ own.map (·.2)) (hs : ∀ x, foldedSetIterable iter X.env x = pure x) :
    PS X (.Assign [.Name y py] (.ListComp elt [⟨tg, iter, [ce], 0⟩] scope pos) spos) (tS G T cl X W (.asg (.var i) (.lcf (own.map (·.2)) tm it cm e'))) :=
  ps_imp (ps_setLc hc hN hy hyl hsw hi ok hg (fun _ _ _ _ _ => pts_one (ht _ _ _ _ _)) he hs) fun E σ H q => by
    obtain ⟨α, env, S, r, s, g⟩ := asg_imp (W := W) (g := gName i) (fun _ _ _ _ h => var_goal h) E σ H q
    exact lcf_sound hsub σ H _ ⟨α, env, S, r, s, g.any⟩
/-! ### items, fields -/
/-- d, then o, then i -/
theorem sub_goal {o i : M} {E : Ends} {σ : L2.St} {H : Hp} {q : V → V → V → Hp → Prop} (h : tS G T cl X W (.asg (.sub o i) a) E σ H)
    (hq : ∀ α S S' x y d v1 v2 v H env, Rel (rc G X) α H S → Sl (rc G X) α H env σ → Rep (rc G X) α H x v1 → Rep (rc G X) α H y v2 → Rep (rc G X) α H d v → setD S x y d = some S' → (∀ α' H', Ext α H α' H' → Rel (rc G X) α' H' S' → E.nx σ H') → q v v1 v2 H) :
    tE0 G T cl X W a σ H fun v H1 => tE0 G T cl X W o σ H1 fun v1 H2 => tE0 G T cl X W i σ H2 fun v2 H3 => q v v1 v2 H3 := by
  obtain ⟨α, env, S, r, s, g⟩ := h
  have g2 := GoodS.step s (show GoodS _ _ _ _ _ ((ev T cl a env S).out env fun d S1 => (ev T cl o env S1).out env fun x S2 => (ev T cl i env S2).out env fun y S3 => optS (setD S3 x y d) env) from g)
  refine ⟨α, env, S, r, s, ?_⟩
  cases h : ev T cl a env S with
  | stuck => rw [h] at g2; exact g2
  | ex c fs ds S' => rw [h] at g2; exact g2
  | ok d S1 =>
    rw [h] at g2
    intro α1 H1 v e1 r1 p1
    obtain ⟨α2, S2, d2, e2, r2, p2, g3⟩ := g2 α1 H1 v e1 r1 p1
    refine ⟨α2, env, S2, r2, s.ext e2, ?_⟩
    have g4 := GoodS.step (s.ext e2) g3
    cases h' : ev T cl o env S2 with
    | stuck => rw [h'] at g4; exact g4
    | ex c fs ds S' => rw [h'] at g4; exact g4
    | ok d' S1' =>
      rw [h'] at g4
      intro α3 H3 v3 e3 r3 p3
      obtain ⟨α4, S4, d4, e4, r4, p4, g5⟩ := g4 α3 H3 v3 e3 r3 p3
      refine ⟨α4, env, S4, r4, (s.ext e2).ext e4, ?_⟩
      have g6 := GoodS.step ((s.ext e2).ext e4) g5
      cases h2 : ev T cl i env S4 with
      | stuck => rw [h2] at g6; exact g6
      | ex c fs ds S' => rw [h2] at g6; exact g6
      | ok d5 S5 =>
        rw [h2] at g6
        intro α5 H5 v5 e5 r5 p5
        obtain ⟨α6, S6, d6, e6, r6, p6, g7⟩ := g6 α5 H5 v5 e5 r5 p5
        cases h8 : setD S6 d4 d6 d2 with
        | none => rw [h8] at g7; exact g7.elim
        | some S7 =>
          rw [h8] at g7
          exact hq α6 S6 S7 d4 d6 d2 v3 v5 v H5 env r6 (((s.ext e2).ext e4).ext e6) (Rep.ext e6 _ _ p4) p6 (Rep.ext e6 _ _ (Rep.ext e4 _ _ p2)) h8 fun α' H' e' r' => g7 α' H' σ e' r' ((((s.ext e2).ext e4).ext e6).ext e')
theorem putA_reps {R : RC} {α : Al} {H : Hp} {k : Ky} {d : D} {v : V} (p : Rep R α H d v) : ∀ {ks : List Ky} {ds : List D} {vs : List V}, Reps R α H ds vs → Reps R α H (putA k d ks ds) (putA k v ks vs)
  | [], _, _, _ => by unfold putA Reps; trivial
  | _ :: _, [], [], _ => by unfold putA Reps; trivial
  | _ :: _, [], _ :: _, h => by unfold Reps at h; exact h.elim
  | _ :: _, _ :: _, [], h => by unfold Reps at h; exact h.elim
  | l :: ks, e :: ds, w :: vs, h => by
    unfold Reps at h
    unfold putA Reps
    refine ⟨?_, putA_reps p h.2⟩
    by_cases q : l = k
    · rw [if_pos q, if_pos q]; exact p
    · rw [if_neg q, if_neg q]; exact h.1
theorem putA_zipK {k : Key} {v : V} : ∀ {ks : List Ky} {vs : List V} {kvs : List (Key × V)}, zipK ks vs = some kvs → zipK ks (putA (.inl k) v ks vs) = some (kvs.map fun kv => if kv.1 = k then (kv.1, v) else kv)
  | [], [], kvs, h => by unfold zipK at h; cases h; rfl
  | [], _ :: _, _, h => by simp [zipK] at h
  | .inr _ :: _, _, _, h => by simp [zipK] at h
  | .inl l :: ks, [], _, h => by simp [zipK] at h
  | .inl l :: ks, w :: vs, kvs, h => by
    unfold zipK at h
    cases q : zipK ks vs with
    | none => rw [q] at h; cases h
    | some r =>
      rw [q] at h
      cases h
      unfold putA zipK
      rw [putA_zipK q]
      by_cases z : l = k
      · subst z; simp
      · have : ¬ (Sum.inl l : Ky) = Sum.inl k := fun e => z (Sum.inl.inj e)
        simp [z, this]
theorem putA_zipT {k : List Key} {v : V} : ∀ {ks : List Ky} {vs : List V} {kvs : List (List Key × V)}, zipT ks vs = some kvs → zipT ks (putA (.inr k) v ks vs) = some (kvs.map fun kv => if kv.1 = k then (kv.1, v) else kv)
  | [], [], kvs, h => by unfold zipT at h; cases h; rfl
  | [], _ :: _, _, h => by simp [zipT] at h
  | .inl _ :: _, _, _, h => by simp [zipT] at h
  | .inr l :: ks, [], _, h => by simp [zipT] at h
  | .inr l :: ks, w :: vs, kvs, h => by
    unfold zipT at h
    cases q : zipT ks vs with
    | none => rw [q] at h; cases h
    | some r =>
      rw [q] at h
      cases h
      unfold putA zipT
      rw [putA_zipT q]
      by_cases z : l = k
      · subst z; simp
      · have : ¬ (Sum.inr l : Ky) = Sum.inr k := fun e => z (Sum.inr.inj e)
        simp [z, this]
theorem zipK_snoc {k : Key} {v : V} : ∀ {ks : List Ky} {vs : List V} {kvs : List (Key × V)}, zipK ks vs = some kvs → zipK (ks ++ [.inl k]) (vs ++ [v]) = some (kvs ++ [(k, v)])
  | [], [], kvs, h => by unfold zipK at h; cases h; rfl
  | [], _ :: _, _, h => by simp [zipK] at h
  | .inr _ :: _, _, _, h => by simp [zipK] at h
  | .inl l :: ks, [], _, h => by simp [zipK] at h
  | .inl l :: ks, w :: vs, kvs, h => by
    unfold zipK at h
    cases q : zipK ks vs with
    | none => rw [q] at h; cases h
    | some r =>
      rw [q] at h
      cases h
      rw [List.cons_append, List.cons_append]
      unfold zipK
      rw [zipK_snoc q]
      rfl
theorem zipT_snoc {k : List Key} {v : V} : ∀ {ks : List Ky} {vs : List V} {kvs : List (List Key × V)}, zipT ks vs = some kvs → zipT (ks ++ [.inr k]) (vs ++ [v]) = some (kvs ++ [(k, v)])
  | [], [], kvs, h => by unfold zipT at h; cases h; rfl
  | [], _ :: _, _, h => by simp [zipT] at h
  | .inl _ :: _, _, _, h => by simp [zipT] at h
  | .inr l :: ks, [], _, h => by simp [zipT] at h
  | .inr l :: ks, w :: vs, kvs, h => by
    unfold zipT at h
    cases q : zipT ks vs with
    | none => rw [q] at h; cases h
    | some r =>
      rw [q] at h
      cases h
      rw [List.cons_append, List.cons_append]
      unfold zipT
      rw [zipT_snoc q]
      rfl
/-- a dict's cell behind d[k] = v -/
theorem put_cell {R : RC} {α : Al} {H : Hp} {t : Bool} {o : HO} {ks : List Ky} {ds : List D} {vs : List V} {d kd : D} {v kv : V} {k : Ky} (c : DctO t o ks vs) (r : Reps R α H ds vs) (p : Rep R α H d v) (pk : Rep R α H kd kv) (e : toKy t kd = some k) (hl : ks.length < sizeLine) (a : Addr) (ha : H a = some o) :
    ∃ o', DPut H a kv v (upd H a o') ∧ CellV R α H o' (.dct t (putK k d ks ds).1 (putK k d ks ds).2) := by
  rcases toKy_rep pk e with ⟨rfl, k', rfl, rfl⟩ | ⟨rfl, k', b, rfl, rfl, hb⟩
  · obtain ⟨kvs, hz, rfl⟩ := c
    obtain ⟨h1, h2, h3, h4⟩ := zipK_val k' r hz
    refine ⟨_, .inl ⟨kvs, k', ha, rfl, by omega, rfl⟩, ?_⟩
    unfold putK L2.putK
    rw [valV_any, ← h1]
    by_cases hh : hasK (.inl k') ks = true
    · rw [if_pos hh, if_pos hh]
      exact ⟨putA (.inl k') v ks vs, ⟨_, putA_zipK hz, rfl⟩, putA_reps p r⟩
    · rw [if_neg hh, if_neg hh]
      exact ⟨vs ++ [v], ⟨_, zipK_snoc hz, rfl⟩, Reps.append r (by unfold Reps; exact ⟨p, by unfold Reps; trivial⟩)⟩
  · obtain ⟨kvs, hz, rfl⟩ := c
    obtain ⟨h1, h2, h3, h4⟩ := zipT_val k' r hz
    refine ⟨_, .inr ⟨kvs, k', b, ha, rfl, hb, by omega, rfl⟩, ?_⟩
    unfold putK L2.putK
    rw [valV_any, ← h1]
    by_cases hh : hasK (.inr k') ks = true
    · rw [if_pos hh, if_pos hh]
      exact ⟨putA (.inr k') v ks vs, ⟨_, putA_zipT hz, rfl⟩, putA_reps p r⟩
    · rw [if_neg hh, if_neg hh]
      exact ⟨vs ++ [v], ⟨_, zipT_snoc hz, rfl⟩, Reps.append r (by unfold Reps; exact ⟨p, by unfold Reps; trivial⟩)⟩
def rSetD : TSet := fun o i v H Q => ∃ a H', o = .ref a ∧ DPut H a i v H' ∧ Q H'
theorem set_dct (hu : X.A.units + 1 < cLine) : PSet X rSetD := by
  intro pins s σ H o i v ov iv u Q I ro ri rv h
  obtain ⟨a, H', rfl, g, q⟩ := h
  obtain rfl : ov = Value.ref a := ro
  exact d_setItem hu I g ri rv fun s4 I4 => ⟨H', I4, q⟩
theorem pset_or {t1 t2 : TSet} (h1 : PSet X t1) (h2 : PSet X t2) : PSet X (fun o i v H Q => t1 o i v H Q ∨ t2 o i v H Q) := fun pins s σ H o i v ov iv u Q I ro ri rv q =>
  q.elim (h1 pins s σ H o i v ov iv u Q I ro ri rv) (h2 pins s σ H o i v ov iv u Q I ro ri rv)
theorem st_item {o i value : Expr} {om im : M} {pos' : Pos} (hu : X.A.units + 1 < cLine) (ho : PE X o (tE0 G T cl X W om)) (hi : PE X i (tE0 G T cl X W im)) (hv : PE X value (tE0 G T cl X W a))
    (ha : ∀ v, assign (.Subscript o i pos') X.env v = (do
      let ov ← holding [v] (eval o X.env)
      let iv ← holding [v, ov] (eval i X.env)
      standAt pos'
      holding [v, ov, iv] (setItem ov iv v)
      release [v, ov, iv] []))
    (hs2 : swapsWithSole [.Subscript o i pos'] value pos.line X.env = pure false) (hw : swappedStores [.Subscript o i pos'] value X.env = pure none) (h1 : (assignEach [.Subscript o i pos'] X.env).map (·.2) = [assign (.Subscript o i pos') X.env]) :
    PS X (.Assign [.Subscript o i pos'] value pos) (tS G T cl X W (.asg (.sub om im) a)) :=
  ps_imp (ps_asg hv (pg_sub ho hi (pset_or set_list (set_dct hu)) ha) hs2 hw h1) fun E σ H h => by
    refine sub_goal (q := fun v v1 v2 H => rSetL v1 v2 v H (fun H3 => E.nx σ H3) ∨ rSetD v1 v2 v H (fun H3 => E.nx σ H3)) h fun α S S' x y d v1 v2 v H env r s p1 p2 p3 hd k => ?_
    unfold setD at hd
    split at hd
    · rename_i n xs ii hx
      obtain ⟨p, ws, rfl, h1, h2, h3⟩ := rep_lstH r p1 hx
      unfold Rep at p2
      subst p2
      cases hj : ixN xs.length ii with
      | none => rw [hj] at hd; cases hd
      | some j =>
        rw [hj] at hd
        cases hd
        refine .inl ⟨p, ws, ii, j, rfl, rfl, h2, by rw [← h3.len]; exact hj, k α _ (Ext.mut r h1) (r.mut h1 ⟨_, rfl, Reps.set j h3 p3⟩)⟩
    · rename_i y _ _ _ n t ks vs hx
      obtain ⟨p, ws, o, rfl, h1, h2, h3, h4⟩ := rep_dctH r p1 hx
      cases hk : toKy t y with
      | none => rw [hk] at hd; cases hd
      | some ky =>
        rw [hk] at hd
        simp only [Option.bind_some] at hd
        split at hd
        · rename_i hl
          cases hd
          obtain ⟨o', g1, g2⟩ := put_cell h3 h4 p3 p2 hk hl p h2
          exact .inr ⟨p, _, rfl, g1, k α _ (Ext.mut r h1) (r.mut h1 g2)⟩
        · cases hd
    · cases hd
theorem putF_zip {f : Str} {d : D} {v : V} {R : RC} {α : Al} {H : Hp} (p : Rep R α H d v) : ∀ {fs : List Str} {ds : List D} {vs : List V}, fs.length = vs.length → Reps R α H ds vs →
    ∃ us, putF f v (fs.zip vs) = (putFD f d fs ds).1.zip us ∧ (putFD f d fs ds).1.length = us.length ∧ Reps R α H (putFD f d fs ds).2 us
  | [], [], [], _, _ => ⟨[v], rfl, rfl, by unfold putFD Reps; exact ⟨p, by unfold Reps; trivial⟩⟩
  | [], _ :: _, [], _, h => by unfold Reps at h; exact h.elim
  | _ :: _, [], _ :: _, _, h => by unfold Reps at h; exact h.elim
  | g :: fs, e :: ds, w :: vs, hl, h => by
    unfold Reps at h
    unfold putFD
    by_cases q : f = g
    · subst q
      rw [if_pos rfl]
      refine ⟨v :: vs, ?_, by simpa using hl, ?_⟩
      · simp [putF]
      · unfold Reps; exact ⟨p, h.2⟩
    · rw [if_neg q]
      obtain ⟨us, h1, h2, h3⟩ := putF_zip p (by simpa using hl) h.2
      refine ⟨w :: us, ?_, by simpa using h2, ?_⟩
      · simp only [List.zip_cons_cons]
        rw [← h1]
        simp only [putF]
        rw [if_neg (by first | exact q | exact fun z => q z.symm | (simp; exact fun z => q z.symm) | (simp; exact q))]
      · unfold Reps; exact ⟨h.1, h3⟩
theorem st_fld {o value : Expr} {om : M} {f : Str} {pos' : Pos} (hf : ∀ c, T.fld c f = true → Cls X.K (G.ca c) ∧ NoAttr X.K (G.ca c) f) (ho : PE X o (tE0 G T cl X W om)) (hv : PE X value (tE0 G T cl X W a)) (hs : swapsWith value (some (.Attribute o f pos')) pos.line X.env = pure false) :
    PS X (.Assign [.Attribute o f pos'] value pos) (tS G T cl X W (.asg (.attr om f) a)) :=
  ps_imp (ps_fld ho hv hs) fun E σ H ⟨α, env, S, r, s, g⟩ => by
    have g2 := GoodS.step s (show GoodS _ _ _ _ _ ((ev T cl a env S).out env fun d S1 => (ev T cl om env S1).out env fun x S2 => optS (setA T.fld S2 x f d) env) from g)
    refine ⟨α, env, S, r, s, ?_⟩
    cases h : ev T cl a env S with
    | stuck => rw [h] at g2; exact g2
    | ex c fs ds S' => rw [h] at g2; exact g2
    | ok d S1 =>
      rw [h] at g2
      intro α1 H1 v e1 r1 p1
      obtain ⟨α2, S2, d2, e2, r2, p2, g3⟩ := g2 α1 H1 v e1 r1 p1
      refine ⟨α2, env, S2, r2, s.ext e2, ?_⟩
      have g4 := GoodS.step (s.ext e2) g3
      cases h' : ev T cl om env S2 with
      | stuck => rw [h'] at g4; exact g4
      | ex c fs ds S' => rw [h'] at g4; exact g4
      | ok d' S1' =>
        rw [h'] at g4
        intro α3 H3 v3 e3 r3 p3
        obtain ⟨α4, S4, d4, e4, r4, p4, g5⟩ := g4 α3 H3 v3 e3 r3 p3
        cases h8 : setA T.fld S4 d4 f d2 with
        | none => rw [h8] at g5; exact g5.elim
        | some S7 =>
          rw [h8] at g5
          unfold setA at h8
          split at h8
          · rename_i n c fs ds hx
            split at h8
            · rename_i hc
              cases h8
              obtain ⟨p, dx, ws, rfl, q1, q2, q3, q4⟩ := rep_objH r4 p4 hx
              obtain ⟨us, u1, u2, u3⟩ := putF_zip (f := f) (Rep.ext e4 _ _ p2) q3 q4
              refine ⟨p, G.ca c, dx, _, rfl, q2, (hf c hc.2).1, (hf c hc.2).2, ?_, ?_⟩
              · rw [List.length_zip]; omega
              · rw [u1]
                exact g5 α4 _ σ (Ext.mut r4 q1) (r4.mut q1 ⟨dx, us, rfl, u2, u3⟩) (((s.ext e2).ext e4).ext (Ext.mut r4 q1))
            · cases h8
          · cases h8
end
end Fk
set_option Elab.async false
set_option linter.all false
set_option autoImplicit false
set_option maxRecDepth 100000
set_option maxHeartbeats 4000000
/-! Calls -/
namespace Fk
open PySem L2 PySem.Spec PyProof.Rows

/-- what a def is good for, where no text is being written by repr -/
structure Prom (Pg : Program) (w : World) (K : PySem.W.Frag) (mg : Str → Option Value) (bs : Heap) (n : Nat) (fa : Addr) (fd : FuncData) (pr : List Str) (sp : Sp) : Prop where
  arity : ∀ ws Hp' Qv Xv, sp ws Hp' Qv Xv → ws.length = pr.length
  runs : ∀ (Ar : Around) (ou : List Env) (st : Shared) (Hp' : Hp) (ag : Args) (us : List Value) (ws : List V) (Qv : VK) (Xv : XK), Room n Ar → Ar.guards = some [] → Env0 Pg w K mg bs Ar ou st Hp' → BindsTo st fd ag (pr.zip us) → Vals ws us →
    sp ws Hp' Qv Xv → codeAny (model Pg w) Ar (.call (.ref fa) ag) (CR (L2.CX Pg w) ou Pg w Hp' st Qv Xv) st
section
variable {Pg : Program} {w : World} {K : PySem.W.Frag} {mg : Str → Option Value} {bs : Heap} {n j : Nat} {fa : Addr} {fd : FuncData} {pr : List Str} {sp : Sp}
theorem Prom.up (p : Prom Pg w K mg bs n fa fd pr sp) (h : n ≤ j) : Prom Pg w K mg bs j fa fd pr sp := ⟨p.arity, fun Ar ou st Hp' ag us ws Qv Xv hr => p.runs Ar ou st Hp' ag us ws Qv Xv (hr.mono h)⟩
end
/-- what a call reaches -/
theorem ret_of {X : Cx} {W : WX} {pins : List (Addr × Obj)} {σ : L2.St} {H : Hp} {s s' : Shared} {Q : VK} {E : XK} (I : Inv X pins σ H s) (tk : Takes X W) (hW : ∀ c d H', E c d H' → W c d σ H') {r : Result} (h : CR (L2.CX X.prog X.w) X.stack X.prog X.w H s Q E r s') :
    match r with
    | .ok (.ret v) => EP X pins σ Q v s'
    | .ok _ => False
    | .error e => X.xe e s' := by
  match r, h with
  | .error e, h => exact tk e s' (XE.of_call I hW h)
  | .ok (.ret u), h => exact Inv.after I h
section
variable {X : Cx} {W : WX} {n : Nat} {fa C : Addr} {fd : FuncData} {pr : List Str} {sp : Sp} {ds : List Value} {dvs : List V} {pins : List (Addr × Obj)} {σ : L2.St} {H : Hp} {s : Shared} {Q : VK} {us : List Value} {vs : List V}
theorem go_fn (F : Prom X.prog X.w X.K X.mg X.base n fa fd pr sp) (hr : Room n X.A) (hgd : X.A.guards = some []) (hb : Binds X.K fd pr ds) (hd : Vals dvs ds) (tk : Takes X W) (I : Inv X pins σ H s) (r : Vals vs us)
    (h : sp (vs ++ dvs) H Q fun c d H' => W c d σ H') : wpAny (model X.prog X.w) X.A (call (.ref fa) us) (EP X pins σ Q) X.xe s := by
  have rr := r.append hd
  have ar : (us ++ ds).length = pr.length := rr.length.symm.trans (F.arity _ _ _ _ h)
  refine wpAny_call (codeAny_mono (F.runs X.A X.stack s H _ (us ++ ds) _ Q _ hr hgd I.env0 (hb s us I.kIn ar) rr h) fun r s' q => ?_)
  have z := ret_of I tk (fun _ _ _ h => h) q
  revert z
  match r with
  | .error e => exact id
  | .ok (.ret u) => exact id
  | .ok .next => exact id
  | .ok .brk => exact id
  | .ok .cont => exact id
theorem go_make (M : Mk X.K C fa) (F : Prom X.prog X.w X.K X.mg X.base n fa fd pr sp) (hr : Room (n + 1) X.A) (hgd : X.A.guards = some []) (hb : Binds X.K fd pr ds) (hd : Vals dvs ds) (tk : Takes X W) (I : Inv X pins σ H s) (r : Vals vs us)
    (h : ∀ x dx, H x = none → H dx = none → dx ≠ x → sp (.ref x :: (vs ++ dvs)) (upd (upd H dx (.own x)) x (.ins C dx [])) (fun v H2 => v = .non ∧ Q (.ref x) H2) fun c d H' => W c d σ H') :
    wpAny (model X.prog X.w) X.A (call (.ref C) us) (EP X pins σ Q) X.xe s := by
  generalize hsz : s.heap.objs.size = z
  have hz := h (z + 1) z (I.hok.fresh (by rw [hsz]; exact Nat.le_succ z)) (I.hok.fresh (by rw [hsz]; exact Nat.le_refl z)) (Nat.ne_of_lt (Nat.lt_succ_self z))
  have I2 := Inv.made (C := C) I
  rw [hsz] at I2
  have rr : Vals (V.ref (z + 1) :: (vs ++ dvs)) (Value.ref (z + 1) :: (us ++ ds)) := .cons rfl (r.append hd)
  have ar : (Value.ref (z + 1) :: us ++ ds).length = pr.length := by
    have e := F.arity _ _ _ _ hz
    rw [rr.length] at e
    exact e
  have gd : (X.A.under (.builtin "type.__call__" ⟨.ref C :: us, []⟩)).guards = some [] := by
    have e : (Code.builtin "type.__call__" ⟨.ref C :: us, []⟩).guards = [] := by
      unfold Code.guards
      rw [if_neg (by simp [Code.isGuard, guardIds])]
    unfold Around.under
    rw [e, hgd]
    rfl
  refine wpAny_call (make_map I.kIn M.makes M.init (beq_iff_eq.mp M.fn) ?_)
  rw [hsz]
  refine codeAny_mono (F.runs _ X.stack _ _ _ (Value.ref (z + 1) :: (us ++ ds)) _ _ _ (hr.make C us []) gd (I2.env0.make C us []) (hb _ (Value.ref (z + 1) :: us) I2.kIn ar) rr hz) fun r s' q => ?_
  have q2 := ret_of I2 tk (fun _ _ _ h => h) q
  revert q2
  match r with
  | .error e => exact id
  | .ok (.ret u) =>
    rintro ⟨v, H', I3, rv, ev, q3⟩
    subst ev
    exact ⟨rv, ⟨V.ref (z + 1), H', I3, rfl, q3⟩⟩
  | .ok .next => exact id
  | .ok .brk => exact id
  | .ok .cont => exact id
end

/-- a def's promise by its text in the little language -/
def spF (R : RC) (cl : Cl) (x : Str) : Sp := fun vs H Q E => ∃ α S ds, Rel R α H S ∧ Reps R α H ds vs ∧ Good false R (fun c d _ H' => E c d H') [] α H (cl x ds S) Q
variable {G : GA} {T : Tab} {cl : Cl}
section
variable {X : Cx} {W : WX} {n : Nat} {fa C : Addr} {fd : FuncData} {pr : List Str} {x : Str} {e o : Expr} {es : List Expr} {a om : M} {p pos apos : Pos}
theorem good_sp {R : RC} {σ : L2.St} {α : Al} {H : Hp} {S : Store} {ds : List D} {vs : List V} {Q : VK} (r : Rel R α H S) (p : Reps R α H ds vs) (g : Good false R W σ α H (cl x ds S) Q) : spF R cl x vs H Q fun c d H' => W c d σ H' := by
  refine ⟨α, S, ds, r, p, ?_⟩
  cases h : cl x ds S with
  | stuck => rw [h] at g; exact g
  | ex c fs ds' S' => rw [h] at g; exact g
  | ok d S1 => rw [h] at g; exact g
theorem s_call (F : Prom X.prog X.w X.K X.mg X.base n fa fd pr (spF (rc G X) cl x)) (hr : Room n X.A) (hgd : X.A.guards = some []) (tk : Takes X W) (hg : Gl X x) (hm : X.mg x = some (.ref fa)) (hk : PySem.W.keepIn X.K (.ref fa) = true) (hb : Binds X.K fd pr [])
    (ha : PA X (e :: es) (tAr G T cl X W a)) (hdb : (x == ("__debug__" : Str)) = false) (he : starEach (e :: es) X.env = (false, eval e X.env) :: starEach es X.env) (hpl : (backTo pos (starEach es X.env)).any (·.1) = false) :
    PE X (.Call (.Name x p) (e :: es) [] pos) (tE G T cl X W (.call x a)) := ⟨fun pins s σ H Q I ⟨α, env, S, r, sl, g⟩ => by
  have g1 := Good.stepA (show Good false (rc G X) W σ α H ((ev T cl a env S).bind fun ds S1 => cl x (tupOf ds) S1) Q from g)
  refine wpAny_Call_Name_kw (ld_glob I hg hm ?_ hdb)
  refine PySem.W.callWith_K (h₀ := X.base) I.ok.mod.kin hk (thn (ha.run pos pins s σ H _ I ⟨α, env, S, r, sl, g1⟩) fun us s1 ⟨vs, H1, I1, rv, α1, S1, d, e1, r1, p1, g2⟩ => ⟨I1.kIn, ?_⟩) he hpl
  exact go_fn F hr hgd hb .nil tk I1 rv (by rw [List.append_nil]; exact good_sp r1 p1 g2)⟩
theorem s_call0 (F : Prom X.prog X.w X.K X.mg X.base n fa fd pr (spF (rc G X) cl x)) (hr : Room n X.A) (hgd : X.A.guards = some []) (tk : Takes X W) (hg : Gl X x) (hm : X.mg x = some (.ref fa)) (hk : PySem.W.keepIn X.K (.ref fa) = true) (hb : Binds X.K fd pr [])
    (hdb : (x == ("__debug__" : Str)) = false) : PE X (.Call (.Name x p) [] [] pos) (tE G T cl X W (.call x .nil)) := ⟨fun pins s σ H Q I ⟨α, env, S, r, sl, g⟩ => by
  refine wpAny_Call_Name_kw (ld_glob I hg hm ?_ hdb)
  refine PySem.W.callWith_K0 I.kIn hk (go_fn (us := []) (vs := []) F hr hgd hb .nil tk I .nil ?_)
  exact good_sp (ds := []) r (by unfold Reps; trivial) (show Good false (rc G X) W σ α H (cl x [] S) Q from g)⟩
theorem make_rel {R : RC} {α : Al} {H : Hp} {S : Store} {c : Str} {x dx : Addr} (r : Rel R α H S) (nx : H x = none) (nd : H dx = none) (ne : dx ≠ x) :
    Ext α H (α.push x) (upd (upd H dx (.own x)) x (.ins (R.ca c) dx [])) ∧ Rel R (α.push x) (upd (upd H dx (.own x)) x (.ins (R.ca c) dx [])) (S ++ [.obj c [] []]) := by
  have r1 : Rel R α (upd H dx (.own x)) S := r.new nd
  have n1 : (upd H dx (.own x)) x = none := by rw [upd_ne (Ne.symm ne)]; exact nx
  exact ⟨(Ext.new r nd).trans (Ext.thaw r1 n1), r1.thaw n1 ⟨dx, [], rfl, rfl, by unfold Reps; trivial⟩⟩
theorem make_hnd {R : RC} {α : Al} {H : Hp} {S : Store} {x : Addr} (hl : α.hs.length = S.length) : Rep R (α.push x) H (.hnd S.length) (.ref x) := by
  unfold Rep
  refine ⟨x, rfl, ?_⟩
  show (α.hs ++ [x])[S.length]? = some x
  rw [List.getElem?_append_right (by rw [hl]; exact Nat.le_refl _), hl, Nat.sub_self]
  rfl
theorem new_goal {f c : Str} {α : Al} {H : Hp} {S : Store} {σ : L2.St} {Q : VK} {vs : List V} {ds : List D} (r : Rel (rc G X) α H S) (p : Reps (rc G X) α H ds vs)
    (g : Good false (rc G X) W σ α H ((cl f (.hnd S.length :: ds) (S ++ [.obj c [] []])).bind fun d S2 => match d with
      | .non => .ok (.hnd S.length) S2
      | _ => .stuck) Q) :
    ∀ x dx, H x = none → H dx = none → dx ≠ x → spF (rc G X) cl f (.ref x :: (vs ++ [])) (upd (upd H dx (.own x)) x (.ins (G.ca c) dx [])) (fun v H2 => v = .non ∧ Q (.ref x) H2) fun c d H' => W c d σ H' := fun x dx nx nd ne => by
  obtain ⟨e2, r2⟩ := make_rel (c := c) r nx nd ne
  have ph : Rep (rc G X) (α.push x) (upd (upd H dx (.own x)) x (.ins (G.ca c) dx [])) (.hnd S.length) (.ref x) := make_hnd (R := rc G X) (H := upd (upd H dx (.own x)) x (.ins (G.ca c) dx [])) r.len
  refine good_sp (ds := .hnd S.length :: ds) r2 (by unfold Reps; exact ⟨ph, by rw [List.append_nil]; exact Reps.ext e2 _ _ p⟩) ?_
  have g' := Good.ext g e2
  cases h : cl f (.hnd S.length :: ds) (S ++ [.obj c [] []]) with
  | stuck => rw [h] at g'; exact g'
  | ex c fs ds' S' => rw [h] at g'; exact g'
  | ok d S1 =>
    rw [h] at g'
    cases d with
    | non =>
      intro α3 H3 v e3 r3 p3
      unfold Rep at p3
      subst p3
      have q : Post (rc G X) (α.push x) (upd (upd H dx (.own x)) x (.ins (G.ca c) dx [])) (.hnd S.length) S1 Q := g'
      exact ⟨rfl, q α3 H3 _ e3 r3 (Rep.ext e3 _ _ ph)⟩
    | _ => exact g'.elim
theorem s_new {f c : Str} (M : Mk X.K (G.ca c) fa) (F : Prom X.prog X.w X.K X.mg X.base n fa fd pr (spF (rc G X) cl f)) (hT : T.ini c = some f) (hr : Room (n + 1) X.A) (hgd : X.A.guards = some []) (tk : Takes X W) (hg : Gl X x) (hm : X.mg x = some (.ref (G.ca c))) (hb : Binds X.K fd pr [])
    (ha : PA X (e :: es) (tAr G T cl X W a)) (hdb : (x == ("__debug__" : Str)) = false) (he : starEach (e :: es) X.env = (false, eval e X.env) :: starEach es X.env) (hpl : (backTo pos (starEach es X.env)).any (·.1) = false) :
    PE X (.Call (.Name x p) (e :: es) [] pos) (tE G T cl X W (.new c a)) := ⟨fun pins s σ H Q I ⟨α, env, S, r, sl, g⟩ => by
  have g0 : Good false (rc G X) W σ α H ((ev T cl a env S).bind fun ds S1 => match T.ini c with
    | some f => (cl f (.hnd S1.length :: tupOf ds) (S1 ++ [.obj c [] []])).bind fun d S2 => match d with
      | .non => .ok (.hnd S1.length) S2
      | _ => .stuck
    | none => .stuck) Q := g
  rw [hT] at g0
  have g1 := Good.stepA g0
  refine wpAny_Call_Name_kw (ld_glob I hg hm ?_ hdb)
  refine PySem.W.callWith_K (h₀ := X.base) I.ok.mod.kin M.kp (thn (ha.run pos pins s σ H _ I ⟨α, env, S, r, sl, g1⟩) fun us s1 ⟨vs, H1, I1, rv, α1, S1, d, e1, r1, p1, g2⟩ => ⟨I1.kIn, ?_⟩) he hpl
  exact go_make M F hr hgd hb .nil tk I1 rv (new_goal r1 p1 g2)⟩
theorem s_new0 {f c : Str} (M : Mk X.K (G.ca c) fa) (F : Prom X.prog X.w X.K X.mg X.base n fa fd pr (spF (rc G X) cl f)) (hT : T.ini c = some f) (hr : Room (n + 1) X.A) (hgd : X.A.guards = some []) (tk : Takes X W) (hg : Gl X x) (hm : X.mg x = some (.ref (G.ca c))) (hb : Binds X.K fd pr [])
    (hdb : (x == ("__debug__" : Str)) = false) : PE X (.Call (.Name x p) [] [] pos) (tE G T cl X W (.new c .nil)) := ⟨fun pins s σ H Q I ⟨α, env, S, r, sl, g⟩ => by
  have g0 : Good false (rc G X) W σ α H (match T.ini c with
    | some f => (cl f [.hnd S.length] (S ++ [.obj c [] []])).bind fun d S2 => match d with
      | .non => .ok (.hnd S.length) S2
      | _ => .stuck
    | none => .stuck) Q := g
  rw [hT] at g0
  refine wpAny_Call_Name_kw (ld_glob I hg hm ?_ hdb)
  exact PySem.W.callWith_K0 I.kIn M.kp (go_make (us := []) (vs := []) M F hr hgd hb .nil tk I .nil (new_goal (vs := []) (ds := []) r (by unfold Reps; trivial) g0))⟩
/-- the class, and what its method is -/
def MetOk (X : Cx) (G : GA) (T : Tab) (cl : Cl) (n : Nat) (m : Str) : Prop := ∀ c f, T.mth c m = some f → ∃ fa fd pr, Cls X.K (G.ca c) ∧ Meth X.K (G.ca c) m fa ∧ Prom X.prog X.w X.K X.mg X.base n fa fd pr (spF (rc G X) cl f) ∧ Binds X.K fd pr []
theorem lookup_zip {fs : List Str} {vs : List V} {m : Str} (h : m ∉ fs) : (fs.zip vs).lookup m = none := by
  induction fs generalizing vs with
  | nil => rfl
  | cons g fs ih =>
    cases vs with
    | nil => rfl
    | cons v vs =>
      have h1 : ¬ m = g := fun z => h (by rw [z]; exact List.mem_cons_self)
      rw [List.zip_cons_cons, List.lookup_cons, beq_eq_false_iff_ne.mpr h1]
      exact ih fun z => h (List.mem_cons_of_mem _ z)
theorem metOf_get {R : RC} {α : Al} {H : Hp} {S : Store} {d : D} {v : V} {m f : Str} {mth : Str → Str → Option Str} (r : Rel R α H S) (p : Rep R α H d v) (h : metOf mth S d m = some f) : ∃ c b dx fs, mth c m = some f ∧ v = .ref b ∧ H b = some (.ins (R.ca c) dx fs) ∧ fs.lookup m = none := by
  unfold metOf at h
  split at h
  · rename_i c fs vs hd
    split at h
    · cases h
    · rename_i hm
      obtain ⟨b, dx, ws, rfl, h1, h2, h3⟩ := rep_obj r p hd
      exact ⟨c, b, dx, _, h, rfl, h1, lookup_zip hm⟩
  · cases h
theorem s_met {pl : Sem Bool} {m : Str} (ho : PE X o (tE0 G T cl X W om)) (hM : MetOk X G T cl n m) (hr : Room n X.A) (hgd : X.A.guards = some []) (tk : Takes X W)
    (ha : PA X (e :: es) (tAr G T cl X W a)) (he : starEach (e :: es) X.env = (false, eval e X.env) :: starEach es X.env) (hpl : (backTo pos (starEach es X.env)).any (·.1) = false)
    (ht : eval (.Call (.Attribute o m apos) (e :: es) [] pos) X.env = (do
      let ov ← eval o X.env
      standAt apos.atName
      let (f, first) ← holding [ov] (getMethod ov m pl)
      callWith pos f first (backTo pos (starEach (e :: es) X.env)) (backToKw pos (keywordEach [] X.env)))) :
    PE X (.Call (.Attribute o m apos) (e :: es) [] pos) (tE G T cl X W (.met om m a)) := ⟨fun pins s σ H Q I ⟨α, env, S, r, sl, g⟩ => by
  have g1 := Good.step (show Good false (rc G X) W σ α H ((ev T cl om env S).bind fun x S1 => match metOf T.mth S1 x m with
    | some f => (ev T cl a env S1).bind fun ds S2 => cl f (x :: tupOf ds) S2
    | none => .stuck) Q from g)
  refine PySem.W.methodCall_KW (pl := pl) (thn (ho.run pins s σ H _ I ⟨α, env, S, r, sl, g1⟩) fun u s1 ⟨x, H1, I1, rx, α1, S1, d1, e1, r1, p1, g2⟩ => ?_) ht
  cases hf : metOf T.mth S1 d1 m with
  | none => rw [hf] at g2; exact g2.elim
  | some f =>
    rw [hf] at g2
    obtain ⟨c, b, dx, fs, k1, rfl, k3, k4⟩ := metOf_get r1 p1 hf
    obtain ⟨fa, fd, pr, c1, c2, c3, c4⟩ := hM c f k1
    obtain rfl : u = Value.ref b := rx
    have g3 := Good.stepA g2
    refine getmeth_ok I1 k3 c1 c2 k4 ?_
    refine PySem.W.callWith_K (first := [.ref b]) (h₀ := X.base) I.ok.mod.kin c2.kp (thn (ha.run pos pins s1 σ H1 _ I1 ⟨α1, env, S1, r1, sl.ext e1, g3⟩) fun us s2 ⟨vs, H2, I2, rv, α2, S2, d2, e2, r2, p2, g4⟩ => ⟨I2.kIn, ?_⟩) he hpl
    exact go_fn (us := .ref b :: us) (vs := .ref b :: vs) c3 hr hgd c4 .nil tk I2 (.cons rfl rv) (by rw [List.append_nil]; exact good_sp (ds := d1 :: tupOf d2) r2 (by unfold Reps; exact ⟨Rep.ext e2 _ _ p1, p2⟩) g4)⟩
theorem s_met0 {pl : Sem Bool} {m : Str} (ho : PE X o (tE0 G T cl X W om)) (hM : MetOk X G T cl n m) (hr : Room n X.A) (hgd : X.A.guards = some []) (tk : Takes X W)
    (ht : eval (.Call (.Attribute o m apos) [] [] pos) X.env = (do
      let ov ← eval o X.env
      standAt apos.atName
      let (f, first) ← holding [ov] (getMethod ov m pl)
      callWith pos f first (backTo pos (starEach [] X.env)) (backToKw pos (keywordEach [] X.env)))) :
    PE X (.Call (.Attribute o m apos) [] [] pos) (tE G T cl X W (.met om m .nil)) := ⟨fun pins s σ H Q I ⟨α, env, S, r, sl, g⟩ => by
  have g1 := Good.step (show Good false (rc G X) W σ α H ((ev T cl om env S).bind fun x S1 => match metOf T.mth S1 x m with
    | some f => cl f [x] S1
    | none => .stuck) Q from g)
  refine PySem.W.methodCall_KW (pl := pl) (thn (ho.run pins s σ H _ I ⟨α, env, S, r, sl, g1⟩) fun u s1 ⟨x, H1, I1, rx, α1, S1, d1, e1, r1, p1, g2⟩ => ?_) ht
  cases hf : metOf T.mth S1 d1 m with
  | none => rw [hf] at g2; exact g2.elim
  | some f =>
    rw [hf] at g2
    obtain ⟨c, b, dx, fs, k1, rfl, k3, k4⟩ := metOf_get r1 p1 hf
    obtain ⟨fa, fd, pr, c1, c2, c3, c4⟩ := hM c f k1
    obtain rfl : u = Value.ref b := rx
    refine getmeth_ok I1 k3 c1 c2 k4 ?_
    exact PySem.W.callWith_K0 (first := [.ref b]) I1.kIn c2.kp (go_fn (us := [.ref b]) (vs := [.ref b]) c3 hr hgd c4 .nil tk I1 (.cons rfl .nil) (good_sp (ds := [d1]) r1 (by unfold Reps; exact ⟨p1, by unfold Reps; trivial⟩) g2))⟩
end

/-! ### a def by its text -/
theorem start_sl {R : RC} {α : Al} {H : Hp} {N : List Str} {ds : List D} {vs : List V} (h : Reps R α H ds vs) (k : Nat) (hk : N.length - vs.length = k) : Sl R α H (ds.map some ++ List.replicate k none) (L2.start N vs) := by
  unfold L2.start
  refine ⟨by simp [h.len, hk], fun i d hi => ?_⟩
  by_cases hl : i < ds.length
  · rw [List.getElem?_append_left (by simpa using hl), List.getElem?_map] at hi
    cases q : ds[i]? with
    | none => rw [q] at hi; cases hi
    | some d' =>
      rw [q] at hi
      cases hi
      obtain ⟨v, h1, h2⟩ := h.get q
      exact ⟨v, by rw [List.getElem?_append_left (by rw [List.length_map, ← h.len]; exact hl), List.getElem?_map, h1]; rfl, h2⟩
  · rw [List.getElem?_append_right (by simpa using hl), List.getElem?_replicate] at hi
    split at hi <;> cases hi
theorem closed_get {m : Nat} {d : D} (h : closed m d = true) : frzG m (fun _ => none) d = some d := by
  unfold closed at h
  split at h
  · rename_i e he
    rw [he, D.beq_eq _ _ h]
  · cases h
theorem Rel.takes {R : RC} {α : Al} {H : Hp} {S1 : Store} {m : Nat} (r : Rel R α H S1) (hc : (S1.take m).all (closed m) = true) : Rel R (α.take m) H (S1.take m) where
  len := by
    show (α.hs.take m).length = (S1.take m).length
    rw [List.length_take, List.length_take, r.len]
  nd := r.nd.sublist (List.take_sublist _ _)
  ap := fun a ha => r.ap a (List.mem_of_mem_take ha)
  hd := r.hd
  cell := fun n a d h1 h2 => by
    have h1 : (α.hs.take m)[n]? = some a := h1
    have cl := closed_get (List.all_eq_true.mp hc d (List.mem_of_getElem? h2))
    have hl : n < m := by
      have := (List.getElem?_eq_some_iff.mp h2).1
      rw [List.length_take] at this
      omega
    rw [List.getElem?_take_of_lt hl] at h1 h2
    obtain ⟨o, h3, h4⟩ := r.cell n a d h1 h2
    refine ⟨o, h3, ?_⟩
    have no : ∀ n a d', m ≤ n → α.hs[n]? = some a → (fun _ => none : Nat → Option D) n = some d' → Rep R (α.take m) H d' (.ref a) := fun _ _ _ _ _ z => by cases z
    cases d with
    | lst ds =>
      obtain ⟨vs, h5, h6⟩ := h4
      unfold frzG at cl
      cases q : frzGs m (fun _ => none) ds with
      | none => rw [q] at cl; cases cl
      | some es => rw [q] at cl; cases cl; exact ⟨vs, h5, frzGs_rep no ds ds vs h6 q⟩
    | dct t ks ds =>
      obtain ⟨vs, h5, h6⟩ := h4
      unfold frzG at cl
      cases q : frzGs m (fun _ => none) ds with
      | none => rw [q] at cl; cases cl
      | some es => rw [q] at cl; cases cl; exact ⟨vs, h5, frzGs_rep no ds ds vs h6 q⟩
    | obj c fs ds =>
      obtain ⟨dx, vs, h5, h7, h6⟩ := h4
      unfold frzG at cl
      cases q : frzGs m (fun _ => none) ds with
      | none => rw [q] at cl; cases cl
      | some es => rw [q] at cl; cases cl; exact ⟨dx, vs, h5, h7, frzGs_rep no ds ds vs h6 q⟩
    | _ => exact h4.elim
/-- what the body tells, the def tells -/
theorem fin_goal {R : RC} {F : Fn} {α : Al} {H : Hp} {S : Store} {o : Out} {Q : VK} {E : XK} (r0 : Rel R α H S) (h : Good false R (fun c d _ H' => E c d H') [] α H (fin F S o) Q) :
    GoodS R (fun c d _ H' => E c d H') { nx := fun _ H' => Q .non H', rt := Q } α H o := by
  cases o with
  | nx e S1 =>
    intro α' H' σ' e' r' s'
    unfold fin at h
    cases hp : F.pure with
    | false =>
      rw [hp] at h
      exact (show Post R α H .non S1 Q from h) α' H' .non e' r' (by unfold Rep; rfl)
    | true =>
      rw [hp] at h
      simp only [cond_true] at h
      split at h
      · rename_i hb
        have r2 := r'.takes hb
        exact (show Post R α H .non (S1.take S.length) Q from h) _ H' .non (e'.take r0.len) r2 (by unfold Rep; rfl)
      · exact h.elim
  | rt d S1 =>
    intro α' H' v e' r' p'
    unfold fin at h
    cases hp : F.pure with
    | false =>
      rw [hp] at h
      exact (show Post R α H d S1 Q from h) α' H' v e' r' p'
    | true =>
      rw [hp] at h
      simp only [cond_true] at h
      split at h
      · rename_i hb
        cases hf : frz S.length S1 4 d with
        | none => rw [hf] at h; exact h.elim
        | some d' =>
          rw [hf] at h
          have r2 := r'.takes hb
          exact (show Post R α H d' (S1.take S.length) Q from h) _ H' v (e'.take r0.len) r2 (frz_rep r' 4 d d' v p' hf)
      · exact h.elim
  | bk _ _ => exact h.elim
  | ct _ _ => exact h.elim
  | ex c fs ds e S1 => exact fun α' H' σ' cls dx e' r' s' x => h α' H' cls dx e' r' x
  | stuck => exact h.elim
end Fk
set_option Elab.async false
set_option linter.all false
set_option autoImplicit false
set_option maxRecDepth 100000
set_option maxHeartbeats 4000000
/-! A def's promise by its body; the law's call -/
namespace Fk
open PySem L2 PySem.Spec PyProof.Rows

/-- a def of the text keeps what its body keeps -/
theorem prom_of {Pg : Program} {w : World} {K : PySem.W.Frag} {mg : Str → Option Value} {bs : Heap} {n : Nat} {x qual : Str} {st : Stmt} {fa : Addr} {fd : FuncData} {N pr : List Str} {sp : Sp}
    (F : Fun K x qual st fa fd) (S : FnScope N pr (defScope st)) (len : ∀ vs H Q E, sp vs H Q E → vs.length = pr.length)
    (body : ∀ (cdv : Value) (Ar : Around) (ou : List Env) (s : Shared) (Hp' : Hp) (vs : List V) (Qv : VK) (Xv : XK), Room n (Ar.deeper (envOfC qual (defScope st) s.heap.objs.size fa cdv)) → Ar.guards = some [] → sp vs Hp' Qv Xv →
      ∃ t, PSs (cxOf (L2.CX Pg w) Pg w K mg bs N qual (defScope st) fa cdv Ar ou s Hp' Xv) (defBody st) t ∧ t { nx := fun _ H' => Qv .non H', rt := Qv } (L2.start N vs) Hp') : Prom Pg w K mg bs (n + 1) fa fd pr sp := by
  obtain ⟨oc, od, kV, doc, pm, an, cdv, ct, osl, rfl, lk, hcd⟩ := F.ex
  refine ⟨len, fun Ar ou s Hp' ag us vs Qv Xv hr hgd e0 hb rv hsp => ?_⟩
  have al := len _ _ _ _ hsp
  have inS : ∀ {a : Addr} {o : Obj}, bs.get? a = some o → s.heap.get? a = some o := fun {a o} e => (e0.bs a o e).1
  have KS : K.In s.heap := e0.mod.kin.keeps fun a o e => inS e
  have lim : s.heap.NoLimit := e0.mod.nolimit.keeps fun a o e => inS e
  have kinds : ∀ p ∈ pr.zip us, (defScope st).names.lookup p.1 = some .local ∨ ((defScope st).names.lookup p.1 = some .cell ∧ ((cellsFrom (s.heap.objs.size + 1) (defScope st).names []).lookup p.1).isSome = true) := by
    rintro ⟨nm, u⟩ hp
    have hin : nm ∈ pr := (List.of_mem_zip hp).1
    cases S.par nm hin with
    | inl q => exact Or.inl q
    | inr q => exact Or.inr ⟨q, PySem.W.cellsFrom_some _ _ _ (Or.inl q)⟩
  refine codeAny_call_function hr.depth (KS _ _ lk) rfl S.co S.gen rfl (PySem.W.codeRec_of KS hcd) (hb _ _ _ _ (wpAny_newFunctionEnv_cells S.kind kinds fun env he s1 ic => ?_))
  subst he
  refine ⟨lim.keeps ic.toInCall.keep, codeAny_func ?_⟩
  obtain ⟨t, pt, qt⟩ := body cdv Ar ou s Hp' vs Qv Xv (hr.deeper _) hgd hsp
  have I0 := inv_start (CX := L2.CX Pg w) (P := Pg) (w := w) (qual := qual) (f := fa) (cd := cdv) (E := Xv) S hr.hd e0 al rv ic
  refine wpAny_mono (pt.run [] s1 (L2.start N vs) Hp' _ I0 qt) (fun fl s2 h => ?_) fun e s2 h => h
  match fl, h with
  | .ret u, ⟨v, _, H2, J, rv2, q⟩ => exact ⟨v, H2, J.os, J.bare, J.base, J.hok, rv2, q⟩
  | .next, ⟨_, H2, J, q⟩ => exact ⟨V.non, H2, J.os, J.bare, J.base, J.hok, (rfl : RelV V.non Value.none), q⟩
  | .brk, ⟨_, _, _, q⟩ => exact q.elim
  | .cont, ⟨_, _, _, q⟩ => exact q.elim

/-- nothing stands but the script, as it lies or as a thing of the module -/
theorem script_scr {K : PySem.W.Frag} {h : Heap} {a : Addr} {vs : List Value} {ns : List Int} {P : Program} {w : World} (ha : h.get? a = some { cls := .type "list", data := .seq vs.toArray }) (hi : IntsAre vs ns) (hl : ns.length ≤ sizeLine) (KX : K.In h) :
    ∃ H : Hp, Only H ∧ ScrL K H a (ns.map V.int) ∧ HOk P w H h ∧ (∀ b, H b ≠ none → b = a) ∧ (H a ≠ none → K.lookup a = none) := by
  have rv := vals_ints hi
  cases hk : K.lookup a with
  | none =>
    let u : HO := .frz { cls := .type "list", data := .seq vs.toArray } (.lst (ns.map V.int))
    have at_ : ∀ b o, (if b = a then some u else none) = some o → b = a ∧ o = u := fun b o e => by
      by_cases q : b = a
      · rw [if_pos q] at e; exact ⟨q, (Option.some.inj e).symm⟩
      · rw [if_neg q] at e; cases e
    refine ⟨fun b => if b = a then some u else none, fun b => ?_, .inl ⟨_, if_pos rfl⟩, fun b o e => ?_, fun b e => ?_, fun _ => rfl⟩
    · by_cases q : b = a
      · exact .inr ⟨_, _, if_pos q⟩
      · exact .inl (if_neg q)
    · obtain ⟨rfl, rfl⟩ := at_ b o e
      exact ⟨ha, by rw [List.length_map]; exact hl, vs, _, rv, ha⟩
    · cases q : (if b = a then some u else none : Option HO) with
      | none => exact absurd q e
      | some o => exact (at_ b o q).1
  | some o =>
    have e := KX a o hk
    rw [ha] at e
    cases e
    exact ⟨fun _ => none, fun _ => .inl rfl, .inr ⟨_, vs.toArray, _, hk, rfl, rfl, rfl, by rw [List.size_toArray, hi.length]; exact hl, by simpa using rv⟩, fun b u z => (by cases (show (none : Option HO) = some u from z)), fun b z => absurd rfl z, fun z => absurd rfl z⟩
/-- the law's def is called with the script -/
theorem call_law {Pg : Program} {w : World} {K : PySem.W.Frag} {mg mb : Str → Option Value} {n : Nat} {fa a : Addr} {fd : FuncData} {x : Str} {sp : Sp} {s1 : Shared} {vs : List Value} {ns : List Int}
    (KX : K.In s1.heap) (hns : s1.heap.Ns mainGlobals mg) (hb : s1.heap.Ns builtinsNs mb) (hbb : ∀ x : Str, x ≠ "__name__" → mb x = bootBuiltins x) (hlim : s1.heap.NoLimit) (hg : s1.gens = #[])
    (ha : s1.heap.get? a = some { cls := .type "list", data := .seq vs.toArray }) (hi : IntsAre vs ns) (hl : ns.length ≤ sizeLine) (hr : Room n callerA)
    (F : ∀ bs : Heap, K.In bs → bs.Ns mainGlobals mg → Prom Pg w K mg bs n fa fd [x] sp) (hbind : ∀ (s : Shared) (u : Value), K.In s.heap → BindsTo s fd ⟨[u], []⟩ [(x, u)])
    (hsp : ∀ H : Hp, ScrL K H a (ns.map V.int) → sp [.ref a] H (fun v _ => v = .bl true) fun _ _ _ => False) :
    codeAny (model Pg w) callerA (.call (.ref fa) ⟨[.ref a], []⟩) (fun r s' => r = .ok (.ret (.bool true)) ∧ OldK s1.heap s'.heap ∧ s'.os = s1.os ∧ AllBare s'.gens) s1 := by
  obtain ⟨H, only, scr, hok, hA, hK⟩ := script_scr (P := Pg) (w := w) ha hi hl KX
  have keep : ∀ {b : Addr} {o : Obj}, s1.heap.get? b = some o → b ≠ a → (hidT s1.heap H).get? b = some o := fun {b o} e nb => hidT_get e (by
    cases q : H b with
    | none => rfl
    | some u => exact absurd (hA b (by rw [q]; exact fun z => by cases z)) nb)
  have nsK : ∀ {b : Addr} {m : Str → Option Value}, s1.heap.Ns b m → (hidT s1.heap H).Ns b m := by
    rintro b m ⟨o, es, ep, e, d, rest⟩
    refine ⟨o, es, ep, keep e fun z => ?_, d, rest⟩
    rw [z, ha] at e
    cases e
    cases (show Data.seq vs.toArray _ = Data.dict es ep from d)
  have KB : K.In (hidT s1.heap H) := fun b o e => hidT_get (KX b o e) (by
    cases q : H b with
    | none => rfl
    | some u =>
      have eb : b = a := hA b (by rw [q]; exact fun z => by cases z)
      rw [eb, hK (by rw [← eb, q]; exact fun z => by cases z)] at e
      cases e)
  have md : Mod K mg (hidT s1.heap H) := ⟨KB, nsK hns, ⟨mb, nsK hb, hbb⟩, by
    obtain ⟨mc, h1, h2⟩ := hlim
    exact ⟨mc, nsK h1, h2⟩⟩
  have nil : ∀ {b : Addr}, b ∉ frs [] := fun {b} z => by cases z
  have e0 : Env0 Pg w K mg (hidT s1.heap H) callerA [] s1 H := ⟨rfl, md, fun b o e => of_hidT e, Nat.le_of_eq (hidT_size _ _), trivial, fun b z => (nil z).elim, hok, .of_eq hg⟩
  refine codeAny_mono ((F _ KB (nsK hns)).runs callerA [] s1 H ⟨[.ref a], []⟩ [.ref a] [.ref a] _ _ hr rfl e0 (hbind s1 (.ref a) KX) (.cons rfl .nil) (hsp H scr)) fun r s2 h => ?_
  match r, h with
  | .error e, h =>
    obtain ⟨_, _, _, _, _, _, _, _, _, _, _, _, f⟩ := h
    exact f.elim
  | .ok (.ret u), ⟨v, H2, os, bare, un, hok2, rv, qv⟩ =>
    subst qv
    cases (show u = Value.bool true from rv)
    refine ⟨rfl, OldK.of_keep fun b o e => ?_, os, bare⟩
    rcases only b with z | ⟨ob, xs, z⟩
    · exact un.keep b o e z nil (by simp)
    · have z2 := (hok2 b _ (un.frzs b ob _ z)).1
      rw [(hok b _ z).1] at e
      cases e
      exact z2
/-- the goal that k_head leaves -/
theorem walk_law {l : PySem.W.OpenLaw} {m n : Nat} {q : Program} {loose : List Str} {XP : (Str → Option Value) → Heap → Prop} {YP : World → Heap → Prop} {d : DefRec} {K : Params → PySem.W.Frag} {sp : World → Sp} {x : Str}
    (hm : l.most = some m) (hm2 : m ≤ sizeLine) (hdf : d.params.defaults = []) (hr : Room n callerA) (hY : ∀ (w : World) (h : Heap), YP w h → (K w.params).In h)
    (F : ∀ (w : World) (mg : Str → Option Value) (fa : Addr) (h : Heap), (K w.params).In h → h.Ns mainGlobals mg → mg d.name = some (.ref fa) →
      ∃ fd : FuncData, (∀ (s : Shared) (u : Value), (K w.params).In s.heap → BindsTo s fd ⟨[u], []⟩ [(x, u)]) ∧ ∀ bs : Heap, (K w.params).In bs → bs.Ns mainGlobals mg → Prom l.prog w (K w.params) mg bs n fa fd [x] (sp w))
    (hsp : ∀ (w : World) (H : Hp) (a : Addr) (ns : List Int), ns.length ≤ m → ScrL (K w.params) H a (ns.map V.int) → sp w [.ref a] H (fun v _ => v = .bl true) fun _ _ _ => False) :
    PySem.W.WalkO q loose XP YP l.row.toRowW d [] (fun f vs => PySem.call f vs) :=
  Att.attach_call hm hdf fun w s0 s1 mg mb fa o pm cd doc a vs ns gr Y ho hd hcd hmg hobj hints hlen hgn => by
    obtain ⟨fd, hb, hF⟩ := F w mg fa _ (hY w _ Y) gr.T.g hmg
    exact call_law (hY w _ Y) gr.T.g gr.T.b gr.T.builtins gr.T.nolimit hgn hobj hints (Nat.le_trans hlen hm2) hr hF hb fun H hS => hsp w H a ns hlen hS
end Fk
set_option Elab.async false
set_option linter.all false
set_option autoImplicit false
set_option maxRecDepth 100000
set_option maxHeartbeats 4000000
/-! Whether a piece of the text is what a piece of the language says: shapes -/
namespace Fk
open PySem L2 PySem.Spec PyProof.Rows

def nsEq : List Nat → List Nat → Bool
  | [], [] => true
  | a :: as, b :: bs => Nat.beq a b && nsEq as bs
  | _, _ => false
theorem nsEq_eq : ∀ {a b : List Nat}, nsEq a b = true → a = b
  | [], [], _ => rfl
  | [], _ :: _, h => by cases h
  | _ :: _, [], h => by cases h
  | a :: as, b :: bs, h => by
    unfold nsEq at h
    rw [Bool.and_eq_true] at h
    rw [Nat.eq_of_beq_eq_true h.1, nsEq_eq h.2]
theorem nsEq_self : ∀ a : List Nat, nsEq a a = true
  | [] => rfl
  | a :: as => by
    unfold nsEq
    rw [Nat.beq_refl, nsEq_self as]
    rfl
def sEq (x y : Str) : Bool := nsEq x.cps.toList y.cps.toList
theorem sEq_eq {x y : Str} (h : sEq x y = true) : x = y := by
  obtain ⟨⟨a⟩⟩ := x
  obtain ⟨⟨b⟩⟩ := y
  have e : a = b := nsEq_eq h
  rw [e]
theorem sEq_self (x : Str) : sEq x x = true := nsEq_self _
theorem sEq_beq (x y : Str) : sEq x y = (x == y) := by
  cases h : sEq x y with
  | true => rw [sEq_eq h]; simp
  | false =>
    symm
    rw [beq_eq_false_iff_ne]
    intro e
    rw [e, sEq_self] at h
    cases h
theorem sEq_ne {x y : Str} (h : sEq x y = false) : x ≠ y := fun e => by rw [e, sEq_self] at h; cases h
def lkp {α : Type} (x : Str) : List (Str × α) → Option α
  | [] => none
  | (y, v) :: r => bif sEq x y then some v else lkp x r
theorem lkp_eq {α : Type} (x : Str) : ∀ l : List (Str × α), lkp x l = l.lookup x
  | [] => rfl
  | (y, v) :: r => by
    unfold lkp
    rw [List.lookup_cons, sEq_beq, lkp_eq x r]
    cases x == y <;> rfl
def hasS (x : Str) : List Str → Bool
  | [] => false
  | y :: r => sEq x y || hasS x r
theorem hasS_mem {x : Str} : ∀ {l : List Str}, hasS x l = true → x ∈ l
  | [], h => by cases h
  | y :: r, h => by
    unfold hasS at h
    rw [Bool.or_eq_true] at h
    rcases h with h | h
    · rw [sEq_eq h]; exact List.mem_cons_self
    · exact List.mem_cons_of_mem _ (hasS_mem h)

/-! ### forms of expressions -/
def okE : Expr → Bool
  | .Name _ _ => true
  | .Attribute _ _ _ => true
  | .Subscript _ _ _ => true
  | .Call _ _ _ _ => true
  | .Constant _ _ _ => true
  | .BinOp _ _ _ _ => true
  | .UnaryOp _ _ _ => true
  | .Compare _ _ _ _ => true
  | .BoolOp _ _ _ => true
  | .IfExp _ _ _ _ => true
  | .List _ _ => true
  | .Tuple _ _ _ => true
  | .Dict _ _ _ => true
  | .JoinedStr _ _ => true
  | .ListComp _ _ _ _ => true
  | _ => false
def isComp : Expr → Bool
  | .ListComp _ _ _ _ => true
  | .SetComp _ _ _ _ => true
  | .DictComp _ _ _ _ _ => true
  | _ => false
def isTupE : Expr → Bool
  | .Tuple _ _ _ => true
  | _ => false
def okT : Expr → Bool
  | .Name _ _ => true
  | .Attribute _ _ _ => true
  | .Subscript _ _ _ => true
  | .Call _ _ _ _ => true
  | .Constant _ _ _ => true
  | .BinOp _ _ _ _ => true
  | .List _ _ => true
  | .Tuple _ _ _ => true
  | .ListComp _ _ _ _ => true
  | _ => false
def okA : Expr → Bool
  | .Name _ _ => true
  | .Attribute _ _ _ => true
  | .Subscript _ _ _ => true
  | .Call _ (_ :: _) _ _ => true
  | .Call (.Attribute _ _ _) _ _ _ => true
  | .Constant _ _ _ => true
  | .BinOp _ _ _ _ => true
  | .List _ _ => true
  | .JoinedStr _ _ => true
  | _ => false
def okAll : List Expr → Bool
  | [] => true
  | e :: es => okE e && okAll es
section
variable {e : Expr} {es : List Expr} {env : Env}
theorem se_cons (h : okE e = true) : starEach (e :: es) env = (false, eval e env) :: starEach es env := by
  cases e <;> first | rfl | cases h
theorem se_pl {pos : Pos} : ∀ {es : List Expr}, okAll es = true → (backTo pos (starEach es env)).any (·.1) = false
  | [], _ => rfl
  | e :: es, h => by
    unfold okAll at h
    rw [Bool.and_eq_true] at h
    have ih := se_pl (pos := pos) h.2
    rw [se_cons h.1]
    unfold backTo at ih ⊢
    rw [List.map_cons, List.any_cons, ih]
    rfl
theorem se_all {pos : Pos} : ∀ {es : List Expr}, okAll es = true → (backTo pos (starEach es env)).all (fun x => !x.fst) = true
  | [], _ => rfl
  | e :: es, h => by
    unfold okAll at h
    rw [Bool.and_eq_true] at h
    have ih := se_all (pos := pos) h.2
    rw [se_cons h.1]
    unfold backTo at ih ⊢
    rw [List.map_cons, List.all_cons, ih]
    rfl
theorem tru_of (h : okT e = true) : ∀ whole, PySem.isTrue e env whole = (do let v ← whole; standAt e.pos; holding [v] (truthy v)) := fun whole => by
  cases e <;> first | rfl | cases h
theorem att_of {f : Str} (h : okA e = true) : attributeBase e f env (eval e env) = eval e env := by
  cases e with
  | Call fn args kws pos =>
    cases args with
    | cons a as => cases fn <;> rfl
    | nil => cases fn <;> first | rfl | cases h
  | _ => first | rfl | cases h
theorem fold_of (h : okE e = true) : ∀ x, foldedSetIterable e env x = pure x := fun x => by
  cases e <;> first | rfl | cases h
theorem ix_of (h : okE e = true) : PlainIx e := fun o i => by
  cases e <;> first | rfl | cases h
theorem sw_of {t : Option Expr} {l : Nat} (h : isComp e = false) : swapsWith e t l env = pure false := by
  cases e <;> first | rfl | cases h
theorem sws_of {t : Expr} {l : Nat} (h : isComp e = false) : swapsWithSole [t] e l env = pure false := sw_of h
theorem sst_of {ts : List Expr} (h : isTupE e = false) : swappedStores ts e env = pure none := by
  unfold swappedStores
  cases ts with
  | nil => cases e <;> first | rfl | cases h
  | cons t ts =>
    cases ts with
    | nil => cases t <;> cases e <;> first | rfl | cases h
    | cons _ _ => cases t <;> cases e <;> first | rfl | cases h
theorem sst_name {x : Str} {p : Pos} : swappedStores [.Name x p] e env = pure none := by
  cases e <;> rfl
theorem sst_sub {o i : Expr} {p : Pos} : swappedStores [.Subscript o i p] e env = pure none := by
  cases e <;> rfl
end
/-! ### targets -/
structure Sc where
  N : List Str
  sc : Scope
  fn : Option Scope
def lkN (b : Sc) (x : Str) : Option NameKind := lkp x b.sc.names
def isLoc : Option NameKind → Bool
  | some .local => true
  | _ => false
def isVis : Option NameKind → Bool
  | some .local => true
  | some .cell => true
  | some .free => true
  | _ => false
def isGl : Option NameKind → Bool
  | some .globalImplicit => true
  | _ => false
def atN (b : Sc) (i : Nat) (x : Str) : Bool := match b.N[i]? with
  | some y => sEq x y
  | none => false
theorem atN_get {b : Sc} {i : Nat} {x : Str} (h : atN b i x = true) : b.N[i]? = some x := by
  unfold atN at h
  split at h
  · rename_i y hy
    rw [hy, sEq_eq h]
  · cases h
/-- a name that is stored to: local; or, in a def's own scope, a cell -/
def stB (b : Sc) (x : Str) : Bool := match lkN b x with
  | some .local => true
  | some .cell => b.fn.isNone
  | _ => false
structure Cm (b : Sc) (X : Cx) : Prop where
  N : X.N = b.N
  sc : X.env.scope = b.sc
  fn : b.fn = none → ∀ x, X.fn x = true
theorem Cm.lk {b : Sc} {X : Cx} (c : Cm b X) (x : Str) : X.env.scope.names.lookup x = lkN b x := by
  rw [c.sc]
  exact (lkp_eq x _).symm
theorem Cm.loc {b : Sc} {X : Cx} (c : Cm b X) {x : Str} (h : stB b x = true) : Loc X.env.scope x ∧ (X.fn x = true ∨ X.env.scope.names.lookup x = some .local) := by
  unfold stB at h
  have e := c.lk x
  split at h
  · rename_i q
    rw [q] at e
    exact ⟨.inl e, .inr e⟩
  · rename_i q
    rw [q] at e
    exact ⟨.inr e, .inl (c.fn (Option.isNone_iff_eq_none.mp h) x)⟩
  · cases h
theorem Cm.vis {b : Sc} {X : Cx} (c : Cm b X) {x : Str} (h : isVis (lkN b x) = true) : Vis X.env.scope x := by
  have e := c.lk x
  unfold isVis at h
  split at h
  · rename_i q; rw [q] at e; exact .inl e
  · rename_i q; rw [q] at e; exact .inr (.inl e)
  · rename_i q; rw [q] at e; exact .inr (.inr e)
  · cases h
theorem Cm.gl {b : Sc} {X : Cx} (c : Cm b X) {x : Str} (h : isGl (lkN b x) = true) : Gl X x := by
  have e := c.lk x
  unfold isGl at h
  split at h
  · rename_i q; rw [q] at e; exact e
  · cases h
mutual
def chkG (b : Sc) : M → Expr → Bool
  | .var i, e => match e with
    | .Name x _ => atN b i x && stB b x
    | _ => false
  | .tup ts, e => match e with
    | .Tuple es _ _ => chkGs b ts es
    | _ => false
  | _, _ => false
def chkGs (b : Sc) : M → List Expr → Bool
  | .nil, es => match es with
    | [] => true
    | _ => false
  | .cons t r, es => match es with
    | e :: es => chkG b t e && chkGs b r es
    | _ => false
  | _, _ => false
end
def tgE : Expr → Bool
  | .Name _ _ => true
  | .Tuple _ _ _ => true
  | _ => false
theorem chkG_tg {b : Sc} : ∀ {m : M} {e : Expr}, chkG b m e = true → tgE e = true := fun {m e} h => by
  cases m <;> simp only [chkG] at h <;> first | cases h | (cases e <;> first | rfl | cases h)
theorem ae_cons {e : Expr} {es : List Expr} {env : Env} (h : tgE e = true) : assignEach (e :: es) env = (false, assign e env) :: assignEach es env := by
  cases e <;> first | rfl | cases h
theorem chkGs_ae {b : Sc} {env : Env} : ∀ (m : M) (es : List Expr), chkGs b m es = true → (assignEach es env).length = lenM m ∧ (assignEach es env).findIdx? (·.1) = none
  | .nil, es, h => by
    cases es with
    | nil => exact ⟨rfl, rfl⟩
    | cons _ _ => cases h
  | .cons t r, es, h => by
    cases es with
    | nil => cases h
    | cons e es =>
      have h : (chkG b t e && chkGs b r es) = true := h
      rw [Bool.and_eq_true] at h
      obtain ⟨h1, h2⟩ := chkGs_ae (env := env) r es h.2
      rw [ae_cons (chkG_tg h.1)]
      refine ⟨by unfold lenM; rw [List.length_cons, h1], ?_⟩
      rw [List.findIdx?_cons, h2]
      rfl
  | .var _, _, h | .non, _, h | .bl _, _, h | .int _, _, h | .str _, _, h | .glob _, _, h | .tup _, _, h | .lst _, _, h | .emp _, _, h | .bin _ _ _, _, h | .neg _, _, h | .cmp _ _ _, _, h | .chn _ _ _ _ _, _, h | .and _ _, _, h | .or _ _, _, h | .one _, _, h | .not _, _, h | .ite _ _ _, _, h | .sub _ _, _, h
  | .slc _ _ _, _, h | .no, _, h | .attr _ _, _, h | .call _ _, _, h | .new _ _, _, h | .bif _ _, _, h | .isi _ _, _, h | .met _ _ _, _, h | .bim _ _ _, _, h | .fst _, _, h | .fc _ _, _, h | .lc _ _ _ _, _, h | .lcf _ _ _ _ _, _, h | .rng1 _, _, h | .rng2 _ _, _, h | .enu _, _, h | .zip _ _, _, h | .thaw _, _, h => by simp [chkGs] at h
mutual
theorem chkG_ok {G : GA} {b : Sc} {X : Cx} (c : Cm b X) (hN : X.N.Nodup) (hc : X.calm = true) : ∀ (m : M) (e : Expr), chkG b m e = true → PG X e (gM G X m)
  | .var i, e, h => by
    cases e with
    | Name x p =>
      have h : (atN b i x && stB b x) = true := h
      rw [Bool.and_eq_true] at h
      exact g_var hN (by rw [c.N]; exact atN_get h.1) (c.loc h.2).1 (c.loc h.2).2
    | _ => cases h
  | .tup ts, e, h => by
    cases e with
    | Tuple es k p =>
      have h : chkGs b ts es = true := h
      exact g_tup hc (chkGs_ok c hN hc ts es h) (chkGs_ae ts es h).1 (chkGs_ae ts es h).2
    | _ => cases h
  | .nil, _, h | .cons _ _, _, h | .non, _, h | .bl _, _, h | .int _, _, h | .str _, _, h | .glob _, _, h | .lst _, _, h | .emp _, _, h | .bin _ _ _, _, h | .neg _, _, h | .cmp _ _ _, _, h | .chn _ _ _ _ _, _, h | .and _ _, _, h | .or _ _, _, h | .one _, _, h | .not _, _, h | .ite _ _ _, _, h | .sub _ _, _, h
  | .slc _ _ _, _, h | .no, _, h | .attr _ _, _, h | .call _ _, _, h | .new _ _, _, h | .bif _ _, _, h | .isi _ _, _, h | .met _ _ _, _, h | .bim _ _ _, _, h | .fst _, _, h | .fc _ _, _, h | .lc _ _ _ _, _, h | .lcf _ _ _ _ _, _, h | .rng1 _, _, h | .rng2 _ _, _, h | .enu _, _, h | .zip _ _, _, h | .thaw _, _, h => by simp [chkG] at h
theorem chkGs_ok {G : GA} {b : Sc} {X : Cx} (c : Cm b X) (hN : X.N.Nodup) (hc : X.calm = true) : ∀ (m : M) (es : List Expr), chkGs b m es = true → PGs X es (gMs G X m)
  | .nil, es, h => by
    cases es with
    | nil => exact gs_nil
    | cons _ _ => cases h
  | .cons t r, es, h => by
    cases es with
    | nil => cases h
    | cons e es =>
      have h : (chkG b t e && chkGs b r es) = true := h
      rw [Bool.and_eq_true] at h
      exact gs_cons (chkG_ok c hN hc t e h.1) (chkGs_ok c hN hc r es h.2) (by rw [ae_cons (chkG_tg h.1)]; rfl)
  | .var _, _, h | .non, _, h | .bl _, _, h | .int _, _, h | .str _, _, h | .glob _, _, h | .tup _, _, h | .lst _, _, h | .emp _, _, h | .bin _ _ _, _, h | .neg _, _, h | .cmp _ _ _, _, h | .chn _ _ _ _ _, _, h | .and _ _, _, h | .or _ _, _, h | .one _, _, h | .not _, _, h | .ite _ _ _, _, h | .sub _ _, _, h
  | .slc _ _ _, _, h | .no, _, h | .attr _ _, _, h | .call _ _, _, h | .new _ _, _, h | .bif _ _, _, h | .isi _ _, _, h | .met _ _ _, _, h | .bim _ _ _, _, h | .fst _, _, h | .fc _ _, _, h | .lc _ _ _ _, _, h | .lcf _ _ _ _ _, _, h | .rng1 _, _, h | .rng2 _ _, _, h | .enu _, _, h | .zip _ _, _, h | .thaw _, _, h => by simp [chkGs] at h
end
end Fk
set_option Elab.async false
set_option linter.all false
set_option autoImplicit false
set_option maxRecDepth 100000
set_option maxHeartbeats 4000000
/-! Whether an expression is what a piece of the language says -/
namespace Fk
open PySem L2 PySem.Spec PyProof.Rows

inductive Md where
  | val | tst | itr (tup : Bool)
def mdOk : Md → Expr → Bool
  | .val, _ => true
  | .tst, e => okT e
  | .itr _, _ => true
def isItr : Md → Bool
  | .itr _ => true
  | _ => false
/-- the names that the checks ask for -/
structure Wd where
  bis : List Str
  defs : List Str
  news : List Str
def bifs : List Str := ["len", "tuple", "list", "all", "any", "int", "max", "min", "str", "repr", "sorted"]
def isis : List (Str × String) := [("int", "int"), ("bool", "bool"), ("str", "str"), ("tuple", "tuple"), ("list", "list"), ("dict", "dict")]
def bims : List Str := ["append", "extend", "pop", "join", "split"]
def isiK (x : Str) (t : String) : Bool := match lkp x isis with
  | some u => decide (u = t)
  | none => false
def ownS (N : List Str) (own : List Nat) : List (Str × Nat) := own.map fun i => (N.getD i Str.empty, i)
def allIn (own : List Nat) : List Nat → Bool
  | [] => true
  | i :: is => own.elem i && allIn own is
def slotB (b : Sc) (scope : Scope) : Sc := ⟨b.N, relS scope b.sc, some scope⟩
def intK : Const → Int → Bool
  | .int j, i => decide (i = j)
  | _, _ => false
def strK : Const → Str → Bool
  | .str j, i => sEq i j
  | _, _ => false
def isStrM : M → Bool
  | .str _ => true
  | _ => false
def noM : M → Bool
  | .no => true
  | _ => false
mutual
def chk (D : Wd) (b : Sc) : M → Md → Expr → Bool
  | .var i, md, e => match e with
    | .Name x _ => atN b i x && (isVis (lkN b x) && (!(sEq x "__debug__") && !(sEq x "__classdict__")))
    | _ => false
  | .non, md, e => match e with
    | .Constant .none _ _ => true
    | _ => false
  | .bl k, md, e => match e with
    | .Constant (.bool k') _ _ => k == k'
    | _ => false
  | .int i, md, e => match e with
    | .Constant c _ _ => intK c i
    | _ => false
  | .str i, md, e => match e with
    | .Constant c _ _ => strK c i
    | _ => false
  | .glob x, md, e => match e with
    | .Name y _ => sEq x y && (isGl (lkN b x) && !(sEq x "__debug__"))
    | _ => false
  | .tup as, md, e => match e with
    | .Tuple es _ _ => chkA D b as es
    | _ => false
  | .lst as, md, e => match e with
    | .List es _ => chkA D b as es
    | _ => false
  | .emp t, md, e => match md with
    | .val => match e with
      | .Dict [] [] _ => true
      | _ => false
    | _ => false
  | .bin op a c, md, e => match e with
    | .BinOp e1 op' e2 _ => decide (op = op') && (chk D b a .val e1 && chk D b c .val e2)
    | _ => false
  | .neg a, md, e => match md with
    | .val => match e with
      | .UnaryOp .USub e1 _ => chk D b a .val e1
      | _ => false
    | _ => false
  | .cmp op a c, md, e => match e with
    | .Compare e1 [op'] [e2] _ => decide (op = op') && (!(behindInMarks op e2) && (!(isItr md) && (chk D b a .val e1 && chk D b c .val e2)))
    | _ => false
  | .chn op o2 a c d, md, e => match e with
    | .Compare e1 [op', o2'] [e2, e3] _ => decide (op = op') && (decide (o2 = o2') && (!(lastMarks [op, o2] [e2, e3]) && (!(isItr md) && (chk D b a .val e1 && (chk D b c .val e2 && chk D b d .val e3)))))
    | _ => false
  | .and a c, md, e => match e with
    | .BoolOp .And (e1 :: e2 :: rest) p => !(isItr md) && (chk D b a md e1 && chk D b c md (.BoolOp .And (e2 :: rest) p))
    | _ => false
  | .or a c, md, e => match e with
    | .BoolOp .Or (e1 :: e2 :: rest) p => !(isItr md) && (chk D b a md e1 && chk D b c md (.BoolOp .Or (e2 :: rest) p))
    | _ => false
  | .one a, md, e => match e with
    | .BoolOp _ [e1] _ => !(isItr md) && chk D b a md e1
    | _ => false
  | .not a, md, e => match e with
    | .UnaryOp .Not e1 _ => !(isItr md) && chk D b a md e1
    | _ => false
  | .ite c a d, md, e => match md with
    | .val => match e with
      | .IfExp e1 e2 e3 _ => chk D b c .tst e1 && (chk D b a .val e2 && chk D b d .val e3)
      | _ => false
    | _ => false
  | .sub a c, md, e => match e with
    | .Subscript e1 e2 _ => okE e2 && (chk D b a .val e1 && chk D b c .val e2)
    | _ => false
  | .slc a c d, md, e => match e with
    | .Subscript e1 (.Slice lo hi none _) _ => chk D b a .val e1 && ((match lo with
        | some l => !(noM c) && chk D b c .val l
        | none => noM c) && (match hi with
        | some h => !(noM d) && chk D b d .val h
        | none => noM d))
    | _ => false
  | .no, _, _ => false
  | .attr a f, md, e => match e with
    | .Attribute e1 g _ => sEq f g && (okA e1 && chk D b a .val e1)
    | _ => false
  | .call f as, md, e => match e with
    | .Call (.Name x _) es [] _ => sEq f x && (isGl (lkN b x) && (hasS x D.defs && (!(sEq x "__debug__") && chkA D b as es)))
    | _ => false
  | .new f as, md, e => match e with
    | .Call (.Name x _) es [] _ => sEq f x && (isGl (lkN b x) && (!(sEq x "__debug__") && (hasS x D.news && chkA D b as es)))
    | _ => false
  | .bif f as, md, e => match e with
    | .Call (.Name x _) (e1 :: es) [] _ => sEq f x && (isGl (lkN b x) && (hasS x D.bis && (hasS x bifs && chkA D b as (e1 :: es))))
    | _ => false
  | .isi a t, md, e => match e with
    | .Call (.Name x _) [e1, .Name x2 _] [] _ => sEq x "isinstance" && (isGl (lkN b x) && (hasS x D.bis && (okE e1 && (chk D b a .val e1 && (isGl (lkN b x2) && (hasS x2 D.bis && isiK x2 t))))))
    | _ => false
  | .met o m as, md, e => match e with
    | .Call (.Attribute e1 g ap) es [] p => sEq m g && (okA e1 && (Nat.beq ap.endLine p.line && (Nat.blt es.length 29 && (chk D b o .val e1 && chkA D b as es))))
    | _ => false
  | .bim o m as, md, e => match e with
    | .Call (.Attribute e1 g ap) (e2 :: es) [] p => sEq m g && (hasS m bims && (okA e1 && (Nat.beq ap.endLine p.line && (Nat.blt es.length 27 && (chk D b o .val e1 && chkA D b as (e2 :: es))))))
    | _ => false
  | .fst as, md, e => match md with
    | .val => match e with
      | .JoinedStr (v1 :: v2 :: rest) _ => chkF D b as (v1 :: v2 :: rest)
      | _ => false
    | _ => false
  | .lc own tg it x, md, e => match e with
    | .ListComp elt [⟨t, i, [], 0⟩] scope _ => okE i && (allIn own (slots tg) && (blkC b.N b.sc scope (ownS b.N own) && (chk D b it (.itr (isTupE t)) i && (chkG (slotB b scope) tg t && chk D (slotB b scope) x .val elt))))
    | _ => false
  | .lcf own tg it c x, md, e => match e with
    | .ListComp elt [⟨t, i, [ce], 0⟩] scope _ => okE i && (allIn own (slots tg) && (blkC b.N b.sc scope (ownS b.N own) && (chk D b it (.itr (isTupE t)) i && (chkG (slotB b scope) tg t && (chk D (slotB b scope) c .tst ce && chk D (slotB b scope) x .val elt)))))
    | _ => false
  | .rng1 a, md, e => match md with
    | .itr _ => match e with
      | .Call (.Name x _) [e1] [] _ => sEq x "range" && (isGl (lkN b x) && (hasS x D.bis && (okE e1 && chk D b a .val e1)))
      | _ => false
    | _ => false
  | .rng2 a c, md, e => match md with
    | .itr _ => match e with
      | .Call (.Name x _) [e1, e2] [] _ => sEq x "range" && (isGl (lkN b x) && (hasS x D.bis && (okE e1 && (okE e2 && (chk D b a .val e1 && chk D b c .val e2)))))
      | _ => false
    | _ => false
  | .enu a, md, e => match md with
    | .itr true => match e with
      | .Call (.Name x _) [e1] [] _ => sEq x "enumerate" && (isGl (lkN b x) && (hasS x D.bis && (okE e1 && chk D b a .val e1)))
      | _ => false
    | _ => false
  | .zip a c, md, e => match md with
    | .itr true => match e with
      | .Call (.Name x _) [e1, e2] [] _ => sEq x "zip" && (isGl (lkN b x) && (hasS x D.bis && (okE e1 && (okE e2 && (chk D b a .val e1 && chk D b c .val e2)))))
      | _ => false
    | _ => false
  | .thaw a, md, e => match md with
    | .val => isFresh a && chk D b a .val e
    | _ => false
  | .nil, _, _ => false
  | .cons _ _, _, _ => false
  | .fc _ _, _, _ => false
termination_by structural m => m
def chkA (D : Wd) (b : Sc) : M → List Expr → Bool
  | .nil, es => match es with
    | [] => true
    | _ => false
  | .cons a r, es => match es with
    | e :: es => okE e && (chk D b a .val e && chkA D b r es)
    | [] => false
  | _, _ => false
termination_by structural m => m
def chkF (D : Wd) (b : Sc) : M → List Expr → Bool
  | .nil, es => match es with
    | [] => true
    | _ => false
  | .fc a r, es => match es with
    | .FormattedValue e (-1) none _ :: es => chk D b a .val e && chkF D b r es
    | e :: es => okE e && (chk D b a .val e && (isStrM a && chkF D b r es))
    | [] => false
  | _, _ => false
termination_by structural m => m
end
end Fk
set_option Elab.async false
set_option linter.all false
set_option autoImplicit false
set_option maxRecDepth 100000
set_option maxHeartbeats 4000000
/-! .. then it does what that says -/
namespace Fk
open PySem L2 PySem.Spec PyProof.Rows

structure Fx (G : GA) (T : Tab) (cl : Cl) (D : Wd) (n : Nat) (X : Cx) : Prop where
  calm : X.calm = true
  nd : X.N.Nodup
  room : Room (n + 1) X.A
  grd : X.A.guards = some []
  bi : ∀ x, x ∈ D.bis → X.mg x = none
  cn : ∀ x d, T.consts x = some d → ∃ u, X.mg x = some u ∧ CnOk G X d u
  fnc : ∀ x, x ∈ D.defs → ∃ fa fd pr, X.mg x = some (.ref fa) ∧ PySem.W.keepIn X.K (.ref fa) = true ∧ Binds X.K fd pr [] ∧ Prom X.prog X.w X.K X.mg X.base n fa fd pr (spF (rc G X) cl x)
  ini : ∀ c, c ∈ D.news → ∃ f fa fd pr, T.ini c = some f ∧ X.mg c = some (.ref (G.ca c)) ∧ Mk X.K (G.ca c) fa ∧ Binds X.K fd pr [] ∧ Prom X.prog X.w X.K X.mg X.base n fa fd pr (spF (rc G X) cl f)
  met : ∀ m, MetOk X G T cl n m
  cls : ClOk G T X.K
theorem Fx.hu {G : GA} {T : Tab} {cl : Cl} {D : Wd} {n : Nat} {X : Cx} (f : Fx G T cl D n X) : X.A.units + 70 < cLine := by
  have := f.room.un
  omega
theorem Fx.rm {G : GA} {T : Tab} {cl : Cl} {D : Wd} {n : Nat} {X : Cx} (f : Fx G T cl D n X) : Room n X.A := f.room.mono (Nat.le_succ n)
theorem Fx.blk {G : GA} {T : Tab} {cl : Cl} {D : Wd} {n : Nat} {X : Cx} (f : Fx G T cl D n X) (s : Shared) (H : Hp) (scope : Scope) (ce : Env) (fp : List Addr) : Fx G T cl D n (X.blk s H scope ce fp) :=
  ⟨f.calm, f.nd, f.room, f.grd, f.bi, f.cn, f.fnc, f.ini, f.met, f.cls⟩
theorem takesN {X : Cx} (h : X.xe = fun _ _ => False) : Takes X W0 := fun _ _ ⟨_, _, _, _, _, _, _, _, _, _, _, _, _, _, _, _, w⟩ => w.elim
theorem Cm.blk {b : Sc} {X : Cx} (c : Cm b X) (s : Shared) (H : Hp) (scope : Scope) (C : Addr) (cl : List (Str × Addr)) (fp : List Addr) : Cm (slotB b scope) (X.blk s H scope (compEnvC scope cl C X.env) fp) :=
  ⟨c.N, by show relS scope X.env.scope = relS scope b.sc; rw [c.sc], fun h => by cases h⟩
def Sound (G : GA) (T : Tab) (cl : Cl) (X : Cx) (W : WX) (m : M) (e : Expr) : Md → Prop
  | .val => PE X e (tE G T cl X W m)
  | .tst => PT X e (tTs G T cl X W m) ∧ ∀ op es p, e = .BoolOp op es p → PW X e (tTs G T cl X W m)
  | .itr tup => ∀ tg, (tup = true → ∃ es k p, tg = .Tuple es k p) → PI X tg e (iIt G T cl X W m)
section
variable {G : GA} {T : Tab} {cl : Cl} {D : Wd} {n : Nat} {X : Cx} {W : WX} {m : M} {e : Expr} {md : Md}
theorem no_bool (ht : okT e = true) : ∀ op es p, e = .BoolOp op es p → PW X e (tTs G T cl X W m) := fun op es p q => by subst q; cases ht
theorem snd_of (hp : plainIt m = true) (he : PE X e (tE G T cl X W m)) (ht : okT e = true) : Sound G T cl X W m e md := by
  cases md with
  | val => exact he
  | tst => exact ⟨st_any (Fk.PE.z he) (tru_of ht), no_bool ht⟩
  | itr tup => exact fun tg _ => i_any (Fk.PE.z he) hp
theorem pe_false {t : TE} (h : ∀ σ H Q, ¬ t σ H Q) : PE X e t := ⟨fun pins s σ H Q I q => (h σ H Q q).elim⟩
theorem intK_get {c : Const} {i : Int} (h : intK c i = true) : c = .int i := by
  cases c <;> first | cases h | (rw [of_decide_eq_true (show decide (i = _) = true from h)])
theorem strK_get {c : Const} {i : Str} (h : strK c i = true) : c = .str i := by
  cases c <;> first | cases h | (rw [sEq_eq (show sEq i _ = true from h)])
theorem dbg {x y : Str} (h : (!(sEq x y)) = true) : (x == y) = false := by
  rw [← sEq_beq]
  simpa using h
theorem ownS_snd (N : List Str) (own : List Nat) : (ownS N own).map (·.2) = own := by
  unfold ownS
  rw [List.map_map]
  exact List.map_id'' (fun _ => rfl) _
theorem allIn_get {own : List Nat} : ∀ {l : List Nat}, allIn own l = true → ∀ i, i ∈ l → i ∈ own
  | [], _, i, h => by cases h
  | j :: js, h, i, hi => by
    unfold allIn at h
    rw [Bool.and_eq_true] at h
    rcases List.mem_cons.mp hi with z | z
    · rw [z]; exact List.elem_iff.mp h.1
    · exact allIn_get h.2 i z
theorem isiK_get {x : Str} {t : String} (h : isiK x t = true) : bootBuiltins x = some (.type t) ∧ x ≠ "__name__" ∧ (x == ("__debug__" : Str)) = false := by
  unfold isiK at h
  split at h
  · rename_i u hu
    have ht := of_decide_eq_true h
    subst ht
    rw [lkp_eq] at hu
    have hm := PySem.mem_of_lookup hu
    have : ∀ p ∈ isis, bootBuiltins p.1 = some (.type p.2) ∧ p.1 ≠ ("__name__" : Str) ∧ (p.1 == ("__debug__" : Str)) = false := by decide +kernel
    exact this _ hm
  · cases h
theorem bif_get (f : Fx G T cl D n X) {x : Str} (h : x ∈ bifs) : ∃ u, BifV x u ∧ CallR X u (rBif (rc G X) x) ∧ x ≠ "__name__" ∧ (x == ("__debug__" : Str)) = false := by
  have hu := f.hu
  have hn : ∀ x ∈ bifs, x ≠ ("__name__" : Str) ∧ (x == ("__debug__" : Str)) = false := by decide +kernel
  obtain ⟨n1, n2⟩ := hn x h
  simp only [bifs, List.mem_cons, List.not_mem_nil, or_false] at h
  rcases h with rfl | rfl | rfl | rfl | rfl | rfl | rfl | rfl | rfl | rfl | rfl
  · exact ⟨_, .fn _ _ PySem.boot_len, b_len, n1, n2⟩
  · exact ⟨_, .ty _ _ boot_tuple, b_tuple, n1, n2⟩
  · exact ⟨_, .ty _ _ boot_list, b_list f.calm, n1, n2⟩
  · exact ⟨_, .fn _ _ boot_all, b_all f.calm, n1, n2⟩
  · exact ⟨_, .fn _ _ boot_any, b_any f.calm, n1, n2⟩
  · exact ⟨_, .ty _ _ boot_int, b_int, n1, n2⟩
  · exact ⟨_, .fn _ _ boot_max, b_max f.calm, n1, n2⟩
  · exact ⟨_, .fn _ _ boot_min, b_min f.calm, n1, n2⟩
  · exact ⟨_, .ty _ _ boot_str, b_str, n1, n2⟩
  · exact ⟨_, .fn _ _ boot_repr, b_repr hu f.grd, n1, n2⟩
  · exact ⟨_, .fn _ _ boot_sorted, b_sorted hu, n1, n2⟩
/-- o.m(..), as it is evaluated -/
theorem met_eq {o : Expr} {x : Str} {apos pos : Pos} {es : List Expr} {env : Env} (h1 : attributeBase o x env (eval o env) = eval o env) (h2 : okAll es = true) (h3 : es.length < 30) (h4 : (apos.endLine == pos.line) = true) :
    eval (.Call (.Attribute o x apos) es [] pos) env = (do
      let ov ← eval o env
      standAt apos.atName
      let (f, first) ← holding [ov] (getMethod ov x (do return (← importBound o env).getD true))
      callWith pos f first (backTo pos (starEach es env)) (backToKw pos (keywordEach [] env))) := by
  have hf : methodCallForm (es.length + 0) (backTo pos (starEach es env)) (backToKw pos (keywordEach [] env)) = true := by
    unfold methodCallForm
    rw [se_all h2]
    simp [keywordEach, backToKw, h3]
  show (do
    let ov ← attributeBase o x env (eval o env)
    standAt apos.atName
    methodCall o x apos pos env ov (es.length + 0) (backTo pos (starEach es env)) (backToKw pos (keywordEach [] env))) = _
  rw [h1]
  unfold methodCall
  rw [hf]
  have hp : methodCallPos true o env apos pos = pure pos := by
    unfold methodCallPos
    rw [h4]
    rfl
  rw [hp]
  rfl
theorem noM_get {m : M} (h : noM m = true) : m = .no := by cases m <;> first | rfl | cases h
theorem noM_ne {m : M} (h : (!(noM m)) = true) : m ≠ .no := fun e => by subst e; cases h
theorem isTupE_get {t : Expr} (h : isTupE t = true) : ∃ es k p, t = .Tuple es k p := by cases t <;> first | exact ⟨_, _, _, rfl⟩ | cases h
theorem bim_get {x : Str} (h : x ∈ bims) : ∃ T' id, bimT x = T' ∧ PlainAttrs T' ∧ Slot T' x id ∧ typeOf (.builtin id) = pure (.type "method_descriptor") ∧ MtR X id (rBim (rc G X) x) ∧ T' ≠ "dict" := by
  simp only [bims, List.mem_cons, List.not_mem_nil, or_false] at h
  rcases h with rfl | rfl | rfl | rfl | rfl
  · exact ⟨"list", "list.append", by decide +kernel, PySem.F.plainAttrs_list, PySem.F.slot_list_append, PySem.F.type_list_append, m_append, by decide⟩
  · exact ⟨"list", "list.extend", by decide +kernel, PySem.F.plainAttrs_list, PySem.F.slot_list_extend, PySem.F.type_list_extend, m_extend, by decide⟩
  · exact ⟨"list", "list.pop", by decide +kernel, PySem.F.plainAttrs_list, PySem.F.slot_list_pop, PySem.F.type_list_pop, m_pop, by decide⟩
  · exact ⟨"str", "str.join", by decide +kernel, PySem.F.plainAttrs_str, PySem.F.slot_str_join, PySem.F.type_str_join, m_join, by decide⟩
  · exact ⟨"str", "str.split", by decide +kernel, PySem.F.plainAttrs_str, PySem.F.slot_str_split, PySem.F.type_str_split, m_split, by decide⟩
end
mutual
theorem chk_ok {G : GA} {T : Tab} {cl : Cl} {D : Wd} {n : Nat} : ∀ (m : M) (b : Sc) (X : Cx) (W : WX) (md : Md) (e : Expr), Fx G T cl D n X → Cm b X → Takes X W → chk D b m md e = true → Sound G T cl X W m e md
  | .var i, b, X, W, md, e, f, c, tk, h => by
    simp only [chk] at h
    split at h
    · rename_i x p
      simp only [Bool.and_eq_true] at h
      exact snd_of rfl (s_var (by rw [c.N]; exact atN_get h.1) (c.vis h.2.1) (dbg h.2.2.1) (dbg h.2.2.2)) rfl
    · cases h
  | .non, b, X, W, md, e, f, c, tk, h => by
    simp only [chk] at h
    split at h
    · exact snd_of rfl s_non rfl
    · cases h
  | .bl k, b, X, W, md, e, f, c, tk, h => by
    simp only [chk] at h
    split at h
    · have q := eq_of_beq h
      subst q
      exact snd_of rfl s_bl rfl
    · cases h
  | .int i, b, X, W, md, e, f, c, tk, h => by
    simp only [chk] at h
    split at h
    · have q := intK_get h
      subst q
      exact snd_of rfl s_int rfl
    · cases h
  | .str i, b, X, W, md, e, f, c, tk, h => by
    simp only [chk] at h
    split at h
    · have q := strK_get h
      subst q
      exact snd_of rfl s_str rfl
    · cases h
  | .glob x, b, X, W, md, e, f, c, tk, h => by
    simp only [chk] at h
    split at h
    · rename_i y p
      simp only [Bool.and_eq_true] at h
      have q := sEq_eq h.1
      subst q
      refine snd_of rfl ?_ rfl
      cases hT : T.consts x with
      | none =>
        refine pe_false fun σ H Q ⟨α, env, S, r, s, g⟩ => ?_
        have g' : Good false (rc G X) W σ α H (opt (T.consts x) S) Q := g
        rw [hT] at g'
        exact g'
      | some d =>
        obtain ⟨u, hm, hk⟩ := f.cn x d hT
        exact s_glob (c.gl h.2.1) hm (dbg h.2.2) hT hk
    · cases h
  | .tup as, b, X, W, md, e, f, c, tk, h => by
    simp only [chk] at h
    split at h
    · exact snd_of rfl (s_tup (chkA_ok as b X W _ f c tk h).1) rfl
    · cases h
  | .lst as, b, X, W, md, e, f, c, tk, h => by
    simp only [chk] at h
    split at h
    · exact snd_of rfl (s_lst (chkA_ok as b X W _ f c tk h).1) rfl
    · cases h
  | .emp t, b, X, W, md, e, f, c, tk, h => by
    simp only [chk] at h
    split at h
    · split at h
      · exact s_emp
      · cases h
    · cases h
  | .bin op a d, b, X, W, md, e, f, c, tk, h => by
    simp only [chk] at h
    split at h
    · simp only [Bool.and_eq_true, decide_eq_true_eq] at h
      obtain ⟨rfl, h1, h2⟩ := h
      exact snd_of rfl (s_bin (Fk.PE.z (chk_ok a b X W .val _ f c tk h1)) (Fk.PE.z (chk_ok d b X W .val _ f c tk h2))) rfl
    · cases h
  | .neg a, b, X, W, md, e, f, c, tk, h => by
    simp only [chk] at h
    split at h
    · split at h
      · exact s_neg (Fk.PE.z (chk_ok a b X W .val _ f c tk h))
      · cases h
    · cases h
  | .cmp op a d, b, X, W, md, e, f, c, tk, h => by
    have hu := f.hu
    simp only [chk] at h
    split at h
    · simp only [Bool.and_eq_true, decide_eq_true_eq, Bool.not_eq_true'] at h
      obtain ⟨rfl, hm, hi, h1, h2⟩ := h
      have p1 := Fk.PE.z (chk_ok a b X W .val _ f c tk h1)
      have p2 := Fk.PE.z (chk_ok d b X W .val _ f c tk h2)
      cases md with
      | val => exact s_cmp (by omega) p1 p2 hm
      | tst => exact ⟨st_cmp (by omega) p1 p2 hm, fun _ _ _ q => by cases q⟩
      | itr _ => cases hi
    · cases h
  | .chn op o2 a d x, b, X, W, md, e, f, c, tk, h => by
    have hu := f.hu
    simp only [chk] at h
    split at h
    · simp only [Bool.and_eq_true, decide_eq_true_eq, Bool.not_eq_true'] at h
      obtain ⟨rfl, rfl, hm, hi, h1, h2, h3⟩ := h
      have p1 := Fk.PE.z (chk_ok a b X W .val _ f c tk h1)
      have p2 := Fk.PE.z (chk_ok d b X W .val _ f c tk h2)
      have p3 := Fk.PE.z (chk_ok x b X W .val _ f c tk h3)
      cases md with
      | val => exact s_chn (by omega) p1 p2 p3 hm
      | tst => exact ⟨st_chn (by omega) p1 p2 p3 hm, fun _ _ _ q => by cases q⟩
      | itr _ => cases hi
    · cases h
  | .and a d, b, X, W, md, e, f, c, tk, h => by
    simp only [chk] at h
    split at h
    · simp only [Bool.and_eq_true, Bool.not_eq_true'] at h
      obtain ⟨hi, h1, h2⟩ := h
      have p1 := chk_ok a b X W md _ f c tk h1
      have p2 := chk_ok d b X W md _ f c tk h2
      cases md with
      | val => exact s_and (Fk.PE.z p1) (Fk.PE.z p2)
      | tst =>
        have k := sw_and p1.1 (p2.2 _ _ _ rfl)
        exact ⟨k.pt, fun _ _ _ q => by cases q; exact k⟩
      | itr _ => cases hi
    · cases h
  | .or a d, b, X, W, md, e, f, c, tk, h => by
    simp only [chk] at h
    split at h
    · simp only [Bool.and_eq_true, Bool.not_eq_true'] at h
      obtain ⟨hi, h1, h2⟩ := h
      have p1 := chk_ok a b X W md _ f c tk h1
      have p2 := chk_ok d b X W md _ f c tk h2
      cases md with
      | val => exact s_or (Fk.PE.z p1) (Fk.PE.z p2)
      | tst =>
        have k := sw_or p1.1 (p2.2 _ _ _ rfl)
        exact ⟨k.pt, fun _ _ _ q => by cases q; exact k⟩
      | itr _ => cases hi
    · cases h
  | .one a, b, X, W, md, e, f, c, tk, h => by
    simp only [chk] at h
    split at h
    · simp only [Bool.and_eq_true, Bool.not_eq_true'] at h
      obtain ⟨hi, h1⟩ := h
      have p1 := chk_ok a b X W md _ f c tk h1
      cases md with
      | val => exact s_one (Fk.PE.z p1)
      | tst =>
        exact ⟨(sw_one p1.1).pt, fun _ _ _ q => by cases q; exact sw_one p1.1⟩
      | itr _ => cases hi
    · cases h
  | .not a, b, X, W, md, e, f, c, tk, h => by
    simp only [chk] at h
    split at h
    · simp only [Bool.and_eq_true, Bool.not_eq_true'] at h
      obtain ⟨hi, h1⟩ := h
      have p1 := chk_ok a b X W md _ f c tk h1
      cases md with
      | val => exact s_not (Fk.PE.z p1)
      | tst => exact ⟨st_not p1.1, fun _ _ _ q => by cases q⟩
      | itr _ => cases hi
    · cases h
  | .ite x a d, b, X, W, md, e, f, c, tk, h => by
    simp only [chk] at h
    split at h
    · split at h
      · simp only [Bool.and_eq_true] at h
        exact s_ite (chk_ok x b X W .tst _ f c tk h.1).1 (Fk.PE.z (chk_ok a b X W .val _ f c tk h.2.1)) (Fk.PE.z (chk_ok d b X W .val _ f c tk h.2.2))
      · cases h
    · cases h
  | .sub a d, b, X, W, md, e, f, c, tk, h => by
    have hu := f.hu
    simp only [chk] at h
    split at h
    · simp only [Bool.and_eq_true] at h
      exact snd_of rfl (s_sub (by omega) (Fk.PE.z (chk_ok a b X W .val _ f c tk h.2.1)) (Fk.PE.z (chk_ok d b X W .val _ f c tk h.2.2)) (ix_of h.1)) rfl
    · cases h
  | .slc a d x, b, X, W, md, e, f, c, tk, h => by
    simp only [chk] at h
    split at h
    · rename_i e1 lo hi p2 p
      simp only [Bool.and_eq_true] at h
      obtain ⟨h1, h2, h3⟩ := h
      refine snd_of rfl (s_slc (Fk.PE.z (chk_ok a b X W .val _ f c tk h1)) ?_ ?_) rfl
      · cases lo with
        | none =>
          have q := noM_get h2
          subst q
          exact s_no
        | some l =>
          have h2 : (!(noM d) && chk D b d .val l) = true := h2
          rw [Bool.and_eq_true] at h2
          exact s_some (Fk.PE.z (chk_ok d b X W .val _ f c tk h2.2)) (noM_ne h2.1)
      · cases hi with
        | none =>
          have q := noM_get h3
          subst q
          exact s_no
        | some l =>
          have h3 : (!(noM x) && chk D b x .val l) = true := h3
          rw [Bool.and_eq_true] at h3
          exact s_some (Fk.PE.z (chk_ok x b X W .val _ f c tk h3.2)) (noM_ne h3.1)
    · cases h
  | .no, b, X, W, md, e, f, c, tk, h => by simp [chk] at h
  | .attr a g, b, X, W, md, e, f, c, tk, h => by
    simp only [chk] at h
    split at h
    · simp only [Bool.and_eq_true] at h
      have q := sEq_eq h.1
      subst q
      exact snd_of rfl (s_attr f.cls (Fk.PE.z (chk_ok a b X W .val _ f c tk h.2.2)) (att_of h.2.1)) rfl
    · cases h
  | .call g as, b, X, W, md, e, f, c, tk, h => by
    simp only [chk] at h
    split at h
    · rename_i x p es pos
      simp only [Bool.and_eq_true] at h
      obtain ⟨h1, h2, h3, h4, h5⟩ := h
      have q := sEq_eq h1
      subst q
      obtain ⟨pa, ok⟩ := chkA_ok as b X W _ f c tk h5
      obtain ⟨fa, fd, pr, k1, k2, k3, k4⟩ := f.fnc _ (hasS_mem h3)
      refine snd_of rfl ?_ rfl
      cases es with
      | nil =>
        cases as <;> first | exact s_call0 k4 f.rm f.grd tk (c.gl h2) k1 k2 k3 (dbg h4) | (simp [chkA] at h5)
      | cons e1 es =>
        unfold okAll at ok
        rw [Bool.and_eq_true] at ok
        exact s_call k4 f.rm f.grd tk (c.gl h2) k1 k2 k3 pa (dbg h4) (se_cons ok.1) (se_pl ok.2)
    · cases h
  | .new g as, b, X, W, md, e, f, c, tk, h => by
    simp only [chk] at h
    split at h
    · rename_i x p es pos
      simp only [Bool.and_eq_true] at h
      obtain ⟨h1, h2, h4, h3, h5⟩ := h
      have q := sEq_eq h1
      subst q
      obtain ⟨pa, ok⟩ := chkA_ok as b X W _ f c tk h5
      refine snd_of rfl ?_ rfl
      obtain ⟨i, fa, fd, pr, hT, k1, k2, k3, k4⟩ := f.ini g (hasS_mem h3)
      cases es with
      | nil =>
        cases as <;> first | exact s_new0 k2 k4 hT f.room f.grd tk (c.gl h2) k1 k3 (dbg h4) | (simp [chkA] at h5)
      | cons e1 es =>
        unfold okAll at ok
        rw [Bool.and_eq_true] at ok
        exact s_new k2 k4 hT f.room f.grd tk (c.gl h2) k1 k3 pa (dbg h4) (se_cons ok.1) (se_pl ok.2)
    · cases h
  | .bif g as, b, X, W, md, e, f, c, tk, h => by
    simp only [chk] at h
    split at h
    · rename_i x p e1 es pos
      simp only [Bool.and_eq_true] at h
      obtain ⟨h1, h2, h3, h4, h5⟩ := h
      have q := sEq_eq h1
      subst q
      obtain ⟨pa, ok⟩ := chkA_ok as b X W _ f c tk h5
      unfold okAll at ok
      rw [Bool.and_eq_true] at ok
      obtain ⟨u, k1, k2, k3, k4⟩ := bif_get f (hasS_mem h4)
      exact snd_of rfl (s_bif k1 k2 (c.gl h2) (f.bi _ (hasS_mem h3)) pa k3 k4 (se_cons ok.1) (se_pl ok.2)) rfl
    · cases h
  | .isi a t, b, X, W, md, e, f, c, tk, h => by
    simp only [chk] at h
    split at h
    · simp only [Bool.and_eq_true] at h
      obtain ⟨h1, h2, h3, h4, h5, h6, h7, h8⟩ := h
      have q := sEq_eq h1
      subst q
      obtain ⟨k1, k2, k3⟩ := isiK_get h8
      exact snd_of rfl (s_isi (c.gl h2) (f.bi _ (hasS_mem h3)) (Fk.PE.z (chk_ok a b X W .val _ f c tk h5)) (c.gl h6) (f.bi _ (hasS_mem h7)) k1 k2 k3 (se_cons h4)) rfl
    · cases h
  | .met o g as, b, X, W, md, e, f, c, tk, h => by
    simp only [chk] at h
    split at h
    · rename_i e1 g' ap es pos
      simp only [Bool.and_eq_true] at h
      obtain ⟨h1, h2, h3, h4, h5, h6⟩ := h
      have q := sEq_eq h1
      subst q
      obtain ⟨pa, ok⟩ := chkA_ok as b X W _ f c tk h6
      have po := Fk.PE.z (chk_ok o b X W .val _ f c tk h5)
      have hl : es.length < 29 := by simpa [Nat.blt_eq] using h4
      have heq := met_eq (x := g) (apos := ap) (pos := pos) (att_of (env := X.env) (f := g) h2) ok (by omega) (by rw [beq_iff_eq]; exact Nat.eq_of_beq_eq_true h3)
      refine snd_of rfl ?_ rfl
      cases es with
      | nil =>
        cases as <;> first | exact s_met0 po (f.met g) f.rm f.grd tk heq | (simp [chkA] at h6)
      | cons e2 es =>
        unfold okAll at ok
        rw [Bool.and_eq_true] at ok
        exact s_met po (f.met g) f.rm f.grd tk pa (se_cons ok.1) (se_pl ok.2) heq
    · cases h
  | .bim o g as, b, X, W, md, e, f, c, tk, h => by
    simp only [chk] at h
    split at h
    · rename_i e1 g' ap e2 es pos
      simp only [Bool.and_eq_true] at h
      obtain ⟨h1, h0, h2, h3, h4, h5, h6⟩ := h
      have q := sEq_eq h1
      subst q
      obtain ⟨pa, ok⟩ := chkA_ok as b X W _ f c tk h6
      have po := Fk.PE.z (chk_ok o b X W .val _ f c tk h5)
      have hl : es.length < 27 := by simpa [Nat.blt_eq] using h4
      obtain ⟨T', id, k1, k2, k3, k4, k5, k6⟩ := bim_get (X := X) (G := G) (hasS_mem h0)
      have all := se_all (env := X.env) (pos := pos) ok
      unfold okAll at ok
      rw [Bool.and_eq_true] at ok
      refine snd_of rfl (s_bim k1 k2 k3 k4 k5 k6 po pa (att_of h2) ?_ (by rw [beq_iff_eq]; exact Nat.eq_of_beq_eq_true h3) (se_cons ok.1) (se_pl ok.2)) rfl
      rw [all]
      simp [keywordEach, backToKw]
      omega
    · cases h
  | .fst as, b, X, W, md, e, f, c, tk, h => by
    simp only [chk] at h
    split at h
    · split at h
      · exact s_fst (chkF_ok as b X W _ f c tk h)
      · cases h
    · cases h
  | .lc own tg it x, b, X, W, md, e, f, c, tk, h => by
    simp only [chk] at h
    split at h
    · rename_i elt t i scope pos
      simp only [Bool.and_eq_true] at h
      obtain ⟨h1, h2, h3, h4, h5, h6⟩ := h
      have pi := chk_ok it b X W _ _ f c tk h4 t (fun z => isTupE_get z)
      have ok : BlkOk X.N X.env.scope scope (ownS b.N own) := by rw [c.N, c.sc]; exact blkOk_by h3
      have key := s_lc (G := G) (T := T) (cl := cl) (X := X) (W := W) (elt := elt) (pos := pos) (tm := tg) (e := x) f.calm f.nd pi ok (fun s H C c' fp => chkG_ok (c.blk s H scope C c' fp) f.nd f.calm tg t h5)
        (fun s H C c' fp => Fk.PE.z (chk_ok x (slotB b scope) _ W0 .val elt (f.blk s H scope (compEnvC scope c' C X.env) fp) (c.blk s H scope C c' fp) (takesN rfl) h6)) (by rw [ownS_snd]; exact allIn_get h2) (fold_of h1)
      rw [ownS_snd] at key
      exact snd_of rfl key rfl
    · cases h
  | .lcf own tg it y x, b, X, W, md, e, f, c, tk, h => by
    simp only [chk] at h
    split at h
    · rename_i elt t i ce scope pos
      simp only [Bool.and_eq_true] at h
      obtain ⟨h1, h2, h3, h4, h5, h6, h7⟩ := h
      have pi := chk_ok it b X W _ _ f c tk h4 t (fun z => isTupE_get z)
      have ok : BlkOk X.N X.env.scope scope (ownS b.N own) := by rw [c.N, c.sc]; exact blkOk_by h3
      have key := s_lcf (G := G) (T := T) (cl := cl) (X := X) (W := W) (elt := elt) (pos := pos) (tm := tg) (e := x) (cm := y) (c := ce) f.calm f.nd pi ok (fun s H C c' fp => chkG_ok (c.blk s H scope C c' fp) f.nd f.calm tg t h5)
        (fun s H C c' fp => (chk_ok y (slotB b scope) _ W0 .tst ce (f.blk s H scope (compEnvC scope c' C X.env) fp) (c.blk s H scope C c' fp) (takesN rfl) h6).1)
        (fun s H C c' fp => Fk.PE.z (chk_ok x (slotB b scope) _ W0 .val elt (f.blk s H scope (compEnvC scope c' C X.env) fp) (c.blk s H scope C c' fp) (takesN rfl) h7)) (by rw [ownS_snd]; exact allIn_get h2) (fold_of h1)
      rw [ownS_snd] at key
      exact snd_of rfl key rfl
    · cases h
  | .rng1 a, b, X, W, md, e, f, c, tk, h => by
    simp only [chk] at h
    split at h
    · split at h
      · simp only [Bool.and_eq_true] at h
        obtain ⟨h1, h2, h3, h4, h5⟩ := h
        have q := sEq_eq h1
        subst q
        exact fun tg _ => i_rng1 (c.gl h2) (f.bi _ (hasS_mem h3)) (Fk.PE.z (chk_ok a b X W .val _ f c tk h5)) (se_cons h4)
      · cases h
    · cases h
  | .rng2 a d, b, X, W, md, e, f, c, tk, h => by
    simp only [chk] at h
    split at h
    · split at h
      · simp only [Bool.and_eq_true] at h
        obtain ⟨h1, h2, h3, h4, h4', h5, h6⟩ := h
        have q := sEq_eq h1
        subst q
        exact fun tg _ => i_rng2 (c.gl h2) (f.bi _ (hasS_mem h3)) (Fk.PE.z (chk_ok a b X W .val _ f c tk h5)) (Fk.PE.z (chk_ok d b X W .val _ f c tk h6)) (by rw [se_cons h4, se_cons h4']; rfl) (se_cons h4')
      · cases h
    · cases h
  | .enu a, b, X, W, md, e, f, c, tk, h => by
    simp only [chk] at h
    split at h
    · split at h
      · simp only [Bool.and_eq_true] at h
        obtain ⟨h1, h2, h3, h4, h5⟩ := h
        have q := sEq_eq h1
        subst q
        intro tg ht
        obtain ⟨es, k, p, rfl⟩ := ht rfl
        exact i_enu (c.gl h2) (f.bi _ (hasS_mem h3)) (Fk.PE.z (chk_ok a b X W .val _ f c tk h5)) (se_cons h4)
      · cases h
    · cases h
  | .zip a d, b, X, W, md, e, f, c, tk, h => by
    simp only [chk] at h
    split at h
    · split at h
      · simp only [Bool.and_eq_true] at h
        obtain ⟨h1, h2, h3, h4, h4', h5, h6⟩ := h
        have q := sEq_eq h1
        subst q
        intro tg ht
        obtain ⟨es, k, p, rfl⟩ := ht rfl
        exact i_zip (c.gl h2) (f.bi _ (hasS_mem h3)) (Fk.PE.z (chk_ok a b X W .val _ f c tk h5)) (Fk.PE.z (chk_ok d b X W .val _ f c tk h6)) (se_cons h4) (se_cons h4') (se_pl (by unfold okAll; rw [h4']; rfl))
      · cases h
    · cases h
  | .thaw a, b, X, W, md, e, f, c, tk, h => by
    simp only [chk] at h
    split at h
    · rw [Bool.and_eq_true] at h
      exact s_thaw (chk_ok a b X W .val _ f c tk h.2) h.1
    · cases h
  | .nil, b, X, W, md, e, f, c, tk, h => by simp [chk] at h
  | .cons _ _, b, X, W, md, e, f, c, tk, h => by simp [chk] at h
  | .fc _ _, b, X, W, md, e, f, c, tk, h => by simp [chk] at h
theorem chkA_ok {G : GA} {T : Tab} {cl : Cl} {D : Wd} {n : Nat} : ∀ (m : M) (b : Sc) (X : Cx) (W : WX) (es : List Expr), Fx G T cl D n X → Cm b X → Takes X W → chkA D b m es = true → PA X es (tAr G T cl X W m) ∧ okAll es = true
  | .nil, b, X, W, es, f, c, tk, h => by
    simp only [chkA] at h
    split at h
    · exact ⟨s_nil, rfl⟩
    · cases h
  | .cons a r, b, X, W, es, f, c, tk, h => by
    simp only [chkA] at h
    split at h
    · simp only [Bool.and_eq_true] at h
      obtain ⟨p, q⟩ := chkA_ok r b X W _ f c tk h.2.2
      exact ⟨s_cons (Fk.PE.z (chk_ok a b X W .val _ f c tk h.2.1)) p (se_cons h.1), by unfold okAll; rw [h.1, q]; rfl⟩
    · cases h
  | .var _, _, _, _, _, _, _, _, h | .non, _, _, _, _, _, _, _, h | .bl _, _, _, _, _, _, _, _, h | .int _, _, _, _, _, _, _, _, h | .str _, _, _, _, _, _, _, _, h | .glob _, _, _, _, _, _, _, _, h | .tup _, _, _, _, _, _, _, _, h | .lst _, _, _, _, _, _, _, _, h | .emp _, _, _, _, _, _, _, _, h
  | .bin _ _ _, _, _, _, _, _, _, _, h | .neg _, _, _, _, _, _, _, _, h | .cmp _ _ _, _, _, _, _, _, _, _, h | .chn _ _ _ _ _, _, _, _, _, _, _, _, h | .and _ _, _, _, _, _, _, _, _, h | .or _ _, _, _, _, _, _, _, _, h | .one _, _, _, _, _, _, _, _, h | .not _, _, _, _, _, _, _, _, h | .ite _ _ _, _, _, _, _, _, _, _, h
  | .sub _ _, _, _, _, _, _, _, _, h | .slc _ _ _, _, _, _, _, _, _, _, h | .no, _, _, _, _, _, _, _, h | .attr _ _, _, _, _, _, _, _, _, h | .call _ _, _, _, _, _, _, _, _, h | .new _ _, _, _, _, _, _, _, _, h | .bif _ _, _, _, _, _, _, _, _, h | .isi _ _, _, _, _, _, _, _, _, h | .met _ _ _, _, _, _, _, _, _, _, h
  | .bim _ _ _, _, _, _, _, _, _, _, h | .fst _, _, _, _, _, _, _, _, h | .fc _ _, _, _, _, _, _, _, _, h | .lc _ _ _ _, _, _, _, _, _, _, _, h | .lcf _ _ _ _ _, _, _, _, _, _, _, _, h | .rng1 _, _, _, _, _, _, _, _, h | .rng2 _ _, _, _, _, _, _, _, _, h | .enu _, _, _, _, _, _, _, _, h | .zip _ _, _, _, _, _, _, _, _, h
  | .thaw _, _, _, _, _, _, _, _, h => by simp [chkA] at h
theorem chkF_ok {G : GA} {T : Tab} {cl : Cl} {D : Wd} {n : Nat} : ∀ (m : M) (b : Sc) (X : Cx) (W : WX) (es : List Expr), Fx G T cl D n X → Cm b X → Takes X W → chkF D b m es = true → PF G T cl X W es m
  | .nil, b, X, W, es, f, c, tk, h => by
    simp only [chkF] at h
    split at h
    · exact .nil
    · cases h
  | .fc a r, b, X, W, es, f, c, tk, h => by
    simp only [chkF] at h
    split at h
    · rw [Bool.and_eq_true] at h
      exact .cons (s_fmt (Fk.PE.z (chk_ok a b X W .val _ f c tk h.1))) (chkF_ok r b X W _ f c tk h.2)
    · rename_i e es _
      simp only [Bool.and_eq_true] at h
      obtain ⟨h1, h2, h3, h4⟩ := h
      refine .cons ?_ (chkF_ok r b X W _ f c tk h4)
      cases a <;> first
        | (cases h3; done)
        | (simp only [chk] at h2
           split at h2
           · have q := strK_get h2
             subst q
             exact s_fcst
           · cases h2)
    · cases h
  | .cons _ _, _, _, _, _, _, _, _, h
  | .var _, _, _, _, _, _, _, _, h | .non, _, _, _, _, _, _, _, h | .bl _, _, _, _, _, _, _, _, h | .int _, _, _, _, _, _, _, _, h | .str _, _, _, _, _, _, _, _, h | .glob _, _, _, _, _, _, _, _, h | .tup _, _, _, _, _, _, _, _, h | .lst _, _, _, _, _, _, _, _, h | .emp _, _, _, _, _, _, _, _, h
  | .bin _ _ _, _, _, _, _, _, _, _, h | .neg _, _, _, _, _, _, _, _, h | .cmp _ _ _, _, _, _, _, _, _, _, h | .chn _ _ _ _ _, _, _, _, _, _, _, _, h | .and _ _, _, _, _, _, _, _, _, h | .or _ _, _, _, _, _, _, _, _, h | .one _, _, _, _, _, _, _, _, h | .not _, _, _, _, _, _, _, _, h | .ite _ _ _, _, _, _, _, _, _, _, h
  | .sub _ _, _, _, _, _, _, _, _, h | .slc _ _ _, _, _, _, _, _, _, _, h | .no, _, _, _, _, _, _, _, h | .attr _ _, _, _, _, _, _, _, _, h | .call _ _, _, _, _, _, _, _, _, h | .new _ _, _, _, _, _, _, _, _, h | .bif _ _, _, _, _, _, _, _, _, h | .isi _ _, _, _, _, _, _, _, _, h | .met _ _ _, _, _, _, _, _, _, _, h
  | .bim _ _ _, _, _, _, _, _, _, _, h | .fst _, _, _, _, _, _, _, _, h | .lc _ _ _ _, _, _, _, _, _, _, _, h | .lcf _ _ _ _ _, _, _, _, _, _, _, _, h | .rng1 _, _, _, _, _, _, _, _, h | .rng2 _ _, _, _, _, _, _, _, _, h | .enu _, _, _, _, _, _, _, _, h | .zip _ _, _, _, _, _, _, _, _, h
  | .thaw _, _, _, _, _, _, _, _, h => by simp [chkF] at h
end
end Fk
set_option Elab.async false
set_option linter.all false
set_option autoImplicit false
set_option maxRecDepth 100000
set_option maxHeartbeats 4000000
/-! Whether a body is what a piece of the language says; defs; all of them -/
namespace Fk
open PySem L2 PySem.Spec PyProof.Rows

def nmEq (x : Str) (p : Str × NameKind) : Bool := sEq p.1 x && (match p.2 with
  | .local => true
  | .cell => true
  | _ => false)
/-- a comprehension's list that goes straight to its name -/
def swB (b : Sc) (x : Str) (py : Pos) : Expr → Bool
  | .ListComp _ _ scope pos => b.fn.isNone && (isLoc (lkN b x) && (Nat.beq py.line pos.line && !(scope.names.any (nmEq x))))
  | _ => false
/-- it stays an ordinary store -/
def noSw (b : Sc) (x : Str) (py : Pos) : Expr → Bool
  | .ListComp _ _ scope pos => !(isLoc (lkN b x)) || scope.names.any (nmEq x)
  | e => !(isComp e)
def lcM : M → Bool
  | .lc _ _ _ _ => true
  | .lcf _ _ _ _ _ => true
  | .thaw (.lc _ _ _ _) => true
  | .thaw (.lcf _ _ _ _ _) => true
  | _ => false
def parB (b : Sc) (i j : Nat) (x y : Str) (px py : Pos) (e1 e2 : Expr) : Bool :=
  atN b i x && (atN b j y && (!(Nat.beq i j) && (isLoc (lkN b x) && (isLoc (lkN b y) && (Nat.beq py.line px.line && (!(sEq x y) && (b.fn.isNone && (okE e1 && (okE e2 && (!([e1, e2].all (foldedForSure 8)) && !([e1, e2].all (constantsAlone 8))))))))))))
def asgB (D : Wd) (b : Sc) (tg : M) (e : M) (t v : Expr) : Bool := match tg with
  | .var i => match t with
    | .Name x p => atN b i x && (stB b x && (chk D b e .val v && ((swB b x p v && lcM e) || noSw b x p v)))
    | _ => false
  | .tup ts => match t with
    | .Tuple es _ _ => match v with
      | .Tuple [e1, e2] _ _ => match es, ts, e with
        | [.Name x px, .Name y py], .cons (.var i) (.cons (.var j) .nil), .tup as => parB b i j x y px py e1 e2 && chkA D b as [e1, e2]
        | _, _, _ => false
      | _ => !(isComp v) && (!(isTupE v) && (chkGs b ts es && chk D b e .val v))
    | _ => false
  | .sub o i => match t with
    | .Subscript eo ei _ => !(isComp v) && (okE ei && (chk D b o .val eo && (chk D b i .val ei && chk D b e .val v)))
    | _ => false
  | .attr o f => match t with
    | .Attribute eo g _ => sEq f g && (chk D b o .val eo && chk D b e .val v)
    | _ => false
  | _ => false
mutual
def chkS (D : Wd) (b : Sc) : MS → Stmt → Bool
  | .asg tg e, st => match st with
    | .Assign [t] v _ => asgB D b tg e t v
    | _ => false
  | .exp e, st => match st with
    | .Expr v _ => !(isComp v) && chk D b e .val v
    | _ => false
  | .ret e, st => match st with
    | .Return (some v) _ => chk D b e .val v
    | _ => false
  | .retn, st => match st with
    | .Return none _ => true
    | _ => false
  | .ite c a d, st => match st with
    | .If v sa sb _ => chk D b c .tst v && (chkSs D b a sa && chkSs D b d sb)
    | _ => false
  | .for_ tg it a, st => match st with
    | .For t i body [] _ => okE i && (chkG b tg t && (chk D b it (.itr (isTupE t)) i && chkSs D b a body))
    | _ => false
  | .whl c a, st => match st with
    | .While v body [] _ => chk D b c .tst v && chkSs D b a body
    | _ => false
  | .brk, st => match st with
    | .Break _ => true
    | _ => false
  | .cnt, st => match st with
    | .Continue _ => true
    | _ => false
  | .pas, st => match st with
    | .Pass _ => true
    | .Expr (.Constant (.str _) _ _) _ => true
    | _ => false
  | .stop, _ => true
  | .nl, _ => false
  | .cn _ _, _ => false
termination_by structural m => m
def chkSs (D : Wd) (b : Sc) : MS → List Stmt → Bool
  | .nl, sts => match sts with
    | [] => true
    | _ => false
  | .cn s r, sts => match sts with
    | st :: sts => chkS D b s st && chkSs D b r sts
    | [] => false
  | _, _ => false
termination_by structural m => m
end
section
variable {G : GA} {T : Tab} {cl : Cl} {D : Wd} {n : Nat} {X : Cx} {W : WX} {b : Sc}
theorem swap_eq {elt : Expr} {gs : List Comprehension} {scope : Scope} {pos py : Pos} {x : Str} {l : Nat} {env : Env} (hk : env.scope.kind = .function) :
    swapsWith (.ListComp elt gs scope pos) (some (.Name x py)) l env = pure ((env.scope.names.lookup x == some .local) && (py.line == pos.line) && !(scope.names.any fun (n, k) => n == x && (k == .local || k == .cell))) := by
  have hb : env.blockKind = .function := by unfold Env.blockKind; rw [hk]; rfl
  unfold swapsWith
  simp only [hb]
  rfl
theorem nmEq_any {x : Str} {l : List (Str × NameKind)} : (l.any fun (n, k) => n == x && (k == .local || k == .cell)) = l.any (nmEq x) := by
  congr 1
  funext p
  obtain ⟨y, k⟩ := p
  unfold nmEq
  simp only [sEq_beq]
  cases k <;> rfl
theorem isLoc_get {o : Option NameKind} (h : isLoc o = true) : o = some .local := by
  unfold isLoc at h
  split at h
  · rfl
  · cases h
theorem par_eq {x y : Str} {px py pt pt2 : Pos} {kt k2 : Nat} {e1 e2 : Expr} {env : Env} (hk : env.scope.kind = .function) (hx : env.scope.names.lookup x = some .local) (hy : env.scope.names.lookup y = some .local) (hl : py.line = px.line) (hn : x ≠ y) (h1 : okE e1 = true) (h2 : okE e2 = true)
    (hf : ([e1, e2].all (foldedForSure 8)) = false) (hc : ([e1, e2].all (constantsAlone 8)) = false) :
    swappedStores [.Tuple [.Name x px, .Name y py] kt pt] (.Tuple [e1, e2] k2 pt2) env = pure (some [x, y]) := by
  have hb : env.blockKind = .function := by unfold Env.blockKind; rw [hk]; rfl
  have kx : env.kindOf x = some .local := hx
  have ky : env.kindOf y = some .local := hy
  have hs : ([e1, e2].any fun | .Starred .. => true | _ => false) = false := by
    cases e1 <;> first | (cases h1; done) | (cases e2 <;> first | rfl | cases h2)
  unfold swappedStores
  simp only [hb, kx, ky, hs, hf, hc, hl]
  have he : [x, y].eraseDups = [x, y] := by
    have q : (y == x) = false := beq_eq_false_iff_ne.mpr (Ne.symm hn)
    have q' : (x == y) = false := beq_eq_false_iff_ne.mpr hn
    simp [List.eraseDups_cons, q, q']
  simp [he, kx, ky, hl, Expr.pos]
  rintro (q | q)
  · cases e1 <;> first | (cases h1; done) | (cases q; done)
  · cases e2 <;> first | (cases h2; done) | (cases q; done)
theorem asub_of {o i : Expr} {pos : Pos} {env : Env} (h : okE i = true) : ∀ v, assign (.Subscript o i pos) env v = (do
    let ov ← holding [v] (eval o env)
    let iv ← holding [v, ov] (eval i env)
    standAt pos
    holding [v, ov, iv] (setItem ov iv v)
    release [v, ov, iv] []) := fun v => by
  cases i <;> first | rfl | cases h
theorem blk_get {X : Cx} {b : Sc} (c : Cm b X) {own : List Nat} {scope : Scope} (h : blkC b.N b.sc scope (ownS b.N own) = true) : BlkOk X.N X.env.scope scope (ownS b.N own) := by rw [c.N, c.sc]; exact blkOk_by h
theorem chk_thaw {a : M} {e : Expr} : chk D b (.thaw a) .val e = (isFresh a && chk D b a .val e) := by simp only [chk]
theorem chkA_nil {m : M} (h : chkA D b m [] = true) : m = .nil := by
  cases m <;> first | rfl | (simp [chkA] at h)
theorem chkA_cons {m : M} {e : Expr} {es : List Expr} (h : chkA D b m (e :: es) = true) : ∃ a r, m = .cons a r ∧ chkA D b r es = true := by
  cases m with
  | cons a r =>
    simp only [chkA, Bool.and_eq_true] at h
    exact ⟨a, r, rfl, h.2.2⟩
  | _ => simp [chkA] at h
/-- name = [..] on its line -/
theorem asg_lc {i : Nat} {x : Str} {py spos : Pos} {m : M} {v : Expr} (f : Fx G T cl D n X) (c : Cm b X) (tk : Takes X W) (hk : X.env.scope.kind = .function) (hi : X.N[i]? = some x) (h : chk D b m .val v = true) (hm : lcM m = true) (hs : swB b x py v = true) :
    PS X (.Assign [.Name x py] v spos) (tS G T cl X W (.asg (.var i) m)) := by
  cases v <;> try (cases hs; done)
  rename_i elt gens scope pos
  have hs : (b.fn.isNone && (isLoc (lkN b x) && (Nat.beq py.line pos.line && !(scope.names.any (nmEq x))))) = true := hs
  simp only [Bool.and_eq_true, Bool.not_eq_true'] at hs
  obtain ⟨_, l1, l2, l3⟩ := hs
  have hl : X.env.scope.names.lookup x = some .local := by rw [c.lk]; exact isLoc_get l1
  have sw : swapsWith (.ListComp elt gens scope pos) (some (.Name x py)) spos.line X.env = pure true := by
    rw [swap_eq hk, hl, nmEq_any, l3, Nat.eq_of_beq_eq_true l2]
    simp
  have base : ∀ own tg it y, chk D b (.lc own tg it y) .val (.ListComp elt gens scope pos) = true → (∀ σ H Q, tE0 G T cl X W m σ H Q → tE G T cl X W (.lc own tg it y) σ H Q) → PS X (.Assign [.Name x py] (.ListComp elt gens scope pos) spos) (tS G T cl X W (.asg (.var i) m)) := fun own tg it y h k => by
    simp only [chk] at h
    split at h
    · rename_i elt' t i' scope' pos' heq
      cases heq
      simp only [Bool.and_eq_true] at h
      obtain ⟨h1, h2, h3, h4, h5, h6⟩ := h
      have pi := chk_ok it b X W _ _ f c tk h4 t (fun z => isTupE_get z)
      have hsub : ∀ j, j ∈ slots tg → j ∈ (ownS b.N own).map (·.2) := by rw [ownS_snd]; exact allIn_get h2
      refine ps_imp (ps_setLc (te := tE0 G T cl X W0 y) (g := gM G X tg) f.calm f.nd hi hl sw pi (blk_get c h3) (fun s H C c' fp => chkG_ok (G := G) (c.blk s H scope C c' fp) f.nd f.calm tg t h5) (fun _ _ _ _ _ => pts_nil)
        (fun s H C c' fp => Fk.PE.z (chk_ok y (slotB b scope) _ W0 .val elt (f.blk s H scope (compEnvC scope c' C X.env) fp) (c.blk s H scope C c' fp) (takesN rfl) h6)) (fold_of h1)) fun E σ H q => ?_
      have q2 := asg_imp (W := W) (g := gName i) (fun _ _ _ _ h => var_goal h) E σ H q
      exact lc_sound hsub σ H _ (by rw [ownS_snd]; exact k σ H _ q2)
    · cases h
  have basef : ∀ own tg it z y, chk D b (.lcf own tg it z y) .val (.ListComp elt gens scope pos) = true → (∀ σ H Q, tE0 G T cl X W m σ H Q → tE G T cl X W (.lcf own tg it z y) σ H Q) → PS X (.Assign [.Name x py] (.ListComp elt gens scope pos) spos) (tS G T cl X W (.asg (.var i) m)) := fun own tg it z y h k => by
    simp only [chk] at h
    split at h
    · rename_i elt' t i' ce scope' pos' heq
      cases heq
      simp only [Bool.and_eq_true] at h
      obtain ⟨h1, h2, h3, h4, h5, h6, h7⟩ := h
      have pi := chk_ok it b X W _ _ f c tk h4 t (fun z => isTupE_get z)
      have hsub : ∀ j, j ∈ slots tg → j ∈ (ownS b.N own).map (·.2) := by rw [ownS_snd]; exact allIn_get h2
      refine ps_imp (ps_setLc (te := tE0 G T cl X W0 y) (tt := tTs G T cl X W0 z) (g := gM G X tg) f.calm f.nd hi hl sw pi (blk_get c h3) (fun s H C c' fp => chkG_ok (G := G) (c.blk s H scope C c' fp) f.nd f.calm tg t h5)
        (fun s H C c' fp => pts_one (chk_ok z (slotB b scope) _ W0 .tst ce (f.blk s H scope (compEnvC scope c' C X.env) fp) (c.blk s H scope C c' fp) (takesN rfl) h6).1)
        (fun s H C c' fp => Fk.PE.z (chk_ok y (slotB b scope) _ W0 .val elt (f.blk s H scope (compEnvC scope c' C X.env) fp) (c.blk s H scope C c' fp) (takesN rfl) h7)) (fold_of h1)) fun E σ H q => ?_
      have q2 := asg_imp (W := W) (g := gName i) (fun _ _ _ _ h => var_goal h) E σ H q
      exact lcf_sound hsub σ H _ (by rw [ownS_snd]; exact k σ H _ q2)
    · cases h
  unfold lcM at hm
  split at hm
  · exact base _ _ _ _ h fun σ H Q ⟨α, env, S, r, s, g⟩ => ⟨α, env, S, r, s, g.any⟩
  · exact basef _ _ _ _ _ h fun σ H Q ⟨α, env, S, r, s, g⟩ => ⟨α, env, S, r, s, g.any⟩
  · rw [chk_thaw, Bool.and_eq_true] at h
    exact base _ _ _ _ h.2 fun σ H Q q => thaw_imp rfl (show tE0 G T cl X W _ σ H Q from q)
  · rw [chk_thaw, Bool.and_eq_true] at h
    exact basef _ _ _ _ _ h.2 fun σ H Q q => thaw_imp rfl (show tE0 G T cl X W _ σ H Q from q)
  · cases hm
theorem noSw_sw {x : Str} {py : Pos} {v : Expr} {l : Nat} (c : Cm b X) (hk : X.env.scope.kind = .function) (h : noSw b x py v = true) : swapsWith v (some (.Name x py)) l X.env = pure false := by
  cases hv : isComp v with
  | false => exact sw_of hv
  | true =>
    cases v <;> first | (cases hv; done) | (cases h; done) | skip
    rename_i elt gens scope pos
    have h : (!(isLoc (lkN b x)) || scope.names.any (nmEq x)) = true := h
    rw [swap_eq hk, nmEq_any]
    rw [Bool.or_eq_true] at h
    rcases h with h | h
    · have e : (X.env.scope.names.lookup x == some NameKind.local) = false := by
        rw [c.lk]
        cases q : lkN b x with
        | none => rfl
        | some k => rw [q] at h; cases k <;> first | rfl | (cases h; done)
      rw [e]
      rfl
    · rw [h]
      simp
theorem sw_attr {v o : Expr} {g : Str} {p : Pos} {l : Nat} {env : Env} : swapsWith v (some (.Attribute o g p)) l env = pure false := by cases v <;> rfl
theorem asg_ok {tg m : M} {t v : Expr} {pos : Pos} (f : Fx G T cl D n X) (c : Cm b X) (tk : Takes X W) (hk : X.env.scope.kind = .function) (h : asgB D b tg m t v = true) : PS X (.Assign [t] v pos) (tS G T cl X W (.asg tg m)) := by
  have hu := f.hu
  unfold asgB at h
  split at h
  · cases t with
    | Name x p =>
      simp only [Bool.and_eq_true] at h
      obtain ⟨h1, h2, h3, h4⟩ := h
      have hi := atN_get h1
      rw [← c.N] at hi
      rw [Bool.or_eq_true] at h4
      rcases h4 with h4 | h4
      · rw [Bool.and_eq_true] at h4
        exact asg_lc f c tk hk hi h3 h4.2 h4.1
      · exact st_set f.nd hi (c.loc h2).1 (Fk.PE.z (chk_ok m b X W .val v f c tk h3)) (noSw_sw c hk h4) (c.loc h2).2
    | _ => cases h
  · split at h
    · split at h
      · split at h
        · rename_i x px y py i j as
          simp only [Bool.and_eq_true] at h
          obtain ⟨h1, h2⟩ := h
          unfold parB at h1
          simp only [Bool.and_eq_true, Bool.not_eq_true'] at h1
          obtain ⟨a1, a2, a3, a4, a5, a6, a7, a8, a9, a10, a11, a12⟩ := h1
          have hx := isLoc_get a4
          have hy := isLoc_get a5
          rw [← c.lk] at hx hy
          have hi := atN_get a1
          have hj := atN_get a2
          rw [← c.N] at hi hj
          obtain ⟨pa, ok⟩ := chkA_ok as b X W _ f c tk h2
          have hij : i ≠ j := fun z => by rw [z, Nat.beq_refl] at a3; cases a3
          obtain ⟨u1, r1, rfl, q1⟩ := chkA_cons h2
          obtain ⟨u2, r2, rfl, q2⟩ := chkA_cons q1
          have q3 := chkA_nil q2
          subst q3
          exact st_par f.calm f.nd hi hj hij hx hy pa (par_eq hk hx hy (Nat.eq_of_beq_eq_true a6) (sEq_ne a7) a9 a10 a11 a12) rfl
        · cases h
      · simp only [Bool.and_eq_true, Bool.not_eq_true'] at h
        obtain ⟨h1, h2, h3, h4⟩ := h
        exact st_unp f.calm (chkGs_ok c f.nd f.calm _ _ h3) (chkGs_ae _ _ h3).1 (chkGs_ae _ _ h3).2 (Fk.PE.z (chk_ok m b X W .val v f c tk h4)) (sws_of h1) (sst_of h2) rfl
    · cases h
  · split at h
    · simp only [Bool.and_eq_true, Bool.not_eq_true'] at h
      obtain ⟨h1, h2, h3, h4, h5⟩ := h
      exact st_item (by omega) (Fk.PE.z (chk_ok _ b X W .val _ f c tk h3)) (Fk.PE.z (chk_ok _ b X W .val _ f c tk h4)) (Fk.PE.z (chk_ok _ b X W .val _ f c tk h5)) (asub_of h2) (sws_of h1) sst_sub rfl
    · cases h
  · split at h
    · simp only [Bool.and_eq_true, Bool.not_eq_true'] at h
      obtain ⟨h1, h3, h4⟩ := h
      have q := sEq_eq h1
      subst q
      exact st_fld (fun c' => f.cls.cls c' _) (Fk.PE.z (chk_ok _ b X W .val _ f c tk h3)) (Fk.PE.z (chk_ok _ b X W .val _ f c tk h4)) sw_attr
    · cases h
  · cases h
end
mutual
theorem chkS_ok {G : GA} {T : Tab} {cl : Cl} {D : Wd} {n : Nat} : ∀ (m : MS) (b : Sc) (X : Cx) (W : WX) (st : Stmt), Fx G T cl D n X → Cm b X → Takes X W → PassesOwn (model X.prog X.w) X.A X.env X.xe → X.env.scope.kind = .function → chkS D b m st = true → PS X st (tS G T cl X W m)
  | .asg tg e, b, X, W, st, f, c, tk, hp, hk, h => by
    simp only [chkS] at h
    split at h
    · exact asg_ok f c tk hk h
    · cases h
  | .exp e, b, X, W, st, f, c, tk, hp, hk, h => by
    simp only [chkS] at h
    split at h
    · simp only [Bool.and_eq_true, Bool.not_eq_true'] at h
      exact st_exp (Fk.PE.z (chk_ok e b X W .val _ f c tk h.2)) (sw_of h.1)
    · cases h
  | .ret e, b, X, W, st, f, c, tk, hp, hk, h => by
    simp only [chkS] at h
    split at h
    · exact st_ret (Fk.PE.z (chk_ok e b X W .val _ f c tk h))
    · cases h
  | .retn, b, X, W, st, f, c, tk, hp, hk, h => by
    simp only [chkS] at h
    split at h
    · exact st_retn
    · cases h
  | .ite x a d, b, X, W, st, f, c, tk, hp, hk, h => by
    simp only [chkS] at h
    split at h
    · simp only [Bool.and_eq_true] at h
      exact st_ite (chk_ok x b X W .tst _ f c tk h.1).1 (chkSs_ok a b X W _ f c tk hp hk h.2.1) (chkSs_ok d b X W _ f c tk hp hk h.2.2)
    · cases h
  | .for_ tg it a, b, X, W, st, f, c, tk, hp, hk, h => by
    simp only [chkS] at h
    split at h
    · rename_i t i body pos
      simp only [Bool.and_eq_true] at h
      obtain ⟨h1, h2, h3, h4⟩ := h
      exact st_for hp f.calm (chk_ok it b X W _ _ f c tk h3 t (fun z => isTupE_get z)) (chkG_ok c f.nd f.calm tg t h2) (chkSs_ok a b X W _ f c tk hp hk h4) (fold_of h1)
    · cases h
  | .whl x a, b, X, W, st, f, c, tk, hp, hk, h => by
    simp only [chkS] at h
    split at h
    · simp only [Bool.and_eq_true] at h
      exact st_whl hp (chk_ok x b X W .tst _ f c tk h.1).1 (chkSs_ok a b X W _ f c tk hp hk h.2)
    · cases h
  | .brk, b, X, W, st, f, c, tk, hp, hk, h => by
    simp only [chkS] at h
    split at h
    · exact st_brk
    · cases h
  | .cnt, b, X, W, st, f, c, tk, hp, hk, h => by
    simp only [chkS] at h
    split at h
    · exact st_cnt
    · cases h
  | .pas, b, X, W, st, f, c, tk, hp, hk, h => by
    simp only [chkS] at h
    split at h
    · exact st_pass
    · exact st_doc
    · cases h
  | .stop, b, X, W, st, f, c, tk, hp, hk, h => st_stop
  | .nl, b, X, W, st, f, c, tk, hp, hk, h => by simp [chkS] at h
  | .cn _ _, b, X, W, st, f, c, tk, hp, hk, h => by simp [chkS] at h
theorem chkSs_ok {G : GA} {T : Tab} {cl : Cl} {D : Wd} {n : Nat} : ∀ (m : MS) (b : Sc) (X : Cx) (W : WX) (sts : List Stmt), Fx G T cl D n X → Cm b X → Takes X W → PassesOwn (model X.prog X.w) X.A X.env X.xe → X.env.scope.kind = .function → chkSs D b m sts = true → PSs X sts (tS G T cl X W m)
  | .nl, b, X, W, sts, f, c, tk, hp, hk, h => by
    simp only [chkSs] at h
    split at h
    · exact ss_nil
    · cases h
  | .cn s r, b, X, W, sts, f, c, tk, hp, hk, h => by
    simp only [chkSs] at h
    split at h
    · rw [Bool.and_eq_true] at h
      exact ss_cons (chkS_ok s b X W _ f c tk hp hk h.1) (chkSs_ok r b X W _ f c tk hp hk h.2)
    · cases h
  | .asg _ _, _, _, _, _, _, _, _, _, _, h | .exp _, _, _, _, _, _, _, _, _, _, h | .ret _, _, _, _, _, _, _, _, _, _, h | .retn, _, _, _, _, _, _, _, _, _, h | .ite _ _ _, _, _, _, _, _, _, _, _, _, h | .for_ _ _ _, _, _, _, _, _, _, _, _, _, h | .whl _ _, _, _, _, _, _, _, _, _, _, h
  | .brk, _, _, _, _, _, _, _, _, _, h | .cnt, _, _, _, _, _, _, _, _, _, h | .pas, _, _, _, _, _, _, _, _, _, h | .stop, _, _, _, _, _, _, _, _, _, h => by simp [chkSs] at h
end
end Fk
set_option Elab.async false
set_option linter.all false
set_option autoImplicit false
set_option maxRecDepth 100000
set_option maxHeartbeats 4000000
/-! All defs at once; the law -/
namespace Fk
open PySem L2 PySem.Spec PyProof.Rows

/-- a def of the text -/
structure DefT where
  nm : Str
  qual : Str
  st : Stmt
  pr : List Str
  N : List Str
  F : Fn
/-- a class of the text: its fields, its methods (name, def, the def's place), its __init__ (def, place) -/
structure ClsT where
  flds : List Str
  mets : List (Str × Str × Nat)
  ini : Option (Str × Nat)
structure Txt where
  defs : List (Str × DefT)
  clss : List (Str × ClsT)
  cons : List (Str × D)
  wd : Wd
  fuel : Nat
/-- place in the list of defs -/
def plc (tab : List (Str × DefT)) (x : Str) : Option Nat := match tab with
  | [] => none
  | (y, _) :: r => bif sEq x y then some 0 else (plc r x).map (· + 1)
def Txt.fn (t : Txt) (x : Str) : Option Fn := (lkp x t.defs).map (·.F)
def Txt.tab (t : Txt) : Tab where
  consts := fun x => lkp x t.cons
  mth := fun c m => (lkp c t.clss).bind fun k => (lkp m k.mets).map (·.1)
  ini := fun c => (lkp c t.clss).bind fun k => k.ini.map (·.1)
  fld := fun c f => match lkp c t.clss with
    | some k => hasS f k.flds
    | none => false
  fuel := t.fuel
def eqNs : List Str → List Str → Bool
  | [], [] => true
  | a :: as, b :: bs => sEq a b && eqNs as bs
  | _, _ => false
theorem eqNs_eq : ∀ {a b : List Str}, eqNs a b = true → a = b
  | [], [], _ => rfl
  | [], _ :: _, h => by cases h
  | _ :: _, [], h => by cases h
  | a :: as, b :: bs, h => by
    unfold eqNs at h
    rw [Bool.and_eq_true] at h
    rw [sEq_eq h.1, eqNs_eq h.2]
def nodupS : List Str → Bool
  | [] => true
  | x :: xs => !(hasS x xs) && nodupS xs
theorem hasS_of {x : Str} : ∀ {l : List Str}, x ∈ l → hasS x l = true
  | y :: r, h => by
    unfold hasS
    rcases List.mem_cons.mp h with z | z
    · rw [z, sEq_self]; rfl
    · rw [hasS_of z, Bool.or_true]
theorem nodupS_nodup : ∀ {l : List Str}, nodupS l = true → l.Nodup
  | [], _ => List.nodup_nil
  | x :: xs, h => by
    unfold nodupS at h
    simp only [Bool.and_eq_true, Bool.not_eq_true'] at h
    rw [List.nodup_cons]
    exact ⟨(fun m => by have z := hasS_of m; rw [h.1] at z; cases z), nodupS_nodup h.2⟩
def parOk (sc : Scope) : List Str → Bool
  | [] => true
  | x :: xs => isVisP (lkp x sc.names) && parOk sc xs
where isVisP : Option NameKind → Bool
  | some .local => true
  | some .cell => true
  | _ => false
def noFree : List (Str × NameKind) → Bool
  | [] => true
  | (_, .free) :: _ => false
  | _ :: r => noFree r
def isFun : ScopeKind → Bool
  | .function => true
  | _ => false
/-- a def's scope, its body -/
def okDef (D : Wd) (d : DefT) : Bool :=
  isFun (defScope d.st).kind && (!(defScope d.st).isCoroutine && (!(defScope d.st).isGenerator && (nodupS d.N && (eqNs (d.N.take d.pr.length) d.pr && (parOk (defScope d.st) d.pr && (noFree (defScope d.st).names &&
    (Nat.beq d.pr.length d.F.ps && (Nat.beq d.N.length d.F.n && chkSs D ⟨d.N, defScope d.st, none⟩ d.F.body (defBody d.st)))))))))
def okDefs (D : Wd) : List (Str × DefT) → Bool
  | [] => true
  | p :: r => okDef D p.2 && okDefs D r
def at_ (tab : List (Str × DefT)) (f : Str) (i : Nat) : Bool := match plc tab f with
  | some j => Nat.beq i j
  | none => false
def okMets (tab : List (Str × DefT)) : List (Str × Str × Nat) → Bool
  | [] => true
  | (_, f, i) :: r => at_ tab f i && okMets tab r
def okIni (tab : List (Str × DefT)) : Option (Str × Nat) → Bool
  | none => true
  | some (f, i) => at_ tab f i
def okClss (tab : List (Str × DefT)) : List (Str × ClsT) → Bool
  | [] => true
  | (_, k) :: r => okMets tab k.mets && (okIni tab k.ini && okClss tab r)
theorem parOk_get {sc : Scope} : ∀ {l : List Str}, parOk sc l = true → ∀ x ∈ l, sc.names.lookup x = some .local ∨ sc.names.lookup x = some .cell
  | y :: r, h, x, hx => by
    unfold parOk at h
    rw [Bool.and_eq_true] at h
    rcases List.mem_cons.mp hx with z | z
    · subst z
      rw [lkp_eq] at h
      have h1 := h.1
      unfold parOk.isVisP at h1
      split at h1
      · exact .inl (by assumption)
      · exact .inr (by assumption)
      · cases h1
    · exact parOk_get h.2 x z
theorem noFree_get : ∀ {l : List (Str × NameKind)}, noFree l = true → ∀ y ∈ l, y.2 ≠ .free
  | (n, k) :: r, h, y, hy => by
    unfold noFree at h
    rcases List.mem_cons.mp hy with z | z
    · subst z
      intro e
      cases k <;> first | (cases e; done) | (cases h; done)
    · cases k <;> first | (cases h; done) | exact noFree_get h y z
theorem okDefs_get {D : Wd} {x : Str} {d : DefT} : ∀ {l : List (Str × DefT)}, okDefs D l = true → lkp x l = some d → okDef D d = true
  | (y, e) :: r, h, hx => by
    unfold okDefs at h
    rw [Bool.and_eq_true] at h
    unfold lkp at hx
    cases q : sEq x y with
    | true => rw [q] at hx; cases hx; exact h.1
    | false => rw [q] at hx; exact okDefs_get h.2 hx

/-! ### addresses -/
/-- what holds of each def and its address -/
def Each {α : Type} (P : α → Addr → Prop) : List (Str × α) → List Addr → Prop
  | [], [] => True
  | (_, d) :: r, a :: as => P d a ∧ Each P r as
  | _, _ => False
def adr {α : Type} : List (Str × α) → List Addr → Str → Addr
  | (y, _) :: r, a :: as, x => bif sEq x y then a else adr r as x
  | _, _, _ => 0
theorem Each.get {α : Type} {P : α → Addr → Prop} {x : Str} {d : α} : ∀ {l : List (Str × α)} {as : List Addr}, Each P l as → lkp x l = some d → P d (adr l as x)
  | (y, e) :: r, a :: as, h, hx => by
    unfold Each at h
    unfold lkp at hx
    unfold adr
    cases q : sEq x y with
    | true => rw [q] at hx; cases hx; exact h.1
    | false => rw [q] at hx; exact Each.get h.2 hx
  | _ :: _, [], h, _ => h.elim
theorem plc_adr {x : Str} : ∀ {l : List (Str × DefT)} {as : List Addr} {i : Nat}, plc l x = some i → adr l as x = as.getD i 0
  | (y, e) :: r, [], i, h => by simp [adr]
  | (y, e) :: r, a :: as, i, h => by
    unfold plc at h
    unfold adr
    cases q : sEq x y with
    | true => rw [q] at h; cases h; rfl
    | false =>
      rw [q] at h
      cases z : plc r x with
      | none => rw [z] at h; cases h
      | some j =>
        rw [z] at h
        cases h
        show adr r as x = _
        rw [plc_adr z]
        rfl
theorem plc_lkp {x : Str} : ∀ {l : List (Str × DefT)} {i : Nat}, plc l x = some i → ∃ d, lkp x l = some d
  | (y, e) :: r, i, h => by
    unfold plc at h
    unfold lkp
    cases q : sEq x y with
    | true => exact ⟨e, rfl⟩
    | false =>
      rw [q] at h
      cases z : plc r x with
      | none => rw [z] at h; cases h
      | some j => exact plc_lkp z
theorem at_get {tab : List (Str × DefT)} {f : Str} {i : Nat} (h : at_ tab f i = true) : plc tab f = some i := by
  unfold at_ at h
  split at h
  · rename_i j hj
    rw [hj, Nat.eq_of_beq_eq_true h]
  · cases h
/-- of each in a list -/
def All1 {α : Type} (P : α → Prop) : List α → Prop
  | [] => True
  | x :: xs => P x ∧ All1 P xs
theorem All1.get {α : Type} {P : α → Prop} {x : α} : ∀ {l : List α}, All1 P l → x ∈ l → P x
  | y :: r, h, hx => by
    unfold All1 at h
    rcases List.mem_cons.mp hx with z | z
    · rw [z]; exact h.1
    · exact All1.get h.2 z
/-- what the top has written, of a def -/
def DefF (K : PySem.W.Frag) (d : DefT) (a : Addr) : Prop := ∃ fd, Fun K d.nm d.qual d.st a fd ∧ Binds K fd d.pr []
/-- of a class -/
def ClsF (K : PySem.W.Frag) (as : List Addr) (c : ClsT) (C : Addr) : Prop :=
  Cls K C ∧ All1 (NoAttr K C) c.flds ∧ All1 (fun p => Meth K C p.1 (as.getD p.2.2 0)) c.mets ∧ (match c.ini with
    | some p => Mk K C (as.getD p.2 0)
    | none => True)
structure TopF (t : Txt) (K : PySem.W.Frag) (mg : Str → Option Value) (as cs : List Addr) : Prop where
  defs : Each (DefF K) t.defs as
  clss : Each (ClsF K as) t.clss cs
  cons : All1 (fun p => ∃ u v, mg p.1 = some u ∧ RelV v u ∧ ∀ ca fa α H, Rep ⟨K, ca, fa⟩ α H p.2 v) t.cons
  bis : All1 (fun x => mg x = none) t.wd.bis
  fns : All1 (fun x => mg x = some (.ref (adr t.defs as x)) ∧ PySem.W.keepIn K (.ref (adr t.defs as x)) = true) t.wd.defs
  news : All1 (fun x => mg x = some (.ref (adr t.clss cs x))) t.wd.news
def okNews (t : Txt) : List Str → Bool
  | [] => true
  | x :: r => (match lkp x t.clss with
    | some k => k.ini.isSome
    | none => false) && okNews t r
def okFns (t : Txt) : List Str → Bool
  | [] => true
  | x :: r => (lkp x t.defs).isSome && okFns t r
def Txt.ok (t : Txt) : Bool := okDefs t.wd t.defs && (okClss t.defs t.clss && (okNews t t.wd.news && okFns t t.wd.defs))
section
variable {t : Txt} {K : PySem.W.Frag} {mg : Str → Option Value} {as cs : List Addr} {Pg : Program} {w : World} {bs : Heap}
abbrev gaOf (t : Txt) (as cs : List Addr) : GA := ⟨adr t.clss cs, adr t.defs as⟩
theorem okNews_get {x : Str} : ∀ {l : List Str}, okNews t l = true → x ∈ l → ∃ k p, lkp x t.clss = some k ∧ k.ini = some p
  | y :: r, h, hx => by
    unfold okNews at h
    rw [Bool.and_eq_true] at h
    rcases List.mem_cons.mp hx with z | z
    · subst z
      have h1 := h.1
      split at h1
      · rename_i k hk
        obtain ⟨p, hp⟩ := Option.isSome_iff_exists.mp h1
        exact ⟨k, p, hk, hp⟩
      · cases h1
    · exact okNews_get h.2 z
theorem okFns_get {x : Str} : ∀ {l : List Str}, okFns t l = true → x ∈ l → ∃ d, lkp x t.defs = some d
  | y :: r, h, hx => by
    unfold okFns at h
    rw [Bool.and_eq_true] at h
    rcases List.mem_cons.mp hx with z | z
    · subst z; exact Option.isSome_iff_exists.mp h.1
    · exact okFns_get h.2 z
theorem okClss_get {tab : List (Str × DefT)} {c : Str} {k : ClsT} : ∀ {l : List (Str × ClsT)}, okClss tab l = true → lkp c l = some k → okMets tab k.mets = true ∧ okIni tab k.ini = true
  | (y, e) :: r, h, hx => by
    unfold okClss at h
    simp only [Bool.and_eq_true] at h
    unfold lkp at hx
    cases q : sEq c y with
    | true => rw [q] at hx; cases hx; exact ⟨h.1, h.2.1⟩
    | false => rw [q] at hx; exact okClss_get h.2.2 hx
theorem okMets_get {tab : List (Str × DefT)} {m f : Str} {i : Nat} : ∀ {l : List (Str × Str × Nat)}, okMets tab l = true → lkp m l = some (f, i) → plc tab f = some i ∧ (m, f, i) ∈ l
  | (y, g, j) :: r, h, hx => by
    unfold okMets at h
    rw [Bool.and_eq_true] at h
    unfold lkp at hx
    cases q : sEq m y with
    | true =>
      rw [q] at hx
      cases hx
      rw [sEq_eq q]
      exact ⟨at_get h.1, List.mem_cons_self⟩
    | false =>
      rw [q] at hx
      obtain ⟨h1, h2⟩ := okMets_get h.2 hx
      exact ⟨h1, List.mem_cons_of_mem _ h2⟩
/-- each def keeps its promise, to each depth of calls -/
theorem all_ok (ok : t.ok = true) (F : TopF t K mg as cs) : ∀ (k : Nat) (x : Str) (d : DefT), lkp x t.defs = some d →
    ∃ fd, Fun K d.nm d.qual d.st (adr t.defs as x) fd ∧ Binds K fd d.pr [] ∧ Prom Pg w K mg bs (2 * k) (adr t.defs as x) fd d.pr (spF ⟨K, (gaOf t as cs).ca, (gaOf t as cs).fa⟩ (callF t.tab t.fn k) x)
  | 0, x, d, hx => by
    obtain ⟨fd, h1, h2⟩ := F.defs.get hx
    exact ⟨fd, h1, h2, fun ws Hp' Qv Xv ⟨_, _, _, _, _, g⟩ => g.elim, fun _ _ _ _ _ _ _ _ _ _ _ _ _ _ ⟨_, _, _, _, _, g⟩ => g.elim⟩
  | k + 1, x, d, hx => by
    have ih := all_ok ok F k
    obtain ⟨fd, h1, h2⟩ := F.defs.get hx
    have ok' := ok
    unfold Txt.ok at ok'
    simp only [Bool.and_eq_true] at ok'
    obtain ⟨o1, o2, o3, o4⟩ := ok'
    have od := okDefs_get o1 hx
    unfold okDef at od
    simp only [Bool.and_eq_true, Bool.not_eq_true'] at od
    obtain ⟨s1, s2, s3, s4, s5, s6, s7, s8, s9, s10⟩ := od
    have hk : (defScope d.st).kind = .function := by
      unfold isFun at s1
      split at s1
      · assumption
      · cases s1
    have S : FnScope d.N d.pr (defScope d.st) := ⟨hk, s2, s3, nodupS_nodup s4, eqNs_eq s5, parOk_get s6, noFree_get s7⟩
    have lp : d.pr.length = d.F.ps := Nat.eq_of_beq_eq_true s8
    have ln : d.N.length = d.F.n := Nat.eq_of_beq_eq_true s9
    have hfn : t.fn x = some d.F := by unfold Txt.fn; rw [hx]; rfl
    have len : ∀ vs H Q E, spF ⟨K, (gaOf t as cs).ca, (gaOf t as cs).fa⟩ (callF t.tab t.fn (k + 1)) x vs H Q E → vs.length = d.pr.length := fun vs H Q E ⟨α, S, ds, r, p, g⟩ => by
      have g' : Good false ⟨K, (gaOf t as cs).ca, (gaOf t as cs).fa⟩ (fun c d _ H' => E c d H') [] α H (match t.fn x with
        | some F => if ds.length = F.ps then fin F S (run t.tab (callF t.tab t.fn k) F.body (ds.map some ++ List.replicate (F.n - F.ps) none) S) else .stuck
        | none => .stuck) Q := g
      rw [hfn] at g'
      simp only at g'
      split at g'
      · rename_i hl
        rw [← p.len, hl, lp]
      · exact g'.elim
    refine ⟨fd, h1, h2, prom_of (n := 2 * k + 1) h1 S len fun cdv Ar ou s Hp' vs Qv Xv hr hgd ⟨α, S0, ds, r, p, g⟩ => ?_⟩
    have g' : Good false ⟨K, (gaOf t as cs).ca, (gaOf t as cs).fa⟩ (fun c d _ H' => Xv c d H') [] α Hp' (match t.fn x with
      | some F => if ds.length = F.ps then fin F S0 (run t.tab (callF t.tab t.fn k) F.body (ds.map some ++ List.replicate (F.n - F.ps) none) S0) else .stuck
      | none => .stuck) Qv := g
    rw [hfn] at g'
    simp only at g'
    split at g'
    · rename_i hl
      have gs := fin_goal r g'
      have fx : Fx (gaOf t as cs) t.tab (callF t.tab t.fn k) t.wd (2 * k) (cxOf (L2.CX Pg w) Pg w K mg bs d.N d.qual (defScope d.st) (adr t.defs as x) cdv Ar ou s Hp' Xv) := by
        refine ⟨rfl, S.nd, hr, hgd, fun y hy => F.bis.get hy, fun y c hy => ?_, fun y hy => ?_, fun c hc => ?_, fun m c f hm => ?_, ⟨fun c f hf => ?_⟩⟩
        · have hy : lkp y t.cons = some c := hy
          rw [lkp_eq] at hy
          obtain ⟨u, v, k1, k2, k3⟩ := F.cons.get (PySem.mem_of_lookup hy)
          exact ⟨u, k1, v, k2, fun α H => k3 _ _ α H⟩
        · obtain ⟨k1, k2⟩ := F.fns.get hy
          obtain ⟨d', hd'⟩ := okFns_get o4 hy
          obtain ⟨fd', q1, q2, q3⟩ := ih y d' hd'
          exact ⟨_, fd', d'.pr, k1, k2, q2, q3⟩
        · obtain ⟨kc, pi, c1, c2⟩ := okNews_get o3 hc
          have c3 := (okClss_get o2 c1).2
          rw [c2] at c3
          have c4 := at_get (show at_ t.defs pi.1 pi.2 = true from c3)
          obtain ⟨d', hd'⟩ := plc_lkp c4
          obtain ⟨fd', q1, q2, q3⟩ := ih pi.1 d' hd'
          obtain ⟨_, _, _, q4⟩ := F.clss.get c1
          rw [c2] at q4
          have q4 : Mk K (adr t.clss cs c) (as.getD pi.2 0) := q4
          rw [← plc_adr c4] at q4
          refine ⟨pi.1, adr t.defs as pi.1, fd', d'.pr, ?_, F.news.get hc, q4, q2, q3⟩
          show (lkp c t.clss).bind (fun k => k.ini.map (·.1)) = some pi.1
          rw [c1]
          show kc.ini.map (·.1) = _
          rw [c2]
          rfl
        · have hm : (lkp c t.clss).bind (fun k => (lkp m k.mets).map (·.1)) = some f := hm
          cases c1 : lkp c t.clss with
          | none => rw [c1] at hm; cases hm
          | some kc =>
            rw [c1] at hm
            have hm : (lkp m kc.mets).map (·.1) = some f := hm
            cases c2 : lkp m kc.mets with
            | none => rw [c2] at hm; cases hm
            | some pf =>
              rw [c2] at hm
              obtain ⟨f', i⟩ := pf
              cases hm
              obtain ⟨c3, c4⟩ := okMets_get (okClss_get o2 c1).1 c2
              obtain ⟨d', hd'⟩ := plc_lkp c3
              obtain ⟨fd', q1, q2, q3⟩ := ih f' d' hd'
              obtain ⟨e1, _, e3, _⟩ := F.clss.get c1
              have e4 : Meth K (adr t.clss cs c) m (as.getD i 0) := e3.get c4
              rw [← plc_adr c3] at e4
              exact ⟨adr t.defs as f', fd', d'.pr, e1, e4, q3, q2⟩
        · have hf : (match lkp c t.clss with
            | some k => hasS f k.flds
            | none => false) = true := hf
          cases c1 : lkp c t.clss with
          | none => rw [c1] at hf; cases hf
          | some kc =>
            rw [c1] at hf
            obtain ⟨e1, e2, _, _⟩ := F.clss.get c1
            exact ⟨e1, e2.get (hasS_mem hf)⟩
      have cm : Cm ⟨d.N, defScope d.st, none⟩ (cxOf (L2.CX Pg w) Pg w K mg bs d.N d.qual (defScope d.st) (adr t.defs as x) cdv Ar ou s Hp' Xv) := ⟨rfl, rfl, fun _ _ => rfl⟩
      refine ⟨_, chkSs_ok d.F.body _ _ (fun c d _ H' => Xv c d H') (defBody d.st) fx cm (takes_of rfl rfl rfl rfl) (passes_of rfl) hk s10, α, _, S0, r, start_sl p _ ?_, gs⟩
      rw [ln, ← p.len, hl]
    · exact g'.elim
/-- what the law's def is to keep -/
def spLaw (K : PySem.W.Frag) (m : Nat) : Sp := fun vs H Q _ => ∃ (a : Addr) (ns : List Int), vs = [.ref a] ∧ ScrL K H a (ns.map V.int) ∧ ns.length ≤ m ∧ ∀ H', Q (.bl true) H'
theorem law_ok {k m : Nat} {x : Str} {d : DefT} (ok : t.ok = true) (F : TopF t K mg as cs) (hx : lkp x t.defs = some d) (hp : d.pr.length = 1) (hT : ∀ ns : List Int, ns.length ≤ m → ∃ S, callF t.tab t.fn k x [.scr ns] [] = .ok (.bl true) S) :
    ∃ fd, Fun K d.nm d.qual d.st (adr t.defs as x) fd ∧ Binds K fd d.pr [] ∧ Prom Pg w K mg bs (2 * k) (adr t.defs as x) fd d.pr (spLaw K m) := by
  obtain ⟨fd, h1, h2, h3⟩ := all_ok (Pg := Pg) (w := w) (bs := bs) ok F k x d hx
  have imp : ∀ vs H Q E, spLaw K m vs H Q E → spF ⟨K, (gaOf t as cs).ca, (gaOf t as cs).fa⟩ (callF t.tab t.fn k) x vs H Q E := fun vs H Q E ⟨a, ns, e, hs, hl, q⟩ => by
    subst e
    refine ⟨.nil, [], [.scr ns], ⟨rfl, List.nodup_nil, fun a ha => (by cases ha), fun a ha => (by cases ha), fun n a d h => (by simp [Al.nil] at h)⟩, ?_, ?_⟩
    · unfold Reps
      refine ⟨?_, by unfold Reps; trivial⟩
      unfold Rep
      exact ⟨a, rfl, hs⟩
    · obtain ⟨S, hS⟩ := hT ns hl
      rw [hS]
      intro α' H' v e' r' p'
      unfold Rep at p'
      rw [p']
      exact q H'
  exact ⟨fd, h1, h2, fun ws Hp' Qv Xv h => h3.arity ws Hp' Qv Xv (imp _ _ _ _ h), fun Ar ou st Hp' ag us ws Qv Xv a1 a2 a3 a4 a5 h => h3.runs Ar ou st Hp' ag us ws Qv Xv a1 a2 a3 a4 a5 (imp _ _ _ _ h)⟩
/-- as the head asks it -/
theorem law_end {k m : Nat} {x y : Str} {d : DefT} {fa : Addr} (ok : t.ok = true) (F : TopF t K mg as cs) (hx : lkp x t.defs = some d) (hp : d.pr = [y]) (ha : adr t.defs as x = fa) (hT : ∀ ns : List Int, ns.length ≤ m → ∃ S, callF t.tab t.fn k x [.scr ns] [] = .ok (.bl true) S) :
    ∃ fd : FuncData, (∀ (s : Shared) (u : Value), K.In s.heap → BindsTo s fd ⟨[u], []⟩ [(y, u)]) ∧ ∀ bs : Heap, K.In bs → bs.Ns mainGlobals mg → Prom Pg w K mg bs (2 * k) fa fd [y] (spLaw K m) := by
  obtain ⟨fd, h1, h2⟩ := F.defs.get hx
  subst ha
  refine ⟨fd, fun s u hk => ?_, fun bs _ _ => ?_⟩
  · have := h2 s [u] hk (by rw [hp]; rfl)
    rw [hp] at this
    exact this
  · obtain ⟨fd', q1, q2, q3⟩ := law_ok (Pg := Pg) (w := w) (bs := bs) (d := d) ok F hx (by rw [hp]; rfl) hT
    obtain ⟨_, _, _, _, _, _, _, _, _, e1, l1, _⟩ := h1.ex
    obtain ⟨_, _, _, _, _, _, _, _, _, e2, l2, _⟩ := q1.ex
    have e : fd = fd' := by
      have z := l1.symm.trans l2
      injection z with z
      injection z with _ _ z _
      injection z
    rw [← hp, e]
    exact q3
end
end Fk
set_option Elab.async false
set_option linter.all false
set_option autoImplicit false
set_option maxRecDepth 100000
set_option maxHeartbeats 4000000
/-! The law's text in the little language: printed by a program from the linked text, looked at by the checks of F17, F19 -/
namespace K74
open PySem L2 Fk
def top (n : Nat) : Stmt := PySem.Challenge.pw_fankinds_k74_houses_written_and_read.main.body.getD n (.Pass ⟨0, 0, 0, 0⟩)
def b_d_is_whole : MS := (.cn (.ret (.and (.isi (.var 0) "int") (.one (.not (.isi (.var 0) "bool")))))
  .nl)
def f_d_is_whole : Fn := ⟨1, 1, false, b_d_is_whole⟩
def d_is_whole : DefT := ⟨"is_whole", "is_whole", top 6, ["thing"], ["thing"], f_d_is_whole⟩
def b_d_is_from : MS := (.cn (.ret (.and (.call "is_whole" (.cons (.var 0) .nil)) (.one (.chn .LtE .LtE (.var 1) (.var 0) (.var 2)))))
  .nl)
def f_d_is_from : Fn := ⟨3, 3, false, b_d_is_from⟩
def d_is_from : DefT := ⟨"is_from", "is_from", top 7, ["thing", "low", "high"], ["thing", "low", "high"], f_d_is_from⟩
def b_d_is_name : MS := (.cn (.ret (.and (.isi (.var 0) "str") (.and (.chn .LtE .LtE (.int 1) (.bif "len" (.cons (.var 0) .nil)) (.int 8)) (.one (.bif "all" (.cons (.lc [1] (.var 1) (.var 0) (.cmp .In (.var 1) (.glob "LETTERS"))) .nil))))))
  .nl)
def f_d_is_name : Fn := ⟨1, 2, false, b_d_is_name⟩
def d_is_name : DefT := ⟨"is_name", "is_name", top 8, ["thing"], ["thing", "sign"], f_d_is_name⟩
def b_d_are_names : MS := (.cn (.ite (.or (.not (.isi (.var 0) "tuple")) (.one (.not (.bif "all" (.cons (.lc [1] (.var 1) (.var 0) (.call "is_name" (.cons (.var 1) .nil))) .nil)))))
  (.cn (.ret (.bl false))
  .nl)
  .nl)
  (.cn (.ret (.bif "all" (.cons (.lc [1, 2] (.tup (.cons (.var 1) (.cons (.var 2) .nil))) (.zip (.var 0) (.slc (.var 0) (.int 1) .no)) (.cmp .Lt (.var 1) (.var 2))) .nil)))
  .nl))
def f_d_are_names : Fn := ⟨1, 3, false, b_d_are_names⟩
def d_are_names : DefT := ⟨"are_names", "are_names", top 9, ["thing"], ["thing", "one", "other"], f_d_are_names⟩
def b_d_is_lot : MS := (.cn (.ret (.and (.call "are_names" (.cons (.var 1) .nil)) (.and (.cmp .Gt (.bif "len" (.cons (.var 1) .nil)) (.int 0)) (.one (.bif "all" (.cons (.lc [2] (.var 2) (.var 1) (.cmp .In (.var 2) (.sub (.var 0) (.int 0)))) .nil))))))
  .nl)
def f_d_is_lot : Fn := ⟨2, 3, false, b_d_is_lot⟩
def d_is_lot : DefT := ⟨"is_lot", "is_lot", top 10, ["book", "thing"], ["book", "thing", "kind"], f_d_is_lot⟩
def b_d_house_text : MS := (.cn (.asg (.tup (.cons (.var 2) (.cons (.var 3) .nil))) (.var 0))
  (.cn (.asg (.var 1) (.thaw (.lc [4] (.var 4) (.var 2) (.bim (.str " ") "join" (.cons (.bin .Add (.tup (.cons (.glob "ROOM") .nil)) (.var 4)) .nil)))))
  (.cn (.exp (.bim (.var 1) "extend" (.cons (.lc [6, 7, 8] (.tup (.cons (.var 6) (.cons (.var 7) (.cons (.var 8) .nil)))) (.var 3) (.fst (.fc (.glob "WAY") (.fc (.str " ") (.fc (.var 6) (.fc (.str " ") (.fc (.var 7) (.fc (.str " ") (.fc (.var 8) .nil))))))))) .nil)))
  (.cn (.ret (.bim (.str "") "join" (.cons (.lc [5] (.var 5) (.var 1) (.bin .Add (.var 5) (.str "\n"))) .nil)))
  .nl))))
def f_d_house_text : Fn := ⟨1, 9, true, b_d_house_text⟩
def d_house_text : DefT := ⟨"house_text", "house_text", top 14, ["house"], ["house", "lines", "rooms", "ways", "lot", "line", "name", "one", "other"], f_d_house_text⟩
def b_d_ends_of : MS := (.cn (.ite (.not (.isi (.var 0) "str"))
  (.cn .stop
  .nl)
  .nl)
  (.cn (.asg (.var 1) (.bim (.var 0) "split" (.cons (.str "\n") .nil)))
  (.cn (.ret (.tup (.cons (.slc (.var 1) .no (.neg (.int 1))) (.cons (.sub (.var 1) (.neg (.int 1))) .nil))))
  .nl)))
def f_d_ends_of : Fn := ⟨1, 2, false, b_d_ends_of⟩
def d_ends_of : DefT := ⟨"ends_of", "ends_of", top 15, ["text"], ["text", "parts"], f_d_ends_of⟩
def b_d_is_rising : MS := (.cn (.ret (.bif "all" (.cons (.lc [1, 2] (.tup (.cons (.var 1) (.cons (.var 2) .nil))) (.zip (.var 0) (.slc (.var 0) (.int 1) .no)) (.cmp .Lt (.var 1) (.var 2))) .nil)))
  .nl)
def f_d_is_rising : Fn := ⟨1, 3, false, b_d_is_rising⟩
def d_is_rising : DefT := ⟨"is_rising", "is_rising", top 16, ["words"], ["words", "one", "other"], f_d_is_rising⟩
def b_d_HouseReader___init__ : MS := (.cn (.asg (.attr (.var 0) "kinds") (.sub (.var 1) (.int 0)))
  (.cn (.asg (.attr (.var 0) "doors") (.thaw (.lc [2] (.var 2) (.sub (.var 1) (.int 2)) (.sub (.var 2) (.int 0)))))
  (.cn (.asg (.attr (.var 0) "lots_read") (.thaw (.lst .nil)))
  (.cn (.asg (.attr (.var 0) "spots") (.thaw (.emp false)))
  (.cn (.asg (.attr (.var 0) "ways") (.thaw (.lst .nil)))
  .nl)))))
def f_d_HouseReader___init__ : Fn := ⟨2, 3, false, b_d_HouseReader___init__⟩
def d_HouseReader___init__ : DefT := ⟨"__init__", "HouseReader.__init__", inClass (top 17) 0, ["self", "book"], ["self", "book", "door"], f_d_HouseReader___init__⟩
def b_d_HouseReader_take_room : MS := (.cn (.asg (.var 2) (.bif "tuple" (.cons (.slc (.var 1) (.int 1) .no) .nil)))
  (.cn (.ite (.or (.cmp .NotEq (.attr (.var 0) "ways") (.lst .nil)) (.one (.cmp .Eq (.bif "len" (.cons (.attr (.var 0) "lots_read") .nil)) (.glob "ROOMS"))))
  (.cn (.ret (.bl false))
  .nl)
  .nl)
  (.cn (.ite (.or (.cmp .Eq (.var 2) (.tup .nil)) (.one (.not (.bif "all" (.cons (.lc [3] (.var 3) (.var 2) (.cmp .In (.var 3) (.attr (.var 0) "kinds"))) .nil)))))
  (.cn (.ret (.bl false))
  .nl)
  .nl)
  (.cn (.asg (.sub (.attr (.var 0) "spots") (.bif "str" (.cons (.bif "len" (.cons (.attr (.var 0) "lots_read") .nil)) .nil))) (.bif "len" (.cons (.attr (.var 0) "lots_read") .nil)))
  (.cn (.exp (.bim (.attr (.var 0) "lots_read") "append" (.cons (.var 2) .nil)))
  (.cn (.ret (.call "is_rising" (.cons (.var 2) .nil)))
  .nl))))))
def f_d_HouseReader_take_room : Fn := ⟨2, 4, false, b_d_HouseReader_take_room⟩
def d_HouseReader_take_room : DefT := ⟨"take_room", "HouseReader.take_room", inClass (top 17) 1, ["self", "words"], ["self", "words", "lot", "kind"], f_d_HouseReader_take_room⟩
def b_d_HouseReader_take_way : MS := (.cn (.ite (.or (.cmp .NotEq (.bif "len" (.cons (.var 1) .nil)) (.int 4)) (.one (.cmp .NotIn (.sub (.var 1) (.int 1)) (.attr (.var 0) "doors"))))
  (.cn (.ret (.bl false))
  .nl)
  .nl)
  (.cn (.ite (.or (.cmp .NotIn (.sub (.var 1) (.int 2)) (.attr (.var 0) "spots")) (.one (.cmp .NotIn (.sub (.var 1) (.int 3)) (.attr (.var 0) "spots"))))
  (.cn (.ret (.bl false))
  .nl)
  .nl)
  (.cn (.exp (.bim (.attr (.var 0) "ways") "append" (.cons (.tup (.cons (.sub (.var 1) (.int 1)) (.cons (.sub (.attr (.var 0) "spots") (.sub (.var 1) (.int 2))) (.cons (.sub (.attr (.var 0) "spots") (.sub (.var 1) (.int 3))) .nil)))) .nil)))
  (.cn (.ret (.call "is_rising" (.cons (.slc (.attr (.var 0) "ways") (.neg (.int 2)) .no) .nil)))
  .nl))))
def f_d_HouseReader_take_way : Fn := ⟨2, 2, false, b_d_HouseReader_take_way⟩
def d_HouseReader_take_way : DefT := ⟨"take_way", "HouseReader.take_way", inClass (top 17) 2, ["self", "words"], ["self", "words"], f_d_HouseReader_take_way⟩
def b_d_HouseReader_take : MS := (.cn (.asg (.var 2) (.bim (.var 1) "split" (.cons (.str " ") .nil)))
  (.cn (.ite (.cmp .Eq (.sub (.var 2) (.int 0)) (.glob "ROOM"))
  (.cn (.ret (.met (.var 0) "take_room" (.cons (.var 2) .nil)))
  .nl)
  .nl)
  (.cn (.ret (.and (.cmp .Eq (.sub (.var 2) (.int 0)) (.glob "WAY")) (.one (.met (.var 0) "take_way" (.cons (.var 2) .nil)))))
  .nl)))
def f_d_HouseReader_take : Fn := ⟨2, 3, false, b_d_HouseReader_take⟩
def d_HouseReader_take : DefT := ⟨"take", "HouseReader.take", inClass (top 17) 3, ["self", "line"], ["self", "line", "words"], f_d_HouseReader_take⟩
def b_d_HouseReader_told : MS := (.cn (.ret (.tup (.cons (.tup (.cons (.bif "tuple" (.cons (.attr (.var 0) "lots_read") .nil)) (.cons (.bif "tuple" (.cons (.attr (.var 0) "ways") .nil)) .nil))) .nil)))
  .nl)
def f_d_HouseReader_told : Fn := ⟨1, 1, false, b_d_HouseReader_told⟩
def d_HouseReader_told : DefT := ⟨"told", "HouseReader.told", inClass (top 17) 4, ["self"], ["self"], f_d_HouseReader_told⟩
def b_d_read_by : MS := (.cn (.asg (.tup (.cons (.var 3) (.cons (.var 4) .nil))) (.call "ends_of" (.cons (.var 1) .nil)))
  (.cn (.for_ (.tup (.cons (.var 5) (.cons (.var 6) .nil))) (.enu (.var 3))
  (.cn (.ite (.not (.met (.var 0) "take" (.cons (.var 6) .nil)))
  (.cn .stop
  .nl)
  .nl)
  .nl))
  (.cn (.asg (.var 2) (.met (.var 0) "told" .nil))
  (.cn (.ite (.or (.cmp .NotEq (.var 4) (.str "")) (.one (.cmp .Eq (.var 2) (.tup .nil))))
  (.cn .stop
  .nl)
  .nl)
  (.cn (.ret (.sub (.var 2) (.int 0)))
  .nl)))))
def f_d_read_by : Fn := ⟨2, 7, false, b_d_read_by⟩
def d_read_by : DefT := ⟨"read_by", "read_by", top 18, ["reader", "text"], ["reader", "text", "found", "lines", "rest", "at", "line"], f_d_read_by⟩
def b_d_read_house : MS := (.cn (.ret (.call "read_by" (.cons (.new "HouseReader" (.cons (.var 0) .nil)) (.cons (.var 1) .nil))))
  .nl)
def f_d_read_house : Fn := ⟨2, 2, true, b_d_read_house⟩
def d_read_house : DefT := ⟨"read_house", "read_house", top 19, ["book", "text"], ["book", "text"], f_d_read_house⟩
def b_d_door_of : MS := (.cn (.for_ (.var 2) (.sub (.var 0) (.int 2))
  (.cn (.ite (.cmp .Eq (.sub (.var 2) (.int 0)) (.var 1))
  (.cn (.ret (.var 2))
  .nl)
  .nl)
  .nl))
  (.cn (.ret .non)
  .nl))
def f_d_door_of : Fn := ⟨2, 3, false, b_d_door_of⟩
def d_door_of : DefT := ⟨"door_of", "door_of", top 21, ["book", "name"], ["book", "name", "door"], f_d_door_of⟩
def b_d_is_way : MS := (.cn (.ite (.or (.not (.isi (.var 2) "tuple")) (.or (.cmp .NotEq (.bif "len" (.cons (.var 2) .nil)) (.int 3)) (.or (.not (.call "is_name" (.cons (.sub (.var 2) (.int 0)) .nil))) (.one (.cmp .Is (.call "door_of" (.cons (.var 0) (.cons (.sub (.var 2) (.int 0)) .nil))) .non)))))
  (.cn (.ret (.bl false))
  .nl)
  .nl)
  (.cn (.ret (.and (.call "is_from" (.cons (.sub (.var 2) (.int 1)) (.cons (.int 0) (.cons (.bin .Sub (.var 1) (.int 1)) .nil)))) (.one (.call "is_from" (.cons (.sub (.var 2) (.int 2)) (.cons (.int 0) (.cons (.bin .Sub (.var 1) (.int 1)) .nil)))))))
  .nl))
def f_d_is_way : Fn := ⟨3, 3, false, b_d_is_way⟩
def d_is_way : DefT := ⟨"is_way", "is_way", top 23, ["book", "rooms", "thing"], ["book", "rooms", "thing"], f_d_is_way⟩
def b_d_is_house : MS := (.cn (.ite (.or (.not (.isi (.var 1) "tuple")) (.or (.cmp .NotEq (.bif "len" (.cons (.var 1) .nil)) (.int 2)) (.one (.not (.bif "all" (.cons (.lc [7] (.var 7) (.var 1) (.isi (.var 7) "tuple")) .nil))))))
  (.cn (.ret (.bl false))
  .nl)
  .nl)
  (.cn (.asg (.tup (.cons (.var 2) (.cons (.var 3) .nil))) (.var 1))
  (.cn (.ite (.or (.cmp .Gt (.bif "len" (.cons (.var 2) .nil)) (.glob "ROOMS")) (.one (.not (.bif "all" (.cons (.lc [8] (.var 8) (.var 2) (.call "is_lot" (.cons (.var 0) (.cons (.var 8) .nil)))) .nil)))))
  (.cn (.ret (.bl false))
  .nl)
  .nl)
  (.cn (.ite (.not (.bif "all" (.cons (.lc [4] (.var 4) (.var 3) (.call "is_way" (.cons (.var 0) (.cons (.bif "len" (.cons (.var 2) .nil)) (.cons (.var 4) .nil))))) .nil)))
  (.cn (.ret (.bl false))
  .nl)
  .nl)
  (.cn (.ret (.bif "all" (.cons (.lc [5, 6] (.tup (.cons (.var 5) (.cons (.var 6) .nil))) (.zip (.var 3) (.slc (.var 3) (.int 1) .no)) (.cmp .Lt (.var 5) (.var 6))) .nil)))
  .nl)))))
def f_d_is_house : Fn := ⟨2, 9, false, b_d_is_house⟩
def d_is_house : DefT := ⟨"is_house", "is_house", top 24, ["book", "thing"], ["book", "thing", "rooms", "ways", "way", "one", "other", "part", "lot"], f_d_is_house⟩
def b_d__law_deck : MS := (.cn (.asg (.var 1) (.thaw (.lst .nil)))
  (.cn (.for_ (.var 2) (.rng1 (.bif "min" (.cons (.bif "len" (.cons (.var 0) .nil)) (.cons (.int 63) .nil))))
  (.cn (.asg (.var 3) (.sub (.var 0) (.var 2)))
  (.cn (.ite (.cmp .GtE (.var 3) (.bin .Pow (.int 10) (.int 18)))
  (.cn (.for_ (.var 4) (.rng1 (.int 60))
  (.cn (.ite (.cmp .Gt (.var 3) (.int 0))
  (.cn (.exp (.bim (.var 1) "append" (.cons (.bin .Mod (.var 3) (.int 1000000)) .nil)))
  (.cn (.asg (.var 3) (.bin .FloorDiv (.var 3) (.int 1000000)))
  .nl))
  .nl)
  .nl))
  .nl)
  (.cn (.asg (.var 5) (.bin .Add (.bin .Add (.bin .Mult (.var 3) (.int 48271)) (.bin .Mult (.bin .Mult (.bin .Add (.var 2) (.int 1)) (.bin .Add (.var 2) (.int 1))) (.int 7919))) (.int 11)))
  (.cn (.asg (.var 5) (.bin .Mod (.var 5) (.int 2147483647)))
  (.cn (.exp (.bim (.var 1) "append" (.cons (.bin .Mod (.bin .Mult (.var 5) (.var 5)) (.int 2147483629)) .nil)))
  .nl))))
  .nl)))
  (.cn (.ret (.thaw (.lst (.cons (.int 0) (.cons (.var 1) .nil)))))
  .nl)))
def f_d__law_deck : Fn := ⟨1, 6, false, b_d__law_deck⟩
def d__law_deck : DefT := ⟨"_law_deck", "_law_deck", top 26, ["_law_script"], ["_law_script", "_law_digits", "_law_k", "_law_cell", "_law_n", "_law_one"], f_d__law_deck⟩
def b_d__law_next : MS := (.cn (.asg (.var 1) (.sub (.var 0) (.int 0)))
  (.cn (.asg (.sub (.var 0) (.int 0)) (.bin .Add (.var 1) (.int 1)))
  (.cn (.asg (.var 2) (.sub (.var 0) (.int 1)))
  (.cn (.ite (.cmp .Lt (.var 1) (.bif "len" (.cons (.var 2) .nil)))
  (.cn (.ret (.sub (.var 2) (.var 1)))
  .nl)
  .nl)
  (.cn (.ite (.cmp .Eq (.bif "len" (.cons (.var 2) .nil)) (.int 0))
  (.cn (.ret (.bin .Mod (.bin .Mult (.bin .Mult (.bin .Mult (.bin .Add (.var 1) (.int 1)) (.bin .Add (.var 1) (.int 1))) (.bin .Add (.var 1) (.int 3))) (.int 48271)) (.int 2147483629)))
  .nl)
  .nl)
  (.cn (.asg (.var 3) (.bin .Add (.sub (.var 2) (.bin .Mod (.var 1) (.bif "len" (.cons (.var 2) .nil)))) (.bin .Mult (.int 7) (.sub (.var 2) (.bin .Mod (.bin .Mult (.var 1) (.int 5)) (.bif "len" (.cons (.var 2) .nil)))))))
  (.cn (.asg (.var 3) (.bin .Add (.bin .Add (.var 3) (.bin .Mult (.bin .Mult (.var 1) (.var 1)) (.int 40503))) (.int 1)))
  (.cn (.ret (.bin .Mod (.bin .Mult (.var 3) (.var 3)) (.int 2147483629)))
  .nl))))))))
def f_d__law_next : Fn := ⟨1, 4, false, b_d__law_next⟩
def d__law_next : DefT := ⟨"_law_next", "_law_next", top 27, ["_law_deck_here"], ["_law_deck_here", "_law_at", "_law_digits", "_law_one"], f_d__law_next⟩
def b_d__law_some : MS := (.cn (.asg (.var 3) (.thaw (.bif "list" (.cons (.var 1) .nil))))
  (.cn (.asg (.var 4) (.lc [5] (.var 5) (.rng1 (.bif "min" (.cons (.var 2) (.cons (.bif "len" (.cons (.var 1) .nil)) .nil)))) (.bim (.var 3) "pop" (.cons (.bin .Mod (.call "_law_next" (.cons (.var 0) .nil)) (.bif "len" (.cons (.var 3) .nil))) .nil))))
  (.cn (.ret (.bif "sorted" (.cons (.var 4) .nil)))
  .nl)))
def f_d__law_some : Fn := ⟨3, 6, true, b_d__law_some⟩
def d__law_some : DefT := ⟨"_law_some", "_law_some", top 28, ["_law_deck_here", "_law_pool", "_law_many"], ["_law_deck_here", "_law_pool", "_law_many", "_law_left", "_law_found", "_law_k"], f_d__law_some⟩
def b_d__law_fan : MS := (.cn (.asg (.var 1) (.call "_law_next" (.cons (.var 0) .nil)))
  (.cn (.asg (.var 2) (.sub (.lst (.cons (.int 0) (.cons (.int 0) (.cons (.int 1) (.cons (.int 1) (.cons (.int 2) (.cons (.int 3) (.cons (.int 4) .nil)))))))) (.bin .Mod (.var 1) (.int 7))))
  (.cn (.ret (.tup (.cons (.var 2) (.cons (.sub (.lst (.cons .non (.cons (.bif "max" (.cons (.int 1) (.cons (.var 2) .nil))) (.cons (.bif "min" (.cons (.int 4) (.cons (.bin .Add (.bif "max" (.cons (.int 1) (.cons (.var 2) .nil))) (.bin .Mod (.bin .FloorDiv (.var 1) (.int 21)) (.int 3))) .nil))) .nil)))) (.bin .Mod (.bin .FloorDiv (.var 1) (.int 7)) (.int 3))) .nil))))
  .nl)))
def f_d__law_fan : Fn := ⟨1, 3, false, b_d__law_fan⟩
def d__law_fan : DefT := ⟨"_law_fan", "_law_fan", top 29, ["_law_deck_here"], ["_law_deck_here", "_law_draw", "_law_low"], f_d__law_fan⟩
def b_d__law_kind_names : MS := (.cn (.ret (.lst (.cons (.str "a") (.cons (.str "b") (.cons (.str "ab") (.cons (.str "hall") (.cons (.str "zz") (.cons (.str "q") (.cons (.str "abcdefgh") .nil)))))))))
  .nl)
def f_d__law_kind_names : Fn := ⟨0, 0, false, b_d__law_kind_names⟩
def d__law_kind_names : DefT := ⟨"_law_kind_names", "_law_kind_names", top 30, [], [], f_d__law_kind_names⟩
def b_d__law_door_names : MS := (.cn (.ret (.lst (.cons (.str "a") (.cons (.str "d") (.cons (.str "way") (.cons (.str "x") (.cons (.str "zzzzzzzz") (.cons (.str "e") (.cons (.str "f") .nil)))))))))
  .nl)
def f_d__law_door_names : Fn := ⟨0, 0, false, b_d__law_door_names⟩
def d__law_door_names : DefT := ⟨"_law_door_names", "_law_door_names", top 31, [], [], f_d__law_door_names⟩
def b_d__law_book : MS := (.cn (.asg (.var 1) (.call "_law_next" (.cons (.var 0) .nil)))
  (.cn (.asg (.var 2) (.call "_law_some" (.cons (.var 0) (.cons (.call "_law_kind_names" .nil) (.cons (.sub (.lst (.cons (.bin .Add (.int 1) (.bin .Mod (.var 1) (.int 3))) (.cons (.bin .Add (.int 2) (.bin .Mod (.var 1) (.int 3))) (.cons (.bin .Add (.int 3) (.bin .Mod (.var 1) (.int 4))) .nil)))) (.bin .Mod (.bin .FloorDiv (.var 1) (.int 12)) (.int 3))) .nil)))))
  (.cn (.asg (.var 3) (.thaw (.emp true)))
  (.cn (.for_ (.var 4) (.rng1 (.bin .Mod (.bin .FloorDiv (.var 1) (.int 36)) (.int 8)))
  (.cn (.asg (.var 8) (.call "_law_next" (.cons (.var 0) .nil)))
  (.cn (.asg (.var 9) (.tup (.cons (.sub (.var 2) (.bin .Mod (.var 8) (.bif "len" (.cons (.var 2) .nil)))) (.cons (.sub (.var 2) (.bin .Mod (.bin .FloorDiv (.var 8) (.int 7)) (.bif "len" (.cons (.var 2) .nil)))) .nil))))
  (.cn (.ite (.cmp .NotEq (.sub (.var 9) (.int 0)) (.sub (.var 9) (.int 1)))
  (.cn (.asg (.sub (.var 3) (.var 9)) (.bl true))
  .nl)
  .nl)
  .nl))))
  (.cn (.asg (.var 5) (.thaw (.lst .nil)))
  (.cn (.asg (.var 6) (.sub (.lst (.cons (.bin .Mod (.bin .FloorDiv (.var 1) (.int 300)) (.int 3)) (.cons (.bin .Add (.int 1) (.bin .Mod (.bin .FloorDiv (.var 1) (.int 300)) (.int 4))) (.cons (.int 6) .nil)))) (.bin .Mult (.bin .Mod (.bin .FloorDiv (.var 1) (.int 900)) (.int 3)) (.bif "int" (.cons (.cmp .Gt (.bin .Mod (.var 1) (.int 5)) (.int 0)) .nil)))))
  (.cn (.for_ (.var 7) (.call "_law_some" (.cons (.var 0) (.cons (.call "_law_door_names" .nil) (.cons (.var 6) .nil))))
  (.cn (.asg (.var 8) (.call "_law_next" (.cons (.var 0) .nil)))
  (.cn (.asg (.var 10) (.tup (.cons (.sub (.var 2) (.bin .Mod (.var 8) (.bif "len" (.cons (.var 2) .nil)))) (.cons (.sub (.var 2) (.bin .Mod (.bin .FloorDiv (.var 8) (.int 7)) (.bif "len" (.cons (.var 2) .nil)))) .nil))))
  (.cn (.exp (.bim (.var 5) "append" (.cons (.bin .Add (.bin .Add (.tup (.cons (.var 7) .nil)) (.var 10)) (.tup (.cons (.call "_law_fan" (.cons (.var 0) .nil)) (.cons (.call "_law_fan" (.cons (.var 0) .nil)) .nil)))) .nil)))
  .nl))))
  (.cn (.ret (.tup (.cons (.bif "tuple" (.cons (.var 2) .nil)) (.cons (.bif "tuple" (.cons (.bif "sorted" (.cons (.bif "list" (.cons (.var 3) .nil)) .nil)) .nil)) (.cons (.bif "tuple" (.cons (.var 5) .nil)) .nil)))))
  .nl))))))))
def f_d__law_book : Fn := ⟨1, 11, true, b_d__law_book⟩
def d__law_book : DefT := ⟨"_law_book", "_law_book", top 32, ["_law_deck_here"], ["_law_deck_here", "_law_draw", "_law_kinds", "_law_rules", "_law_k", "_law_doors", "_law_many", "_law_name", "_law_one", "_law_pair", "_law_ends"], f_d__law_book⟩
def b_d__law_house : MS := (.cn (.asg (.var 3) (.thaw (.lst .nil)))
  (.cn (.for_ (.var 4) (.rng1 (.bin .Mod (.call "_law_next" (.cons (.var 0) .nil)) (.bin .Add (.var 2) (.int 1))))
  (.cn (.asg (.var 6) (.call "_law_next" (.cons (.var 0) .nil)))
  (.cn (.exp (.bim (.var 3) "append" (.cons (.bif "tuple" (.cons (.call "_law_some" (.cons (.var 0) (.cons (.sub (.var 1) (.int 0)) (.cons (.bin .Add (.int 1) (.bin .Mod (.var 6) (.bif "min" (.cons (.int 3) (.cons (.bif "len" (.cons (.sub (.var 1) (.int 0)) .nil)) .nil))))) .nil)))) .nil)) .nil)))
  .nl)))
  (.cn (.asg (.var 5) (.thaw (.emp true)))
  (.cn (.for_ (.var 4) (.rng1 (.bin .Mult (.bin .Mod (.call "_law_next" (.cons (.var 0) .nil)) (.bin .Add (.bin .Mult (.int 2) (.var 2)) (.int 1))) (.bif "int" (.cons (.and (.cmp .NotEq (.var 3) (.lst .nil)) (.one (.cmp .NotEq (.sub (.var 1) (.int 2)) (.tup .nil)))) .nil))))
  (.cn (.asg (.var 6) (.call "_law_next" (.cons (.var 0) .nil)))
  (.cn (.asg (.sub (.var 5) (.tup (.cons (.sub (.sub (.sub (.var 1) (.int 2)) (.bin .Mod (.var 6) (.bif "len" (.cons (.sub (.var 1) (.int 2)) .nil)))) (.int 0)) (.cons (.bin .Mod (.bin .FloorDiv (.var 6) (.int 7)) (.bif "len" (.cons (.var 3) .nil))) (.cons (.bin .Mod (.bin .FloorDiv (.var 6) (.int 700)) (.bif "len" (.cons (.var 3) .nil))) .nil))))) (.bl true))
  .nl)))
  (.cn (.ret (.tup (.cons (.bif "tuple" (.cons (.var 3) .nil)) (.cons (.bif "tuple" (.cons (.bif "sorted" (.cons (.bif "list" (.cons (.var 5) .nil)) .nil)) .nil)) .nil))))
  .nl)))))
def f_d__law_house : Fn := ⟨3, 7, true, b_d__law_house⟩
def d__law_house : DefT := ⟨"_law_house", "_law_house", top 33, ["_law_deck_here", "_law_book_here", "_law_limit"], ["_law_deck_here", "_law_book_here", "_law_limit", "_law_rooms", "_law_k", "_law_ways", "_law_draw"], f_d__law_house⟩
def b_d__law_house_text : MS := (.cn (.asg (.var 1) (.thaw (.lc [5] (.var 5) (.sub (.var 0) (.int 0)) (.bim (.str " ") "join" (.cons (.bin .Add (.lst (.cons (.str "room") .nil)) (.bif "list" (.cons (.var 5) .nil))) .nil)))))
  (.cn (.for_ (.tup (.cons (.var 2) (.cons (.var 3) (.cons (.var 4) .nil)))) (.sub (.var 0) (.int 1))
  (.cn (.exp (.bim (.var 1) "append" (.cons (.bim (.str " ") "join" (.cons (.lst (.cons (.str "way") (.cons (.var 2) (.cons (.bif "str" (.cons (.var 3) .nil)) (.cons (.bif "str" (.cons (.var 4) .nil)) .nil))))) .nil)) .nil)))
  .nl))
  (.cn (.ret (.bim (.str "") "join" (.cons (.lc [6] (.var 6) (.var 1) (.bin .Add (.var 6) (.str "\n"))) .nil)))
  .nl)))
def f_d__law_house_text : Fn := ⟨1, 7, true, b_d__law_house_text⟩
def d__law_house_text : DefT := ⟨"_law_house_text", "_law_house_text", top 34, ["_law_house_here"], ["_law_house_here", "_law_lines", "_law_name", "_law_one", "_law_other", "_law_lot", "_law_line"], f_d__law_house_text⟩
def b_d__law_same : MS := (.cn (.ret (.cmp .Eq (.bif "repr" (.cons (.var 0) .nil)) (.bif "repr" (.cons (.var 1) .nil))))
  .nl)
def f_d__law_same : Fn := ⟨2, 2, false, b_d__law_same⟩
def d__law_same : DefT := ⟨"_law_same", "_law_same", top 35, ["_law_found", "_law_due"], ["_law_found", "_law_due"], f_d__law_same⟩
def b_d__law_long : MS := (.cn (.asg (.var 2) (.bif "tuple" (.cons (.lc [9] (.var 9) (.rng1 (.int 300)) (.tup (.cons (.sub (.sub (.var 1) (.int 0)) (.bin .Mod (.bin .Add (.bin .Mult (.var 9) (.var 9)) (.call "_law_next" (.cons (.var 0) .nil))) (.bif "len" (.cons (.sub (.var 1) (.int 0)) .nil)))) .nil))) .nil)))
  (.cn (.asg (.var 3) (.thaw (.emp true)))
  (.cn (.for_ (.tup (.cons (.var 4) (.cons (.var 5) (.cons (.var 6) (.cons (.var 7) (.cons (.var 8) .nil)))))) (.sub (.var 1) (.int 2))
  (.cn (.asg (.sub (.var 3) (.tup (.cons (.var 4) (.cons (.int 299) (.cons (.bin .Mod (.call "_law_next" (.cons (.var 0) .nil)) (.int 300)) .nil))))) (.bl true))
  (.cn (.asg (.sub (.var 3) (.tup (.cons (.var 4) (.cons (.bin .Mod (.call "_law_next" (.cons (.var 0) .nil)) (.int 300)) (.cons (.int 99) .nil))))) (.bl true))
  .nl)))
  (.cn (.ret (.tup (.cons (.var 2) (.cons (.bif "tuple" (.cons (.bif "sorted" (.cons (.bif "list" (.cons (.var 3) .nil)) .nil)) .nil)) .nil))))
  .nl))))
def f_d__law_long : Fn := ⟨2, 10, true, b_d__law_long⟩
def d__law_long : DefT := ⟨"_law_long", "_law_long", top 36, ["_law_deck_here", "_law_book_here"], ["_law_deck_here", "_law_book_here", "_law_rooms", "_law_ways", "_law_name", "_law_start", "_law_goal", "_law_out", "_law_into", "_law_k"], f_d__law_long⟩
def b_d__law_further : MS := (.cn (.ite (.or (.cmp .Eq (.bif "len" (.cons (.sub (.var 0) (.int 2)) .nil)) (.int 6)) (.one (.and (.cmp .NotEq (.sub (.var 0) (.int 2)) (.tup .nil)) (.one (.cmp .Eq (.sub (.sub (.sub (.var 0) (.int 2)) (.neg (.int 1))) (.int 0)) (.str "zzzzzzzz"))))))
  (.cn (.ret (.var 0))
  .nl)
  .nl)
  (.cn (.ret (.tup (.cons (.sub (.var 0) (.int 0)) (.cons (.sub (.var 0) (.int 1)) (.cons (.bin .Add (.sub (.var 0) (.int 2)) (.tup (.cons (.tup (.cons (.str "zzzzzzzz") (.cons (.sub (.sub (.var 0) (.int 0)) (.int 0)) (.cons (.sub (.sub (.var 0) (.int 0)) (.neg (.int 1))) (.cons (.tup (.cons (.int 0) (.cons .non .nil))) (.cons (.tup (.cons (.int 0) (.cons .non .nil))) .nil)))))) .nil))) .nil)))))
  .nl))
def f_d__law_further : Fn := ⟨1, 1, false, b_d__law_further⟩
def d__law_further : DefT := ⟨"_law_further", "_law_further", top 37, ["_law_book_here"], ["_law_book_here"], f_d__law_further⟩
def b_d_law : MS := (.cn (.asg (.var 1) (.call "_law_deck" (.cons (.var 0) .nil)))
  (.cn (.asg (.var 2) (.call "_law_book" (.cons (.var 1) .nil)))
  (.cn (.asg (.var 3) (.call "_law_further" (.cons (.var 2) .nil)))
  (.cn (.for_ (.var 4) (.rng1 (.int 4))
  (.cn (.asg (.var 5) (.call "_law_house" (.cons (.var 1) (.cons (.var 2) (.cons (.int 12) .nil)))))
  (.cn (.ite (.cmp .Eq (.bin .Mod (.call "_law_next" (.cons (.var 1) .nil)) (.int 12)) (.int 0))
  (.cn (.asg (.var 5) (.call "_law_long" (.cons (.var 1) (.cons (.var 2) .nil))))
  .nl)
  .nl)
  (.cn (.asg (.var 6) (.bif "repr" (.cons (.lst (.cons (.var 2) (.cons (.var 5) .nil))) .nil)))
  (.cn (.asg (.var 7) (.call "_law_house_text" (.cons (.var 5) .nil)))
  (.cn (.ite (.or (.cmp .IsNot (.call "is_house" (.cons (.var 2) (.cons (.var 5) .nil))) (.bl true)) (.one (.not (.call "_law_same" (.cons (.call "house_text" (.cons (.var 5) .nil)) (.cons (.var 7) .nil))))))
  (.cn (.ret (.bl false))
  .nl)
  .nl)
  (.cn (.ite (.or (.not (.call "_law_same" (.cons (.call "read_house" (.cons (.var 2) (.cons (.var 7) .nil))) (.cons (.var 5) .nil)))) (.one (.not (.call "_law_same" (.cons (.call "read_house" (.cons (.var 3) (.cons (.var 7) .nil))) (.cons (.var 5) .nil))))))
  (.cn (.ret (.bl false))
  .nl)
  .nl)
  (.cn (.ite (.or (.not (.call "_law_same" (.cons (.call "read_house" (.cons (.var 2) (.cons (.str "") .nil))) (.cons (.tup (.cons (.tup .nil) (.cons (.tup .nil) .nil))) .nil)))) (.one (.not (.call "_law_same" (.cons (.call "house_text" (.cons (.tup (.cons (.tup .nil) (.cons (.tup .nil) .nil))) .nil)) (.cons (.str "") .nil))))))
  (.cn (.ret (.bl false))
  .nl)
  .nl)
  (.cn (.ite (.or (.not (.call "_law_same" (.cons (.call "house_text" (.cons (.call "read_house" (.cons (.var 2) (.cons (.var 7) .nil))) .nil)) (.cons (.var 7) .nil)))) (.one (.cmp .NotEq (.bif "repr" (.cons (.lst (.cons (.var 2) (.cons (.var 5) .nil))) .nil)) (.var 6))))
  (.cn (.ret (.bl false))
  .nl)
  .nl)
  .nl)))))))))
  (.cn (.ret (.bl true))
  .nl)))))
def f_d_law : Fn := ⟨1, 8, false, b_d_law⟩
def d_law : DefT := ⟨"law", "law", top 38, ["_law_script"], ["_law_script", "_law_deck_here", "_law_book_here", "_law_further_here", "_law_turn", "_law_house_here", "_law_kept", "_law_text"], f_d_law⟩
def defs : List (Str × DefT) := [(("is_whole" : Str), d_is_whole),
  (("is_from" : Str), d_is_from),
  (("is_name" : Str), d_is_name),
  (("are_names" : Str), d_are_names),
  (("is_lot" : Str), d_is_lot),
  (("house_text" : Str), d_house_text),
  (("ends_of" : Str), d_ends_of),
  (("is_rising" : Str), d_is_rising),
  (("HouseReader.__init__" : Str), d_HouseReader___init__),
  (("HouseReader.take_room" : Str), d_HouseReader_take_room),
  (("HouseReader.take_way" : Str), d_HouseReader_take_way),
  (("HouseReader.take" : Str), d_HouseReader_take),
  (("HouseReader.told" : Str), d_HouseReader_told),
  (("read_by" : Str), d_read_by),
  (("read_house" : Str), d_read_house),
  (("door_of" : Str), d_door_of),
  (("is_way" : Str), d_is_way),
  (("is_house" : Str), d_is_house),
  (("_law_deck" : Str), d__law_deck),
  (("_law_next" : Str), d__law_next),
  (("_law_some" : Str), d__law_some),
  (("_law_fan" : Str), d__law_fan),
  (("_law_kind_names" : Str), d__law_kind_names),
  (("_law_door_names" : Str), d__law_door_names),
  (("_law_book" : Str), d__law_book),
  (("_law_house" : Str), d__law_house),
  (("_law_house_text" : Str), d__law_house_text),
  (("_law_same" : Str), d__law_same),
  (("_law_long" : Str), d__law_long),
  (("_law_further" : Str), d__law_further),
  (("law" : Str), d_law)]
def clss : List (Str × ClsT) := [(("HouseReader" : Str), ⟨["kinds", "doors", "lots_read", "spots", "ways"], [(("take_room" : Str), ("HouseReader.take_room" : Str), 9), (("take_way" : Str), ("HouseReader.take_way" : Str), 10), (("take" : Str), ("HouseReader.take" : Str), 11), (("told" : Str), ("HouseReader.told" : Str), 12)], some (("HouseReader.__init__" : Str), 8)⟩)]
def cons : List (Str × D) := [(("LETTERS" : Str), (.str "abcdefghijklmnopqrstuvwxyz")), (("ROOM" : Str), (.str "room")), (("ROOMS" : Str), (.int 300)), (("WAY" : Str), (.str "way"))]
def wd : Wd := ⟨["all", "bool", "enumerate", "int", "isinstance", "len", "list", "max", "min", "range", "repr", "sorted", "str", "tuple", "zip"], ["is_whole", "is_from", "is_name", "are_names", "is_lot", "house_text", "ends_of", "is_rising", "read_by", "read_house", "door_of", "is_way", "is_house", "_law_deck", "_law_next", "_law_some", "_law_fan", "_law_kind_names", "_law_door_names", "_law_book", "_law_house", "_law_house_text", "_law_same", "_law_long", "_law_further"], ["HouseReader"]⟩
def txt : Fk.Txt := ⟨defs, clss, cons, wd, 0⟩
end K74
set_option Elab.async false
set_option linter.all false
set_option autoImplicit false
set_option maxRecDepth 100000
set_option maxHeartbeats 2000000
namespace Fk
open PySem
def tl (s : Str) : List Nat := s.cps.toList
theorem tl_inj {x y : Str} (h : tl x = tl y) : x = y := by
  obtain ⟨⟨a⟩⟩ := x
  obtain ⟨⟨b⟩⟩ := y
  have e : a = b := h
  rw [e]
theorem tl_app (x y : Str) : tl (x ++ y) = tl x ++ tl y := by
  show (x.cps ++ y.cps).toList = _
  simp [tl]
def jl (c : Nat) : List (List Nat) → List Nat
  | [] => []
  | [x] => x
  | x :: y :: r => x ++ c :: jl c (y :: r)
theorem tl_join (c : Nat) : ∀ ps : List Str, tl (Str.join ⟨#[c]⟩ ps) = jl c (ps.map tl)
  | [] => rfl
  | [x] => rfl
  | x :: y :: r => by
    have ih := tl_join c (y :: r)
    show tl (x ++ ⟨#[c]⟩ ++ Str.join ⟨#[c]⟩ (y :: r)) = tl x ++ c :: jl c ((y :: r).map tl)
    rw [tl_app, tl_app, ih]
    simp [tl]
theorem cut_uniq {c : Nat} : ∀ (a b u v : List Nat), c ∉ a → c ∉ b → a ++ c :: u = b ++ c :: v → a = b ∧ u = v
  | [], [], u, v, _, _, h => ⟨rfl, by simpa using h⟩
  | [], y :: b, u, v, _, hb, h => by
    have e : c = y := by simpa using (List.cons.inj h).1
    exact absurd (by rw [e]; exact List.mem_cons_self) hb
  | x :: a, [], u, v, ha, _, h => by
    have e : x = c := by simpa using (List.cons.inj h).1
    exact absurd (by rw [← e]; exact List.mem_cons_self) ha
  | x :: a, y :: b, u, v, ha, hb, h => by
    rw [List.cons_append, List.cons_append] at h
    obtain ⟨e1, e2⟩ := List.cons.inj h
    obtain ⟨e3, e4⟩ := cut_uniq a b u v (fun m => ha (List.mem_cons_of_mem _ m)) (fun m => hb (List.mem_cons_of_mem _ m)) e2
    exact ⟨by rw [e1, e3], e4⟩
theorem parts_uniq {c : Nat} : ∀ ps qs : List (List Nat), ps ≠ [] → qs ≠ [] → (∀ p ∈ ps, c ∉ p) → (∀ p ∈ qs, c ∉ p) → jl c ps = jl c qs → ps = qs
  | [], _, h, _, _, _, _ => absurd rfl h
  | _, [], _, h, _, _, _ => absurd rfl h
  | [x], [y], _, _, _, _, h => by rw [show x = y from h]
  | [x], y :: z :: r, _, _, hx, _, h => by
    have h : x = y ++ c :: jl c (z :: r) := h
    exact absurd (by rw [h]; simp) (hx x List.mem_cons_self)
  | x :: w :: r, [y], _, _, _, hy, h => by
    have h : x ++ c :: jl c (w :: r) = y := h
    exact absurd (by rw [← h]; simp) (hy y List.mem_cons_self)
  | x :: w :: r, y :: z :: r', _, _, hx, hy, h => by
    have h : x ++ c :: jl c (w :: r) = y ++ c :: jl c (z :: r') := h
    obtain ⟨e1, e2⟩ := cut_uniq x y _ _ (hx x List.mem_cons_self) (hy y List.mem_cons_self) h
    rw [e1, parts_uniq (w :: r) (z :: r') (by simp) (by simp) (fun p m => hx p (List.mem_cons_of_mem _ m)) (fun p m => hy p (List.mem_cons_of_mem _ m)) e2]
theorem split_ne (x y : Str) : Txt.split x y ≠ [] := fun h => by
  have := PySem.StrLaws.join_split x y
  unfold Txt.split at h
  split at h
  · cases h
  · split at h
    · cases h
    · rw [PySem.StrLaws.partsBetween_eq] at h
      obtain ⟨p, q, e⟩ := PySem.StrLaws.partsFrom_ne x y.length 0 (Builtin.Str.occurrences x y 0 x.length (x.length + 1))
      rw [e] at h
      cases h
theorem map_tl_inj : ∀ {a b : List Str}, a.map tl = b.map tl → a = b
  | [], [], _ => rfl
  | [], _ :: _, h => by cases h
  | _ :: _, [], h => by cases h
  | x :: a, y :: b, h => by
    obtain ⟨h1, h2⟩ := List.cons.inj h
    rw [tl_inj h1, map_tl_inj h2]
/-- what was joined is cut again -/
theorem split_join {c : Nat} {ps : List Str} (hn : ps ≠ []) (h : ∀ p ∈ ps, c ∉ tl p) : Txt.split (Str.join ⟨#[c]⟩ ps) ⟨#[c]⟩ = ps := by
  refine map_tl_inj (parts_uniq (c := c) _ _ (by simpa using split_ne _ _) (by simpa using hn) (fun p hp => ?_) (fun p hp => ?_) ?_)
  · obtain ⟨q, hq, rfl⟩ := List.mem_map.mp hp
    exact PySem.StrLaws.split_free _ c q hq
  · obtain ⟨q, hq, rfl⟩ := List.mem_map.mp hp
    exact h q hq
  · rw [← tl_join, ← tl_join, PySem.StrLaws.join_split]
end Fk
namespace Fk
open PySem
theorem callF_at {T : Tab} {fn : Str → Option Fn} {f : Str} {F : Fn} {ds : List D} {k : Nat} {S : Store} (h : fn f = some F) (hl : ds.length = F.ps) : callF T fn (k + 1) f ds S = fin F S (Fk.run T (callF T fn k) F.body (ds.map some ++ List.replicate (F.n - F.ps) none) S) := by
  show (match fn f with
    | some F => if ds.length = F.ps then fin F S (Fk.run T (callF T fn k) F.body (ds.map some ++ List.replicate (F.n - F.ps) none) S) else .stuck
    | none => .stuck) = _
  rw [h]
  simp only
  rw [if_pos hl]
end Fk
namespace Fk
open PySem
def CS (S : Store) : Prop := S.all (closed S.length) = true
theorem lcL_map {tg : M} {own : List Nat} {e : Env' → Store → Res} {gs : List Nat} {S0 S : Store} {env : Env'} (f : D → D) (hst : stays gs S0 S = true) : ∀ (xs acc : List D), (∀ x ∈ xs, ∃ env', bindT tg x (wipeE env own) = some env' ∧ e env' S = .ok (f x) S) → acc.length + xs.length ≤ sizeLine →
    lcL tg own e gs S0 env xs acc S = .ok (.lst (acc ++ xs.map f)) S
  | [], acc, _, _ => by simp [lcL]
  | x :: xs, acc, h, hl => by
    obtain ⟨env', h1, h2⟩ := h x List.mem_cons_self
    have ih := lcL_map f hst xs (acc ++ [f x]) (fun y hy => h y (List.mem_cons_of_mem _ hy)) (by simp at hl ⊢; omega)
    simp only [lcL, h1, h2]
    rw [if_pos ⟨hst, by simp at hl; omega⟩, ih]
    simp
theorem forL_inv {T : Tab} {cl : Cl} {tg : M} {body : Env' → Store → Out} {gs : List Nat} {S0 : Store} (P : Nat → Env' → Store → Prop) (xs : List D)
    (h : ∀ i x env S, xs[i]? = some x → P i env S → ∃ env1, bindT tg x env = some env1 ∧ ∃ env2 S2, (body env1 S = .nx env2 S2 ∨ body env1 S = .ct env2 S2) ∧ stays gs S0 S2 = true ∧ P (i + 1) env2 S2) :
    ∀ (n : Nat) (ys : List D), ys = xs.drop n → n ≤ xs.length → ∀ env S, P n env S → ∃ env' S', forL T cl tg body gs S0 ys env S = .nx env' S' ∧ P xs.length env' S' := by
  intro n ys
  induction ys generalizing n with
  | nil =>
    intro e hn env S hP
    have hl : xs.length ≤ n := by
      have := congrArg List.length e
      rw [List.length_drop] at this
      simp at this
      omega
    have : n = xs.length := by omega
    subst this
    exact ⟨env, S, rfl, hP⟩
  | cons y ys ih =>
    intro e hn env S hP
    have hlt : n < xs.length := by
      have := congrArg List.length e
      rw [List.length_drop] at this
      simp at this
      omega
    rw [List.drop_eq_getElem_cons hlt] at e
    obtain ⟨e1, e2⟩ := List.cons.inj e
    obtain ⟨env1, b1, env2, S2, b2, b3, b4⟩ := h n y env S (by rw [e1]; simp [hlt]) hP
    obtain ⟨env', S', r1, r2⟩ := ih (n + 1) e2 (by omega) env2 S2 b4
    refine ⟨env', S', ?_, r2⟩
    rcases b2 with b2 | b2 <;> simp [forL, b1, b2, b3, r1]
theorem deref_last {S : Store} {c : D} : deref (S ++ [c]) (.hnd S.length) = c := by simp [deref]
theorem set_last {S : Store} {c d : D} : (S ++ [c]).set S.length d = S ++ [d] := by simp
theorem stays_refl {gs : List Nat} {S : Store} : stays gs S S = true := stays_self gs
theorem take_last {S : Store} {c : D} : (S ++ [c]).take S.length = S := by simp
theorem fin_cut {F : Fn} {S S1 : Store} {d d' : D} (hp : F.pure = true) (hc : (S1.take S.length).all (closed S.length) = true) (hf : frz S.length S1 4 d = some d') : fin F S (.rt d S1) = .ok d' (S1.take S.length) := by
  unfold fin
  simp only [hp, cond_true, hc, if_true, hf, opt]
theorem fin_keep {F : Fn} {S S1 : Store} {d : D} (hp : F.pure = false) : fin F S (.rt d S1) = .ok d S1 := by
  unfold fin
  simp only [hp, cond_false]
section
variable {S : Store} {x : D} {ds : List D}
theorem bim_join : bimD S x "join" ds = match x, ds with
    | .str s, [d] => ((seqOf S d).bind asStrs).bind fun ys => if (ys.map (·.length)).sum + ys.length * s.length ≤ 16777216 then some (.str (Txt.join s ys), S) else none
    | _, _ => none := by kernel_rfl
theorem bim_append : bimD S x "append" ds = match x, deref S x, ds with
    | .hnd n, .lst xs, [d] => if xs.length < sizeLine then some (.non, S.set n (.lst (xs ++ [d]))) else none
    | _, _, _ => none := by kernel_rfl
theorem bim_extend : bimD S x "extend" ds = match x, deref S x, ds with
    | .hnd n, .lst xs, [d] => match deref S d with
      | .lst ys => if xs.length + ys.length ≤ sizeLine ∧ d.beq x = false then some (.non, S.set n (.lst (xs ++ ys))) else none
      | _ => none
    | _, _, _ => none := by kernel_rfl
theorem bim_pop : bimD S x "pop" ds = match x, deref S x, ds with
    | .hnd n, .lst xs, [.int i] => if 0 ≤ i ∧ i < xs.length then (xs[i.toNat]?).map fun d => (d, S.set n (.lst (xs.eraseIdx i.toNat))) else none
    | _, _, _ => none := by kernel_rfl
theorem bim_split : bimD S x "split" ds = match x, ds with
    | .str s, [.str t] => if t.length ≠ 0 ∧ s.length + 2 ≤ sizeLine then some (.lst ((Txt.split s t).map .str), S) else none
    | _, _ => none := by kernel_rfl
theorem bk_join {s : Str} : bimK S (.str s) "join" = true := by kernel_rfl
theorem bk_split {s : Str} : bimK S (.str s) "split" = true := by kernel_rfl
theorem bk_lst {xs : List D} (h : deref S x = .lst xs) {m : Str} (hm : m = "append" ∨ m = "extend" ∨ m = "pop") : bimK S x m = true := by
  unfold bimK
  rw [h]
  exact decide_eq_true hm
theorem bf_len : bifD S "len" [x] = match deref S x with
      | .tup xs => some (.int xs.length)
      | .lst xs => some (.int xs.length)
      | .str s => if s.length ≤ sizeLine then some (.int s.length) else none
      | .dct _ ks _ => some (.int ks.length)
      | .scr ns => some (.int ns.length)
      | _ => none := by kernel_rfl
theorem bf_tuple : bifD S "tuple" [x] = tupArg S x := by kernel_rfl
theorem bf_list : bifD S "list" [x] = match deref S x with
      | .tup xs => some (.lst xs)
      | .lst xs => some (.lst xs)
      | .dct _ ks _ => some (.lst (ks.map ofKy))
      | _ => none := by kernel_rfl
theorem bf_all : bifD S "all" [x] = match deref S x with
      | .lst xs => (asBls xs).map fun bs => .bl (bs.all id)
      | _ => none := by kernel_rfl
theorem bf_sorted : bifD S "sorted" [x] = match deref S x with
      | .lst xs => (sortD xs).map .lst
      | _ => none := by kernel_rfl
theorem bf_repr : bifD S "repr" [x] = (pyS S x).bind fun p => if SeqAt.shaped p && (decide (p.shown.length ≤ sizeLine) && (p.showable && !p.hasDict)) then some (.str p.shown) else none := by kernel_rfl
theorem bf_min {i j : Int} : bifD S "min" [.int i, .int j] = some (.int (if j < i then j else i)) := by kernel_rfl
theorem bf_max {i j : Int} : bifD S "max" [.int i, .int j] = some (.int (if j > i then j else i)) := by kernel_rfl
theorem bf_int_bl {b : Bool} : bifD S "int" [.bl b] = some (.int (if b then 1 else 0)) := by kernel_rfl
theorem isi_str {s : Str} : isiD S (.str s) "str" = some true := by kernel_rfl
theorem isi_tup {ds : List D} : isiD S (.tup ds) "tuple" = some true := by kernel_rfl
end
theorem asStrs_map : ∀ l : List Str, asStrs (l.map .str) = some l
  | [] => rfl
  | x :: l => by simp [asStrs, asStrs_map l]
theorem asBls_map : ∀ l : List Bool, asBls (l.map .bl) = some l
  | [] => rfl
  | x :: l => by simp [asBls, asBls_map l]
theorem sline : (sizeLine : Nat) = 16777216 := by decide +kernel
/-- an iteration over a tuple or a list as it stands -/
theorem deref_str {S : Store} {s : Str} : deref S (.str s) = .str s := rfl
theorem deref_tup {S : Store} {ds : List D} : deref S (.tup ds) = .tup ds := rfl
theorem deref_lst {S : Store} {ds : List D} : deref S (.lst ds) = .lst ds := rfl
theorem deref_int {S : Store} {i : Int} : deref S (.int i) = .int i := rfl
theorem deref_bl {S : Store} {i : Bool} : deref S (.bl i) = .bl i := rfl
theorem deref_non {S : Store} : deref S .non = .non := rfl
theorem deref_scr {S : Store} {ns : List Int} : deref S (.scr ns) = .scr ns := rfl
section
variable {T : Tab} {cl : Cl} {env : Env'} {S : Store} {d x y : D} {a b c : M} {ds : List D} {f m : Str}
theorem bind_congr {r : Res} {k k' : D → Store → Res} (h : ∀ x S1, k x S1 = k' x S1) : r.bind k = r.bind k' := by rw [show k = k' from funext fun x => funext fun S1 => h x S1]
theorem out_congr {r : Res} {k k' : D → Store → Out} (h : ∀ x S1, k x S1 = k' x S1) : r.out env k = r.out env k' := by rw [show k = k' from funext fun x => funext fun S1 => h x S1]
@[simp] theorem bind_ok {k : D → Store → Res} : (Res.ok d S).bind k = k d S := rfl
@[simp] theorem out_ok {k : D → Store → Out} : (Res.ok d S).out env k = k d S := rfl
@[simp] theorem opt_some : opt (some d) S = .ok d S := rfl
@[simp] theorem optB_some {b : Bool} : optB (some b) S = .ok (.bl b) S := rfl
@[simp] theorem optS_some {S' : Store} : optS (some S') env = .nx env S' := rfl
def cT {α : Type} (o : Option Bool) (a b c : α) : α := match o with
  | some true => a
  | some false => b
  | none => c
@[simp] theorem cT_true {α : Type} {a b c : α} : cT (some true) a b c = a := rfl
@[simp] theorem cT_false {α : Type} {a b c : α} : cT (some false) a b c = b := rfl
theorem cT_of {α : Type} {p : Bool} {a b c : α} : cT (some p) a b c = bif p then a else b := by cases p <;> rfl
def sq (o : Out) (k : Env' → Store → Out) : Out := match o with
  | .nx e S => k e S
  | o => o
@[simp] theorem sq_nx {k : Env' → Store → Out} : sq (.nx env S) k = k env S := rfl
@[simp] theorem sq_rt {k : Env' → Store → Out} : sq (.rt d S) k = .rt d S := rfl
@[simp] theorem tupOf_tup : tupOf (.tup ds) = ds := rfl
@[simp] theorem ev_var {i : Nat} : ev T cl (.var i) env S = opt (env.getD i none) S := rfl
@[simp] theorem ev_non : ev T cl .non env S = .ok .non S := rfl
@[simp] theorem ev_bl {k : Bool} : ev T cl (.bl k) env S = .ok (.bl k) S := rfl
@[simp] theorem ev_int {i : Int} : ev T cl (.int i) env S = .ok (.int i) S := rfl
@[simp] theorem ev_str {s : Str} : ev T cl (.str s) env S = .ok (.str s) S := rfl
@[simp] theorem ev_glob : ev T cl (.glob f) env S = opt (T.consts f) S := rfl
@[simp] theorem ev_nil : ev T cl .nil env S = .ok (.tup []) S := rfl
@[simp] theorem ev_cons : ev T cl (.cons a b) env S = (ev T cl a env S).bind fun d S1 => (ev T cl b env S1).bind fun ds S2 => .ok (.tup (d :: tupOf ds)) S2 := rfl
@[simp] theorem ev_tup : ev T cl (.tup a) env S = (ev T cl a env S).bind fun ds S1 => if (tupOf ds).length ≤ sizeLine then .ok (.tup (tupOf ds)) S1 else .stuck := rfl
@[simp] theorem ev_lst : ev T cl (.lst a) env S = (ev T cl a env S).bind fun ds S1 => if (tupOf ds).length ≤ sizeLine then .ok (.lst (tupOf ds)) S1 else .stuck := rfl
@[simp] theorem ev_emp {t : Bool} : ev T cl (.emp t) env S = .ok (.dct t [] []) S := rfl
@[simp] theorem ev_bin {op : Operator} : ev T cl (.bin op a b) env S = (ev T cl a env S).bind fun x S1 => (ev T cl b env S1).bind fun y S2 => opt (binD S2 op x y) S2 := rfl
@[simp] theorem ev_neg {i : Int} : ev T cl (.neg (.int i)) env S = .ok (.int (-i)) S := rfl
@[simp] theorem ev_cmp {op : CmpOp} : ev T cl (.cmp op a b) env S = (ev T cl a env S).bind fun x S1 => (ev T cl b env S1).bind fun y S2 => optB (cmpD S2 op x y) S2 := rfl
@[simp] theorem ev_chn {op op' : CmpOp} {c : M} : ev T cl (.chn op op' a b c) env S = (ev T cl a env S).bind fun x S1 => (ev T cl b env S1).bind fun y S2 => cT (cmpD S2 op x y) ((ev T cl c env S2).bind fun z S3 => optB (cmpD S3 op' y z) S3) (.ok (.bl false) S2) .stuck := bind_congr fun x S1 => bind_congr fun y S2 => by
  cases cmpD S2 op x y with
  | none => rfl
  | some q => cases q <;> rfl
@[simp] theorem ev_and : ev T cl (.and a b) env S = (ev T cl a env S).bind fun x S1 => cT (truth S1 x) (ev T cl b env S1) (.ok x S1) .stuck := bind_congr fun x S1 => by
  cases truth S1 x with
  | none => rfl
  | some q => cases q <;> rfl
@[simp] theorem ev_or : ev T cl (.or a b) env S = (ev T cl a env S).bind fun x S1 => cT (truth S1 x) (.ok x S1) (ev T cl b env S1) .stuck := bind_congr fun x S1 => by
  cases truth S1 x with
  | none => rfl
  | some q => cases q <;> rfl
@[simp] theorem ev_one : ev T cl (.one a) env S = ev T cl a env S := rfl
@[simp] theorem ev_not : ev T cl (.not a) env S = (ev T cl a env S).bind fun x S1 => optB ((truth S1 x).map (!·)) S1 := rfl
@[simp] theorem ev_ite : ev T cl (.ite c a b) env S = (ev T cl c env S).bind fun x S1 => cT (truth S1 x) (ev T cl a env S1) (ev T cl b env S1) .stuck := bind_congr fun x S1 => by
  cases truth S1 x with
  | none => rfl
  | some q => cases q <;> rfl
@[simp] theorem ev_sub : ev T cl (.sub a b) env S = (ev T cl a env S).bind fun x S1 => (ev T cl b env S1).bind fun y S2 => opt (subD S2 x y) S2 := rfl
def oB {α β : Type} (o : Option α) (k : α → β) (n : β) : β := match o with
  | some x => k x
  | none => n
@[simp] theorem oB_some {α β : Type} {x : α} {k : α → β} {n : β} : oB (some x) k n = k x := rfl
@[simp] theorem ev_slc {hi : M} : ev T cl (.slc a b hi) env S = (ev T cl a env S).bind fun x S1 => (ev T cl b env S1).bind fun l S2 => oB (partM b l) (fun l => (ev T cl hi env S2).bind fun h S3 => oB (partM hi h) (fun h => opt (slcD S3 x l h) S3) .stuck) .stuck := bind_congr fun x S1 => bind_congr fun l S2 => by
  cases partM b l with
  | none => rfl
  | some q => exact bind_congr fun h S3 => by cases partM hi h <;> rfl
@[simp] theorem ev_no : ev T cl .no env S = .ok .non S := rfl
@[simp] theorem ev_attr : ev T cl (.attr a f) env S = (ev T cl a env S).bind fun x S1 => opt (attrD T.fld S1 x f) S1 := rfl
@[simp] theorem ev_call : ev T cl (.call f a) env S = (ev T cl a env S).bind fun ds S1 => cl f (tupOf ds) S1 := rfl
@[simp] theorem ev_bif : ev T cl (.bif f a) env S = (ev T cl a env S).bind fun ds S1 => opt (bifD S1 f (tupOf ds)) S1 := rfl
@[simp] theorem ev_isi {t : String} : ev T cl (.isi a t) env S = (ev T cl a env S).bind fun x S1 => optB (isiD S1 x t) S1 := rfl
@[simp] theorem ev_met : ev T cl (.met a m b) env S = (ev T cl a env S).bind fun x S1 => oB (metOf T.mth S1 x m) (fun f => (ev T cl b env S1).bind fun ds S2 => cl f (x :: tupOf ds) S2) .stuck := bind_congr fun x S1 => by cases metOf T.mth S1 x m <;> rfl
def oP (o : Option (D × Store)) : Res := match o with
  | some (d, S) => .ok d S
  | none => .stuck
@[simp] theorem oP_some : oP (some (d, S)) = .ok d S := rfl
@[simp] theorem ev_bim : ev T cl (.bim a m b) env S = (ev T cl a env S).bind fun x S1 => bif bimK S1 x m then (ev T cl b env S1).bind fun ds S2 => oP (bimD S2 x m (tupOf ds)) else .stuck := bind_congr fun x S1 => by
  cases hb : bimK S1 x m with
  | false => rfl
  | true =>
    show (ev T cl b env S1).bind (fun ds S2 => match bimD S2 x m (tupOf ds) with
      | some (d, S3) => .ok d S3
      | none => .stuck) = (ev T cl b env S1).bind fun ds S2 => oP (bimD S2 x m (tupOf ds))
    refine bind_congr fun ds S2 => ?_
    cases bimD S2 x m (tupOf ds) with
    | none => rfl
    | some p => cases p; rfl
@[simp] theorem ev_fst : ev T cl (.fst a) env S = (ev T cl a env S).bind fun ds S1 => opt ((joinF (tupOf ds) Str.empty).map .str) S1 := rfl
def oF (o : Option Str) (r : Res) : Res := match o with
  | some y => match r with
    | .ok ds S2 => .ok (.tup (.str y :: tupOf ds)) S2
    | _ => .stuck
  | none => .stuck
@[simp] theorem oF_ok {s : Str} : oF (some s) (.ok d S) = .ok (.tup (.str s :: tupOf d)) S := rfl
@[simp] theorem ev_fc : ev T cl (.fc a b) env S = (ev T cl a env S).bind fun d S1 => oF (strOf d) (ev T cl b env S1) := bind_congr fun x S1 => by
  cases strOf x with
  | none => rfl
  | some y => cases ev T cl b env S1 <;> rfl
@[simp] theorem ev_lc {own : List Nat} {tg it e : M} : ev T cl (.lc own tg it e) env S = (ev T cl it env S).bind fun x S1 => oB (itemsM it S1 x) (fun xs => lcL tg own (ev T cl e) (guardsM it x) S1 env xs [] S1) .stuck := bind_congr fun x S1 => by cases itemsM it S1 x <;> rfl
@[simp] theorem ev_zip : ev T cl (.zip a b) env S = (ev T cl a env S).bind fun x S1 => (ev T cl b env S1).bind fun y S2 => .ok (.tup [x, y]) S2 := rfl
@[simp] theorem ev_enu : ev T cl (.enu a) env S = ev T cl a env S := rfl
@[simp] theorem ev_thaw : ev T cl (.thaw a) env S = (ev T cl a env S).bind fun x S1 => if isMut x = true then .ok (.hnd S1.length) (S1 ++ [x]) else .stuck := rfl
@[simp] theorem run_nl : Fk.run T cl .nl env S = .nx env S := rfl
@[simp] theorem run_cn {u v : MS} : Fk.run T cl (.cn u v) env S = sq (Fk.run T cl u env S) fun e1 S1 => Fk.run T cl v e1 S1 := by
  show (match Fk.run T cl u env S with
    | .nx e1 S1 => Fk.run T cl v e1 S1
    | o => o) = _
  cases Fk.run T cl u env S <;> rfl
@[simp] theorem run_asg {tg e : M} : Fk.run T cl (.asg tg e) env S = (ev T cl e env S).out env fun d S1 => asgT T cl tg d env S1 := rfl
@[simp] theorem run_exp {e : M} : Fk.run T cl (.exp e) env S = (ev T cl e env S).out env fun _ S1 => .nx env S1 := rfl
@[simp] theorem run_ret {e : M} : Fk.run T cl (.ret e) env S = (ev T cl e env S).out env fun d S1 => .rt d S1 := rfl
@[simp] theorem run_pas : Fk.run T cl .pas env S = .nx env S := rfl
@[simp] theorem run_ite {u v : MS} : Fk.run T cl (.ite c u v) env S = (ev T cl c env S).out env fun x S1 => cT (truth S1 x) (Fk.run T cl u env S1) (Fk.run T cl v env S1) .stuck := out_congr fun x S1 => by
  cases truth S1 x with
  | none => rfl
  | some q => cases q <;> rfl
@[simp] theorem run_for {tg it : M} {u : MS} : Fk.run T cl (.for_ tg it u) env S = (ev T cl it env S).out env fun x S1 => oB (itemsM it S1 x) (fun xs => forL T cl tg (Fk.run T cl u) (guardsM it x) S1 xs env S1) .stuck := out_congr fun x S1 => by cases itemsM it S1 x <;> rfl
@[simp] theorem asg_var {i : Nat} : asgT T cl (.var i) d env S = .nx (env.set i (some d)) S := rfl
@[simp] theorem asg_tup {ts : M} : asgT T cl (.tup ts) d env S = oB (seqOf S d) (fun ds => oB (bindTs ts ds env) (fun e => .nx e S) .stuck) .stuck := by
  show (match seqOf S d with
    | some ds => match bindTs ts ds env with
      | some env' => Out.nx env' S
      | none => Out.stuck
    | none => Out.stuck) = _
  cases seqOf S d with
  | none => rfl
  | some ds =>
    show (match bindTs ts ds env with
      | some env' => Out.nx env' S
      | none => Out.stuck) = oB (bindTs ts ds env) (fun e => Out.nx e S) Out.stuck
    cases bindTs ts ds env <;> rfl
@[simp] theorem asg_sub {o i : M} : asgT T cl (.sub o i) d env S = (ev T cl o env S).out env fun x S1 => (ev T cl i env S1).out env fun y S2 => optS (setD S2 x y d) env := rfl
@[simp] theorem asg_attr {o : M} : asgT T cl (.attr o f) d env S = (ev T cl o env S).out env fun x S1 => optS (setA T.fld S1 x f d) env := rfl
@[simp] theorem seqOf_tup : seqOf S (.tup ds) = some ds := rfl
@[simp] theorem seqOf_lst : seqOf S (.lst ds) = some ds := rfl
@[simp] theorem bind_v {i : Nat} : bindT (.var i) d env = some (env.set i (some d)) := rfl
@[simp] theorem bind_t {ts : M} : bindT (.tup ts) (.tup ds) env = bindTs ts ds env := rfl
@[simp] theorem binds_n : bindTs .nil [] env = some env := rfl
@[simp] theorem binds_c {t r : M} : bindTs (.cons t r) (d :: ds) env = oB (bindT t d env) (fun e => bindTs r ds e) none := by
  show (match bindT t d env with
    | some env1 => bindTs r ds env1
    | none => none) = _
  cases bindT t d env <;> rfl
@[simp] theorem sub_tup {i : Int} : subD S (.tup ds) (.int i) = L2.atI ds i := rfl
@[simp] theorem sub_lst {i : Int} : subD S (.lst ds) (.int i) = L2.atI ds i := rfl
@[simp] theorem tru_bl {k : Bool} : truth S (.bl k) = some k := rfl
@[simp] theorem items_tup : items S (.tup ds) = some ds := rfl
@[simp] theorem items_lst : items S (.lst ds) = some ds := rfl
@[simp] theorem itM_sub {a b : M} : itemsM (.sub a b) S d = items S d := rfl
@[simp] theorem itM_var {i : Nat} : itemsM (.var i) S d = items S d := rfl
@[simp] theorem itM_attr {a : M} : itemsM (.attr a f) S d = items S d := rfl
@[simp] theorem itM_slc {a b c : M} : itemsM (.slc a b c) S d = items S d := rfl
@[simp] theorem itM_call {a : M} : itemsM (.call f a) S d = items S d := rfl
@[simp] theorem gM_sub {a b : M} : guardsM (.sub a b) d = hndOf d := rfl
@[simp] theorem gM_var {i : Nat} : guardsM (.var i) d = hndOf d := rfl
@[simp] theorem gM_attr {a : M} : guardsM (.attr a f) d = hndOf d := rfl
@[simp] theorem gM_slc {a b c : M} : guardsM (.slc a b c) d = hndOf d := rfl
@[simp] theorem gM_call {a : M} : guardsM (.call f a) d = hndOf d := rfl
@[simp] theorem hnd_tup {ds : List D} : hndOf (.tup ds) = [] := rfl
@[simp] theorem hnd_lst {ds : List D} : hndOf (.lst ds) = [] := rfl
@[simp] theorem hnd_str {s : Str} : hndOf (.str s) = [] := rfl
@[simp] theorem hnd_hnd {n : Nat} : hndOf (.hnd n) = [n] := rfl
@[simp] theorem isMut_lst : isMut (.lst ds) = true := rfl
@[simp] theorem isMut_dct {t : Bool} {ks : List Ky} : isMut (.dct t ks ds) = true := rfl
@[simp] theorem part_no {d : D} : partM .no .non = some none := rfl
@[simp] theorem deref_str' {s : Str} : deref S (.str s) = .str s := rfl
@[simp] theorem deref_tup' {ds : List D} : deref S (.tup ds) = .tup ds := rfl
@[simp] theorem deref_lst' {ds : List D} : deref S (.lst ds) = .lst ds := rfl
@[simp] theorem deref_int' {i : Int} : deref S (.int i) = .int i := rfl
@[simp] theorem deref_bl' {i : Bool} : deref S (.bl i) = .bl i := rfl
@[simp] theorem deref_last' {c : D} : deref (S ++ [c]) (.hnd S.length) = c := by simp [deref]
@[simp] theorem add_str {u v : Str} : binD S .Add (.str u) (.str v) = if u.length + v.length ≤ sizeLine then some (.str (u ++ v)) else none := rfl
@[simp] theorem add_tup {u v : List D} : binD S .Add (.tup u) (.tup v) = if u.length + v.length ≤ sizeLine ∧ isTup (.tup u) = true ∧ isTup (.tup v) = true then some (.tup (u ++ v)) else none := rfl
@[simp] theorem add_lst {u v : List D} : binD S .Add (.lst u) (.lst v) = if u.length + v.length ≤ sizeLine then some (.lst (u ++ v)) else none := rfl
@[simp] theorem isTup_tup {u : List D} : isTup (.tup u) = true := rfl
end
/-- a loop that adds one thing at each turn to the newest list -/
theorem forL_app {α : Type} {T : Tab} {cl : Cl} {tg : M} {body : Env' → Store → Out} {S0 S : Store} (E : Env' → Prop) (f g : α → D) : ∀ (xs : List α) (acc : List D) (env : Env'), E env → acc.length + xs.length ≤ 1000 →
    (∀ x ∈ xs, ∀ env acc', E env → acc'.length ≤ 1000 → ∃ env1, bindT tg (f x) env = some env1 ∧ ∃ env2, body env1 (S ++ [.lst acc']) = .nx env2 (S ++ [.lst (acc' ++ [g x])]) ∧ E env2) →
    ∃ env', E env' ∧ forL T cl tg body [] S0 (xs.map f) env (S ++ [.lst acc]) = .nx env' (S ++ [.lst (acc ++ xs.map g)])
  | [], acc, env, hE, _, _ => ⟨env, hE, by simp [forL]⟩
  | x :: xs, acc, env, hE, hl, h => by
    obtain ⟨env1, b1, env2, b2, b3⟩ := h x List.mem_cons_self env acc hE (by simp at hl; omega)
    obtain ⟨env', e1, e2⟩ := forL_app (T := T) (cl := cl) (S0 := S0) E f g xs (acc ++ [g x]) env2 b3 (by simp at hl ⊢; omega) fun y hy => h y (List.mem_cons_of_mem _ hy)
    refine ⟨env', e1, ?_⟩
    simp only [List.map_cons, forL, b1, b2, stays_nil, if_true]
    rw [e2]
    simp
/-- a list built of the things that are -/
theorem lc_map {α : Type} {tg : M} {own : List Nat} {e : Env' → Store → Res} {gs : List Nat} {S : Store} {env : Env'} (f g : α → D) (xs : List α) (h : ∀ x ∈ xs, ∃ env', bindT tg (f x) (wipeE env own) = some env' ∧ e env' S = .ok (g x) S) (hl : xs.length ≤ sizeLine) :
    lcL tg own e gs S env (xs.map f) [] S = .ok (.lst (xs.map g)) S := by
  have key : ∀ (ys : List α) (acc : List D), (∀ x ∈ ys, x ∈ xs) → acc.length + ys.length ≤ sizeLine → lcL tg own e gs S env (ys.map f) acc S = .ok (.lst (acc ++ ys.map g)) S := by
    intro ys
    induction ys with
    | nil => intro acc _ _; simp [lcL]
    | cons y ys ih =>
      intro acc hy hl
      obtain ⟨env', h1, h2⟩ := h y (hy y List.mem_cons_self)
      simp only [List.map_cons, lcL, h1, h2]
      rw [if_pos ⟨stays_self _, by simp at hl; omega⟩, ih _ (fun x hx => hy x (List.mem_cons_of_mem _ hx)) (by simp at hl ⊢; omega)]
      simp
  have := key xs [] (fun x hx => hx) (by simpa using hl)
  simpa using this
@[simp] theorem items_last {S : Store} {xs : List D} : items (S ++ [.lst xs]) (.hnd S.length) = some xs := by simp [items]
@[simp] theorem bim_app_last {S : Store} {acc : List D} {d : D} : bimD (S ++ [.lst acc]) (.hnd S.length) "append" [d] = if acc.length < sizeLine then some (.non, S ++ [.lst (acc ++ [d])]) else none := by
  rw [bim_append]
  simp
@[simp] theorem bk_last {S : Store} {acc : List D} : bimK (S ++ [.lst acc]) (.hnd S.length) "append" = true := bk_lst deref_last' (.inl rfl)
@[simp] theorem bk_lastE {S : Store} {acc : List D} : bimK (S ++ [.lst acc]) (.hnd S.length) "extend" = true := bk_lst deref_last' (.inr (.inl rfl))
theorem sum_le {l : List Str} {n : Nat} (h : ∀ x ∈ l, x.length ≤ n) : (l.map (·.length)).sum ≤ l.length * n := by
  induction l with
  | nil => simp
  | cons x l ih =>
    have h1 := h x List.mem_cons_self
    have h2 := ih fun y hy => h y (List.mem_cons_of_mem _ hy)
    simp only [List.map_cons, List.sum_cons, List.length_cons]
    rw [Nat.succ_mul]
    omega
theorem join_of {y : Str} {S : Store} {d : D} {l : List Str} (hd : seqOf S d = some (l.map .str)) (n : Nat) (h : ∀ x ∈ l, x.length ≤ n) (hl : l.length * n + l.length * y.length ≤ 16777216) : bimD S (.str y) "join" [d] = some (.str (Txt.join y l), S) := by
  rw [bim_join]
  simp only [hd, Option.bind_some, asStrs_map]
  have := sum_le h
  rw [if_pos (by omega)]
end Fk
namespace Fk
open PySem
/-- a thing without handles, as data, not deep -/
structure Dt (n : Nat) (d : D) (p : PyData) : Prop where
  py : pyD d = some p
  fz : ∀ m g, frzG m g d = some d
  ok : p.canLay0 = true
  dp : p.depth ≤ n
structure Dts (n : Nat) (ds : List D) (ps : List PyData) : Prop where
  py : pyDs ds = some ps
  fz : ∀ m g, frzGs m g ds = some ds
  ok : PyData.canLayAll0 ps = true
  dp : PyData.depthAll ps ≤ n
theorem Dt.int {n : Nat} (i : Int) : Dt n (.int i) (.int i) := ⟨rfl, fun _ _ => by simp [frzG], by simp [PyData.canLay0], by simp [PyData.depth]⟩
theorem Dt.non {n : Nat} : Dt n .non .none := ⟨rfl, fun _ _ => by simp [frzG], by simp [PyData.canLay0], by simp [PyData.depth]⟩
theorem Dt.bl {n : Nat} (b : Bool) : Dt n (.bl b) (.bool b) := ⟨rfl, fun _ _ => by simp [frzG], by simp [PyData.canLay0], by simp [PyData.depth]⟩
theorem Dt.str {n : Nat} {x : Str} (h : PyData.strOk x = true) : Dt n (.str x) (.str x) := ⟨rfl, fun _ _ => by simp [frzG], by simpa [PyData.canLay0] using h, by simp [PyData.depth]⟩
theorem Dts.nil {n : Nat} : Dts n [] [] := ⟨rfl, fun _ _ => by simp [frzGs], by simp [PyData.canLayAll0], by simp [PyData.depthAll]⟩
theorem Dts.cons {n : Nat} {d : D} {p : PyData} {ds : List D} {ps : List PyData} (h : Dt n d p) (t : Dts n ds ps) : Dts n (d :: ds) (p :: ps) :=
  ⟨by simp [pyDs, h.py, t.py], fun m g => by simp [frzGs, h.fz, t.fz], by simp [PyData.canLayAll0, h.ok, t.ok], by simp only [PyData.depthAll]; exact Nat.max_le.mpr ⟨h.dp, t.dp⟩⟩
theorem Dts.of {α : Type} {n : Nat} (f : α → D) (g : α → PyData) : ∀ {l : List α}, (∀ x ∈ l, Dt n (f x) (g x)) → Dts n (l.map f) (l.map g)
  | [], _ => .nil
  | x :: l, h => .cons (h x List.mem_cons_self) (Dts.of f g fun y hy => h y (List.mem_cons_of_mem _ hy))
theorem Dt.tup {n : Nat} {ds : List D} {ps : List PyData} (t : Dts n ds ps) : Dt (n + 1) (.tup ds) (.tuple ps) :=
  ⟨by simp [pyD, t.py], fun m g => by simp [frzG, t.fz], by simpa [PyData.canLay0] using t.ok, by simp [PyData.depth]; exact t.dp⟩
theorem Dt.lst {n : Nat} {ds : List D} {ps : List PyData} (t : Dts n ds ps) : Dt (n + 1) (.lst ds) (.list ps) :=
  ⟨by simp [pyD, t.py], fun m g => by simp [frzG, t.fz], by simpa [PyData.canLay0] using t.ok, by simp [PyData.depth]; exact t.dp⟩
theorem Dt.mono {n m : Nat} {d : D} {p : PyData} (h : Dt n d p) (hn : n ≤ m) : Dt m d p := ⟨h.py, h.fz, h.ok, Nat.le_trans h.dp hn⟩
theorem Dts.mono {n m : Nat} {d : List D} {p : List PyData} (h : Dts n d p) (hn : n ≤ m) : Dts m d p := ⟨h.py, h.fz, h.ok, Nat.le_trans h.dp hn⟩
/-- as data in a store -/
structure Ds (S : Store) (d : D) (p : PyData) : Prop where
  py : pyS S d = some p
  sh : SeqAt.shaped p = true
theorem Dt.shaped {n : Nat} {d : D} {p : PyData} (h : Dt n d p) (hn : n ≤ 64) : SeqAt.shaped p = true := by
  unfold SeqAt.shaped
  rw [h.ok]
  exact decide_eq_true (Nat.le_trans h.dp hn)
theorem Dt.ds {n : Nat} {S : Store} {d : D} {p : PyData} (h : Dt n d p) (hn : n ≤ 64) : Ds S d p := by
  refine ⟨?_, h.shaped hn⟩
  unfold pyS frz
  rw [h.fz, Option.bind_some, h.py]
theorem Dt.hnd {n : Nat} {S : Store} {i : Nat} {d : D} {p : PyData} (h : Dt n d p) (hn : n ≤ 64) (hi : S[i]? = some d) : Ds S (.hnd i) p := by
  refine ⟨?_, h.shaped hn⟩
  unfold pyS frz
  have e : frzG 0 (resolve 0 S 4) (.hnd i) = resolve 0 S 4 i := by simp [frzG]
  rw [e]
  show ((S[i]?).bind (frzG 0 (resolve 0 S 3))).bind pyD = some p
  rw [hi, Option.bind_some, h.fz, Option.bind_some, h.py]
section
variable {S : Store} {x y : D} {p q : PyData}
theorem eqP_of (a : Ds S x p) (b : Ds S y q) : eqP S x y = some (PyData.eqv p q) := by
  unfold eqP okData
  rw [a.py, b.py]
  simp only
  rw [a.sh, b.sh]
  rfl
theorem eq_of (a : Ds S x p) (b : Ds S y q) : cmpD S .Eq x y = some (PyData.eqv p q) := by
  show eqD S x y = _
  unfold eqD
  split
  · rename_i u v
    have e1 : pyS S (.str u) = some (.str u) := by simp [pyS, frz, frzG, pyD]
    have e2 : pyS S (.str v) = some (.str v) := by simp [pyS, frz, frzG, pyD]
    have h1 := e1.symm.trans a.py
    have h2 := e2.symm.trans b.py
    cases h1
    cases h2
    simp [PyData.eqv]
  · exact eqP_of a b
theorem ne_of (a : Ds S x p) (b : Ds S y q) : cmpD S .NotEq x y = some (!PyData.eqv p q) := by
  show (eqD S x y).map _ = _
  have := eq_of a b
  rw [show eqD S x y = _ from this]
  rfl
theorem lt_of (a : Ds S x p) (b : Ds S y q) (h : PySem.W.alike p q = true) (hn : isNoneP p = false) : cmpD S .Lt x y = some (PySem.W.dataLt p q) := by
  show ltD S x y PySem.W.dataLt = _
  unfold ltD okData
  rw [a.py, b.py]
  simp only
  rw [if_pos ⟨by rw [h, a.sh, b.sh]; rfl, hn⟩]
theorem le_of (a : Ds S x p) (b : Ds S y q) (h : PySem.W.alike p q = true) (hn : isNoneP p = false) : cmpD S .LtE x y = some (!PySem.W.dataLt q p) := by
  show ltD S x y (fun p q => !PySem.W.dataLt q p) = _
  unfold ltD okData
  rw [a.py, b.py]
  simp only
  rw [if_pos ⟨by rw [h, a.sh, b.sh]; rfl, hn⟩]
theorem gt_of (a : Ds S x p) (b : Ds S y q) (h : PySem.W.alike p q = true) (hn : isNoneP p = false) : cmpD S .Gt x y = some (PySem.W.dataLt q p) := by
  show ltD S x y (fun p q => PySem.W.dataLt q p) = _
  unfold ltD okData
  rw [a.py, b.py]
  simp only
  rw [if_pos ⟨by rw [h, a.sh, b.sh]; rfl, hn⟩]
theorem ge_of (a : Ds S x p) (b : Ds S y q) (h : PySem.W.alike p q = true) (hn : isNoneP p = false) : cmpD S .GtE x y = some (!PySem.W.dataLt p q) := by
  show ltD S x y (fun p q => !PySem.W.dataLt p q) = _
  unfold ltD okData
  rw [a.py, b.py]
  simp only
  rw [if_pos ⟨by rw [h, a.sh, b.sh]; rfl, hn⟩]
end
@[simp] theorem int_lt {S : Store} {i j : Int} : cmpD S .Lt (.int i) (.int j) = some (decide (i < j)) := by
  rw [lt_of ((Dt.int (n := 0) i).ds (by omega)) ((Dt.int (n := 0) j).ds (by omega)) (by simp [PySem.W.alike]) rfl, PySem.W.dataLt_int]
@[simp] theorem int_le {S : Store} {i j : Int} : cmpD S .LtE (.int i) (.int j) = some (decide (i ≤ j)) := by
  rw [le_of ((Dt.int (n := 0) i).ds (by omega)) ((Dt.int (n := 0) j).ds (by omega)) (by simp [PySem.W.alike]) rfl, PySem.W.dataLt_int]
  refine congrArg some ?_
  rw [Bool.eq_iff_iff]
  simp [Int.not_lt]
@[simp] theorem int_gt {S : Store} {i j : Int} : cmpD S .Gt (.int i) (.int j) = some (decide (j < i)) := by
  rw [gt_of ((Dt.int (n := 0) i).ds (by omega)) ((Dt.int (n := 0) j).ds (by omega)) (by simp [PySem.W.alike]) rfl, PySem.W.dataLt_int]
@[simp] theorem int_ge {S : Store} {i j : Int} : cmpD S .GtE (.int i) (.int j) = some (decide (j ≤ i)) := by
  rw [ge_of ((Dt.int (n := 0) i).ds (by omega)) ((Dt.int (n := 0) j).ds (by omega)) (by simp [PySem.W.alike]) rfl, PySem.W.dataLt_int]
  refine congrArg some ?_
  rw [Bool.eq_iff_iff]
  simp [Int.not_lt]
@[simp] theorem int_eq {S : Store} {i j : Int} : cmpD S .Eq (.int i) (.int j) = some (i == j) := by
  rw [eq_of ((Dt.int (n := 0) i).ds (by omega)) ((Dt.int (n := 0) j).ds (by omega))]
  simp [PyData.eqv]
@[simp] theorem int_ne {S : Store} {i j : Int} : cmpD S .NotEq (.int i) (.int j) = some (!(i == j)) := by
  rw [ne_of ((Dt.int (n := 0) i).ds (by omega)) ((Dt.int (n := 0) j).ds (by omega))]
  simp [PyData.eqv]
theorem str_eq {S : Store} {i j : Str} (h1 : PyData.strOk i = true) (h2 : PyData.strOk j = true) : cmpD S .Eq (.str i) (.str j) = some (i == j) := by
  rw [eq_of ((Dt.str (n := 0) h1).ds (by omega)) ((Dt.str (n := 0) h2).ds (by omega))]
  simp [PyData.eqv]
theorem str_ne {S : Store} {i j : Str} (h1 : PyData.strOk i = true) (h2 : PyData.strOk j = true) : cmpD S .NotEq (.str i) (.str j) = some (!(i == j)) := by
  rw [ne_of ((Dt.str (n := 0) h1).ds (by omega)) ((Dt.str (n := 0) h2).ds (by omega))]
  simp [PyData.eqv]
theorem str_lt {S : Store} {i j : Str} (h1 : PyData.strOk i = true) (h2 : PyData.strOk j = true) : cmpD S .Lt (.str i) (.str j) = some (decide (tl i < tl j)) := by
  rw [lt_of ((Dt.str (n := 0) h1).ds (by omega)) ((Dt.str (n := 0) h2).ds (by omega)) (by simp [PySem.W.alike]) rfl, PySem.W.dataLt_str]
  rfl
theorem str_le {S : Store} {i j : Str} (h1 : PyData.strOk i = true) (h2 : PyData.strOk j = true) : cmpD S .LtE (.str i) (.str j) = some (!decide (tl j < tl i)) := by
  rw [le_of ((Dt.str (n := 0) h1).ds (by omega)) ((Dt.str (n := 0) h2).ds (by omega)) (by simp [PySem.W.alike]) rfl, PySem.W.dataLt_str]
  rfl
end Fk
namespace Fk
open PySem
def Rise {α : Type} (R : α → α → Prop) (xs : List α) : Prop := ∀ p ∈ xs.zip xs.tail, R p.1 p.2
theorem slc1_tup {S : Store} {ds : List D} : slcD S (.tup ds) (some 1) none = some (.tup ds.tail) := by
  cases ds with
  | nil => rfl
  | cons d ds =>
    have e1 : HT.sIx (d :: ds).length 0 (some 1) = 1 := by simp [HT.sIx]
    have e2 : HT.sIx (d :: ds).length (d :: ds).length none = (d :: ds).length := by simp [HT.sIx]
    show (if HT.sIx (d :: ds).length 0 (some 1) = 0 ∧ HT.sIx (d :: ds).length (d :: ds).length none = (d :: ds).length then some (D.tup (d :: ds)) else some (.tup (cutD (d :: ds) (some 1) none))) = _
    rw [e1, if_neg (by simp)]
    unfold cutD
    rw [e1, e2]
    simp
theorem slc1_lst {S : Store} {ds : List D} : slcD S (.lst ds) (some 1) none = some (.lst ds.tail) := by
  show some (D.lst (cutD ds (some 1) none)) = _
  cases ds with
  | nil => rfl
  | cons d ds =>
    have e1 : HT.sIx (d :: ds).length 0 (some 1) = 1 := by simp [HT.sIx]
    have e2 : HT.sIx (d :: ds).length (d :: ds).length none = (d :: ds).length := by simp [HT.sIx]
    unfold cutD
    rw [e1, e2]
    simp
@[simp] theorem part_i {i j : Int} : partM (.int i) (.int j) = some (some j) := rfl
@[simp] theorem part_n {i j : Int} : partM (.neg (.int i)) (.int j) = some (some j) := rfl
theorem zip_map {α : Type} (f : α → D) (xs : List α) : ((xs.map f).zip (xs.map f).tail).map (fun p => D.tup [p.1, p.2]) = (xs.zip xs.tail).map (fun p => D.tup [f p.1, f p.2]) := by
  rw [← List.map_tail, List.zip_map, List.map_map]
  rfl
theorem all_true {α : Type} (xs : List α) : (asBls (xs.map fun _ => D.bl true)).map (fun bs => D.bl (bs.all id)) = some (.bl true) := by
  have : xs.map (fun _ => D.bl true) = (xs.map fun _ => true).map .bl := by simp
  rw [this, asBls_map]
  simp
theorem itZT {S : Store} {xs ys : List D} {a b : M} : itemsM (.zip a b) S (.tup [.tup xs, .tup ys]) = some ((xs.zip ys).map fun p => .tup [p.1, p.2]) := rfl
theorem itZL {S : Store} {xs ys : List D} {a b : M} : itemsM (.zip a b) S (.tup [.lst xs, .lst ys]) = some ((xs.zip ys).map fun p => .tup [p.1, p.2]) := rfl
theorem gzT {xs ys : List D} {a b : M} : guardsM (.zip a b) (.tup [.tup xs, .tup ys]) = [] := rfl
theorem gzL {xs ys : List D} {a b : M} : guardsM (.zip a b) (.tup [.lst xs, .lst ys]) = [] := rfl
end Fk
namespace Fk
open PySem
/-- a thing that repr shows -/
structure Rp (n w : Nat) (d : D) (p : PyData) : Prop where
  dt : Dt n d p
  wt : p.weight ≤ w
  is : p.intsShort 13 = true
  sw : p.showable = true
  hd : p.hasDict = false
structure Rps (n w : Nat) (ds : List D) (ps : List PyData) : Prop where
  dt : Dts n ds ps
  wt : PyData.weightAll ps ≤ w
  is : PyData.intsShortAll 13 ps = true
  sw : PyData.showableAll ps = true
  hd : PyData.hasDictAll ps = false
theorem Rp.str {n w : Nat} {x : Str} (h : PyData.strOk x = true) (hl : x.length ≤ w) : Rp n w (.str x) (.str x) := ⟨.str h, by simpa [PyData.weight, Str.length] using hl, by simp [PyData.intsShort], by simp [PyData.showable], by simp [PyData.hasDict]⟩
theorem Rp.non {n w : Nat} : Rp n w .non .none := ⟨.non, by simp [PyData.weight], by simp [PyData.intsShort], by simp [PyData.showable], by simp [PyData.hasDict]⟩
theorem Rps.nil {n w : Nat} : Rps n w [] [] := ⟨.nil, by simp [PyData.weightAll], by simp [PyData.intsShortAll], by simp [PyData.showableAll], by simp [PyData.hasDictAll]⟩
theorem Rps.cons {n w w' : Nat} {d : D} {p : PyData} {ds : List D} {ps : List PyData} (h : Rp n w d p) (t : Rps n w' ds ps) : Rps n (w + 1 + w') (d :: ds) (p :: ps) :=
  ⟨.cons h.dt t.dt, by have := h.wt; have := t.wt; simp only [PyData.weightAll]; omega, by simp [PyData.intsShortAll, h.is, t.is], by simp [PyData.showableAll, h.sw, t.sw], by simp [PyData.hasDictAll, h.hd, t.hd]⟩
theorem Rp.tup {n w : Nat} {ds : List D} {ps : List PyData} (t : Rps n w ds ps) : Rp (n + 1) w (.tup ds) (.tuple ps) := ⟨.tup t.dt, by simpa [PyData.weight] using t.wt, by simpa [PyData.intsShort] using t.is, by simpa [PyData.showable] using t.sw, by simpa [PyData.hasDict] using t.hd⟩
theorem Rp.lst {n w : Nat} {ds : List D} {ps : List PyData} (t : Rps n w ds ps) : Rp (n + 1) w (.lst ds) (.list ps) := ⟨.lst t.dt, by simpa [PyData.weight] using t.wt, by simpa [PyData.intsShort] using t.is, by simpa [PyData.showable] using t.sw, by simpa [PyData.hasDict] using t.hd⟩
theorem Rps.of {α : Type} {n w : Nat} (f : α → D) : ∀ {l : List α}, (∀ x ∈ l, ∃ p, Rp n w (f x) p) → ∃ ps, Rps n (l.length * (w + 1)) (l.map f) ps
  | [], _ => ⟨[], by simpa using Rps.nil⟩
  | x :: l, h => by
    obtain ⟨p, hp⟩ := h x List.mem_cons_self
    obtain ⟨ps, hps⟩ := Rps.of (l := l) f fun y hy => h y (List.mem_cons_of_mem _ hy)
    refine ⟨p :: ps, ?_⟩
    have := Rps.cons hp hps
    rw [show (x :: l).length * (w + 1) = w + 1 + l.length * (w + 1) by rw [List.length_cons, Nat.succ_mul]; omega]
    exact this
theorem Rp.mono {n m w w' : Nat} {d : D} {p : PyData} (h : Rp n w d p) (hn : n ≤ m) (hw : w ≤ w') : Rp m w' d p := ⟨h.dt.mono hn, Nat.le_trans h.wt hw, h.is, h.sw, h.hd⟩
theorem Rp.repr {n w : Nat} {S : Store} {d : D} {p : PyData} (h : Rp n w d p) (hn : n ≤ 64) (hw : w ≤ 1048576) : bifD S "repr" [d] = some (.str p.shown) := by
  have s := h.dt.ds (S := S) hn
  have ly : PyData.layable0 p = true := by
    unfold PyData.layable0
    have e : (2 : Nat) ^ 20 = 1048576 := by decide
    rw [h.dt.ok, e]
    simp only [Bool.true_and, Bool.and_eq_true, decide_eq_true_eq]
    exact ⟨Nat.le_trans h.dt.dp hn, Nat.le_trans h.wt hw⟩
  have hs := PyProof.Rows.shown_le13 ly h.is
  rw [bf_repr, s.py, Option.bind_some, s.sh, h.sw, h.hd]
  have : p.shown.length ≤ sizeLine := by rw [sline]; omega
  simp [this]
end Fk
namespace Fk
open PySem
theorem sub_hl {S : Store} {n : Nat} {xs : List D} {i : Int} (h : S[n]? = some (.lst xs)) : subD S (.hnd n) (.int i) = L2.atI xs i := by
  have : deref S (.hnd n) = .lst xs := deref_hnd h
  unfold subD
  rw [this]
theorem len_hl {S : Store} {n : Nat} {xs : List D} (h : S[n]? = some (.lst xs)) : bifD S "len" [.hnd n] = some (.int xs.length) := by
  rw [bf_len]
  have : deref S (.hnd n) = .lst xs := deref_hnd h
  rw [this]
theorem set_hl {S : Store} {n : Nat} {xs : List D} {i : Int} {d : D} {j : Nat} (h : S[n]? = some (.lst xs)) (hj : L2.ixN xs.length i = some j) : setD S (.hnd n) (.int i) d = some (S.set n (.lst (xs.set j d))) := by
  have : deref S (.hnd n) = .lst xs := deref_hnd h
  unfold setD
  rw [this]
  simp [hj]
theorem at_ok {xs : List Int} {i : Int} (h0 : 0 ≤ i) (h1 : i < xs.length) : ∃ v, v ∈ xs ∧ L2.atI (xs.map D.int) i = some (.int v) := by
  have hl : i.toNat < xs.length := by omega
  refine ⟨xs[i.toNat], List.getElem_mem hl, ?_⟩
  simp [L2.atI, L2.ixN, h0, h1, hl]
@[simp] theorem add_int {S : Store} {i j : Int} : binD S .Add (.int i) (.int j) = some (.int (i + j)) := rfl
@[simp] theorem sub_int {S : Store} {i j : Int} : binD S .Sub (.int i) (.int j) = some (.int (i - j)) := rfl
theorem mul_int {S : Store} {i j : Int} (h : i.natAbs < 2 ^ 64 ∨ j.natAbs < 2 ^ 64) : binD S .Mult (.int i) (.int j) = some (.int (i * j)) := by
  show (if i.natAbs < 2 ^ 64 ∨ j.natAbs < 2 ^ 64 then some (D.int (i * j)) else none) = _
  rw [if_pos h]
theorem mod_int {S : Store} {i j : Int} (h : 0 < j) : binD S .Mod (.int i) (.int j) = some (.int (i % j)) := by
  show (if 0 < j then some (D.int (i % j)) else none) = _
  rw [if_pos h]
theorem div_int {S : Store} {i j : Int} (h : 0 < j) (hl : j < 1000000000) : binD S .FloorDiv (.int i) (.int j) = some (.int (i / j)) := by
  show (if 0 < j ∧ j.natAbs.log2 < 9000 then some (D.int (i / j)) else none) = _
  have h0 : (2 : Nat) ^ 30 = 1073741824 := by decide
  have h1 : j.natAbs < 2 ^ 30 := by omega
  have h2 : j.natAbs.log2 < 30 := (Nat.log2_lt (by omega)).mpr h1
  rw [if_pos ⟨h, by omega⟩]
end Fk
namespace Fk
open PySem
theorem ev_rng1_of {T : Tab} {cl : Cl} {a : M} {env : Env'} {S S' : Store} {n : Int} (h : ev T cl a env S = .ok (.int n) S') (h1 : n < 2 ^ 62) (h2 : -(2 ^ 62) ≤ n) : ev T cl (.rng1 a) env S = .ok (.lst ((List.range n.toNat).map fun (i : Nat) => .int (0 + (i : Int)))) S' := by
  show (ev T cl a env S).bind _ = _
  rw [h]
  show (if n < 2 ^ 62 ∧ -(2 ^ 62) ≤ n then Res.ok (.lst ((List.range n.toNat).map fun (i : Nat) => .int (0 + (i : Int)))) S' else .stuck) = _
  rw [if_pos ⟨h1, h2⟩]
@[simp] theorem itM_rng1 {a : M} {S : Store} {d : D} : itemsM (.rng1 a) S d = items S d := rfl
@[simp] theorem gM_rng1 {a : M} {d : D} : guardsM (.rng1 a) d = hndOf d := rfl
theorem sortD_ok {α : Type} (f : α → D) (g : α → PyData) (l : List α) {n : Nat} (hn : n ≤ 64) (hp : ∀ x ∈ l, Dt n (f x) (g x)) (ha : ∀ x ∈ l, ∀ y ∈ l, PySem.W.alike (g x) (g y) = true)
    (hk : (∀ x ∈ l, isTupNe (g x) = true) ∨ ∀ x ∈ l, isPlainP (g x) = true) (hl : l.length ≤ sizeLine) :
    sortD (l.map f) = some ((l.mergeSort (PySem.W.dataLe false g)).map f) := by
  have t : Dts n (l.map f) (l.map g) := Dts.of f g hp
  have s : sortable (l.map g) = true := by
    unfold sortable
    simp only [Bool.and_eq_true, Bool.or_eq_true, List.all_eq_true, decide_eq_true_eq, List.length_map]
    refine ⟨?_, ?_, ?_, hl⟩
    · intro p hp q hq
      obtain ⟨x, hx, rfl⟩ := List.mem_map.mp hp
      obtain ⟨y, hy, rfl⟩ := List.mem_map.mp hq
      exact ha x hx y hy
    · rcases hk with hk | hk
      · left
        intro p hp
        obtain ⟨x, hx, rfl⟩ := List.mem_map.mp hp
        exact hk x hx
      · right
        intro p hp
        obtain ⟨x, hx, rfl⟩ := List.mem_map.mp hp
        exact hk x hx
    · intro p hq
      obtain ⟨x, hx, rfl⟩ := List.mem_map.mp hq
      exact (hp x hx).shaped hn
  unfold sortD
  rw [t.py, Option.bind_some, s, if_pos rfl]
  refine congrArg some (List.map_mergeSort fun a ha b hb => ?_).symm
  have e : ∀ x ∈ l, pyOr (f x) = g x := fun x hx => by
    unfold pyOr
    rw [(hp x hx).py]
    rfl
  show (!(PyProof.Rows.listOrd PyProof.Rows.itemOrd).blt (PySem.W.keyToks (g b)) (PySem.W.keyToks (g a))) = !(PyProof.Rows.listOrd PyProof.Rows.itemOrd).blt (PySem.W.keyToks (pyOr (f b))) (PySem.W.keyToks (pyOr (f a)))
  rw [e a ha, e b hb]
theorem rise_of {α : Type} {R : α → α → Prop} : ∀ {xs : List α}, xs.Pairwise R → Rise R xs
  | [], _ => fun p hp => by simp at hp
  | [x], _ => fun p hp => by simp at hp
  | x :: y :: r, h => fun p hp => by
    obtain ⟨h1, h2⟩ := List.pairwise_cons.mp h
    have hp' : p ∈ (x, y) :: (y :: r).zip (y :: r).tail := hp
    rcases List.mem_cons.mp hp' with z | z
    · rw [z]
      exact h1 y List.mem_cons_self
    · exact rise_of h2 p z
theorem sort_rise {α : Type} (g : α → PyData) (l : List α) (hn : l.Nodup) (hd : ∀ x ∈ l, ∀ y ∈ l, PySem.W.dataLt (g x) (g y) = false → PySem.W.dataLt (g y) (g x) = false → x = y) :
    Rise (fun x y => PySem.W.dataLt (g x) (g y) = true) (l.mergeSort (PySem.W.dataLe false g)) := by
  have T := PySem.W.sortLe_total (PyProof.Rows.listOrd PyProof.Rows.itemOrd) false fun b => PySem.W.keyToks (g b)
  have p1 : (l.mergeSort (PySem.W.dataLe false g)).Pairwise fun a b => PySem.W.dataLe false g a b = true := PySem.W.sort_pairwise T l
  have p2 : (l.mergeSort (PySem.W.dataLe false g)).Nodup := (List.mergeSort_perm l _).nodup_iff.mpr hn
  refine rise_of ?_
  refine (p1.and p2).imp_of_mem ?_
  intro a b ha hb hab
  have ha' := List.mem_mergeSort.mp ha
  have hb' := List.mem_mergeSort.mp hb
  have h1 : (!PySem.W.dataLt (g b) (g a)) = true := hab.1
  cases h : PySem.W.dataLt (g a) (g b) with
  | true => rfl
  | false => exact absurd (hd a ha' b hb' h (by simpa using h1)) hab.2
theorem tl_tri {x y : Str} (h1 : ¬ tl x < tl y) (h2 : ¬ tl y < tl x) : x = y := tl_inj (List.le_antisymm (List.not_lt.mp h2) (List.not_lt.mp h1))
theorem er_map {α β : Type} (f : α → β) : ∀ (l : List α) (i : Nat), (l.map f).eraseIdx i = (l.eraseIdx i).map f
  | [], _ => by simp
  | x :: l, 0 => by simp
  | x :: l, i + 1 => by simp [er_map f l i]
theorem erase_perm {α : Type} {l : List α} {j : Nat} (h : j < l.length) : (l[j] :: l.eraseIdx j).Perm l := by
  rw [List.eraseIdx_eq_take_drop_succ]
  have e : l = l.take j ++ l[j] :: l.drop (j + 1) := by
    rw [List.getElem_cons_drop, List.take_append_drop]
  have := (List.perm_middle (a := l[j]) (l₁ := l.take j) (l₂ := l.drop (j + 1))).symm
  rw [← e] at this
  exact this
end Fk
namespace Fk
open PySem
mutual
theorem frzG_mono {m m' : Nat} (hm : m ≤ m') {g' : Nat → Option D} : ∀ d e : D, frzG m (fun _ => none) d = some e → frzG m' g' d = some d
  | .non, _, _ => by simp [frzG]
  | .bl _, _, _ => by simp [frzG]
  | .int _, _, _ => by simp [frzG]
  | .str _, _, _ => by simp [frzG]
  | .ty _, _, _ => by simp [frzG]
  | .fn _, _, _ => by simp [frzG]
  | .scr _, _, _ => by simp [frzG]
  | .hnd n, e, h => by
    simp only [frzG] at h ⊢
    by_cases hn : n < m
    · rw [if_pos (by omega)]
    · rw [if_neg hn] at h
      cases h
  | .tup ds, e, h => by
    simp only [frzG, Option.map_eq_some_iff] at h ⊢
    obtain ⟨es, h1, _⟩ := h
    exact ⟨ds, frzGs_mono hm ds es h1, rfl⟩
  | .lst ds, e, h => by
    simp only [frzG, Option.map_eq_some_iff] at h ⊢
    obtain ⟨es, h1, _⟩ := h
    exact ⟨ds, frzGs_mono hm ds es h1, rfl⟩
  | .ktp ds, e, h => by
    simp only [frzG, Option.map_eq_some_iff] at h ⊢
    obtain ⟨es, h1, _⟩ := h
    exact ⟨ds, frzGs_mono hm ds es h1, rfl⟩
  | .dct t ks ds, e, h => by
    simp only [frzG, Option.map_eq_some_iff] at h ⊢
    obtain ⟨es, h1, _⟩ := h
    exact ⟨ds, frzGs_mono hm ds es h1, rfl⟩
  | .obj c fs ds, e, h => by
    simp only [frzG, Option.map_eq_some_iff] at h ⊢
    obtain ⟨es, h1, _⟩ := h
    exact ⟨ds, frzGs_mono hm ds es h1, rfl⟩
theorem frzGs_mono {m m' : Nat} (hm : m ≤ m') {g' : Nat → Option D} : ∀ d e : List D, frzGs m (fun _ => none) d = some e → frzGs m' g' d = some d
  | [], _, _ => by simp [frzGs]
  | d :: ds, e, h => by
    simp only [frzGs] at h ⊢
    cases h1 : frzG m (fun _ => none) d with
    | none => rw [h1] at h; cases h
    | some x =>
      cases h2 : frzGs m (fun _ => none) ds with
      | none => rw [h1, h2] at h; cases h
      | some y => rw [frzG_mono hm d x h1, frzGs_mono hm ds y h2]
end
theorem closed_mono {m m' : Nat} {d : D} (hm : m ≤ m') (h : closed m d = true) : closed m' d = true := by
  have := frzG_mono hm (g' := fun _ => none) d d (closed_get h)
  unfold closed
  rw [this]
  exact D.beq_self d
theorem closed_of {m : Nat} {d : D} (h : frzG m (fun _ => none) d = some d) : closed m d = true := by
  unfold closed
  rw [h]
  exact D.beq_self d
theorem CS.app {S : Store} (h : CS S) {l : List D} (hl : ∀ d ∈ l, closed S.length d = true) : CS (S ++ l) := by
  unfold CS at *
  rw [List.all_eq_true] at *
  intro d hd
  refine closed_mono (m := S.length) (by simp) ?_
  rcases List.mem_append.mp hd with z | z
  · exact h d z
  · exact hl d z
theorem frzGs_map {α : Type} (f : α → D) {m : Nat} {g : Nat → Option D} : ∀ l : List α, (∀ x ∈ l, frzG m g (f x) = some (f x)) → frzGs m g (l.map f) = some (l.map f)
  | [], _ => by simp [frzGs]
  | x :: l, h => by
    simp only [List.map_cons, frzGs]
    rw [h x List.mem_cons_self, frzGs_map f l fun y hy => h y (List.mem_cons_of_mem _ hy)]
@[simp] theorem sub_scr {S : Store} {ns : List Int} {i : Int} : subD S (.scr ns) (.int i) = (L2.atI ns i).map .int := rfl
theorem pow_int {S : Store} {i j : Int} (h : 0 ≤ j) (h1 : j ≤ 1000000) (h2 : i.natAbs < 2 ^ 64) : binD S .Pow (.int i) (.int j) = some (.int (i ^ j.toNat)) := by
  show (if 0 ≤ j ∧ j ≤ 1000000 ∧ i.natAbs < 2 ^ 64 then some (D.int (i ^ j.toNat)) else none) = _
  rw [if_pos ⟨h, h1, h2⟩]
theorem bim_app_at {S : Store} {n : Nat} {xs : List D} {d : D} (h : S[n]? = some (.lst xs)) (hl : xs.length < sizeLine) : bimD S (.hnd n) "append" [d] = some (.non, S.set n (.lst (xs ++ [d]))) := by
  rw [bim_append]
  have : deref S (.hnd n) = .lst xs := deref_hnd h
  rw [this]
  simp only
  rw [if_pos hl]
theorem bk_at {S : Store} {n : Nat} {xs : List D} (h : S[n]? = some (.lst xs)) : bimK S (.hnd n) "append" = true := bk_lst (deref_hnd h) (.inl rfl)
end Fk
namespace Fk
open PySem
mutual
def pl : D → Bool
  | .non => true
  | .int _ => true
  | .str _ => true
  | .tup ds => pls ds
  | .lst ds => pls ds
  | _ => false
def pls : List D → Bool
  | [] => true
  | d :: ds => pl d && pls ds
end
mutual
theorem pl_eq : ∀ (x y : D) (p q : PyData), pl x = true → pl y = true → pyD x = some p → pyD y = some q → PyData.eqv p q = true → x = y
  | .non, y, p, q, _, hy, hp, hq, e => by
    simp only [pyD, Option.some.injEq] at hp
    subst hp
    cases y <;> simp only [pl, Bool.false_eq_true] at hy <;> simp only [pyD, Option.some.injEq, Option.map_eq_some_iff] at hq
    · rfl
    · subst hq; simp [PyData.eqv] at e
    · subst hq; simp [PyData.eqv] at e
    · obtain ⟨_, _, rfl⟩ := hq; simp [PyData.eqv] at e
    · obtain ⟨_, _, rfl⟩ := hq; simp [PyData.eqv] at e
  | .int i, y, p, q, _, hy, hp, hq, e => by
    simp only [pyD, Option.some.injEq] at hp
    subst hp
    cases y <;> simp only [pl, Bool.false_eq_true] at hy <;> simp only [pyD, Option.some.injEq, Option.map_eq_some_iff] at hq
    · subst hq; simp [PyData.eqv] at e
    · subst hq; simp [PyData.eqv] at e; rw [e]
    · subst hq; simp [PyData.eqv] at e
    · obtain ⟨_, _, rfl⟩ := hq; simp [PyData.eqv] at e
    · obtain ⟨_, _, rfl⟩ := hq; simp [PyData.eqv] at e
  | .str i, y, p, q, _, hy, hp, hq, e => by
    simp only [pyD, Option.some.injEq] at hp
    subst hp
    cases y <;> simp only [pl, Bool.false_eq_true] at hy <;> simp only [pyD, Option.some.injEq, Option.map_eq_some_iff] at hq
    · subst hq; simp [PyData.eqv] at e
    · subst hq; simp [PyData.eqv] at e
    · subst hq; simp [PyData.eqv] at e; rw [e]
    · obtain ⟨_, _, rfl⟩ := hq; simp [PyData.eqv] at e
    · obtain ⟨_, _, rfl⟩ := hq; simp [PyData.eqv] at e
  | .tup xs, y, p, q, hx, hy, hp, hq, e => by
    simp only [pyD, Option.map_eq_some_iff] at hp
    obtain ⟨ps, hps, rfl⟩ := hp
    cases y <;> simp only [pl, Bool.false_eq_true] at hy <;> simp only [pyD, Option.some.injEq, Option.map_eq_some_iff] at hq
    · subst hq; simp [PyData.eqv] at e
    · subst hq; simp [PyData.eqv] at e
    · subst hq; simp [PyData.eqv] at e
    · obtain ⟨qs, hqs, rfl⟩ := hq
      rw [pls_eq xs _ ps qs (by simpa [pl] using hx) hy hps hqs (by simpa [PyData.eqv] using e)]
    · obtain ⟨_, _, rfl⟩ := hq; simp [PyData.eqv] at e
  | .lst xs, y, p, q, hx, hy, hp, hq, e => by
    simp only [pyD, Option.map_eq_some_iff] at hp
    obtain ⟨ps, hps, rfl⟩ := hp
    cases y <;> simp only [pl, Bool.false_eq_true] at hy <;> simp only [pyD, Option.some.injEq, Option.map_eq_some_iff] at hq
    · subst hq; simp [PyData.eqv] at e
    · subst hq; simp [PyData.eqv] at e
    · subst hq; simp [PyData.eqv] at e
    · obtain ⟨_, _, rfl⟩ := hq; simp [PyData.eqv] at e
    · obtain ⟨qs, hqs, rfl⟩ := hq
      rw [pls_eq xs _ ps qs (by simpa [pl] using hx) hy hps hqs (by simpa [PyData.eqv] using e)]
  | .bl _, _, _, _, hx, _, _, _, _ => by simp [pl] at hx
  | .ty _, _, _, _, hx, _, _, _, _ => by simp [pl] at hx
  | .dct _ _ _, _, _, _, hx, _, _, _, _ => by simp [pl] at hx
  | .ktp _, _, _, _, hx, _, _, _, _ => by simp [pl] at hx
  | .obj _ _ _, _, _, _, hx, _, _, _, _ => by simp [pl] at hx
  | .hnd _, _, _, _, hx, _, _, _, _ => by simp [pl] at hx
  | .fn _, _, _, _, hx, _, _, _, _ => by simp [pl] at hx
  | .scr _, _, _, _, hx, _, _, _, _ => by simp [pl] at hx
theorem pls_eq : ∀ (xs ys : List D) (ps qs : List PyData), pls xs = true → pls ys = true → pyDs xs = some ps → pyDs ys = some qs → PyData.eqvAll ps qs = true → xs = ys
  | [], ys, ps, qs, _, hy, hp, hq, e => by
    simp only [pyDs, Option.some.injEq] at hp
    subst hp
    cases ys with
    | nil => rfl
    | cons y ys =>
      simp only [pyDs] at hq
      cases h1 : pyD y with
      | none => rw [h1] at hq; cases hq
      | some q1 =>
        cases h2 : pyDs ys with
        | none => rw [h1, h2] at hq; cases hq
        | some q2 =>
          rw [h1, h2] at hq
          cases hq
          simp [PyData.eqvAll] at e
  | x :: xs, ys, ps, qs, hx, hy, hp, hq, e => by
    simp only [pyDs] at hp
    cases k1 : pyD x with
    | none => rw [k1] at hp; cases hp
    | some p1 =>
      cases k2 : pyDs xs with
      | none => rw [k1, k2] at hp; cases hp
      | some p2 =>
        rw [k1, k2] at hp
        cases hp
        cases ys with
        | nil =>
          simp only [pyDs, Option.some.injEq] at hq
          subst hq
          simp [PyData.eqvAll] at e
        | cons y ys =>
          simp only [pyDs] at hq
          cases h1 : pyD y with
          | none => rw [h1] at hq; cases hq
          | some q1 =>
            cases h2 : pyDs ys with
            | none => rw [h1, h2] at hq; cases hq
            | some q2 =>
              rw [h1, h2] at hq
              cases hq
              simp only [PyData.eqvAll, Bool.and_eq_true] at e
              simp only [pls, Bool.and_eq_true] at hx hy
              rw [pl_eq x y p1 q1 hx.1 hy.1 k1 h1 e.1, pls_eq xs ys p2 q2 hx.2 hy.2 k2 h2 e.2]
end
theorem pls_map {α : Type} (f : α → D) : ∀ l : List α, (∀ x ∈ l, pl (f x) = true) → pls (l.map f) = true
  | [], _ => by simp [pls]
  | x :: l, h => by simp [pls, h x List.mem_cons_self, pls_map f l fun y hy => h y (List.mem_cons_of_mem _ hy)]
theorem strOk_tl {x : Str} (h : ∀ c ∈ tl x, c < 0x110000) : PyData.strOk x = true := by
  unfold PyData.strOk
  rw [Array.all_eq_true_iff_forall_mem]
  intro c hc
  exact decide_eq_true (h c (Array.mem_toList_iff.mpr hc))
theorem tl_strOk {x : Str} (h : PyData.strOk x = true) : ∀ c ∈ tl x, c < 0x110000 := by
  unfold PyData.strOk at h
  rw [Array.all_eq_true_iff_forall_mem] at h
  intro c hc
  exact of_decide_eq_true (h c (Array.mem_toList_iff.mp hc))
theorem strOk_app {x y : Str} (hx : PyData.strOk x = true) (hy : PyData.strOk y = true) : PyData.strOk (x ++ y) = true := strOk_tl fun c hc => by
  rw [tl_app, List.mem_append] at hc
  rcases hc with z | z
  · exact tl_strOk hx c z
  · exact tl_strOk hy c z
theorem strOk_join {y : Str} (hy : PyData.strOk y = true) : ∀ l : List Str, (∀ x ∈ l, PyData.strOk x = true) → PyData.strOk (Str.join y l) = true
  | [], _ => by show PyData.strOk Str.empty = true; decide +kernel
  | [x], h => h x List.mem_cons_self
  | x :: z :: r, h => strOk_app (strOk_app (h x List.mem_cons_self) hy) (strOk_join hy (z :: r) fun w hw => h w (List.mem_cons_of_mem _ hw))
theorem bl_ne {S : Store} {a b : Bool} : cmpD S .NotEq (.bl a) (.bl b) = some (!(a == b)) := by
  rw [ne_of ((Dt.bl (n := 0) a).ds (by omega)) ((Dt.bl (n := 0) b).ds (by omega))]
  simp [PyData.eqv]
theorem eq_strs {S : Store} {x y : Str} : cmpD S .Eq (.str x) (.str y) = some (x == y) := rfl
theorem ne_strs {S : Store} {x y : Str} : cmpD S .NotEq (.str x) (.str y) = some (!(x == y)) := rfl
theorem isnot_tt {S : Store} : cmpD S .IsNot (.bl true) (.bl true) = some false := rfl
end Fk
set_option Elab.async false
set_option linter.all false
set_option autoImplicit false
set_option maxRecDepth 100000
set_option maxHeartbeats 2000000
namespace K74
open PySem Fk
theorem fn_is_whole : txt.fn "is_whole" = some f_d_is_whole := by kernel_rfl
theorem isi_int_int {S : Store} {i : Int} : isiD S (.int i) "int" = some true := by kernel_rfl
theorem isi_int_bool {S : Store} {i : Int} : isiD S (.int i) "bool" = some false := by kernel_rfl
theorem is_whole_int {k : Nat} {S : Store} (i : Int) : callF txt.tab txt.fn (k + 1) "is_whole" [.int i] S = .ok (.bl true) S := by
  rw [callF_at fn_is_whole rfl]
  simp [f_d_is_whole, b_d_is_whole, fin, Fk.run, ev, Res.bind, Res.out, opt, optB, truth, deref, isi_int_int, isi_int_bool]
theorem is_whole_int' {k : Nat} {S : Store} (i : Int) : callF txt.tab txt.fn (k + 1) "is_whole" [.int i] S = .ok (.bl true) S := by kernel_rfl
theorem is_name_a {k : Nat} {S : Store} : callF txt.tab txt.fn (k + 1) "is_name" [.str "abcdefgh"] S = .ok (.bl true) S := by kernel_rfl
def kindNames : List Str := ["a", "b", "ab", "hall", "zz", "q", "abcdefgh"]
def doorNames : List Str := ["a", "d", "way", "x", "zzzzzzzz", "e", "f"]
theorem mem7 {P : Str → Prop} {a b c d e f g : Str} (h1 : P a) (h2 : P b) (h3 : P c) (h4 : P d) (h5 : P e) (h6 : P f) (h7 : P g) : ∀ x ∈ [a, b, c, d, e, f, g], P x := by
  intro x hx
  simp only [List.mem_cons, List.not_mem_nil, or_false] at hx
  rcases hx with rfl | rfl | rfl | rfl | rfl | rfl | rfl <;> assumption
theorem is_name_k {k : Nat} {S : Store} : ∀ x ∈ kindNames, callF txt.tab txt.fn (k + 1) "is_name" [.str x] S = .ok (.bl true) S := mem7 (by kernel_rfl) (by kernel_rfl) (by kernel_rfl) (by kernel_rfl) (by kernel_rfl) (by kernel_rfl) (by kernel_rfl)
theorem is_name_d {k : Nat} {S : Store} : ∀ x ∈ doorNames, callF txt.tab txt.fn (k + 1) "is_name" [.str x] S = .ok (.bl true) S := mem7 (by kernel_rfl) (by kernel_rfl) (by kernel_rfl) (by kernel_rfl) (by kernel_rfl) (by kernel_rfl) (by kernel_rfl)
end K74
namespace K74
open PySem Fk
def fanTab : List (D × Str) := [((.tup [.int 0, .non]), ("0-*" : Str)), ((.tup [.int 0, .int 1]), ("0-1" : Str)), ((.tup [.int 0, .int 2]), ("0-2" : Str)), ((.tup [.int 0, .int 3]), ("0-3" : Str)), ((.tup [.int 0, .int 4]), ("0-4" : Str)), ((.tup [.int 1, .non]), ("1-*" : Str)), ((.tup [.int 1, .int 1]), ("1-1" : Str)), ((.tup [.int 1, .int 2]), ("1-2" : Str)), ((.tup [.int 1, .int 3]), ("1-3" : Str)), ((.tup [.int 1, .int 4]), ("1-4" : Str)), ((.tup [.int 2, .non]), ("2-*" : Str)), ((.tup [.int 2, .int 2]), ("2-2" : Str)), ((.tup [.int 2, .int 3]), ("2-3" : Str)), ((.tup [.int 2, .int 4]), ("2-4" : Str)), ((.tup [.int 3, .non]), ("3-*" : Str)), ((.tup [.int 3, .int 3]), ("3-3" : Str)), ((.tup [.int 3, .int 4]), ("3-4" : Str)), ((.tup [.int 4, .non]), ("4-*" : Str)), ((.tup [.int 4, .int 4]), ("4-4" : Str))]
theorem fan_len : ∀ p ∈ fanTab, p.2.length = 3 := by decide +kernel
theorem fan_sep : ∀ p ∈ fanTab, 32 ∉ tl p.2 ∧ 10 ∉ tl p.2 := by decide +kernel
end K74
namespace K74
open PySem Fk
structure Door where
  n : Str
  s : Str
  g : Str
  o : D × Str
  i : D × Str
structure Bk where
  ks : List Str
  rs : List (Str × Str)
  ds : List Door
def ruleD (r : Str × Str) : D := .tup [.str r.1, .str r.2]
def doorD (d : Door) : D := .tup [.str d.n, .str d.s, .str d.g, d.o.1, d.i.1]
def bookD (b : Bk) : D := .tup [.tup (b.ks.map .str), .tup (b.rs.map ruleD), .tup (b.ds.map doorD)]
def sp : Str := " "
def ln : Str := "\n"
/-- small enough -/
structure Sm (b : Bk) : Prop where
  k : b.ks.length ≤ 10
  kl : ∀ x ∈ b.ks, x.length ≤ 8
  r : b.rs.length ≤ 10
  rl : ∀ x ∈ b.rs, x.1.length ≤ 8 ∧ x.2.length ≤ 8
  d : b.ds.length ≤ 10
  dl : ∀ x ∈ b.ds, x.n.length ≤ 8 ∧ x.s.length ≤ 8 ∧ x.g.length ≤ 8 ∧ x.o ∈ fanTab ∧ x.i ∈ fanTab
@[simp] theorem at0 {α : Type} {x : α} {l : List α} : L2.atI (x :: l) 0 = some x := by
  simp [L2.atI, L2.ixN]
@[simp] theorem at1 {α : Type} {x y : α} {l : List α} : L2.atI (x :: y :: l) 1 = some y := by
  have h : (1 : Int) < (l.length : Int) + 1 + 1 := by omega
  simp [L2.atI, L2.ixN, h]
@[simp] theorem at2 {α : Type} {x y z : α} {l : List α} : L2.atI (x :: y :: z :: l) 2 = some z := by
  have h : (2 : Int) < (l.length : Int) + 1 + 1 + 1 := by omega
  simp [L2.atI, L2.ixN, h]
theorem jn (y : Str) (l : List Str) : Txt.join y l = Str.join y l := PySem.StrLaws.glued_eq_join y l
theorem add_ln {S : Store} {x : Str} (h : x.length ≤ 1000) : binD S .Add (.str x) (.str "\n") = some (.str (x ++ ln)) := by
  have : ("\n" : Str).length = 1 := by decide +kernel
  rw [add_str, this, sline, if_pos (by omega)]
  rfl
theorem len_app (x y : Str) : (x ++ y).length = x.length + y.length := by
  show (x.cps ++ y.cps).size = _
  simp [Str.length]
theorem jlen (n : Nat) : ∀ l : List Str, (∀ x ∈ l, x.length ≤ n) → (Str.join sp l).length ≤ l.length * (n + 1)
  | [], _ => by simp [Str.join, Str.length, Str.empty]
  | [x], h => by
    have := h x List.mem_cons_self
    show x.length ≤ _
    simp
    omega
  | x :: y :: r, h => by
    have h1 := h x List.mem_cons_self
    have ih := jlen n (y :: r) fun z hz => h z (List.mem_cons_of_mem _ hz)
    have hs : sp.length = 1 := by decide +kernel
    show (x ++ sp ++ Str.join sp (y :: r)).length ≤ _
    rw [len_app, len_app, hs]
    rw [List.length_cons, Nat.succ_mul]
    omega
theorem lc_eta : (fun x : Str => D.str x) = D.str := rfl
end K74
namespace K74
open PySem Fk
theorem joinF_all : ∀ (l : List Str) (acc : Str), acc.length + (l.map (·.length)).sum ≤ sizeLine → joinF (l.map .str) acc = some (l.foldl (· ++ ·) acc)
  | [], acc, _ => rfl
  | x :: l, acc, h => by
    have h' : acc.length + (x.length + (l.map (·.length)).sum) ≤ sizeLine := by simpa using h
    have e : (acc ++ x).length = acc.length + x.length := len_app acc x
    show (if (acc ++ x).length ≤ sizeLine then joinF (l.map .str) (acc ++ x) else none) = _
    rw [if_pos (by omega), joinF_all l (acc ++ x) (by omega)]
    rfl
@[simp] theorem strOf_str {x : Str} : strOf (.str x) = if x.length ≤ sizeLine then some x else none := rfl
end K74
namespace K74
open PySem Fk
theorem fn_an : txt.fn "are_names" = some f_d_are_names := by kernel_rfl
theorem are_names_ok {k : Nat} {S : Store} {l : List Str} (hn : ∀ x ∈ l, ∀ (k : Nat) (S : Store), callF txt.tab txt.fn (k + 1) "is_name" [.str x] S = .ok (.bl true) S) (ho : ∀ x ∈ l, PyData.strOk x = true) (hl : l.length ≤ 1000) (hr : Rise (fun x y => tl x < tl y) l) :
    callF txt.tab txt.fn (k + 2) "are_names" [.tup (l.map .str)] S = .ok (.bl true) S := by
  have c1 := lc_map (tg := .var 1) (own := [1]) (e := ev txt.tab (callF txt.tab txt.fn (k + 1)) (.call "is_name" (.cons (.var 1) .nil))) (gs := []) (S := S) (env := [some (.tup (l.map .str)), none, none]) D.str (fun _ => .bl true) l (fun x hx => ⟨_, rfl, by simp [wipeE, hn x hx k S]⟩) (by rw [sline]; omega)
  have c2 := lc_map (tg := .tup (.cons (.var 1) (.cons (.var 2) .nil))) (own := [1, 2]) (e := ev txt.tab (callF txt.tab txt.fn (k + 1)) (.cmp .Lt (.var 1) (.var 2))) (gs := []) (S := S) (env := [some (.tup (l.map .str)), none, none]) (fun p : Str × Str => D.tup [.str p.1, .str p.2]) (fun _ => .bl true) (l.zip l.tail) (fun x hx => ⟨_, rfl, by
      have h1 : x.1 ∈ l := (List.of_mem_zip hx).1
      have h2 : x.2 ∈ l := List.mem_of_mem_tail (List.of_mem_zip hx).2
      simp [wipeE, str_lt (ho _ h1) (ho _ h2)]
      exact hr x hx⟩) (by rw [sline, List.length_zip]; omega)
  rw [callF_at fn_an rfl]
  show fin f_d_are_names S (Fk.run txt.tab (callF txt.tab txt.fn (k + 1)) b_d_are_names [some (.tup (l.map .str)), none, none] S) = _
  have := zip_map D.str l
  simp [b_d_are_names, isi_tup, cT_of, c1, c2, bf_all, all_true, slc1_tup, itZT, gzT, this, fin_keep (F := f_d_are_names) rfl]
theorem in_strs {S : Store} {x : Str} {ks : List Str} (h : x ∈ ks) (ho : ∀ x ∈ ks, PyData.strOk x = true) : cmpD S .In (.str x) (.tup (ks.map .str)) = some true := by
  have d1 : Ds S (.str x) (.str x) := (Dt.str (n := 0) (ho x h)).ds (by omega)
  have t : Dts 0 (ks.map D.str) (ks.map PyData.str) := Dts.of D.str PyData.str fun y hy => Dt.str (ho y hy)
  have d2 : Ds S (.tup (ks.map .str)) (.tuple (ks.map .str)) := (Dt.tup t).ds (by omega)
  have d3 : SeqAt.shaped (.list (ks.map PyData.str)) = true := (Dt.lst t).shaped (by omega)
  show inD S (.str x) (.tup (ks.map .str)) = _
  unfold inD
  simp only [deref_tup', d1.py, d2.py]
  rw [d1.sh, d3]
  simp only [Bool.and_self, if_true]
  refine congrArg some ?_
  rw [List.any_eq_true]
  exact ⟨.str x, List.mem_map.mpr ⟨x, h, rfl⟩, by simp [PyData.eqv]⟩
structure Gd (b : Bk) : Prop where
  kn : ∀ x ∈ b.ks, x ∈ kindNames
  k1 : 1 ≤ b.ks.length
  k6 : b.ks.length ≤ 6
  ku : Rise (fun x y => tl x < tl y) b.ks
  rk : ∀ r ∈ b.rs, r.1 ∈ b.ks ∧ r.2 ∈ b.ks ∧ r.1 ≠ r.2
  r10 : b.rs.length ≤ 10
  ru : Rise (fun r s => PySem.W.dataLt (.tuple [.str r.1, .str r.2]) (.tuple [.str s.1, .str s.2]) = true) b.rs
  dk : ∀ d ∈ b.ds, d.n ∈ doorNames ∧ d.s ∈ b.ks ∧ d.g ∈ b.ks ∧ d.o ∈ fanTab ∧ d.i ∈ fanTab
  d6 : b.ds.length ≤ 6
  du : Rise (fun d e => tl d.n < tl e.n) b.ds
theorem kn_ok : ∀ x ∈ kindNames, PyData.strOk x = true ∧ x.length ≤ 8 ∧ 1 ≤ x.length ∧ 32 ∉ tl x ∧ 10 ∉ tl x := by decide +kernel
theorem dn_ok : ∀ x ∈ doorNames, PyData.strOk x = true ∧ x.length ≤ 8 ∧ 1 ≤ x.length ∧ 32 ∉ tl x ∧ 10 ∉ tl x := by decide +kernel
theorem Gd.sm {b : Bk} (g : Gd b) : Sm b := ⟨by have := g.k6; omega, fun x hx => (kn_ok x (g.kn x hx)).2.1, g.r10, fun x hx => ⟨(kn_ok _ (g.kn _ (g.rk x hx).1)).2.1, (kn_ok _ (g.kn _ (g.rk x hx).2.1)).2.1⟩, by have := g.d6; omega,
  fun x hx => ⟨(dn_ok _ (g.dk x hx).1).2.1, (kn_ok _ (g.kn _ (g.dk x hx).2.1)).2.1, (kn_ok _ (g.kn _ (g.dk x hx).2.2.1)).2.1, (g.dk x hx).2.2.2.1, (g.dk x hx).2.2.2.2⟩⟩
theorem Gd.ko {b : Bk} (g : Gd b) : ∀ x ∈ b.ks, PyData.strOk x = true := fun x hx => (kn_ok x (g.kn x hx)).1
@[simp] theorem at3 {α : Type} {x y z u : α} {l : List α} : L2.atI (x :: y :: z :: u :: l) 3 = some u := by
  have h : (3 : Int) < (l.length : Int) + 1 + 1 + 1 + 1 := by omega
  simp [L2.atI, L2.ixN, h]
@[simp] theorem at4 {α : Type} {x y z u v : α} {l : List α} : L2.atI (x :: y :: z :: u :: v :: l) 4 = some v := by
  have h : (4 : Int) < (l.length : Int) + 1 + 1 + 1 + 1 + 1 := by omega
  simp [L2.atI, L2.ixN, h]
theorem rule_dt {r : Str × Str} (h1 : PyData.strOk r.1 = true) (h2 : PyData.strOk r.2 = true) : Dt 1 (ruleD r) (.tuple [.str r.1, .str r.2]) := Dt.tup (.cons (.str h1) (.cons (.str h2) .nil))
theorem rule_lt {S : Store} {r s : Str × Str} (h1 : PyData.strOk r.1 = true) (h2 : PyData.strOk r.2 = true) (h3 : PyData.strOk s.1 = true) (h4 : PyData.strOk s.2 = true) : cmpD S .Lt (ruleD r) (ruleD s) = some (PySem.W.dataLt (.tuple [.str r.1, .str r.2]) (.tuple [.str s.1, .str s.2])) :=
  lt_of ((rule_dt h1 h2).ds (by omega)) ((rule_dt h3 h4).ds (by omega)) (by simp [PySem.W.alike, PySem.W.alikeAll]) rfl
theorem tuple_lst {S : Store} {xs : List D} : bifD S "tuple" [.lst xs] = some (.tup xs) := by kernel_rfl
theorem rise_map {α β : Type} {R : β → β → Prop} (f : α → β) {l : List α} (h : Rise (fun x y => R (f x) (f y)) l) : Rise R (l.map f) := fun p hp => by
  rw [← List.map_tail, List.zip_map] at hp
  obtain ⟨q, hq, rfl⟩ := List.mem_map.mp hp
  exact h q hq
end K74
namespace K74
open PySem Fk
section
variable {S : Store} {ks rs ds : List D} {d : D}
end
theorem one_ds {S : Store} {x : Str} (h : PyData.strOk x = true) : Ds S (.tup [.str x]) (.tuple [.str x]) := (Dt.tup (n := 0) (.cons (.str h) .nil)).ds (by omega)
theorem nil_ds {S : Store} : Ds S (.tup []) (.tuple []) := (Dt.tup (n := 0) .nil).ds (by omega)
theorem nilL_ds {S : Store} : Ds S (.lst []) (.list []) := (Dt.lst (n := 0) .nil).ds (by omega)
theorem fn_rising : txt.fn "is_rising" = some f_d_is_rising := by kernel_rfl
/-- is_rising of a tuple -/
theorem rising_t {α : Type} {k : Nat} {S : Store} (f : α → D) (l : List α) (hl : l.length ≤ 1000) (h : ∀ p ∈ l.zip l.tail, cmpD S .Lt (f p.1) (f p.2) = some true) : callF txt.tab txt.fn (k + 1) "is_rising" [.tup (l.map f)] S = .ok (.bl true) S := by
  have c2 := lc_map (tg := .tup (.cons (.var 1) (.cons (.var 2) .nil))) (own := [1, 2]) (e := ev txt.tab (callF txt.tab txt.fn k) (.cmp .Lt (.var 1) (.var 2))) (gs := []) (S := S) (env := [some (.tup (l.map f)), none, none]) (fun p : α × α => D.tup [f p.1, f p.2]) (fun _ => .bl true) (l.zip l.tail) (fun x hx => ⟨_, rfl, by simp [wipeE, h x hx]⟩) (by rw [sline, List.length_zip]; omega)
  rw [callF_at fn_rising rfl]
  show fin f_d_is_rising S (Fk.run txt.tab (callF txt.tab txt.fn k) b_d_is_rising [some (.tup (l.map f)), none, none] S) = _
  have hz := zip_map f l
  simp [b_d_is_rising, c2, bf_all, all_true, slc1_tup, itZT, gzT, hz, fin_keep (F := f_d_is_rising) rfl]
theorem rising_l {α : Type} {k : Nat} {S : Store} (f : α → D) (l : List α) (hl : l.length ≤ 1000) (h : ∀ p ∈ l.zip l.tail, cmpD S .Lt (f p.1) (f p.2) = some true) : callF txt.tab txt.fn (k + 1) "is_rising" [.lst (l.map f)] S = .ok (.bl true) S := by
  have c2 := lc_map (tg := .tup (.cons (.var 1) (.cons (.var 2) .nil))) (own := [1, 2]) (e := ev txt.tab (callF txt.tab txt.fn k) (.cmp .Lt (.var 1) (.var 2))) (gs := []) (S := S) (env := [some (.lst (l.map f)), none, none]) (fun p : α × α => D.tup [f p.1, f p.2]) (fun _ => .bl true) (l.zip l.tail) (fun x hx => ⟨_, rfl, by simp [wipeE, h x hx]⟩) (by rw [sline, List.length_zip]; omega)
  rw [callF_at fn_rising rfl]
  show fin f_d_is_rising S (Fk.run txt.tab (callF txt.tab txt.fn k) b_d_is_rising [some (.lst (l.map f)), none, none] S) = _
  have hz := zip_map f l
  simp [b_d_is_rising, c2, bf_all, all_true, slc1_lst, itZL, gzL, hz, fin_keep (F := f_d_is_rising) rfl]
end K74
namespace K74
open PySem Fk
theorem mem_zt {α : Type} {l : List α} {p : α × α} : p ∈ l.zip l.tail ↔ ∃ i, l[i]? = some p.1 ∧ l[i + 1]? = some p.2 := by
  constructor
  · intro h
    obtain ⟨i, hi⟩ := List.getElem?_of_mem h
    obtain ⟨h1, h2⟩ := List.getElem?_zip_eq_some.mp hi
    rw [List.getElem?_tail] at h2
    exact ⟨i, h1, h2⟩
  · rintro ⟨i, h1, h2⟩
    refine List.mem_of_getElem? (i := i) (List.getElem?_zip_eq_some.mpr ⟨h1, ?_⟩)
    rw [List.getElem?_tail]
    exact h2
theorem rise_drop {α : Type} {R : α → α → Prop} {l : List α} (n : Nat) (h : Rise R l) : Rise R (l.drop n) := fun p hp => by
  obtain ⟨i, h1, h2⟩ := mem_zt.mp hp
  rw [List.getElem?_drop] at h1 h2
  exact h p (mem_zt.mpr ⟨n + i, h1, by rw [← h2]; rfl⟩)
theorem rise_take {α : Type} {R : α → α → Prop} {l : List α} (n : Nat) (h : Rise R l) : Rise R (l.take n) := fun p hp => by
  obtain ⟨i, h1, h2⟩ := mem_zt.mp hp
  have t : ∀ {j : Nat} {x : α}, (l.take n)[j]? = some x → l[j]? = some x := fun {j x} e => by
    have hj := (List.getElem?_eq_some_iff.mp e).1
    rw [List.length_take] at hj
    rw [List.getElem?_take_of_lt (by omega)] at e
    exact e
  exact h p (mem_zt.mpr ⟨i, t h1, t h2⟩)
theorem cut2 {α : Type} (f : α → D) (l : List α) : cutD (l.map f) (some (-2)) none = (l.drop (l.length - 2)).map f := by
  unfold cutD
  have e1 : HT.sIx (l.map f).length 0 (some (-2)) = l.length - 2 := by simp [HT.sIx]; try omega
  have e2 : HT.sIx (l.map f).length (l.map f).length none = l.length := by simp [HT.sIx]
  rw [e1, e2, List.map_drop, List.take_of_length_le]
  simp
  try omega
@[simp] theorem at5 {α : Type} {x y z u v w : α} {l : List α} : L2.atI (x :: y :: z :: u :: v :: w :: l) 5 = some w := by
  have h : (5 : Int) < (l.length : Int) + 1 + 1 + 1 + 1 + 1 + 1 := by omega
  simp [L2.atI, L2.ixN, h]
theorem door_dt {d : Door} (h1 : PyData.strOk d.n = true) (h2 : PyData.strOk d.s = true) (h3 : PyData.strOk d.g = true) (h4 : d.o ∈ fanTab) (h5 : d.i ∈ fanTab) : ∃ p, Dt 2 (doorD d) p := by
  have f : ∀ x ∈ fanTab, ∃ p, Dt 1 x.1 p := by
    intro x hx
    have key : ∀ y ∈ fanTab, (∃ i j, y.1 = .tup [.int i, .int j]) ∨ ∃ i, y.1 = .tup [.int i, .non] := by
      intro y hy
      simp only [fanTab, List.mem_cons, List.not_mem_nil, or_false] at hy
      rcases hy with rfl | rfl | rfl | rfl | rfl | rfl | rfl | rfl | rfl | rfl | rfl | rfl | rfl | rfl | rfl | rfl | rfl | rfl | rfl <;> first | exact .inl ⟨_, _, rfl⟩ | exact .inr ⟨_, rfl⟩
    rcases key x hx with ⟨i, j, e⟩ | ⟨i, e⟩
    · rw [e]; exact ⟨_, Dt.tup (n := 0) (.cons (.int i) (.cons (.int j) .nil))⟩
    · rw [e]; exact ⟨_, Dt.tup (n := 0) (.cons (.int i) (.cons .non .nil))⟩
  obtain ⟨p4, q4⟩ := f _ h4
  obtain ⟨p5, q5⟩ := f _ h5
  exact ⟨_, Dt.tup (n := 1) (.cons (.str h1) (.cons (.str h2) (.cons (.str h3) (.cons q4 (.cons q5 .nil)))))⟩
theorem at_last {α : Type} {l : List α} {x : α} : L2.atI (l ++ [x]) (-1) = some x := by
  have h : (1 : Int) ≤ (l.length : Int) + 1 := by omega
  have h2 : (-1 + ((l.length : Int) + 1)).toNat = l.length := by omega
  simp [L2.atI, L2.ixN, h, h2]
end K74
namespace K74
open PySem Fk
section
variable {S : Store} {ks rs ds : List D}
end
theorem sp32 : (" " : Str) = ⟨#[32]⟩ := by decide +kernel
theorem ln10 : ("\n" : Str) = ⟨#[10]⟩ := by decide +kernel
theorem split_sp {S : Store} {ws : List Str} (hn : ws ≠ []) (h : ∀ w ∈ ws, 32 ∉ tl w) (hl : (Str.join sp ws).length ≤ 1000) : bimD S (.str (Str.join sp ws)) "split" [.str " "] = some (.lst (ws.map .str), S) := by
  rw [bim_split]
  have h1 : (" " : Str).length ≠ 0 := by decide +kernel
  simp only
  rw [sline, if_pos ⟨h1, by omega⟩]
  have e : Txt.split (Str.join sp ws) " " = ws := by
    show Txt.split (Str.join (" " : Str) ws) " " = ws
    rw [sp32]
    exact split_join hn h
  rw [e]
theorem kinds_ds {S : Store} {ks : List Str} (ko : ∀ x ∈ ks, PyData.strOk x = true) : Ds S (.tup (ks.map .str)) (.tuple (ks.map .str)) := (Dt.tup (Dts.of D.str PyData.str fun y hy => Dt.str (n := 0) (ko y hy))).ds (by omega)
end K74
namespace K74
open PySem Fk
theorem tl_concat : ∀ ls : List Str, tl (Str.join "" (ls.map (· ++ ln))) = jl 10 ((ls ++ [("" : Str)]).map tl)
  | [] => by decide +kernel
  | [x] => by
    show tl (x ++ ln) = tl x ++ 10 :: tl ""
    rw [tl_app]
    rfl
  | x :: y :: r => by
    have ih := tl_concat (y :: r)
    show tl ((x ++ ln) ++ "" ++ Str.join "" ((y :: r).map (· ++ ln))) = tl x ++ 10 :: jl 10 (((y :: r) ++ [("" : Str)]).map tl)
    rw [tl_app, tl_app, tl_app, ih]
    have e1 : tl ln = [10] := by decide +kernel
    have e2 : tl ("" : Str) = [] := by decide +kernel
    rw [e1, e2]
    simp
theorem fn_eo : txt.fn "ends_of" = some f_d_ends_of := by kernel_rfl
theorem cut_last {S : Store} {xs : List D} {x : D} : slcD S (.lst (xs ++ [x])) none (some (-1)) = some (.lst xs) := by
  show some (D.lst (cutD (xs ++ [x]) none (some (-1)))) = _
  have e1 : HT.sIx (xs ++ [x]).length 0 none = 0 := by simp [HT.sIx]
  have e2 : HT.sIx (xs ++ [x]).length (xs ++ [x]).length (some (-1)) = xs.length := by
    have h2 : (-1 + ((xs.length : Int) + 1)).toNat = xs.length := by omega
    simp [HT.sIx, h2]
  unfold cutD
  rw [e1, e2]
  simp
theorem fan_dt : ∀ x ∈ fanTab, ∃ p, Dt 1 x.1 p := by
  intro x hx
  have key : ∀ y ∈ fanTab, (∃ i j, y.1 = .tup [.int i, .int j]) ∨ ∃ i, y.1 = .tup [.int i, .non] := by
    intro y hy
    simp only [fanTab, List.mem_cons, List.not_mem_nil, or_false] at hy
    rcases hy with rfl | rfl | rfl | rfl | rfl | rfl | rfl | rfl | rfl | rfl | rfl | rfl | rfl | rfl | rfl | rfl | rfl | rfl | rfl <;> first | exact .inl ⟨_, _, rfl⟩ | exact .inr ⟨_, rfl⟩
  rcases key x hx with ⟨i, j, e⟩ | ⟨i, e⟩
  · rw [e]; exact ⟨_, Dt.tup (n := 0) (.cons (.int i) (.cons (.int j) .nil))⟩
  · rw [e]; exact ⟨_, Dt.tup (n := 0) (.cons (.int i) (.cons .non .nil))⟩
theorem dts_ex {α : Type} {n : Nat} (f : α → D) : ∀ l : List α, (∀ x ∈ l, ∃ p, Dt n (f x) p) → ∃ ps, Dts n (l.map f) ps
  | [], _ => ⟨[], .nil⟩
  | a :: l, h => by
    obtain ⟨p, hp⟩ := h a List.mem_cons_self
    obtain ⟨ps, hps⟩ := dts_ex f l fun y hy => h y (List.mem_cons_of_mem _ hy)
    exact ⟨p :: ps, .cons hp hps⟩
theorem book_dt {b : Bk} (g : Gd b) : ∃ p, Dt 4 (bookD b) p := by
  obtain ⟨p1, q1⟩ := dts_ex (n := 3) D.str b.ks fun x hx => ⟨_, .str (g.ko x hx)⟩
  obtain ⟨p2, q2⟩ := dts_ex (n := 2) ruleD b.rs fun x hx => ⟨_, (rule_dt (g.ko _ (g.rk x hx).1) (g.ko _ (g.rk x hx).2.1)).mono (by omega)⟩
  obtain ⟨p3, q3⟩ := dts_ex (n := 2) doorD b.ds fun x hx => by
    obtain ⟨h1, h2, h3, h4, h5⟩ := g.dk x hx
    exact door_dt (dn_ok _ h1).1 (g.ko _ h2) (g.ko _ h3) h4 h5
  exact ⟨_, Dt.tup (n := 3) (.cons ((Dt.tup (n := 2) (q1 |> fun q => ⟨q.py, q.fz, q.ok, by
    have := (Dts.of D.str PyData.str (l := b.ks) fun y hy => Dt.str (n := 0) (g.ko y hy))
    have e := this.py.symm.trans q.py
    cases e
    exact Nat.le_trans this.dp (by omega)⟩))) (.cons (Dt.tup (n := 2) q2) (.cons (Dt.tup (n := 2) q3) .nil)))⟩
end K74
namespace K74
open PySem Fk
theorem enu_it {S : Store} {ds : List D} {a : M} : itemsM (.enu a) S (.lst ds) = some (ds.mapIdx fun i x => .tup [.int i, x]) := rfl
theorem enu_g {ds : List D} {a : M} : guardsM (.enu a) (.lst ds) = [] := rfl
theorem setA_new {S : Store} {c f : Str} {fs : List Str} {vs : List D} {d : D} {l : List D} (h : txt.tab.fld c f = true) (hl : fs.length < 1000) : setA txt.tab.fld (S ++ D.obj c fs vs :: l) (.hnd S.length) f d = some (S ++ D.obj c (putFD f d fs vs).1 (putFD f d fs vs).2 :: l) := by
  unfold setA
  have : deref (S ++ D.obj c fs vs :: l) (.hnd S.length) = .obj c fs vs := deref_hnd (by simp)
  rw [this]
  simp only
  rw [if_pos ⟨hl, h⟩]
  simp
end K74
namespace K74
open PySem Fk
theorem fn_same : txt.fn "_law_same" = some f_d__law_same := by kernel_rfl
theorem same_ok {k n m w w' : Nat} {S : Store} {x y : D} {p : PyData} (a : Rp n w x p) (b : Rp m w' y p) (h1 : n ≤ 64) (h2 : m ≤ 64) (h3 : w ≤ 1048576) (h4 : w' ≤ 1048576) : callF txt.tab txt.fn (k + 1) "_law_same" [x, y] S = .ok (.bl true) S := by
  have e : cmpD S .Eq (.str p.shown) (.str p.shown) = some true := by
    show some (p.shown == p.shown) = _
    simp
  rw [callF_at fn_same rfl]
  show fin f_d__law_same S (Fk.run txt.tab (callF txt.tab txt.fn k) b_d__law_same [some x, some y] S) = _
  simp [b_d__law_same, a.repr h1 h3, b.repr h2 h4, e, fin_keep (F := f_d__law_same) rfl]
end K74
namespace K74
open PySem Fk
theorem fn_next : txt.fn "_law_next" = some f_d__law_next := by kernel_rfl
/-- the deck: its figures, the place -/
structure Deck (S : Store) (at_ : Int) : Prop where
  ex : ∃ ds : List Int, S[0]? = some (.lst (ds.map .int)) ∧ (∀ d ∈ ds, 0 ≤ d ∧ d < 2147483648) ∧ ds.length ≤ 100000
  pl : S[1]? = some (.lst [.int at_, .hnd 0])
  lo : 0 ≤ at_
  hi : at_ ≤ 100000
def adv (S : Store) (at_ : Int) : Store := S.set 1 (.lst [.int at_, .hnd 0])
theorem next_ok {k : Nat} {S : Store} {a : Int} (h : Deck S a) : ∃ v, 0 ≤ v ∧ callF txt.tab txt.fn (k + 1) "_law_next" [.hnd 1] S = .ok (.int v) (adv S (a + 1)) := by
  obtain ⟨ds, h0, hd, hl⟩ := h.ex
  have h1 := h.pl
  have lo := h.lo
  have hi := h.hi
  have n1 : 1 < S.length := (List.getElem?_eq_some_iff.mp h1).1
  have g0 : (adv S (a + 1))[0]? = some (.lst (ds.map .int)) := by
    unfold adv
    rw [List.getElem?_set_ne (by omega)]
    exact h0
  have g1 : (adv S (a + 1))[1]? = some (.lst [.int (a + 1), .hnd 0]) := by
    unfold adv
    rw [List.getElem?_set_self n1]
  have s1 : subD S (.hnd 1) (.int 0) = some (.int a) := by rw [sub_hl h1]; simp
  have s2 : setD S (.hnd 1) (.int 0) (.int (a + 1)) = some (adv S (a + 1)) := by
    rw [set_hl (j := 0) h1 (by simp [L2.ixN])]
    rfl
  have s3 : subD (adv S (a + 1)) (.hnd 1) (.int 1) = some (.hnd 0) := by rw [sub_hl g1]; simp
  have s4 : bifD (adv S (a + 1)) "len" [.hnd 0] = some (.int ds.length) := by rw [len_hl g0]; simp
  rw [callF_at fn_next rfl]
  show ∃ v, 0 ≤ v ∧ fin f_d__law_next S (Fk.run txt.tab (callF txt.tab txt.fn k) b_d__law_next [some (.hnd 1), none, none, none] S) = _
  by_cases hc : a < ds.length
  · obtain ⟨v, hv, e⟩ := at_ok lo hc
    refine ⟨v, (hd v hv).1, ?_⟩
    have s5 : subD (adv S (a + 1)) (.hnd 0) (.int a) = some (.int v) := by rw [sub_hl g0, e]
    simp [b_d__law_next, s1, s2, s3, s4, hc, s5, fin_keep (F := f_d__law_next) rfl]
  · by_cases hz : ds.length = 0
    · refine ⟨(a + 1) * (a + 1) * (a + 3) * 48271 % 2147483629, Int.emod_nonneg _ (by decide), ?_⟩
      have m1 : ∀ {S : Store}, binD S .Mult (.int (a + 1)) (.int (a + 1)) = some (.int ((a + 1) * (a + 1))) := mul_int (.inl (by omega))
      have m2 : ∀ {S : Store}, binD S .Mult (.int ((a + 1) * (a + 1))) (.int (a + 3)) = some (.int ((a + 1) * (a + 1) * (a + 3))) := mul_int (.inr (by omega))
      have m3 : ∀ {S : Store}, binD S .Mult (.int ((a + 1) * (a + 1) * (a + 3))) (.int 48271) = some (.int ((a + 1) * (a + 1) * (a + 3) * 48271)) := mul_int (.inr (by decide))
      have hz' : ((ds.length : Int) == 0) = true := by rw [hz]; rfl
      simp [b_d__law_next, s1, s2, s3, s4, hc, hz', m1, m2, m3, mod_int, fin_keep (F := f_d__law_next) rfl]
    · have hp : (0 : Int) < ds.length := by omega
      obtain ⟨v1, hv1, e1⟩ := at_ok (xs := ds) (i := a % ds.length) (Int.emod_nonneg _ (by omega)) (Int.emod_lt_of_pos _ hp)
      obtain ⟨v2, hv2, e2⟩ := at_ok (xs := ds) (i := a * 5 % ds.length) (Int.emod_nonneg _ (by omega)) (Int.emod_lt_of_pos _ hp)
      have b1 := hd v1 hv1
      have b2 := hd v2 hv2
      have s5 : subD (adv S (a + 1)) (.hnd 0) (.int (a % ds.length)) = some (.int v1) := by rw [sub_hl g0, e1]
      have s6 : subD (adv S (a + 1)) (.hnd 0) (.int (a * 5 % ds.length)) = some (.int v2) := by rw [sub_hl g0, e2]
      have q1 : a * a ≤ 100000 * 100000 := Int.mul_le_mul hi hi lo (by decide)
      have q0 : 0 ≤ a * a := Int.mul_nonneg lo lo
      refine ⟨(v1 + 7 * v2 + a * a * 40503 + 1) * (v1 + 7 * v2 + a * a * 40503 + 1) % 2147483629, Int.emod_nonneg _ (by decide), ?_⟩
      have m1 : ∀ {S : Store}, binD S .Mult (.int a) (.int 5) = some (.int (a * 5)) := mul_int (.inr (by decide))
      have m2 : ∀ {S : Store}, binD S .Mult (.int 7) (.int v2) = some (.int (7 * v2)) := mul_int (.inl (by decide))
      have m3 : ∀ {S : Store}, binD S .Mult (.int a) (.int a) = some (.int (a * a)) := mul_int (.inl (by omega))
      have m4 : ∀ {S : Store}, binD S .Mult (.int (a * a)) (.int 40503) = some (.int (a * a * 40503)) := mul_int (.inr (by decide))
      have m5 : ∀ {S : Store}, binD S .Mult (.int (v1 + 7 * v2 + a * a * 40503 + 1)) (.int (v1 + 7 * v2 + a * a * 40503 + 1)) = some (.int ((v1 + 7 * v2 + a * a * 40503 + 1) * (v1 + 7 * v2 + a * a * 40503 + 1))) := mul_int (.inl (by omega))
      have hz' : ((ds.length : Int) == 0) = false := by rw [beq_eq_false_iff_ne]; omega
      have d1 : ∀ {S : Store}, binD S .Mod (.int a) (.int ds.length) = some (.int (a % ds.length)) := mod_int hp
      have d2 : ∀ {S : Store}, binD S .Mod (.int (a * 5)) (.int ds.length) = some (.int (a * 5 % ds.length)) := mod_int hp
      simp [b_d__law_next, s1, s2, s3, s4, hc, hz', d1, d2, m1, m2, m3, m4, m5, mod_int, s5, s6, fin_keep (F := f_d__law_next) rfl]
end K74
namespace K74
open PySem Fk
theorem adv_deck {S : Store} {a : Int} (h : Deck S a) (hi : a + 1 ≤ 100000) : Deck (adv S (a + 1)) (a + 1) := by
  have n1 : 1 < S.length := (List.getElem?_eq_some_iff.mp h.pl).1
  have lo := h.lo
  refine ⟨?_, ?_, by omega, hi⟩
  · obtain ⟨ds, h0, h1, h2⟩ := h.ex
    refine ⟨ds, ?_, h1, h2⟩
    unfold adv
    rw [List.getElem?_set_ne (by omega)]
    exact h0
  · unfold adv
    rw [List.getElem?_set_self n1]
theorem adv_adv {S : Store} {a b : Int} : adv (adv S a) b = adv S b := by simp [adv]
theorem fn_fan : txt.fn "_law_fan" = some f_d__law_fan := by kernel_rfl
/-- the fan that three small figures give -/
def fanOf (r q p : Int) : D :=
  let low := ([0, 0, 1, 1, 2, 3, 4] : List Int).getD r.toNat 0
  let m := if low > 1 then low else 1
  .tup [.int low, ([D.non, .int m, .int (if m + p < 4 then m + p else 4)] : List D).getD q.toNat .non]
theorem fanOf_mem : ∀ r ∈ ([0, 1, 2, 3, 4, 5, 6] : List Int), ∀ q ∈ ([0, 1, 2] : List Int), ∀ p ∈ ([0, 1, 2] : List Int), (fanTab.map (·.1)).any (D.beq (fanOf r q p)) = true := by decide +kernel
theorem fan_ok {k : Nat} {S : Store} {a : Int} (h : Deck S a) : ∃ x ∈ fanTab, callF txt.tab txt.fn (k + 2) "_law_fan" [.hnd 1] S = .ok x.1 (adv S (a + 1)) := by
  obtain ⟨v, hv, e⟩ := next_ok (k := k) h
  have hr : v % 7 = 0 ∨ v % 7 = 1 ∨ v % 7 = 2 ∨ v % 7 = 3 ∨ v % 7 = 4 ∨ v % 7 = 5 ∨ v % 7 = 6 := by omega
  have hq : v / 7 % 3 = 0 ∨ v / 7 % 3 = 1 ∨ v / 7 % 3 = 2 := by omega
  have hp : v / 21 % 3 = 0 ∨ v / 21 % 3 = 1 ∨ v / 21 % 3 = 2 := by omega
  have key : callF txt.tab txt.fn (k + 2) "_law_fan" [.hnd 1] S = .ok (fanOf (v % 7) (v / 7 % 3) (v / 21 % 3)) (adv S (a + 1)) := by
    rw [callF_at fn_fan rfl]
    show fin f_d__law_fan S (Fk.run txt.tab (callF txt.tab txt.fn (k + 1)) b_d__law_fan [some (.hnd 1), none, none] S) = _
    generalize hz : v / 21 % 3 = z at *
    have i0 : ∀ {α : Type} {x y z : α}, L2.atI [x, y, z] 0 = some x := fun {α x y z} => rfl
    rcases hr with hr | hr | hr | hr | hr | hr | hr <;> rcases hq with hq | hq | hq <;>
      simp [b_d__law_fan, e, mod_int, div_int, hr, hq, hz, bf_max, bf_min, fanOf, sline, L2.atI, L2.ixN, fin_keep (F := f_d__law_fan) rfl]
  have hr' : v % 7 ∈ ([0, 1, 2, 3, 4, 5, 6] : List Int) := by simp; omega
  have hq' : v / 7 % 3 ∈ ([0, 1, 2] : List Int) := by simp; omega
  have hp' : v / 21 % 3 ∈ ([0, 1, 2] : List Int) := by simp; omega
  have := fanOf_mem _ hr' _ hq' _ hp'
  rw [List.any_eq_true] at this
  obtain ⟨d, hd, he⟩ := this
  obtain ⟨x, hx, rfl⟩ := List.mem_map.mp hd
  rw [D.beq_eq _ _ he] at key
  exact ⟨x, hx, key⟩
end K74
namespace K74
open PySem Fk
@[simp] theorem adv_len {S : Store} {a : Int} : (adv S a).length = S.length := by simp [adv]
theorem adv_self {S : Store} {a : Int} (h : Deck S a) : adv S a = S := by
  unfold adv
  refine List.ext_getElem? fun i => ?_
  rw [List.getElem?_set]
  have := h.pl
  by_cases hi : 1 = i
  · subst hi
    have n1 : 1 < S.length := (List.getElem?_eq_some_iff.mp h.pl).1
    rw [if_pos rfl, if_pos n1, this]
  · rw [if_neg hi]
theorem deck_len {S : Store} {a : Int} (h : Deck S a) : 1 < S.length := (List.getElem?_eq_some_iff.mp h.pl).1
theorem adv_app {S : Store} {l : List D} {a : Int} (h : 1 < S.length) : adv (S ++ l) a = adv S a ++ l := by
  unfold adv
  rw [List.set_append_left _ _ h]
theorem deck_app {S : Store} {l : List D} {a : Int} (h : Deck S a) : Deck (S ++ l) a := by
  have n1 := deck_len h
  obtain ⟨ds, h0, h1, h2⟩ := h.ex
  exact ⟨⟨ds, by rw [List.getElem?_append_left (by omega)]; exact h0, h1, h2⟩, by rw [List.getElem?_append_left n1]; exact h.pl, h.lo, h.hi⟩
theorem cs_adv {S : Store} {a : Int} (h : 1 < S.length) (hS : CS S) : CS (adv S a) := by
  unfold CS at *
  rw [adv_len]
  rw [List.all_eq_true] at *
  intro d hd
  unfold adv at hd
  rcases List.mem_or_eq_of_mem_set hd with z | z
  · exact hS d z
  · rw [z]
    have : 0 < S.length := by omega
    simp [closed, frzG, frzGs, this, D.beq, D.beqs]
theorem some_lc {k : Nat} : ∀ (xs : List D) (T : Store) (n : Nat) (a : Int) (left : List Str) (acc : List D) (pd md : Option D) (S0 : Store), n = T.length → Deck T a → a + xs.length ≤ 100000 → xs.length ≤ left.length → acc.length + left.length ≤ 1000 →
    ∃ (found left' : List Str), found.length = xs.length ∧ (found ++ left').Perm left ∧
      lcL (.var 5) [5] (ev txt.tab (callF txt.tab txt.fn (k + 1)) (.bim (.var 3) "pop" (.cons (.bin .Mod (.call "_law_next" (.cons (.var 0) .nil)) (.bif "len" (.cons (.var 3) .nil))) .nil))) [] S0 [some (.hnd 1), pd, md, some (.hnd n), none, none] xs acc (T ++ [.lst (left.map .str)])
        = .ok (.lst (acc ++ found.map .str)) (adv T (a + xs.length) ++ [.lst (left'.map .str)])
  | [], T, n, a, left, acc, pd, md, S0, hn, h, _, _, _ => ⟨[], left, rfl, .refl _, by simp [lcL, adv_self h]⟩
  | x :: xs, T, n, a, left, acc, pd, md, S0, hn, h, ha, hl, hc => by
    subst hn
    obtain ⟨v, hv, e⟩ := next_ok (k := k) (deck_app (l := [.lst (left.map D.str)]) h)
    have n1 := deck_len h
    simp only [List.length_cons] at ha hl
    have hp : (0 : Int) < left.length := by omega
    have b0 : 0 ≤ v % left.length := Int.emod_nonneg _ (by omega)
    have b1 : v % left.length < left.length := Int.emod_lt_of_pos _ hp
    have hj : (v % left.length).toNat < left.length := by omega
    obtain ⟨found, left', f1, f2, f3⟩ := some_lc (k := k) xs (adv T (a + 1)) T.length (a + 1) (left.eraseIdx (v % left.length).toNat) (acc ++ [.str left[(v % left.length).toNat]]) pd md S0 (by simp) (adv_deck h (by omega)) (by omega) (by rw [List.length_eraseIdx]; split <;> omega) (by rw [List.length_eraseIdx]; split <;> (simp; omega))
    refine ⟨left[(v % left.length).toNat] :: found, left', by simp [f1], ?_, ?_⟩
    · exact (List.Perm.cons _ f2).trans (erase_perm hj)
    · rw [adv_app n1] at e
      have g0 : (adv T (a + 1) ++ [D.lst (left.map D.str)])[T.length]? = some (.lst (left.map .str)) := by simp
      have l0 : bifD (adv T (a + 1) ++ [D.lst (left.map D.str)]) "len" [.hnd T.length] = some (.int left.length) := by rw [len_hl g0]; simp
      have m0 : ∀ {S : Store}, binD S .Mod (.int v) (.int left.length) = some (.int (v % left.length)) := mod_int hp
      have k0 : bimK (T ++ [D.lst (left.map D.str)]) (.hnd T.length) "pop" = true := bk_lst deref_last' (.inr (.inr rfl))
      have p0 : bimD (adv T (a + 1) ++ [D.lst (left.map D.str)]) (.hnd T.length) "pop" [.int (v % left.length)] = some (.str left[(v % left.length).toNat], adv T (a + 1) ++ [D.lst ((left.eraseIdx (v % left.length).toNat).map D.str)]) := by
        rw [bim_pop]
        have : deref (adv T (a + 1) ++ [D.lst (left.map D.str)]) (.hnd T.length) = .lst (left.map .str) := deref_hnd g0
        rw [this]
        simp [b0, b1, hj]
        rw [er_map]
      have st : ev txt.tab (callF txt.tab txt.fn (k + 1)) (.bim (.var 3) "pop" (.cons (.bin .Mod (.call "_law_next" (.cons (.var 0) .nil)) (.bif "len" (.cons (.var 3) .nil))) .nil)) [some (.hnd 1), pd, md, some (.hnd T.length), none, some x] (T ++ [.lst (left.map .str)]) = .ok (.str left[(v % left.length).toNat]) (adv T (a + 1) ++ [D.lst ((left.eraseIdx (v % left.length).toNat).map D.str)]) := by
        simp [k0, e, l0, m0, p0]
      show (match ev txt.tab (callF txt.tab txt.fn (k + 1)) (.bim (.var 3) "pop" (.cons (.bin .Mod (.call "_law_next" (.cons (.var 0) .nil)) (.bif "len" (.cons (.var 3) .nil))) .nil)) [some (.hnd 1), pd, md, some (.hnd T.length), none, some x] (T ++ [.lst (left.map .str)]) with
        | .ok d S' => if stays [] S0 S' = true ∧ acc.length < sizeLine then lcL (.var 5) [5] _ [] S0 [some (.hnd 1), pd, md, some (.hnd T.length), none, none] xs (acc ++ [d]) S' else .stuck
        | _ => .stuck) = _
      rw [st]
      show (if stays [] S0 _ = true ∧ acc.length < sizeLine then lcL (.var 5) [5] _ [] S0 [some (.hnd 1), pd, md, some (.hnd T.length), none, none] xs (acc ++ [.str left[(v % left.length).toNat]]) _ else Res.stuck) = _
      rw [if_pos ⟨rfl, by rw [sline]; omega⟩, f3, adv_adv]
      have ea : a + 1 + (xs.length : Int) = a + ((x :: xs).length : Int) := by simp; omega
      rw [ea]
      simp
theorem fn_some : txt.fn "_law_some" = some f_d__law_some := by kernel_rfl
theorem some_ok {k : Nat} {S : Store} {a m : Int} {pool : List Str} (h : Deck S a) (hS : CS S) (ha : a + 100 ≤ 100000) (hm : 0 ≤ m) (hm' : m ≤ 100) (hp : pool.length ≤ 100) (hn : pool.Nodup) (ho : ∀ x ∈ pool, PyData.strOk x = true) :
    ∃ l : List Str, l.length = min m.toNat pool.length ∧ (∀ x ∈ l, x ∈ pool) ∧ Rise (fun x y => tl x < tl y) l ∧
      callF txt.tab txt.fn (k + 2) "_law_some" [.hnd 1, .lst (pool.map .str), .int m] S = .ok (.lst (l.map .str)) (adv S (a + l.length)) := by
  have n1 := deck_len h
  have e1 : ∀ env, ev txt.tab (callF txt.tab txt.fn (k + 1)) (.rng1 (.bif "min" (.cons (.var 2) (.cons (.bif "len" (.cons (.var 1) .nil)) .nil)))) [some (.hnd 1), some (.lst (pool.map .str)), some (.int m), env, none, none] (S ++ [.lst (pool.map .str)])
      = .ok (.lst ((List.range (min m.toNat pool.length)).map fun (i : Nat) => .int (0 + (i : Int)))) (S ++ [.lst (pool.map .str)]) := by
    intro env
    have hmin : (if (pool.length : Int) < m then (pool.length : Int) else m).toNat = min m.toNat pool.length := by
      split <;> omega
    rw [← hmin]
    refine ev_rng1_of ?_ ?_ ?_
    · simp [bf_len, bf_min]
    · split <;> omega
    · split <;> omega
  obtain ⟨found, left', f1, f2, f3⟩ := some_lc (k := k) ((List.range (min m.toNat pool.length)).map fun (i : Nat) => D.int (0 + (i : Int))) S S.length a pool [] (some (.lst (pool.map .str))) (some (.int m)) (S ++ [.lst (pool.map .str)]) rfl h (by simp; omega) (by simp; omega) (by simp; omega)
  simp only [List.length_map, List.length_range] at f1 f3
  have fm : ∀ x ∈ found, x ∈ pool := fun x hx => f2.mem_iff.mp (List.mem_append_left _ hx)
  have fn : found.Nodup := (List.nodup_append.mp (f2.nodup_iff.mpr hn)).1
  have so := sortD_ok D.str PyData.str found (n := 0) (by omega) (fun x hx => .str (ho x (fm x hx))) (fun x _ y _ => by simp [PySem.W.alike]) (.inr fun x _ => rfl) (by rw [sline]; omega)
  have sr := sort_rise PyData.str found fn fun x _ y _ h1 h2 => by
    rw [PySem.W.dataLt_str] at h1 h2
    exact tl_tri (of_decide_eq_false h1) (of_decide_eq_false h2)
  refine ⟨found.mergeSort (PySem.W.dataLe false PyData.str), by simp [f1], fun x hx => fm x (List.mem_mergeSort.mp hx), fun p hp => ?_, ?_⟩
  · have : PySem.W.dataLt (.str p.1) (.str p.2) = true := sr p hp
    rw [PySem.W.dataLt_str] at this
    exact of_decide_eq_true this
  · rw [callF_at fn_some rfl]
    show fin f_d__law_some S (Fk.run txt.tab (callF txt.tab txt.fn (k + 1)) b_d__law_some [some (.hnd 1), some (.lst (pool.map .str)), some (.int m), none, none, none] S) = _
    generalize hxs : (List.range (min m.toNat pool.length)).map (fun (i : Nat) => D.int (0 + (i : Int))) = xs at e1 f3
    rw [List.nil_append] at f3
    have rn : Fk.run txt.tab (callF txt.tab txt.fn (k + 1)) b_d__law_some [some (.hnd 1), some (.lst (pool.map .str)), some (.int m), none, none, none] S = .rt (.lst ((found.mergeSort (PySem.W.dataLe false PyData.str)).map .str)) (adv S (a + (min m.toNat pool.length : Nat)) ++ [.lst (left'.map .str)]) := by
      simp [b_d__law_some, bf_list, e1, f3, bf_sorted, so]
    have tk : (adv S (a + (min m.toNat pool.length : Nat)) ++ [D.lst (left'.map D.str)]).take S.length = adv S (a + (min m.toNat pool.length : Nat)) := List.take_left' (by simp)
    have cl := cs_adv (a := a + (min m.toNat pool.length : Nat)) n1 hS
    unfold CS at cl
    rw [adv_len] at cl
    have fz : frz S.length (adv S (a + (min m.toNat pool.length : Nat)) ++ [D.lst (left'.map D.str)]) 4 (.lst ((found.mergeSort (PySem.W.dataLe false PyData.str)).map .str)) = some (.lst ((found.mergeSort (PySem.W.dataLe false PyData.str)).map .str)) :=
      (Dt.lst (Dts.of (n := 0) D.str PyData.str fun x hx => .str (ho x (fm x (List.mem_mergeSort.mp hx))))).fz _ _
    rw [rn, fin_cut rfl (by rw [tk]; exact cl) fz, tk]
    simp [f1]
end K74
namespace K74
open PySem Fk
/-- the store while the deck is laid -/
def dS (ds : List Int) : Store := [.lst (ds.map .int)]
def dOk (ds : List Int) : Prop := ∀ d ∈ ds, 0 ≤ d ∧ d < 2147483648
theorem dS_app {ds : List Int} {v : Int} (hl : ds.length < 100000) : bimD (dS ds) (.hnd 0) "append" [.int v] = some (.non, dS (ds ++ [v])) := by
  rw [bim_app_at (xs := ds.map .int) rfl (by rw [sline]; simp; omega)]
  simp [dS]
theorem dS_bk {ds : List Int} : bimK (dS ds) (.hnd 0) "append" = true := bk_at (xs := ds.map .int) rfl
theorem dOk_app {ds : List Int} {v : Int} (h : dOk ds) (h0 : 0 ≤ v) (h1 : v < 2147483648) : dOk (ds ++ [v]) := by
  intro d hd
  rcases List.mem_append.mp hd with z | z
  · exact h d z
  · rw [List.mem_singleton.mp z]
    exact ⟨h0, h1⟩
theorem deck_inner {cl : Cl} {q : Option D} {ns : List Int} {i : Int} {ds : List Int} {c : Int} {o4 o5 : Option D} (h : dOk ds) (hl : ds.length ≤ 50000) :
    ∃ ds' c' o4', dOk ds' ∧ ds'.length ≤ ds.length + 60 ∧
    Fk.run txt.tab cl (.for_ (.var 4) (.rng1 (.int 60))
      (.cn (.ite (.cmp .Gt (.var 3) (.int 0))
      (.cn (.exp (.bim (.var 1) "append" (.cons (.bin .Mod (.var 3) (.int 1000000)) .nil)))
      (.cn (.asg (.var 3) (.bin .FloorDiv (.var 3) (.int 1000000)))
      .nl)) .nl) .nl)) [some (.scr ns), some (.hnd 0), q, some (.int c), o4, o5] (dS ds) = .nx [some (.scr ns), some (.hnd 0), q, some (.int c'), o4', o5] (dS ds') := by
  have e := ev_rng1_of (T := txt.tab) (cl := cl) (a := .int 60) (env := [some (.scr ns), some (.hnd 0), q, some (.int c), o4, o5]) (S := dS ds) rfl (by omega) (by omega)
  obtain ⟨env', S', h1, ds', c', o4', h2, h3, h4, h5⟩ := forL_inv (T := txt.tab) (cl := cl) (tg := .var 4)
    (body := Fk.run txt.tab cl (.cn (.ite (.cmp .Gt (.var 3) (.int 0))
      (.cn (.exp (.bim (.var 1) "append" (.cons (.bin .Mod (.var 3) (.int 1000000)) .nil)))
      (.cn (.asg (.var 3) (.bin .FloorDiv (.var 3) (.int 1000000)))
      .nl)) .nl) .nl)) (gs := []) (S0 := dS ds)
    (fun j env S' => ∃ ds' c' o4', dOk ds' ∧ ds'.length ≤ ds.length + j ∧ env = [some (.scr ns), some (.hnd 0), q, some (.int c'), o4', o5] ∧ S' = dS ds')
    ((List.range (60 : Int).toNat).map fun (i : Nat) => D.int (0 + (i : Int))) (by
      rintro j x env S' hx ⟨ds', c', o4', a1, a2, rfl, rfl⟩
      have hj : j < 60 := by
        have := (List.getElem?_eq_some_iff.mp hx).1
        simpa using this
      refine ⟨_, rfl, ?_⟩
      by_cases hc : 0 < c'
      · have b0 : 0 ≤ c' % 1000000 := Int.emod_nonneg _ (by decide)
        have b1 : c' % 1000000 < 1000000 := Int.emod_lt_of_pos _ (by decide)
        refine ⟨[some (.scr ns), some (.hnd 0), q, some (.int (c' / 1000000)), some x, o5], dS (ds' ++ [c' % 1000000]), .inl ?_, rfl, _, _, _, dOk_app a1 b0 (by omega), by simp; omega, rfl, rfl⟩
        simp [hc, mod_int, div_int, dS_bk, dS_app (show ds'.length < 100000 by omega)]
      · refine ⟨[some (.scr ns), some (.hnd 0), q, some (.int c'), some x, o5], dS ds', .inl ?_, rfl, _, _, _, a1, by omega, rfl, rfl⟩
        simp [hc])
    0 _ rfl (Nat.zero_le _) [some (.scr ns), some (.hnd 0), q, some (.int c), o4, o5] (dS ds) ⟨_, _, _, h, Nat.le_refl _, rfl, rfl⟩
  subst h4 h5
  refine ⟨ds', c', o4', h2, by simpa using h3, ?_⟩
  rw [List.drop_zero] at h1
  rw [run_for, e]
  simpa using h1
theorem fn_deck : txt.fn "_law_deck" = some f_d__law_deck := by kernel_rfl
theorem deck_ok {k : Nat} {ns : List Int} : ∃ ds, dOk ds ∧ ds.length ≤ 100000 ∧ callF txt.tab txt.fn (k + 1) "_law_deck" [.scr ns] [] = .ok (.hnd 1) [.lst (ds.map .int), .lst [.int 0, .hnd 0]] := by
  have e : ∀ o2 o3 o4 o5, ev txt.tab (callF txt.tab txt.fn k) (.rng1 (.bif "min" (.cons (.bif "len" (.cons (.var 0) .nil)) (.cons (.int 63) .nil)))) [some (.scr ns), some (.hnd 0), o2, o3, o4, o5] (dS []) = .ok (.lst ((List.range (min ns.length 63)).map fun (i : Nat) => .int (0 + (i : Int)))) (dS []) := by
    intro o2 o3 o4 o5
    have hmin : (if (63 : Int) < (ns.length : Int) then (63 : Int) else (ns.length : Int)).toNat = min ns.length 63 := by
      split <;> omega
    rw [← hmin]
    refine ev_rng1_of ?_ ?_ ?_
    · simp [bf_len, bf_min, deref_scr]
    · split <;> omega
    · split <;> omega
  obtain ⟨env', S', h1, ds', o2', o3', o4', o5', h2, h3, h4, h5⟩ := forL_inv (T := txt.tab) (cl := callF txt.tab txt.fn k) (tg := .var 2)
    (body := Fk.run txt.tab (callF txt.tab txt.fn k) (.cn (.asg (.var 3) (.sub (.var 0) (.var 2)))
  (.cn (.ite (.cmp .GtE (.var 3) (.bin .Pow (.int 10) (.int 18)))
  (.cn (.for_ (.var 4) (.rng1 (.int 60))
  (.cn (.ite (.cmp .Gt (.var 3) (.int 0))
  (.cn (.exp (.bim (.var 1) "append" (.cons (.bin .Mod (.var 3) (.int 1000000)) .nil)))
  (.cn (.asg (.var 3) (.bin .FloorDiv (.var 3) (.int 1000000)))
  .nl))
  .nl)
  .nl))
  .nl)
  (.cn (.asg (.var 5) (.bin .Add (.bin .Add (.bin .Mult (.var 3) (.int 48271)) (.bin .Mult (.bin .Mult (.bin .Add (.var 2) (.int 1)) (.bin .Add (.var 2) (.int 1))) (.int 7919))) (.int 11)))
  (.cn (.asg (.var 5) (.bin .Mod (.var 5) (.int 2147483647)))
  (.cn (.exp (.bim (.var 1) "append" (.cons (.bin .Mod (.bin .Mult (.var 5) (.var 5)) (.int 2147483629)) .nil)))
  .nl))))
  .nl))) (gs := []) (S0 := dS [])
    (fun j env S' => ∃ ds' o2' o3' o4' o5', dOk ds' ∧ ds'.length ≤ 60 * j ∧ env = [some (.scr ns), some (.hnd 0), o2', o3', o4', o5'] ∧ S' = dS ds')
    ((List.range (min ns.length 63)).map fun (i : Nat) => D.int (0 + (i : Int))) (by
      rintro j x env S' hx ⟨ds', o2', o3', o4', o5', a1, a2, rfl, rfl⟩
      have hj : j < min ns.length 63 := by
        have := (List.getElem?_eq_some_iff.mp hx).1
        simpa using this
      have ex : x = .int (j : Int) := by
        rw [List.getElem?_map, List.getElem?_range hj] at hx
        simpa using hx.symm
      subst ex
      have hat : L2.atI ns (j : Int) = some ns[j] := by
        have : (j : Int) < ns.length := by omega
        have h' : j < ns.length := by omega
        simp [L2.atI, L2.ixN, this, h']
      refine ⟨_, rfl, ?_⟩
      have pw : ∀ {S : Store}, binD S .Pow (.int 10) (.int 18) = some (.int (10 ^ 18)) := pow_int (by decide) (by decide) (by decide)
      by_cases hc : (10 : Int) ^ 18 ≤ ns[j]
      · obtain ⟨ds2, c2, o42, b1, b2, b3⟩ := deck_inner (cl := callF txt.tab txt.fn k) (q := some (.int (j : Int))) (ns := ns) (i := j) (ds := ds') (c := ns[j]) (o4 := o4') (o5 := o5') a1 (by omega)
        refine ⟨_, _, .inl (by
          rw [run_cn, run_asg]
          simp only [ev_sub, ev_var, List.getD_cons_zero, List.set_cons_succ, List.set_cons_zero, List.getD_cons_succ, opt_some, bind_ok, sub_scr, hat, Option.map_some, out_ok, asg_var, sq_nx]
          rw [run_cn, run_ite]
          simp only [ev_cmp, ev_bin, ev_var, ev_int, List.getD_cons_zero, List.getD_cons_succ, opt_some, bind_ok, pw, int_ge, optB_some, out_ok, tru_bl, decide_eq_true hc, cT_true]
          rw [run_cn, b3]
          rfl), rfl, ds2, _, _, _, _, b1, by omega, rfl, rfl⟩
      · have b0 : 0 ≤ (ns[j] * 48271 + (j + 1) * (j + 1) * 7919 + 11) % 2147483647 := Int.emod_nonneg _ (by decide)
        have b1 : (ns[j] * 48271 + (j + 1) * (j + 1) * 7919 + 11) % 2147483647 < 2147483647 := Int.emod_lt_of_pos _ (by decide)
        generalize hw : (ns[j] * 48271 + ((j : Int) + 1) * (j + 1) * 7919 + 11) % 2147483647 = w at b0 b1
        have c0 : 0 ≤ w * w % 2147483629 := Int.emod_nonneg _ (by decide)
        have c1 : w * w % 2147483629 < 2147483629 := Int.emod_lt_of_pos _ (by decide)
        have m1 : ∀ {S : Store}, binD S .Mult (.int ns[j]) (.int 48271) = some (.int (ns[j] * 48271)) := mul_int (.inr (by decide))
        have m2 : ∀ {S : Store}, binD S .Mult (.int ((j : Int) + 1)) (.int ((j : Int) + 1)) = some (.int (((j : Int) + 1) * ((j : Int) + 1))) := mul_int (.inr (by omega))
        have m3 : ∀ {S : Store}, binD S .Mult (.int (((j : Int) + 1) * ((j : Int) + 1))) (.int 7919) = some (.int (((j : Int) + 1) * ((j : Int) + 1) * 7919)) := mul_int (.inr (by decide))
        have m4 : ∀ {S : Store}, binD S .Mult (.int w) (.int w) = some (.int (w * w)) := mul_int (.inr (by omega))
        refine ⟨[some (.scr ns), some (.hnd 0), some (.int j), some (.int ns[j]), o4', some (.int w)], dS (ds' ++ [w * w % 2147483629]), .inl ?_, rfl, _, _, _, _, _, dOk_app a1 c0 (by omega), by simp; omega, rfl, rfl⟩
        have hc' : ¬ (1000000000000000000 : Int) ≤ ns[j] := by simpa using hc
        simp [hat, pw, hc', m1, m2, m3, m4, mod_int, hw, dS_bk, dS_app (show ds'.length < 100000 by omega)])
    0 _ rfl (Nat.zero_le _) [some (.scr ns), some (.hnd 0), none, none, none, none] (dS []) ⟨[], _, _, _, _, fun d hd => by (cases hd), Nat.le_refl _, rfl, rfl⟩
  subst h4 h5
  rw [List.drop_zero] at h1
  refine ⟨ds', h2, by simp at h3; omega, ?_⟩
  rw [callF_at fn_deck rfl]
  show fin f_d__law_deck [] (Fk.run txt.tab (callF txt.tab txt.fn k) b_d__law_deck [some (.scr ns), none, none, none, none, none] []) = _
  have e0 : Fk.run txt.tab (callF txt.tab txt.fn k) b_d__law_deck [some (.scr ns), none, none, none, none, none] [] = .rt (.hnd 1) [.lst (ds'.map .int), .lst [.int 0, .hnd 0]] := by
    unfold b_d__law_deck
    rw [run_cn, run_asg]
    show sq (Out.nx [some (.scr ns), some (.hnd 0), none, none, none, none] (dS [])) _ = _
    rw [sq_nx, run_cn, run_for, e]
    simp only [out_ok, itM_rng1, items_lst, oB_some, gM_rng1, hnd_lst]
    rw [h1]
    simp [dS, sline]
  rw [e0]
  exact fin_keep rfl
end K74
namespace K74
open PySem Fk
theorem deck_at {S : Store} {a b : Int} (h : Deck S a) (h0 : 0 ≤ b) (h1 : b ≤ 100000) : Deck (adv S b) b := by
  have n1 := deck_len h
  refine ⟨?_, ?_, h0, h1⟩
  · obtain ⟨ds, h0, h1, h2⟩ := h.ex
    refine ⟨ds, ?_, h1, h2⟩
    unfold adv
    rw [List.getElem?_set_ne (by omega)]
    exact h0
  · unfold adv
    rw [List.getElem?_set_self n1]
theorem next_at {k : Nat} {S : Store} {a b : Int} (l : List D) (h : Deck S a) (h0 : 0 ≤ b) (h1 : b ≤ 100000) : ∃ v, 0 ≤ v ∧ callF txt.tab txt.fn (k + 1) "_law_next" [.hnd 1] (adv S b ++ l) = .ok (.int v) (adv S (b + 1) ++ l) := by
  obtain ⟨v, hv, e⟩ := next_ok (k := k) (deck_app (l := l) (deck_at h h0 h1))
  rw [adv_app (by have := deck_len h; simpa using this), adv_adv] at e
  exact ⟨v, hv, e⟩
theorem fan_at {k : Nat} {S : Store} {a b : Int} (l : List D) (h : Deck S a) (h0 : 0 ≤ b) (h1 : b ≤ 100000) : ∃ x ∈ fanTab, callF txt.tab txt.fn (k + 2) "_law_fan" [.hnd 1] (adv S b ++ l) = .ok x.1 (adv S (b + 1) ++ l) := by
  obtain ⟨v, hv, e⟩ := fan_ok (k := k) (deck_app (l := l) (deck_at h h0 h1))
  rw [adv_app (by have := deck_len h; simpa using this), adv_adv] at e
  exact ⟨v, hv, e⟩
theorem some_at {k : Nat} {S : Store} {a b m : Int} {pool : List Str} (l : List D) (h : Deck S a) (hS : CS S) (hl : ∀ d ∈ l, closed S.length d = true) (h0 : 0 ≤ b) (h1 : b + 100 ≤ 100000) (hm : 0 ≤ m) (hm' : m ≤ 100) (hp : pool.length ≤ 100) (hn : pool.Nodup) (ho : ∀ x ∈ pool, PyData.strOk x = true) :
    ∃ ys : List Str, ys.length = min m.toNat pool.length ∧ (∀ x ∈ ys, x ∈ pool) ∧ Rise (fun x y => tl x < tl y) ys ∧
      callF txt.tab txt.fn (k + 2) "_law_some" [.hnd 1, .lst (pool.map .str), .int m] (adv S b ++ l) = .ok (.lst (ys.map .str)) (adv S (b + ys.length) ++ l) := by
  obtain ⟨ys, e1, e2, e3, e⟩ := some_ok (k := k) (deck_app (l := l) (deck_at h h0 (by omega))) (CS.app (cs_adv (deck_len h) hS) (by simpa using hl)) h1 hm hm' hp hn ho
  rw [adv_app (by have := deck_len h; simpa using this), adv_adv] at e
  exact ⟨ys, e1, e2, e3, e⟩
theorem at_mod {l : List Str} (hl : l ≠ []) (v : Int) : ∃ x ∈ l, L2.atI (l.map D.str) (v % l.length) = some (.str x) := by
  have hp : (0 : Int) < l.length := by
    have := List.length_pos_iff.mpr hl
    omega
  have h0 : 0 ≤ v % l.length := Int.emod_nonneg _ (by omega)
  have h1 : v % l.length < l.length := Int.emod_lt_of_pos _ hp
  have hj : (v % l.length).toNat < l.length := by omega
  refine ⟨l[(v % l.length).toNat], List.getElem_mem hj, ?_⟩
  simp [L2.atI, L2.ixN, h0, h1, hj]
def pk (r : Str × Str) : Ky := .inr [.inr r.1, .inr r.2]
theorem pk_inj {r s : Str × Str} (h : pk r = pk s) : r = s := by
  obtain ⟨a, b⟩ := r
  obtain ⟨c, d⟩ := s
  simp [pk] at h
  rw [h.1, h.2]
theorem hasK_pk {r : Str × Str} : ∀ prs : List (Str × Str), hasK (pk r) (prs.map pk) = decide (r ∈ prs)
  | [] => by simp [hasK]
  | s :: prs => by
    simp only [List.map_cons, hasK, hasK_pk prs]
    by_cases e : r = s
    · subst e
      simp
    · have : pk r ≠ pk s := fun h => e (pk_inj h)
      simp [this, e]
theorem putA_mem {k : Ky} {d w : D} : ∀ (ks : List Ky) (vs : List D), w ∈ putA k d ks vs → w = d ∨ w ∈ vs
  | [], [], h => by simp [putA] at h
  | [], _ :: _, h => by simp [putA] at h
  | _ :: _, [], h => by simp [putA] at h
  | l :: ks, v :: vs, h => by
    simp only [putA] at h
    rcases List.mem_cons.mp h with z | z
    · split at z
      · exact .inl z
      · exact .inr (by rw [z]; exact List.mem_cons_self)
    · rcases putA_mem ks vs z with y | y
      · exact .inl y
      · exact .inr (List.mem_cons_of_mem _ y)
theorem set_pk {S : Store} {n : Nat} {prs : List (Str × Str)} {vs : List D} {x y : Str} (hn : n = S.length) (hp : prs.length ≤ 100) (hv : ∀ w ∈ vs, w = .bl true) :
    ∃ vs', (∀ w ∈ vs', w = .bl true) ∧ setD (S ++ [.dct true (prs.map pk) vs]) (.hnd n) (.tup [.str x, .str y]) (.bl true) = some (S ++ [.dct true ((if (x, y) ∈ prs then prs else prs ++ [(x, y)]).map pk) vs']) := by
  subst hn
  refine ⟨(putK (pk (x, y)) (.bl true) (prs.map pk) vs).2, ?_, ?_⟩
  · unfold putK
    split
    · intro w hw
      rcases putA_mem _ _ hw with z | z
      · exact z
      · exact hv w z
    · intro w hw
      rcases List.mem_append.mp hw with z | z
      · exact hv w z
      · exact List.mem_singleton.mp z
  · unfold setD
    rw [deref_last]
    simp only
    show (some (pk (x, y))).bind _ = _
    rw [Option.bind_some, if_pos (by rw [sline]; simp; omega), set_last]
    have : (putK (pk (x, y)) (.bl true) (prs.map pk) vs).1 = (if (x, y) ∈ prs then prs else prs ++ [(x, y)]).map pk := by
      unfold putK
      rw [hasK_pk]
      by_cases e : (x, y) ∈ prs <;> simp [e]
    rw [this]
def rulesLoop : MS := .for_ (.var 4) (.rng1 (.bin .Mod (.bin .FloorDiv (.var 1) (.int 36)) (.int 8)))
  (.cn (.asg (.var 8) (.call "_law_next" (.cons (.var 0) .nil)))
  (.cn (.asg (.var 9) (.tup (.cons (.sub (.var 2) (.bin .Mod (.var 8) (.bif "len" (.cons (.var 2) .nil)))) (.cons (.sub (.var 2) (.bin .Mod (.bin .FloorDiv (.var 8) (.int 7)) (.bif "len" (.cons (.var 2) .nil)))) .nil))))
  (.cn (.ite (.cmp .NotEq (.sub (.var 9) (.int 0)) (.sub (.var 9) (.int 1)))
  (.cn (.asg (.sub (.var 3) (.var 9)) (.bl true))
  .nl)
  .nl)
  .nl)))
theorem rules_loop {k : Nat} {S : Store} {a b : Int} (h : Deck S a) (hb : 0 ≤ b) (hb' : b + 10 ≤ 100000) {l : List Str} (hl : l ≠ []) (ho : ∀ x ∈ l, PyData.strOk x = true) {v : Int} :
    ∃ (prs : List (Str × Str)) (vs : List D) (o4 o8 o9 : Option D) (n : Nat), n ≤ 8 ∧ prs.Nodup ∧ (∀ r ∈ prs, r.1 ∈ l ∧ r.2 ∈ l ∧ r.1 ≠ r.2) ∧ prs.length ≤ n ∧ (∀ w ∈ vs, w = D.bl true) ∧
      Fk.run txt.tab (callF txt.tab txt.fn (k + 2)) rulesLoop [some (.hnd 1), some (.int v), some (.lst (l.map .str)), some (.hnd S.length), none, none, none, none, none, none, none] (adv S b ++ [.dct true [] []])
        = .nx [some (.hnd 1), some (.int v), some (.lst (l.map .str)), some (.hnd S.length), o4, none, none, none, o8, o9, none] (adv S (b + (n : Nat)) ++ [.dct true (prs.map pk) vs]) := by
  have b0 : 0 ≤ v / 36 % 8 := Int.emod_nonneg _ (by decide)
  have b1 : v / 36 % 8 < 8 := Int.emod_lt_of_pos _ (by decide)
  have hp : (0 : Int) < l.length := by
    have := List.length_pos_iff.mpr hl
    omega
  have e := ev_rng1_of (T := txt.tab) (cl := callF txt.tab txt.fn (k + 2)) (a := .bin .Mod (.bin .FloorDiv (.var 1) (.int 36)) (.int 8)) (env := [some (.hnd 1), some (.int v), some (.lst (l.map .str)), some (.hnd S.length), none, none, none, none, none, none, none]) (S := adv S b ++ [.dct true [] []]) (S' := adv S b ++ [.dct true [] []]) (n := v / 36 % 8) (by simp [mod_int, div_int]) (by omega) (by omega)
  obtain ⟨env', S', h1, prs, vs, o4, o8, o9, h2, h3, h4, h5, h6, h7⟩ := forL_inv (T := txt.tab) (cl := callF txt.tab txt.fn (k + 2)) (tg := .var 4)
    (body := Fk.run txt.tab (callF txt.tab txt.fn (k + 2)) (.cn (.asg (.var 8) (.call "_law_next" (.cons (.var 0) .nil)))
  (.cn (.asg (.var 9) (.tup (.cons (.sub (.var 2) (.bin .Mod (.var 8) (.bif "len" (.cons (.var 2) .nil)))) (.cons (.sub (.var 2) (.bin .Mod (.bin .FloorDiv (.var 8) (.int 7)) (.bif "len" (.cons (.var 2) .nil)))) .nil))))
  (.cn (.ite (.cmp .NotEq (.sub (.var 9) (.int 0)) (.sub (.var 9) (.int 1)))
  (.cn (.asg (.sub (.var 3) (.var 9)) (.bl true))
  .nl)
  .nl)
  .nl)))) (gs := []) (S0 := adv S b ++ [.dct true [] []])
    (fun i env S' => ∃ (prs : List (Str × Str)) (vs : List D) (o4 o8 o9 : Option D), prs.Nodup ∧ (∀ r ∈ prs, r.1 ∈ l ∧ r.2 ∈ l ∧ r.1 ≠ r.2) ∧ prs.length ≤ i ∧ (∀ w ∈ vs, w = D.bl true) ∧
      env = [some (.hnd 1), some (.int v), some (.lst (l.map .str)), some (.hnd S.length), o4, none, none, none, o8, o9, none] ∧ S' = adv S (b + (i : Nat)) ++ [.dct true (prs.map pk) vs])
    ((List.range (v / 36 % 8).toNat).map fun (i : Nat) => D.int (0 + (i : Int))) (by
      rintro j x env S' hx ⟨prs, vs, o4, o8, o9, a1, a2, a3, a4, rfl, rfl⟩
      have hj : j < 8 := by
        have := (List.getElem?_eq_some_iff.mp hx).1
        simp at this
        omega
      refine ⟨_, rfl, ?_⟩
      obtain ⟨w, hw, en⟩ := next_at (k := k + 1) (b := b + (j : Nat)) [.dct true (prs.map pk) vs] h (by omega) (by omega)
      obtain ⟨x1, m1, e1⟩ := at_mod hl w
      obtain ⟨x2, m2, e2⟩ := at_mod hl (w / 7)
      obtain ⟨vs', v1, v2⟩ := set_pk (S := adv S (b + (j : Nat) + 1)) (n := S.length) (prs := prs) (vs := vs) (x := x1) (y := x2) (by simp) (by omega) a4
      have d0 : ∀ {S : Store} {i : Int}, binD S .Mod (.int i) (.int l.length) = some (.int (i % l.length)) := mod_int hp
      have s1 : ∀ {S : Store} {d1 d2 : D}, subD S (.tup [d1, d2]) (.int 0) = some d1 := rfl
      have s2 : ∀ {S : Store} {d1 d2 : D}, subD S (.tup [d1, d2]) (.int 1) = some d2 := rfl
      by_cases hc : x1 = x2
      · refine ⟨[some (.hnd 1), some (.int v), some (.lst (l.map .str)), some (.hnd S.length), some x, none, none, none, some (.int w), some (.tup [.str x1, .str x2]), none], adv S (b + (j : Nat) + 1) ++ [.dct true (prs.map pk) vs], .inl ?_, rfl, prs, vs, _, _, _, a1, a2, by omega, a4, rfl, by rw [Int.natCast_add, Int.add_assoc]; rfl⟩
        have e3 : (x1 == x2) = true := by simp [hc]
        simp [en, bf_len, d0, div_int, e1, e2, sline, str_ne (ho _ m1) (ho _ m2), e3]
      · refine ⟨[some (.hnd 1), some (.int v), some (.lst (l.map .str)), some (.hnd S.length), some x, none, none, none, some (.int w), some (.tup [.str x1, .str x2]), none], adv S (b + (j : Nat) + 1) ++ [.dct true ((if (x1, x2) ∈ prs then prs else prs ++ [(x1, x2)]).map pk) vs'], .inl ?_, rfl, _, vs', _, _, _, ?_, ?_, ?_, v1, rfl, by rw [Int.natCast_add, Int.add_assoc]; rfl⟩
        · have e3 : (x1 == x2) = false := beq_eq_false_iff_ne.mpr hc
          simp [en, bf_len, d0, div_int, e1, e2, sline, str_ne (ho _ m1) (ho _ m2), e3, v2]
        · split
          · exact a1
          · rename_i hm
            refine List.nodup_append.mpr ⟨a1, by simp, ?_⟩
            intro p hp q hq e
            rw [List.mem_singleton] at hq
            exact hm (by rw [← hq, ← e]; exact hp)
        · intro r hr
          split at hr
          · exact a2 r hr
          · rcases List.mem_append.mp hr with z | z
            · exact a2 r z
            · rw [List.mem_singleton.mp z]
              exact ⟨m1, m2, hc⟩
        · split
          · omega
          · simp
            omega)
    0 _ rfl (Nat.zero_le _) [some (.hnd 1), some (.int v), some (.lst (l.map .str)), some (.hnd S.length), none, none, none, none, none, none, none] (adv S b ++ [.dct true [] []])
    ⟨[], [], _, _, _, List.nodup_nil, fun r hr => by (cases hr), Nat.le_refl _, fun w hw => by (cases hw), rfl, by simp⟩
  subst h6 h7
  rw [List.drop_zero] at h1
  refine ⟨prs, vs, o4, o8, o9, (v / 36 % 8).toNat, by omega, h2, h3, by simpa using h4, h5, ?_⟩
  unfold rulesLoop
  rw [run_for, e]
  simp only [out_ok, itM_rng1, items_lst, oB_some, gM_rng1, hnd_lst]
  rw [h1]
  simp
def doorsBody : MS := .cn (.asg (.var 8) (.call "_law_next" (.cons (.var 0) .nil)))
  (.cn (.asg (.var 10) (.tup (.cons (.sub (.var 2) (.bin .Mod (.var 8) (.bif "len" (.cons (.var 2) .nil)))) (.cons (.sub (.var 2) (.bin .Mod (.bin .FloorDiv (.var 8) (.int 7)) (.bif "len" (.cons (.var 2) .nil)))) .nil))))
  (.cn (.exp (.bim (.var 5) "append" (.cons (.bin .Add (.bin .Add (.tup (.cons (.var 7) .nil)) (.var 10)) (.tup (.cons (.call "_law_fan" (.cons (.var 0) .nil)) (.cons (.call "_law_fan" (.cons (.var 0) .nil)) .nil)))) .nil)))
  .nl))
theorem get2 {S : Store} {n : Nat} {p q : D} (h : n = S.length) : (S ++ [p, q])[n + 1]? = some q := by
  subst h
  rw [List.getElem?_append_right (by omega)]
  simp
theorem set2 {S : Store} {n : Nat} {p q r : D} (h : n = S.length) : (S ++ [p, q]).set (n + 1) r = S ++ [p, r] := by
  subst h
  rw [List.set_append_right _ _ (by omega)]
  simp
theorem doors_loop {k : Nat} {S : Store} {a b : Int} (h : Deck S a) (hb : 0 ≤ b) (hb' : b + 100 ≤ 100000) {l : List Str} (hl : l ≠ []) {v m : Int} {o4 o7 o8 o9 o10 : Option D} {c : D} (ys : List Str) (hy : ys.length ≤ 10) :
    ∃ (ds : List Door) (o7' o8' o10' : Option D), ds.map Door.n = ys ∧ (∀ d ∈ ds, d.s ∈ l ∧ d.g ∈ l ∧ d.o ∈ fanTab ∧ d.i ∈ fanTab) ∧
      forL txt.tab (callF txt.tab txt.fn (k + 2)) (.var 7) (Fk.run txt.tab (callF txt.tab txt.fn (k + 2)) doorsBody) [] (adv S b ++ [c, .lst []]) (ys.map .str) [some (.hnd 1), some (.int v), some (.lst (l.map .str)), some (.hnd S.length), o4, some (.hnd (S.length + 1)), some (.int m), o7, o8, o9, o10] (adv S b ++ [c, .lst []])
        = .nx [some (.hnd 1), some (.int v), some (.lst (l.map .str)), some (.hnd S.length), o4, some (.hnd (S.length + 1)), some (.int m), o7', o8', o9, o10'] (adv S (b + 3 * (ys.length : Int)) ++ [c, .lst (ds.map doorD)]) := by
  have hp : (0 : Int) < l.length := by
    have := List.length_pos_iff.mpr hl
    omega
  obtain ⟨env', S', h1, ds, o7, o8, o10, h2, h3, h4, h5⟩ := forL_inv (T := txt.tab) (cl := callF txt.tab txt.fn (k + 2)) (tg := .var 7)
    (body := Fk.run txt.tab (callF txt.tab txt.fn (k + 2)) doorsBody) (gs := []) (S0 := adv S b ++ [c, .lst []])
    (fun i env S' => ∃ (ds : List Door) (o7 o8 o10 : Option D), ds.map Door.n = ys.take i ∧ (∀ d ∈ ds, d.s ∈ l ∧ d.g ∈ l ∧ d.o ∈ fanTab ∧ d.i ∈ fanTab) ∧
      env = [some (.hnd 1), some (.int v), some (.lst (l.map .str)), some (.hnd S.length), o4, some (.hnd (S.length + 1)), some (.int m), o7, o8, o9, o10] ∧ S' = adv S (b + 3 * (i : Int)) ++ [c, .lst (ds.map doorD)])
    (ys.map .str) (by
      rintro j x env S' hx ⟨ds, o7, o8, o10, a1, a2, rfl, rfl⟩
      have hj : j < ys.length := by
        have := (List.getElem?_eq_some_iff.mp hx).1
        simpa using this
      have ex : x = .str ys[j] := by
        rw [List.getElem?_map, List.getElem?_eq_getElem hj] at hx
        simpa using hx.symm
      subst ex
      have dl : ds.length ≤ 10 := by
        have := congrArg List.length a1
        simp at this
        omega
      refine ⟨_, rfl, ?_⟩
      obtain ⟨w, hw, en⟩ := next_at (k := k + 1) (b := b + 3 * (j : Int)) [c, .lst (ds.map doorD)] h (by omega) (by omega)
      obtain ⟨f1, i1, u1⟩ := fan_at (k := k) (b := b + 3 * (j : Int) + 1) [c, .lst (ds.map doorD)] h (by omega) (by omega)
      obtain ⟨f2, i2, u2⟩ := fan_at (k := k) (b := b + 3 * (j : Int) + 1 + 1) [c, .lst (ds.map doorD)] h (by omega) (by omega)
      obtain ⟨x1, m1, e1⟩ := at_mod hl w
      obtain ⟨x2, m2, e2⟩ := at_mod hl (w / 7)
      have d0 : ∀ {S : Store} {i : Int}, binD S .Mod (.int i) (.int l.length) = some (.int (i % l.length)) := mod_int hp
      have k0 : ∀ b, bimK (adv S b ++ [c, .lst (ds.map doorD)]) (.hnd (S.length + 1)) "append" = true := fun b => bk_at (get2 (by simp))
      have p0 : ∀ b d, bimD (adv S b ++ [c, .lst (ds.map doorD)]) (.hnd (S.length + 1)) "append" [d] = some (.non, adv S b ++ [c, .lst (ds.map doorD ++ [d])]) := fun b d => by
        rw [bim_app_at (get2 (by simp)) (by rw [sline]; simp; omega), set2 (by simp)]
      refine ⟨[some (.hnd 1), some (.int v), some (.lst (l.map .str)), some (.hnd S.length), o4, some (.hnd (S.length + 1)), some (.int m), some (.str ys[j]), some (.int w), o9, some (.tup [.str x1, .str x2])], adv S (b + 3 * (j : Int) + 1 + 1 + 1) ++ [c, .lst ((ds ++ [Door.mk ys[j] x1 x2 f1 f2]).map doorD)], .inl ?_, rfl, ds ++ [Door.mk ys[j] x1 x2 f1 f2], _, _, _, ?_, ?_, rfl, ?_⟩
      · simp [doorsBody, en, bf_len, d0, div_int, e1, e2, sline, k0, p0, u1, u2, doorD]
      · rw [List.map_append, a1, List.take_add_one, List.getElem?_eq_getElem hj]
        rfl
      · intro d hd
        rcases List.mem_append.mp hd with z | z
        · exact a2 d z
        · rw [List.mem_singleton.mp z]
          exact ⟨m1, m2, i1, i2⟩
      · have : b + 3 * (j : Int) + 1 + 1 + 1 = b + 3 * ((j + 1 : Nat) : Int) := by omega
        rw [this])
    0 _ rfl (Nat.zero_le _) [some (.hnd 1), some (.int v), some (.lst (l.map .str)), some (.hnd S.length), o4, some (.hnd (S.length + 1)), some (.int m), o7, o8, o9, o10] (adv S b ++ [c, .lst []])
    ⟨[], _, _, _, rfl, fun d hd => by (cases hd), rfl, by simp⟩
  subst h4 h5
  rw [List.drop_zero] at h1
  simp only [List.length_map] at h1 h2
  exact ⟨ds, o7, o8, o10, by rw [h2, List.take_length], h3, h1⟩
end K74
namespace K74
open PySem Fk
theorem fn_book : txt.fn "_law_book" = some f_d__law_book := by kernel_rfl
theorem kns_ok {k : Nat} {S : Store} : callF txt.tab txt.fn (k + 1) "_law_kind_names" [] S = .ok (.lst (kindNames.map .str)) S := by kernel_rfl
theorem dns_ok {k : Nat} {S : Store} : callF txt.tab txt.fn (k + 1) "_law_door_names" [] S = .ok (.lst (doorNames.map .str)) S := by kernel_rfl
def ruleP (r : Str × Str) : PyData := .tuple [.str r.1, .str r.2]
theorem rise_un {α β : Type} (f : α → β) {R : β → β → Prop} : ∀ {l : List α}, Rise R (l.map f) → Rise (fun x y => R (f x) (f y)) l
  | [], _ => fun p hp => by simp at hp
  | [x], _ => fun p hp => by simp at hp
  | x :: y :: r, h => fun p hp => by
    have hp' : p ∈ (x, y) :: (y :: r).zip (y :: r).tail := hp
    rcases List.mem_cons.mp hp' with z | z
    · rw [z]
      exact h (f x, f y) List.mem_cons_self
    · exact rise_un f (l := y :: r) (fun q hq => h q (List.mem_cons_of_mem _ hq)) p z
theorem tup_lst {S : Store} {xs : List D} : bifD S "tuple" [.lst xs] = some (.tup xs) := by
  rw [bf_tuple]
  rfl
theorem tup_hnd {S : Store} {n : Nat} {xs : List D} (h : S[n]? = some (.lst xs)) : bifD S "tuple" [.hnd n] = some (.tup xs) := by
  rw [bf_tuple]
  unfold tupArg
  have : deref S (.hnd n) = .lst xs := deref_hnd h
  rw [this]
theorem list_dct {S : Store} {n : Nat} {prs : List (Str × Str)} {vs : List D} (h : S[n]? = some (.dct true (prs.map pk) vs)) : bifD S "list" [.hnd n] = some (.lst (prs.map ruleD)) := by
  rw [bf_list]
  have : deref S (.hnd n) = .dct true (prs.map pk) vs := deref_hnd h
  rw [this]
  simp only [List.map_map]
  rfl
theorem rules_sort {S : Store} {prs : List (Str × Str)} {l : List Str} (hn : prs.Nodup) (hp : ∀ r ∈ prs, r.1 ∈ l ∧ r.2 ∈ l ∧ r.1 ≠ r.2) (hl : prs.length ≤ 100) (ho : ∀ x ∈ l, PyData.strOk x = true) :
    bifD S "sorted" [.lst (prs.map ruleD)] = some (.lst ((prs.mergeSort (PySem.W.dataLe false ruleP)).map ruleD)) ∧
    Rise (fun r s => PySem.W.dataLt (.tuple [.str r.1, .str r.2]) (.tuple [.str s.1, .str s.2]) = true) (prs.mergeSort (PySem.W.dataLe false ruleP)) := by
  have al : ∀ x y : Str, PySem.W.alike (.str x) (.str y) = true := fun x y => by simp [PySem.W.alike]
  have so := sortD_ok ruleD ruleP prs (n := 1) (by omega) (fun r hr => Dt.tup (n := 0) (.cons (.str (ho _ (hp r hr).1)) (.cons (.str (ho _ (hp r hr).2.1)) .nil))) (fun x _ y _ => by simp [PySem.W.alike, PySem.W.alikeAll, ruleP]) (.inl fun x _ => rfl) (by rw [sline]; omega)
  refine ⟨by rw [bf_sorted]; simp [so], ?_⟩
  refine sort_rise ruleP prs hn fun r _ s _ h1 h2 => ?_
  unfold ruleP at h1 h2
  rw [PySem.W.dataLt_pair (al _ _) (al _ _)] at h1 h2
  obtain ⟨r1, r2⟩ := r
  obtain ⟨s1, s2⟩ := s
  simp only [PyData.eqv, PySem.W.dataLt_str] at h1 h2
  by_cases e : r1 = s1
  · subst e
    by_cases e' : r2 = s2
    · rw [e']
    · have e1 : (r2 == s2) = false := beq_eq_false_iff_ne.mpr e'
      have e2 : (s2 == r2) = false := beq_eq_false_iff_ne.mpr (Ne.symm e')
      simp [e1, e2] at h1 h2
      exact absurd (tl_tri (List.not_lt.mpr h1) (List.not_lt.mpr h2)) e'
  · have e1 : (r1 == s1) = false := beq_eq_false_iff_ne.mpr e
    have e2 : (s1 == r1) = false := beq_eq_false_iff_ne.mpr (Ne.symm e)
    simp [e1, e2] at h1 h2
    exact absurd (tl_tri (List.not_lt.mpr h1) (List.not_lt.mpr h2)) e
theorem kinds_many {S : Store} (v : Int) : ∃ m, 1 ≤ m ∧ m ≤ 6 ∧ subD S (.lst [.int (1 + v % 3), .int (2 + v % 3), .int (3 + v % 4)]) (.int (v / 12 % 3)) = some (.int m) := by
  have h : v / 12 % 3 = 0 ∨ v / 12 % 3 = 1 ∨ v / 12 % 3 = 2 := by omega
  rcases h with h | h | h <;> rw [h]
  · exact ⟨1 + v % 3, by omega, by omega, rfl⟩
  · exact ⟨2 + v % 3, by omega, by omega, rfl⟩
  · exact ⟨3 + v % 4, by omega, by omega, rfl⟩
theorem doors_many {S : Store} (v : Int) : ∃ m, 0 ≤ m ∧ m ≤ 6 ∧ subD S (.lst [.int (v / 300 % 3), .int (1 + v / 300 % 4), .int 6]) (.int (v / 900 % 3)) = some (.int m) := by
  have h : v / 900 % 3 = 0 ∨ v / 900 % 3 = 1 ∨ v / 900 % 3 = 2 := by omega
  rcases h with h | h | h <;> rw [h]
  · exact ⟨v / 300 % 3, by omega, by omega, rfl⟩
  · exact ⟨1 + v / 300 % 4, by omega, by omega, rfl⟩
  · exact ⟨6, by omega, by omega, rfl⟩
def manyE : M := .sub (.lst (.cons (.bin .Mod (.bin .FloorDiv (.var 1) (.int 300)) (.int 3)) (.cons (.bin .Add (.int 1) (.bin .Mod (.bin .FloorDiv (.var 1) (.int 300)) (.int 4))) (.cons (.int 6) .nil)))) (.bin .Mult (.bin .Mod (.bin .FloorDiv (.var 1) (.int 900)) (.int 3)) (.bif "int" (.cons (.cmp .Gt (.bin .Mod (.var 1) (.int 5)) (.int 0)) .nil)))
theorem many_ev {cl : Cl} {S : Store} {v : Int} {o0 : Option D} {r : List (Option D)} : ∃ m, 0 ≤ m ∧ m ≤ 6 ∧ ev txt.tab cl manyE (o0 :: some (.int v) :: r) S = .ok (.int m) S := by
  obtain ⟨m, h0, h1, h2⟩ := doors_many (S := S) v
  have m1 : ∀ {S : Store} {i : Int}, binD S .Mult (.int i) (.int 1) = some (.int (i * 1)) := mul_int (.inr (by decide))
  have m0 : ∀ {S : Store} {i : Int}, binD S .Mult (.int i) (.int 0) = some (.int (i * 0)) := mul_int (.inr (by decide))
  by_cases hq : 0 < v % 5
  · exact ⟨m, h0, h1, by simp [manyE, mod_int, div_int, sline, bf_int_bl, hq, m1, h2, -sub_lst]⟩
  · exact ⟨v / 300 % 3, by omega, by omega, by simp [manyE, mod_int, div_int, sline, bf_int_bl, hq, m0]⟩
theorem book_ok {k : Nat} {S : Store} {a : Int} (h : Deck S a) (hS : CS S) (ha : a + 1000 ≤ 100000) : ∃ b a', Gd b ∧ a ≤ a' ∧ a' ≤ a + 100 ∧ callF txt.tab txt.fn (k + 3) "_law_book" [.hnd 1] S = .ok (bookD b) (adv S a') := by
  have lo := h.lo
  have n1 := deck_len h
  obtain ⟨v, hv, en⟩ := next_at (k := k + 1) (b := a) [] h (by omega) (by omega)
  rw [adv_self h, List.append_nil, List.append_nil] at en
  obtain ⟨m, m1, m6, em⟩ := kinds_many (S := adv S (a + 1)) v
  obtain ⟨l, l1, l2, l3, el⟩ := some_at (k := k) (b := a + 1) (m := m) (pool := kindNames) [] h hS (fun d hd => by cases hd) (by omega) (by omega) (by omega) (by omega) (by decide) (by decide +kernel) (fun x hx => (kn_ok x hx).1)
  rw [List.append_nil, List.append_nil] at el
  have kl : kindNames.length = 7 := rfl
  have ll : l.length ≤ 6 ∧ 1 ≤ l.length := by rw [l1, kl]; omega
  have lne : l ≠ [] := by
    rintro rfl
    simp at ll
  have lo' : ∀ x ∈ l, PyData.strOk x = true := fun x hx => (kn_ok x (l2 x hx)).1
  obtain ⟨prs, vs, o4, o8, o9, n, r1, r2, r3, r4, r5, er⟩ := rules_loop (k := k) (b := a + 1 + l.length) h (by omega) (by omega) lne lo' (v := v)
  obtain ⟨m', m0', m6', em'⟩ := many_ev (cl := callF txt.tab txt.fn (k + 2)) (S := adv S (a + 1 + l.length + n) ++ [.dct true (prs.map pk) vs, .lst []]) (v := v) (o0 := some (.hnd 1)) (r := [some (.lst (l.map .str)), some (.hnd S.length), o4, some (.hnd (S.length + 1)), none, none, o8, o9, none])
  have cd : closed S.length (.dct true (prs.map pk) vs) = true := by
    refine closed_of ?_
    have := frzGs_map (fun d => d) (m := S.length) (g := fun _ => none) vs fun x hx => by rw [r5 x hx]; simp [frzG]
    simp only [List.map_id'] at this
    simp [frzG, this]
  have ce : closed S.length (.lst []) = true := closed_of (by simp [frzG, frzGs])
  obtain ⟨ys, y1, y2, y3, ey⟩ := some_at (k := k) (b := a + 1 + l.length + n) (m := m') (pool := doorNames) [.dct true (prs.map pk) vs, .lst []] h hS (fun d hd => by
    simp only [List.mem_cons, List.not_mem_nil, or_false] at hd
    rcases hd with z | z
    · rw [z]; exact cd
    · rw [z]; exact ce) (by omega) (by omega) m0' (by omega) (by decide) (by decide +kernel) (fun x hx => (dn_ok x hx).1)
  have dl : doorNames.length = 7 := rfl
  have yl : ys.length ≤ 6 := by rw [y1, dl]; omega
  obtain ⟨ds, o7', o8', o10', d1, d2, ed⟩ := doors_loop (k := k) (b := a + 1 + l.length + n + ys.length) h (by omega) (by omega) lne (v := v) (m := m') (o4 := o4) (o7 := none) (o8 := o8) (o9 := o9) (o10 := none) (c := .dct true (prs.map pk) vs) ys (by omega)
  have sr := fun S => rules_sort (S := S) (l := l) r2 r3 (by omega) lo'
  have dn : ds.length = ys.length := by rw [← d1]; simp
  have g : Gd ⟨l, prs.mergeSort (PySem.W.dataLe false ruleP), ds⟩ := {
    kn := l2
    k1 := ll.2
    k6 := ll.1
    ku := l3
    rk := fun r hr => r3 r (List.mem_mergeSort.mp hr)
    r10 := by simp; omega
    ru := (sr S).2
    dk := fun d hd => ⟨y2 _ (by rw [← d1]; exact List.mem_map.mpr ⟨d, hd, rfl⟩), d2 d hd⟩
    d6 := by show ds.length ≤ 6; omega
    du := by
      rw [← d1] at y3
      exact rise_un Door.n y3 }
  refine ⟨_, a + 1 + l.length + n + ys.length + 3 * ys.length, g, by omega, by omega, ?_⟩
  obtain ⟨p, hp⟩ := book_dt g
  rw [callF_at fn_book rfl]
  show fin f_d__law_book S (Fk.run txt.tab (callF txt.tab txt.fn (k + 2)) b_d__law_book [some (.hnd 1), none, none, none, none, none, none, none, none, none, none] S) = _
  have rn : Fk.run txt.tab (callF txt.tab txt.fn (k + 2)) b_d__law_book [some (.hnd 1), none, none, none, none, none, none, none, none, none, none] S = .rt (bookD ⟨l, prs.mergeSort (PySem.W.dataLe false ruleP), ds⟩) (adv S (a + 1 + l.length + n + ys.length + 3 * ys.length) ++ [.dct true (prs.map pk) vs, .lst (ds.map doorD)]) := by
    show Fk.run txt.tab (callF txt.tab txt.fn (k + 2)) (.cn (.asg (.var 1) (.call "_law_next" (.cons (.var 0) .nil)))
  (.cn (.asg (.var 2) (.call "_law_some" (.cons (.var 0) (.cons (.call "_law_kind_names" .nil) (.cons (.sub (.lst (.cons (.bin .Add (.int 1) (.bin .Mod (.var 1) (.int 3))) (.cons (.bin .Add (.int 2) (.bin .Mod (.var 1) (.int 3))) (.cons (.bin .Add (.int 3) (.bin .Mod (.var 1) (.int 4))) .nil)))) (.bin .Mod (.bin .FloorDiv (.var 1) (.int 12)) (.int 3))) .nil)))))
  (.cn (.asg (.var 3) (.thaw (.emp true)))
  (.cn rulesLoop
  (.cn (.asg (.var 5) (.thaw (.lst .nil)))
  (.cn (.asg (.var 6) manyE)
  (.cn (.for_ (.var 7) (.call "_law_some" (.cons (.var 0) (.cons (.call "_law_door_names" .nil) (.cons (.var 6) .nil)))) doorsBody)
  (.cn (.ret (.tup (.cons (.bif "tuple" (.cons (.var 2) .nil)) (.cons (.bif "tuple" (.cons (.bif "sorted" (.cons (.bif "list" (.cons (.var 3) .nil)) .nil)) .nil)) (.cons (.bif "tuple" (.cons (.var 5) .nil)) .nil)))))
  .nl)))))))) _ _ = _
    have kn1 : ∀ S, callF txt.tab txt.fn (k + 2) "_law_kind_names" [] S = .ok (.lst (kindNames.map .str)) S := fun S => kns_ok
    have dn1 : ∀ S, callF txt.tab txt.fn (k + 2) "_law_door_names" [] S = .ok (.lst (doorNames.map .str)) S := fun S => dns_ok
    have t1 : ∀ {c : Int} {q : D}, bifD (adv S c ++ [.dct true (prs.map pk) vs, q]) "list" [.hnd S.length] = some (.lst (prs.map ruleD)) := list_dct (vs := vs) (by simp)
    have t2 : ∀ {c : Int} {d : D} {q : List D}, bifD (adv S c ++ [d, .lst q]) "tuple" [.hnd (S.length + 1)] = some (.tup q) := tup_hnd (get2 (by simp))
    have lk : ∀ {c : Int} {d : D}, (adv S c ++ [d]).length = S.length + 1 := by simp
    rw [run_cn, run_asg]
    simp only [ev_call, ev_cons, ev_nil, ev_var, List.getD_cons_zero, opt_some, bind_ok, tupOf_tup, en, out_ok, asg_var, sq_nx, List.set_cons_succ, List.set_cons_zero]
    rw [run_cn, run_asg]
    have ek : ∀ o2 o3 o4 o5 o6 o7 o8 o9 o10, ev txt.tab (callF txt.tab txt.fn (k + 2)) (.sub (.lst (.cons (.bin .Add (.int 1) (.bin .Mod (.var 1) (.int 3))) (.cons (.bin .Add (.int 2) (.bin .Mod (.var 1) (.int 3))) (.cons (.bin .Add (.int 3) (.bin .Mod (.var 1) (.int 4))) .nil)))) (.bin .Mod (.bin .FloorDiv (.var 1) (.int 12)) (.int 3))) [some (.hnd 1), some (.int v), o2, o3, o4, o5, o6, o7, o8, o9, o10] (adv S (a + 1)) = .ok (.int m) (adv S (a + 1)) := by
      intros
      simp [mod_int, div_int, sline, em, -sub_lst]
    simp only [ev_call, ev_cons, ev_nil, ev_var, List.getD_cons_zero, opt_some, bind_ok, tupOf_tup, kn1, ek, el, out_ok, asg_var, sq_nx, List.set_cons_succ, List.set_cons_zero]
    rw [run_cn, run_asg]
    simp only [ev_thaw, ev_emp, bind_ok, isMut_dct, if_true, out_ok, asg_var, sq_nx, List.set_cons_succ, List.set_cons_zero, adv_len]
    rw [run_cn, er, sq_nx, run_cn, run_asg]
    simp only [ev_thaw, ev_lst, ev_nil, bind_ok, tupOf_tup, List.length_nil, Nat.zero_le, isMut_lst, if_true, out_ok, asg_var, sq_nx, List.set_cons_succ, List.set_cons_zero, lk, List.append_assoc, List.singleton_append]
    rw [run_cn, run_asg, em']
    simp only [out_ok, asg_var, sq_nx, List.set_cons_succ, List.set_cons_zero]
    rw [run_cn, run_for]
    simp only [ev_call, ev_cons, ev_nil, ev_var, List.getD_cons_zero, List.getD_cons_succ, opt_some, bind_ok, tupOf_tup, dn1, ey, out_ok, itM_call, gM_call, items_lst, hnd_lst, oB_some]
    rw [ed, sq_nx]
    simp [tup_lst, t1, t2, (sr _).1, sline, bookD]
  have tk : (adv S (a + 1 + l.length + n + ys.length + 3 * ys.length) ++ [D.dct true (prs.map pk) vs, D.lst (ds.map doorD)]).take S.length = adv S (a + 1 + l.length + n + ys.length + 3 * ys.length) := List.take_left' (by simp)
  have cl := cs_adv (a := a + 1 + l.length + n + ys.length + 3 * ys.length) n1 hS
  unfold CS at cl
  rw [adv_len] at cl
  rw [rn, fin_cut rfl (by rw [tk]; exact cl) (hp.fz _ _), tk]
end K74
namespace K74
open PySem Fk
theorem fan_rp : ∀ x ∈ fanTab, ∃ p, Rp 1 60 x.1 p := by
  have key : ∀ x ∈ fanTab, (match pyD x.1 with
    | some p => decide (p.weight ≤ 60) && (p.intsShort 13 && (p.showable && !p.hasDict))
    | none => false) = true := by decide +kernel
  intro x hx
  obtain ⟨p, hp⟩ := fan_dt x hx
  have := key x hx
  rw [hp.py] at this
  simp only [Bool.and_eq_true, decide_eq_true_eq, Bool.not_eq_true'] at this
  exact ⟨p, hp, this.1, this.2.1, this.2.2.1, this.2.2.2⟩
theorem book_rp {b : Bk} (g : Gd b) : ∃ p, Rp 4 4000 (bookD b) p := by
  have k6 := g.k6
  have r10 := g.r10
  have d6 := g.d6
  obtain ⟨p1, q1⟩ := Rps.of (n := 0) (w := 8) D.str (l := b.ks) fun x hx => ⟨_, .str (g.ko x hx) (kn_ok x (g.kn x hx)).2.1⟩
  obtain ⟨p2, q2⟩ := Rps.of (n := 1) (w := 8 + 1 + (8 + 1 + 0)) ruleD (l := b.rs) fun x hx => by
    obtain ⟨h1, h2, _⟩ := g.rk x hx
    exact ⟨_, Rp.tup (n := 0) (.cons (.str (g.ko _ h1) (kn_ok _ (g.kn _ h1)).2.1) (.cons (.str (g.ko _ h2) (kn_ok _ (g.kn _ h2)).2.1) .nil))⟩
  obtain ⟨p3, q3⟩ := Rps.of (n := 2) (w := 8 + 1 + (8 + 1 + (8 + 1 + (60 + 1 + (60 + 1 + 0))))) doorD (l := b.ds) fun x hx => by
    obtain ⟨h1, h2, h3, h4, h5⟩ := g.dk x hx
    obtain ⟨f1, e1⟩ := fan_rp _ h4
    obtain ⟨f2, e2⟩ := fan_rp _ h5
    exact ⟨_, Rp.tup (n := 1) (.cons (.str (dn_ok _ h1).1 (dn_ok _ h1).2.1) (.cons (.str (g.ko _ h2) (kn_ok _ (g.kn _ h2)).2.1) (.cons (.str (g.ko _ h3) (kn_ok _ (g.kn _ h3)).2.1) (.cons e1 (.cons e2 .nil)))))⟩
  have t1 := (Rp.tup q1).mono (m := 3) (w' := 100) (by omega) (by omega)
  have t2 := (Rp.tup q2).mono (m := 3) (w' := 400) (by omega) (by omega)
  have t3 := (Rp.tup q3).mono (m := 3) (w' := 1000) (by omega) (by omega)
  exact ⟨_, (Rp.tup (.cons t1 (.cons t2 (.cons t3 (.nil (w := 0)))))).mono (by omega) (by omega)⟩
theorem fn_law : txt.fn "law" = some f_d_law := by kernel_rfl
theorem deck0 {ds : List Int} (h : dOk ds) (hl : ds.length ≤ 100000) : Deck [.lst (ds.map .int), .lst [.int 0, .hnd 0]] 0 := ⟨⟨ds, rfl, h, hl⟩, rfl, by omega, by omega⟩
theorem cs0 {ds : List Int} : CS [.lst (ds.map .int), .lst [.int 0, .hnd 0]] := by
  have h1 : closed 2 (.lst (ds.map .int)) = true := closed_of (by
    have := frzGs_map D.int (m := 2) (g := fun _ => none) ds fun x _ => by simp [frzG]
    simp [frzG, this])
  have h2 : closed 2 (.lst [.int 0, .hnd 0]) = true := by decide
  unfold CS
  simp [h1, h2]
abbrev cl8 := callF txt.tab txt.fn 8
end K74
set_option Elab.async false
set_option linter.all false
set_option autoImplicit false
set_option maxRecDepth 100000
set_option maxHeartbeats 2000000
/-! Houses, their texts -/
namespace K74
open PySem Fk
structure Way where
  n : Str
  a : Nat
  b : Nat
structure Hs where
  rs : List (List Str)
  ws : List Way
def lotD (r : List Str) : D := .tup (r.map .str)
def wayD (w : Way) : D := .tup [.str w.n, .int w.a, .int w.b]
def houseD (h : Hs) : D := .tup [.tup (h.rs.map lotD), .tup (h.ws.map wayD)]
def num (n : Nat) : Str := toString (n : Int)
def roomLine (r : List Str) : Str := Str.join sp (("room" : Str) :: r)
def wayLine (w : Way) : Str := Str.join sp [("way" : Str), w.n, num w.a, num w.b]
def lines (h : Hs) : List Str := h.rs.map roomLine ++ h.ws.map wayLine
def houseT (h : Hs) : Str := Txt.join "" ((lines h).map (· ++ ln))
def wayP (w : Way) : PyData := .tuple [.str w.n, .int w.a, .int w.b]
/-- a house over kinds and doors -/
structure Gh (ks ns : List Str) (h : Hs) : Prop where
  kn : ∀ x ∈ ks, x ∈ kindNames
  nn : ∀ x ∈ ns, x ∈ doorNames
  r3 : h.rs.length ≤ 300
  rk : ∀ r ∈ h.rs, (∀ x ∈ r, x ∈ ks) ∧ 1 ≤ r.length ∧ r.length ≤ 6 ∧ Rise (fun x y => tl x < tl y) r
  w24 : h.ws.length ≤ 24
  wk : ∀ w ∈ h.ws, w.n ∈ ns ∧ w.a < h.rs.length ∧ w.b < h.rs.length
  wu : Rise (fun u v => PySem.W.dataLt (wayP u) (wayP v) = true) h.ws
theorem num_ok : ∀ n, n < 300 → PyData.strOk (num n) = true ∧ (num n).length ≤ 3 ∧ 32 ∉ tl (num n) ∧ 10 ∉ tl (num n) := by decide +kernel
def dec (l : List Nat) : Nat := l.foldl (fun a c => 10 * a + (c - 48)) 0
theorem num_dec : ∀ n, n < 300 → dec (tl (num n)) = n := by decide +kernel
theorem num_inj {a b : Nat} (ha : a < 300) (hb : b < 300) (h : num a = num b) : a = b := by
  rw [← num_dec a ha, h, num_dec b hb]
theorem str_num {S : Store} {n : Nat} (h : n < 300) : bifD S "str" [.int (n : Int)] = some (.str (num n)) := by
  have h1 : (n : Int).natAbs.log2 < 1920 := by
    have : (n : Int).natAbs = n := by simp
    rw [this]
    by_cases hz : n = 0
    · subst hz; decide
    · have : n.log2 < 20 := (Nat.log2_lt hz).mpr (by omega)
      omega
  show (strOfI (.int (n : Int))).map D.str = _
  show (if (n : Int).natAbs.log2 < 1920 then some (toString (n : Int) : Str) else none).map D.str = _
  rw [if_pos h1]
  rfl
theorem strOf_num {n : Nat} (h : n < 300) : strOf (.int (n : Int)) = some (num n) := by
  have h1 : (n : Int).natAbs.log2 < 1920 := by
    have : (n : Int).natAbs = n := by simp
    rw [this]
    by_cases hz : n = 0
    · subst hz; decide
    · have : n.log2 < 20 := (Nat.log2_lt hz).mpr (by omega)
      omega
  show (if (n : Int).natAbs.log2 < 1920 then some (toString (n : Int) : Str) else none) = _
  rw [if_pos h1]
  rfl
section
variable {ks ns : List Str} {h : Hs}
theorem Gh.lk (g : Gh ks ns h) {r : List Str} (hr : r ∈ h.rs) : ∀ x ∈ r, PyData.strOk x = true ∧ x.length ≤ 8 ∧ 1 ≤ x.length ∧ 32 ∉ tl x ∧ 10 ∉ tl x := fun x hx => kn_ok x (g.kn x ((g.rk r hr).1 x hx))
theorem Gh.wn (g : Gh ks ns h) {w : Way} (hw : w ∈ h.ws) : PyData.strOk w.n = true ∧ w.n.length ≤ 8 ∧ 1 ≤ w.n.length ∧ 32 ∉ tl w.n ∧ 10 ∉ tl w.n := dn_ok w.n (g.nn w.n (g.wk w hw).1)
theorem Gh.wa (g : Gh ks ns h) {w : Way} (hw : w ∈ h.ws) : w.a < 300 ∧ w.b < 300 := by
  have := g.r3
  have := g.wk w hw
  omega
theorem room_join (g : Gh ks ns h) {S : Store} {r : List Str} (hr : r ∈ h.rs) {d : D} (hd : seqOf S d = some ((("room" : Str) :: r).map .str)) : bimD S (.str " ") "join" [d] = some (.str (roomLine r), S) := by
  obtain ⟨h1, h2, h3, h4⟩ := g.rk r hr
  rw [join_of hd 8 (fun x hx => ?_) ?_, jn]
  · rfl
  · have : (" " : Str).length = 1 := by decide +kernel
    rw [this]
    simp
    omega
  · rcases List.mem_cons.mp hx with z | z
    · rw [z]; decide +kernel
    · exact (g.lk hr x z).2.1
theorem way_join (g : Gh ks ns h) {S : Store} {w : Way} (hw : w ∈ h.ws) : bimD S (.str " ") "join" [.lst [.str "way", .str w.n, .str (num w.a), .str (num w.b)]] = some (.str (wayLine w), S) := by
  have ha := g.wa hw
  rw [join_of (l := [("way" : Str), w.n, num w.a, num w.b]) rfl 8 (fun x hx => ?_) ?_, jn]
  · rfl
  · have : (" " : Str).length = 1 := by decide +kernel
    rw [this]
    simp
  · simp only [List.mem_cons, List.not_mem_nil, or_false] at hx
    rcases hx with z | z | z | z
    · rw [z]; decide +kernel
    · rw [z]; exact (g.wn hw).2.1
    · rw [z]; have := (num_ok w.a ha.1).2.1; omega
    · rw [z]; have := (num_ok w.b ha.2).2.1; omega
theorem line_len (g : Gh ks ns h) : ∀ x ∈ lines h, x.length ≤ 100 := by
  intro x hx
  unfold lines at hx
  rcases List.mem_append.mp hx with z | z
  · obtain ⟨r, hr, rfl⟩ := List.mem_map.mp z
    have := jlen 8 (("room" : Str) :: r) (fun y hy => by
      rcases List.mem_cons.mp hy with z | z
      · rw [z]; decide +kernel
      · exact (g.lk hr y z).2.1)
    have hk := (g.rk r hr).2.2.1
    unfold roomLine
    simp at this
    omega
  · obtain ⟨w, hw, rfl⟩ := List.mem_map.mp z
    have ha := g.wa hw
    have := jlen 8 [("way" : Str), w.n, num w.a, num w.b] (fun y hy => by
      simp only [List.mem_cons, List.not_mem_nil, or_false] at hy
      rcases hy with z | z | z | z
      · rw [z]; decide +kernel
      · rw [z]; exact (g.wn hw).2.1
      · rw [z]; have := (num_ok w.a ha.1).2.1; omega
      · rw [z]; have := (num_ok w.b ha.2).2.1; omega)
    unfold wayLine
    simp at this
    omega
theorem lines_count (g : Gh ks ns h) : (lines h).length ≤ 324 := by
  have := g.r3
  have := g.w24
  unfold lines
  simp
  omega
theorem text_join (g : Gh ks ns h) {S : Store} : bimD S (.str "") "join" [.lst ((lines h).map fun x => .str (x ++ ln))] = some (.str (houseT h), S) := by
  have hc := lines_count g
  have h1 : ln.length = 1 := by decide +kernel
  have h0 : ("" : Str).length = 0 := by decide +kernel
  rw [join_of (l := (lines h).map (· ++ ln)) (by simp [seqOf]) 101 (fun x hx => ?_) ?_]
  · rfl
  · rw [h0]
    simp
    omega
  · obtain ⟨y, hy, rfl⟩ := List.mem_map.mp hx
    have := line_len g y hy
    show (y ++ ln).length ≤ 101
    rw [len_app, h1]
    omega
theorem fn_lht : txt.fn "_law_house_text" = some f_d__law_house_text := by kernel_rfl
theorem law_house_text_ok {k : Nat} {S : Store} (hS : CS S) (g : Gh ks ns h) : callF txt.tab txt.fn (k + 2) "_law_house_text" [houseD h] S = .ok (.str (houseT h)) S := by
  have hr := g.r3
  have hw := g.w24
  have l1 := lc_map (tg := .var 5) (own := [5]) (e := ev txt.tab (callF txt.tab txt.fn (k + 1)) (.bim (.str " ") "join" (.cons (.bin .Add (.lst (.cons (.str "room") .nil)) (.bif "list" (.cons (.var 5) .nil))) .nil))) (gs := []) (S := S) (env := [some (houseD h), none, none, none, none, none, none]) lotD (fun r => .str (roomLine r)) h.rs (fun r hr' => ⟨_, rfl, by
      have hk := (g.rk r hr').2.2.1
      have hk1 : 1 + r.length ≤ 16777216 := by omega
      have kj : bimD S (.str " ") "join" [.lst (.str "room" :: r.map .str)] = some (.str (roomLine r), S) := room_join g hr' rfl
      simp [wipeE, lotD, bf_list, bk_join, sline, hk1, kj]⟩) (by rw [sline]; omega)
  let E : Env' → Prop := fun env => ∃ o2 o3 o4 o5 o6, env = [some (houseD h), some (.hnd S.length), o2, o3, o4, o5, o6]
  obtain ⟨e1, ⟨p2, p3, p4, p5, p6, he1⟩, r1⟩ := forL_app (T := txt.tab) (cl := callF txt.tab txt.fn (k + 1)) (S0 := S ++ [.lst (h.rs.map fun r => .str (roomLine r))]) (S := S) (tg := .tup (.cons (.var 2) (.cons (.var 3) (.cons (.var 4) .nil))))
    (body := Fk.run txt.tab (callF txt.tab txt.fn (k + 1)) (.cn (.exp (.bim (.var 1) "append" (.cons (.bim (.str " ") "join" (.cons (.lst (.cons (.str "way") (.cons (.var 2) (.cons (.bif "str" (.cons (.var 3) .nil)) (.cons (.bif "str" (.cons (.var 4) .nil)) .nil))))) .nil)) .nil))) .nl))
    E wayD (fun w => .str (wayLine w)) h.ws (h.rs.map fun r => .str (roomLine r)) [some (houseD h), some (.hnd S.length), none, none, none, none, none] ⟨_, _, _, _, _, rfl⟩ (by simp; omega) (by
    intro w hw' env acc ⟨o2, o3, o4, o5, o6, he⟩ hl
    subst he
    have hl' : acc.length < 16777216 := by omega
    have ha := g.wa hw'
    refine ⟨_, rfl, ?_⟩
    simp [bk_join, sline, str_num ha.1, str_num ha.2, way_join g hw', hl', E])
  have fin0 : Fk.run txt.tab (callF txt.tab txt.fn (k + 1)) b_d__law_house_text [some (houseD h), none, none, none, none, none, none] S = .rt (.str (houseT h)) (S ++ [.lst ((lines h).map .str)]) := by
    subst he1
    have lc := lc_map (tg := .var 6) (own := [6]) (e := ev txt.tab (callF txt.tab txt.fn (k + 1)) (.bin .Add (.var 6) (.str "\n"))) (gs := [S.length]) (S := S ++ [.lst ((lines h).map .str)]) (env := [some (houseD h), some (.hnd S.length), p2, p3, p4, p5, p6]) (fun x : Str => .str x) (fun x => .str (x ++ ln)) (lines h) (fun x hx => ⟨_, rfl, by
      have := line_len g x hx
      simp [wipeE, add_ln (S := S ++ [.lst ((lines h).map .str)]) (x := x) (by omega)]⟩) (by have := lines_count g; rw [sline]; omega)
    have hL : (h.rs.map fun r => D.str (roomLine r)) ++ (h.ws.map fun w => D.str (wayLine w)) = (lines h).map .str := by simp [lines, Function.comp_def]
    simp only [houseD, hL] at r1 l1 lc ⊢
    simp [b_d__law_house_text, bk_join, sline, l1, r1, lc, text_join g]
    done
  rw [callF_at fn_lht rfl]
  show fin f_d__law_house_text S (Fk.run txt.tab (callF txt.tab txt.fn (k + 1)) b_d__law_house_text [some (houseD h), none, none, none, none, none, none] S) = _
  rw [fin0, fin_cut rfl (by rw [take_last]; exact hS) rfl, take_last]
theorem c_room : txt.tab.consts "ROOM" = some (.str "room") := by kernel_rfl
theorem c_way : txt.tab.consts "WAY" = some (.str "way") := by kernel_rfl
theorem c_rooms : txt.tab.consts "ROOMS" = some (.int 300) := by kernel_rfl
theorem way_f (g : Gh ks ns h) {w : Way} (hw : w ∈ h.ws) : joinF [.str "way", .str " ", .str w.n, .str " ", .str (num w.a), .str " ", .str (num w.b)] Str.empty = some (wayLine w) := by
  have ha := g.wa hw
  have h1 := (g.wn hw).2.1
  have h2 := (num_ok w.a ha.1).2.1
  have h3 := (num_ok w.b ha.2).2.1
  have l1 : ("way" : Str).length = 3 := by decide +kernel
  have l2 : (" " : Str).length = 1 := by decide +kernel
  have l0 : Str.empty.length = 0 := by decide +kernel
  have := joinF_all [("way" : Str), " ", w.n, " ", num w.a, " ", num w.b] Str.empty (by simp [l0, l1, l2, sline]; omega)
  rw [show ([("way" : Str), " ", w.n, " ", num w.a, " ", num w.b].map D.str) = [.str "way", .str " ", .str w.n, .str " ", .str (num w.a), .str " ", .str (num w.b)] from rfl] at this
  rw [this]
  refine congrArg some (tl_inj ?_)
  show tl (Str.empty ++ "way" ++ " " ++ w.n ++ " " ++ num w.a ++ " " ++ num w.b) = tl (("way" : Str) ++ sp ++ (w.n ++ sp ++ (num w.a ++ sp ++ num w.b)))
  simp only [tl_app, sp, List.append_assoc]
  rfl
theorem fn_ht : txt.fn "house_text" = some f_d_house_text := by kernel_rfl
theorem house_text_ok {k : Nat} {S : Store} (hS : CS S) (g : Gh ks ns h) : callF txt.tab txt.fn (k + 2) "house_text" [houseD h] S = .ok (.str (houseT h)) S := by
  have hr := g.r3
  have hw := g.w24
  have e1 : ("way" : Str).length = 3 := by decide +kernel
  have e2 : (" " : Str).length = 1 := by decide +kernel
  have l1 := lc_map (tg := .var 4) (own := [4]) (e := ev txt.tab (callF txt.tab txt.fn (k + 1)) (.bim (.str " ") "join" (.cons (.bin .Add (.tup (.cons (.glob "ROOM") .nil)) (.var 4)) .nil))) (gs := []) (S := S) (env := [some (houseD h), none, some (.tup (h.rs.map lotD)), some (.tup (h.ws.map wayD)), none, none, none, none, none]) lotD (fun r => .str (roomLine r)) h.rs (fun r hr' => ⟨_, rfl, by
      have hk := (g.rk r hr').2.2.1
      have hk1 : 1 + r.length ≤ 16777216 := by omega
      have kj : bimD S (.str " ") "join" [.tup (.str "room" :: r.map .str)] = some (.str (roomLine r), S) := room_join g hr' rfl
      simp [wipeE, lotD, bk_join, sline, hk1, kj, c_room]⟩) (by rw [sline]; omega)
  have l2 := lc_map (tg := .tup (.cons (.var 6) (.cons (.var 7) (.cons (.var 8) .nil)))) (own := [6, 7, 8]) (e := ev txt.tab (callF txt.tab txt.fn (k + 1)) (.fst (.fc (.glob "WAY") (.fc (.str " ") (.fc (.var 6) (.fc (.str " ") (.fc (.var 7) (.fc (.str " ") (.fc (.var 8) .nil))))))))) (gs := []) (S := S ++ [.lst (h.rs.map fun r => .str (roomLine r))]) (env := [some (houseD h), some (.hnd S.length), some (.tup (h.rs.map lotD)), some (.tup (h.ws.map wayD)), none, none, none, none, none]) wayD (fun w => .str (wayLine w)) h.ws (fun w hw' => ⟨_, rfl, by
      have ha := g.wa hw'
      have h1 := (g.wn hw').2.1
      have h1' : w.n.length ≤ 16777216 := by omega
      simp [wipeE, c_way, e1, e2, sline, h1', strOf_num ha.1, strOf_num ha.2, way_f g hw']⟩) (by rw [sline]; omega)
  have fin0 : Fk.run txt.tab (callF txt.tab txt.fn (k + 1)) b_d_house_text [some (houseD h), none, none, none, none, none, none, none, none] S = .rt (.str (houseT h)) (S ++ [.lst ((lines h).map .str)]) := by
    have lc := lc_map (tg := .var 5) (own := [5]) (e := ev txt.tab (callF txt.tab txt.fn (k + 1)) (.bin .Add (.var 5) (.str "\n"))) (gs := [S.length]) (S := S ++ [.lst ((lines h).map .str)]) (env := [some (houseD h), some (.hnd S.length), some (.tup (h.rs.map lotD)), some (.tup (h.ws.map wayD)), none, none, none, none, none]) (fun x : Str => .str x) (fun x => .str (x ++ ln)) (lines h) (fun x hx => ⟨_, rfl, by
      have := line_len g x hx
      simp [wipeE, add_ln (S := S ++ [.lst ((lines h).map .str)]) (x := x) (by omega)]⟩) (by have := lines_count g; rw [sline]; omega)
    have hL : (h.rs.map fun r => D.str (roomLine r)) ++ (h.ws.map fun w => D.str (wayLine w)) = (lines h).map .str := by simp [lines, Function.comp_def]
    have hb : seqOf S (houseD h) = some [.tup (h.rs.map lotD), .tup (h.ws.map wayD)] := rfl
    have hx : h.rs.length + h.ws.length ≤ 16777216 := by omega
    simp only [houseD] at l1 l2 lc hb ⊢
    have bk : ∀ xs, bimK (S ++ [.lst xs]) (.hnd S.length) "extend" = true := fun xs => bk_lst deref_last' (.inr (.inl rfl))
    simp [b_d_house_text, bk_join, sline, hb, l1, l2, bk, bim_extend, D.beq, hx, hL, lc, text_join g]
    done
  rw [callF_at fn_ht rfl]
  show fin f_d_house_text S (Fk.run txt.tab (callF txt.tab txt.fn (k + 1)) b_d_house_text [some (houseD h), none, none, none, none, none, none, none, none] S) = _
  rw [fin0, fin_cut rfl (by rw [take_last]; exact hS) rfl, take_last]
end
end K74
set_option Elab.async false
set_option linter.all false
set_option autoImplicit false
set_option maxRecDepth 100000
set_option maxHeartbeats 2000000
/-! The reader of houses -/
namespace K74
open PySem Fk
def nk (n : Nat) : Ky := .inl (.inr (num n))
def spotK (i : Nat) : List Ky := (List.range i).map nk
def spotV (i : Nat) : List D := (List.range i).map fun (j : Nat) => .int (j : Int)
theorem nk_inj {a b : Nat} (ha : a < 300) (hb : b < 300) (h : nk a = nk b) : a = b := by
  simp [nk] at h
  exact num_inj ha hb h
theorem hasK_of {α : Type} (f : α → Ky) : ∀ (l : List α) (a : α), a ∈ l → hasK (f a) (l.map f) = true
  | x :: l, a, h => by
    simp only [List.map_cons, hasK]
    rcases List.mem_cons.mp h with z | z
    · rw [z]; simp
    · rw [hasK_of f l a z]; simp
theorem hasK_no {k : Ky} : ∀ (l : List Ky), k ∉ l → hasK k l = false
  | [], _ => rfl
  | x :: l, h => by
    simp only [hasK]
    rw [hasK_no l fun z => h (List.mem_cons_of_mem _ z), decide_eq_false fun (z : k = x) => h (by rw [z]; exact List.mem_cons_self)]
    rfl
theorem lookK_of {α : Type} (f : α → Ky) (g : α → D) : ∀ (l : List α) (a : α), a ∈ l → (∀ x ∈ l, f a = f x → a = x) → lookK (f a) (l.map f) (l.map g) = some (g a)
  | x :: l, a, h, hi => by
    simp only [List.map_cons, lookK]
    by_cases e : f a = f x
    · rw [if_pos e, hi x List.mem_cons_self e]
    · rw [if_neg e]
      rcases List.mem_cons.mp h with z | z
      · exact absurd (by rw [z]) e
      · exact lookK_of f g l a z fun y hy => hi y (List.mem_cons_of_mem _ hy)
def hO (S : Store) (ks : List D) : D := .obj "HouseReader" ["kinds", "doors", "lots_read", "spots", "ways"] [.tup ks, .hnd (S.length + 1), .hnd (S.length + 2), .hnd (S.length + 3), .hnd (S.length + 4)]
def HS (S : Store) (ks ds ls : List D) (i : Nat) (ws : List D) : Store := S ++ [hO S ks, .lst ds, .lst ls, .dct false (spotK i) (spotV i), .lst ws]
section
variable {S : Store} {ks ds ls ws : List D} {d : D} {i : Nat}
theorem hs0 : (HS S ks ds ls i ws)[S.length]? = some (hO S ks) := by simp [HS]
theorem hs1 : (HS S ks ds ls i ws)[S.length + 1]? = some (.lst ds) := by simp [HS]
theorem hs2 : (HS S ks ds ls i ws)[S.length + 2]? = some (.lst ls) := by simp [HS]
theorem hs3 : (HS S ks ds ls i ws)[S.length + 3]? = some (.dct false (spotK i) (spotV i)) := by simp [HS]
theorem hs4 : (HS S ks ds ls i ws)[S.length + 4]? = some (.lst ws) := by simp [HS]
@[simp] theorem er0 : deref (HS S ks ds ls i ws) (.hnd S.length) = hO S ks := deref_hnd hs0
@[simp] theorem er1 : deref (HS S ks ds ls i ws) (.hnd (S.length + 1)) = .lst ds := deref_hnd hs1
@[simp] theorem er2 : deref (HS S ks ds ls i ws) (.hnd (S.length + 2)) = .lst ls := deref_hnd hs2
@[simp] theorem er3 : deref (HS S ks ds ls i ws) (.hnd (S.length + 3)) = .dct false (spotK i) (spotV i) := deref_hnd hs3
@[simp] theorem er4 : deref (HS S ks ds ls i ws) (.hnd (S.length + 4)) = .lst ws := deref_hnd hs4
theorem attr_of {f : Str} {v : D} (hf : txt.tab.fld "HouseReader" f = true) (hv : lookF f ["kinds", "doors", "lots_read", "spots", "ways"] [.tup ks, .hnd (S.length + 1), .hnd (S.length + 2), .hnd (S.length + 3), .hnd (S.length + 4)] = some v) : attrD txt.tab.fld (HS S ks ds ls i ws) (.hnd S.length) f = some v := by
  unfold attrD
  rw [er0]
  show (if txt.tab.fld "HouseReader" f = true then lookF f ["kinds", "doors", "lots_read", "spots", "ways"] [.tup ks, .hnd (S.length + 1), .hnd (S.length + 2), .hnd (S.length + 3), .hnd (S.length + 4)] else none) = _
  rw [if_pos hf, hv]
theorem fld_k : txt.tab.fld "HouseReader" "kinds" = true := by kernel_rfl
theorem fld_d : txt.tab.fld "HouseReader" "doors" = true := by kernel_rfl
theorem fld_l : txt.tab.fld "HouseReader" "lots_read" = true := by kernel_rfl
theorem fld_s : txt.tab.fld "HouseReader" "spots" = true := by kernel_rfl
theorem fld_w : txt.tab.fld "HouseReader" "ways" = true := by kernel_rfl
@[simp] theorem at_k : attrD txt.tab.fld (HS S ks ds ls i ws) (.hnd S.length) "kinds" = some (.tup ks) := attr_of fld_k (by kernel_rfl)
@[simp] theorem at_d : attrD txt.tab.fld (HS S ks ds ls i ws) (.hnd S.length) "doors" = some (.hnd (S.length + 1)) := attr_of fld_d (by kernel_rfl)
@[simp] theorem at_l : attrD txt.tab.fld (HS S ks ds ls i ws) (.hnd S.length) "lots_read" = some (.hnd (S.length + 2)) := attr_of fld_l (by kernel_rfl)
@[simp] theorem at_s : attrD txt.tab.fld (HS S ks ds ls i ws) (.hnd S.length) "spots" = some (.hnd (S.length + 3)) := attr_of fld_s (by kernel_rfl)
@[simp] theorem at_w : attrD txt.tab.fld (HS S ks ds ls i ws) (.hnd S.length) "ways" = some (.hnd (S.length + 4)) := attr_of fld_w (by kernel_rfl)
@[simp] theorem ap_l {x : D} : bimD (HS S ks ds ls i ws) (.hnd (S.length + 2)) "append" [x] = if ls.length < sizeLine then some (.non, HS S ks ds (ls ++ [x]) i ws) else none := by
  rw [bim_append, er2]
  simp [HS, List.set_append]
@[simp] theorem ap_w {x : D} : bimD (HS S ks ds ls i ws) (.hnd (S.length + 4)) "append" [x] = if ws.length < sizeLine then some (.non, HS S ks ds ls i (ws ++ [x])) else none := by
  rw [bim_append, er4]
  simp [HS, List.set_append]
@[simp] theorem bk_l : bimK (HS S ks ds ls i ws) (.hnd (S.length + 2)) "append" = true := bk_lst er2 (.inl rfl)
@[simp] theorem bk_w : bimK (HS S ks ds ls i ws) (.hnd (S.length + 4)) "append" = true := bk_lst er4 (.inl rfl)
@[simp] theorem len_l : bifD (HS S ks ds ls i ws) "len" [.hnd (S.length + 2)] = some (.int ls.length) := len_hl hs2
theorem set_s (hi : i < 300) : setD (HS S ks ds ls i ws) (.hnd (S.length + 3)) (.str (num i)) (.int i) = some (HS S ks ds ls (i + 1) ws) := by
  unfold setD
  rw [er3]
  simp only
  show (some (nk i)).bind _ = _
  have hn : hasK (nk i) (spotK i) = false := hasK_no _ fun z => by
    obtain ⟨j, hj, e⟩ := List.mem_map.mp z
    rw [List.mem_range] at hj
    have := nk_inj (by omega) hi e
    omega
  rw [Option.bind_some, if_pos (by rw [sline]; simp [spotK]; omega)]
  unfold putK
  rw [hn]
  simp only [Bool.false_eq_true, if_false]
  have e1 : spotK i ++ [nk i] = spotK (i + 1) := by simp [spotK, List.range_succ]
  have e2 : spotV i ++ [D.int (i : Int)] = spotV (i + 1) := by simp [spotV, List.range_succ]
  rw [e1, e2]
  simp [HS, List.set_append]
theorem sub_s {a : Nat} (ha : a < i) (hi : i ≤ 300) : subD (HS S ks ds ls i ws) (.hnd (S.length + 3)) (.str (num a)) = some (.int a) := by
  unfold subD
  rw [er3]
  show (some (nk a)).bind _ = _
  rw [Option.bind_some]
  exact lookK_of nk (fun (j : Nat) => .int (j : Int)) (List.range i) a (List.mem_range.mpr ha) fun x hx e => nk_inj (by omega) (by rw [List.mem_range] at hx; omega) e
theorem in_s {a : Nat} (ha : a < i) : cmpD (HS S ks ds ls i ws) .NotIn (.str (num a)) (.hnd (S.length + 3)) = some false := by
  show (inD _ _ _).map _ = _
  have : inD (HS S ks ds ls i ws) (.str (num a)) (.hnd (S.length + 3)) = some true := by
    unfold inD
    rw [er3]
    show (some (nk a)).bind _ = _
    rw [Option.bind_some, show spotK i = (List.range i).map nk from rfl, hasK_of nk _ a (List.mem_range.mpr ha)]
  rw [this]
  rfl
end
theorem in_d {S : Store} {ks ls ws : List D} {ns : List Str} {i : Nat} {x : Str} (hx : x ∈ ns) (no : ∀ x ∈ ns, PyData.strOk x = true) : cmpD (HS S ks (ns.map .str) ls i ws) .NotIn (.str x) (.hnd (S.length + 1)) = some false := by
  show (inD _ _ _).map _ = _
  have d1 : Ds (HS S ks (ns.map .str) ls i ws) (.str x) (.str x) := (Dt.str (n := 0) (no x hx)).ds (by omega)
  have t : Dts 0 (ns.map D.str) (ns.map PyData.str) := Dts.of D.str PyData.str fun y hy => Dt.str (no y hy)
  have d2 : Ds (HS S ks (ns.map .str) ls i ws) (.hnd (S.length + 1)) (.list (ns.map .str)) := (Dt.lst t).hnd (by omega) hs1
  have : inD (HS S ks (ns.map .str) ls i ws) (.str x) (.hnd (S.length + 1)) = some true := by
    unfold inD
    rw [er1]
    simp only [d1.py, d2.py]
    rw [d1.sh, d2.sh]
    simp only [Bool.and_self, if_true]
    refine congrArg some ?_
    rw [List.any_eq_true]
    exact ⟨.str x, List.mem_map.mpr ⟨x, hx, rfl⟩, by simp [PyData.eqv]⟩
  rw [this]
  rfl
theorem fn_tr : txt.fn "HouseReader.take_room" = some f_d_HouseReader_take_room := by kernel_rfl
theorem take_room_ok {k : Nat} {S : Store} {ks : List Str} {ds : List D} {rs : List (List Str)} {r : List Str} (ko : ∀ x ∈ ks, PyData.strOk x = true) (hk : ∀ x ∈ r, x ∈ ks) (h1 : 1 ≤ r.length) (h6 : r.length ≤ 6) (hr : Rise (fun x y => tl x < tl y) r) (hl : rs.length < 300) :
    callF txt.tab txt.fn (k + 2) "HouseReader.take_room" [.hnd S.length, .lst ((("room" : Str) :: r).map .str)] (HS S (ks.map .str) ds (rs.map lotD) rs.length []) = .ok (.bl true) (HS S (ks.map .str) ds ((rs ++ [r]).map lotD) (rs.length + 1) []) := by
  have ro : ∀ x ∈ r, PyData.strOk x = true := fun x hx => ko x (hk x hx)
  have r1 := rising_t (k := k) (S := HS S (ks.map .str) ds ((rs ++ [r]).map lotD) (rs.length + 1) []) D.str r (by omega) (fun p hp => by
    rw [str_lt (ro _ (List.of_mem_zip hp).1) (ro _ (List.mem_of_mem_tail (List.of_mem_zip hp).2))]
    exact congrArg some (decide_eq_true (hr p hp)))
  have e1 : cmpD (HS S (ks.map .str) ds (rs.map lotD) rs.length []) .NotEq (.hnd (S.length + 4)) (.lst []) = some false := by
    rw [ne_of ((Dt.lst (n := 0) .nil).hnd (by omega) hs4) nilL_ds]
    simp [PyData.eqv, PyData.eqvAll]
  have e2 : ((rs.length : Int) == 300) = false := by
    rw [beq_eq_false_iff_ne]
    omega
  have e3 : cmpD (HS S (ks.map .str) ds (rs.map lotD) rs.length []) .Eq (.tup (r.map .str)) (.tup []) = some false := by
    rw [eq_of ((Dt.tup (Dts.of (n := 0) D.str PyData.str fun y hy => Dt.str (ro y hy))).ds (by omega)) nil_ds]
    cases r with
    | nil => simp at h1
    | cons x r => simp [PyData.eqv, PyData.eqvAll]
  have c2 := lc_map (tg := .var 3) (own := [3]) (e := ev txt.tab (callF txt.tab txt.fn (k + 1)) (.cmp .In (.var 3) (.attr (.var 0) "kinds"))) (gs := []) (S := HS S (ks.map .str) ds (rs.map lotD) rs.length []) (env := [some (.hnd S.length), some (.lst ((("room" : Str) :: r).map .str)), some (.tup (r.map .str)), none]) D.str (fun _ => .bl true) r (fun x hx => ⟨_, rfl, by
      simp [wipeE, in_strs (hk x hx) ko]⟩) (by rw [sline]; omega)
  have e4 : rs.length < 16777216 := by omega
  have tt : ∀ {S : Store} {xs : List D}, bifD S "tuple" [.lst xs] = some (.tup xs) := tup_lst
  rw [callF_at fn_tr rfl]
  show fin f_d_HouseReader_take_room (HS S (ks.map .str) ds (rs.map lotD) rs.length []) (Fk.run txt.tab (callF txt.tab txt.fn (k + 1)) b_d_HouseReader_take_room [some (.hnd S.length), some (.lst ((("room" : Str) :: r).map .str)), none, none] (HS S (ks.map .str) ds (rs.map lotD) rs.length [])) = _
  have ss := set_s (S := S) (ks := ks.map .str) (ds := ds) (ls := rs.map lotD) (ws := []) hl
  simp only [List.map_append, List.map_cons, List.map_nil] at c2 r1 ⊢
  simp only [show lotD r = .tup (r.map .str) from rfl] at r1 ⊢
  simp [b_d_HouseReader_take_room, slc1_lst, tt, c_rooms, e1, e2, e3, e4, c2, bf_all, all_true, cT_of, sline, str_num hl, ss, r1, fin_keep (F := f_d_HouseReader_take_room) rfl]
theorem way_dt {w : Way} (h : PyData.strOk w.n = true) : Dt 1 (wayD w) (wayP w) := Dt.tup (n := 0) (.cons (.str h) (.cons (.int _) (.cons (.int _) .nil)))
theorem way_lt {S : Store} {u v : Way} (h1 : PyData.strOk u.n = true) (h2 : PyData.strOk v.n = true) : cmpD S .Lt (wayD u) (wayD v) = some (PySem.W.dataLt (wayP u) (wayP v)) :=
  lt_of ((way_dt h1).ds (by omega)) ((way_dt h2).ds (by omega)) (by simp [wayP, PySem.W.alike, PySem.W.alikeAll]) rfl
theorem fn_tw : txt.fn "HouseReader.take_way" = some f_d_HouseReader_take_way := by kernel_rfl
theorem take_way_ok {k : Nat} {S : Store} {ks ls : List D} {ns : List Str} {i : Nat} {ws : List Way} {w : Way} (no : ∀ x ∈ ns, PyData.strOk x = true) (hm : ∀ x ∈ ws ++ [w], x.n ∈ ns) (hi : i ≤ 300) (ha : w.a < i) (hb : w.b < i) (hl : ws.length < 100)
    (hr : Rise (fun u v => PySem.W.dataLt (wayP u) (wayP v) = true) (ws ++ [w])) :
    callF txt.tab txt.fn (k + 2) "HouseReader.take_way" [.hnd S.length, .lst [.str "way", .str w.n, .str (num w.a), .str (num w.b)]] (HS S ks (ns.map .str) ls i (ws.map wayD)) = .ok (.bl true) (HS S ks (ns.map .str) ls i ((ws ++ [w]).map wayD)) := by
  have h1 := hm w (by simp)
  have r1 := rising_l (k := k) (S := HS S ks (ns.map .str) ls i ((ws ++ [w]).map wayD)) wayD ((ws ++ [w]).drop ((ws ++ [w]).length - 2)) (by simp; omega) (fun p hp => by
    have m1 := hm _ (List.mem_of_mem_drop (List.of_mem_zip hp).1)
    have m2 := hm _ (List.mem_of_mem_drop (List.mem_of_mem_tail (List.of_mem_zip hp).2))
    rw [way_lt (no _ m1) (no _ m2)]
    exact congrArg some (rise_drop _ hr p hp))
  have e4 : ws.length < 16777216 := by omega
  rw [callF_at fn_tw rfl]
  show fin f_d_HouseReader_take_way (HS S ks (ns.map .str) ls i (ws.map wayD)) (Fk.run txt.tab (callF txt.tab txt.fn (k + 1)) b_d_HouseReader_take_way [some (.hnd S.length), some (.lst [.str "way", .str w.n, .str (num w.a), .str (num w.b)])] (HS S ks (ns.map .str) ls i (ws.map wayD))) = _
  have c3 : slcD (HS S ks (ns.map .str) ls i ((ws ++ [w]).map wayD)) (.hnd (S.length + 4)) (some (-2)) none = some (.lst (((ws ++ [w]).drop ((ws ++ [w]).length - 2)).map wayD)) := by
    unfold slcD
    rw [er4]
    show some (D.lst (cutD ((ws ++ [w]).map wayD) (some (-2)) none)) = _
    rw [cut2]
  have i1 := in_d (S := S) (ks := ks) (ls := ls) (i := i) (ws := ws.map wayD) h1 no
  have i2 := in_s (S := S) (ks := ks) (ds := ns.map .str) (ls := ls) (ws := ws.map wayD) ha
  have i3 := in_s (S := S) (ks := ks) (ds := ns.map .str) (ls := ls) (ws := ws.map wayD) hb
  have s2 := sub_s (S := S) (ks := ks) (ds := ns.map .str) (ls := ls) (ws := ws.map wayD) ha hi
  have s3 := sub_s (S := S) (ks := ks) (ds := ns.map .str) (ls := ls) (ws := ws.map wayD) hb hi
  simp only [List.map_append, List.map_cons, List.map_nil, wayD] at c3 r1
  simp [b_d_HouseReader_take_way, bf_len, i1, i2, i3, s2, s3, e4, cT_of, sline, fin_keep (F := f_d_HouseReader_take_way) rfl]
  simp only [wayD] at *
  rw [c3]
  simp only [opt_some, bind_ok, tupOf_tup, r1, out_ok, sq_rt]
  rw [fin_keep rfl]
end K74
set_option Elab.async false
set_option linter.all false
set_option autoImplicit false
set_option maxRecDepth 100000
set_option maxHeartbeats 2000000
/-! Lines taken; a house read -/
namespace K74
open PySem Fk
section
variable {S : Store} {ks ds ls ws : List D} {i : Nat}
theorem met_of {m f : Str} (h : (if m ∈ (["kinds", "doors", "lots_read", "spots", "ways"] : List Str) then none else txt.tab.mth "HouseReader" m) = some f) : metOf txt.tab.mth (HS S ks ds ls i ws) (.hnd S.length) m = some f := by
  unfold metOf
  rw [er0]
  exact h
@[simp] theorem m_tr : metOf txt.tab.mth (HS S ks ds ls i ws) (.hnd S.length) "take_room" = some "HouseReader.take_room" := met_of (by kernel_rfl)
@[simp] theorem m_tw : metOf txt.tab.mth (HS S ks ds ls i ws) (.hnd S.length) "take_way" = some "HouseReader.take_way" := met_of (by kernel_rfl)
@[simp] theorem m_t : metOf txt.tab.mth (HS S ks ds ls i ws) (.hnd S.length) "take" = some "HouseReader.take" := met_of (by kernel_rfl)
@[simp] theorem m_to : metOf txt.tab.mth (HS S ks ds ls i ws) (.hnd S.length) "told" = some "HouseReader.told" := met_of (by kernel_rfl)
end
theorem fn_t : txt.fn "HouseReader.take" = some f_d_HouseReader_take := by kernel_rfl
section
variable {ks ns : List Str} {h : Hs}
theorem Gh.ko (g : Gh ks ns h) : ∀ x ∈ ks, PyData.strOk x = true := fun x hx => (kn_ok x (g.kn x hx)).1
theorem Gh.no (g : Gh ks ns h) : ∀ x ∈ ns, PyData.strOk x = true := fun x hx => (dn_ok x (g.nn x hx)).1
/-- behind i lines -/
def stAt (S : Store) (ks ns : List Str) (h : Hs) (i : Nat) : Store := HS S (ks.map .str) (ns.map .str) ((h.rs.take i).map lotD) (h.rs.take i).length ((h.ws.take (i - h.rs.length)).map wayD)
theorem step_ok {k : Nat} {S : Store} (g : Gh ks ns h) {i : Nat} {x : Str} (hx : (lines h)[i]? = some x) : callF txt.tab txt.fn (k + 3) "HouseReader.take" [.hnd S.length, .str x] (stAt S ks ns h i) = .ok (.bl true) (stAt S ks ns h (i + 1)) := by
  have r3 := g.r3
  have rw_ne : ∀ {S : Store}, cmpD S .Eq (.str "way") (.str "room") = some false := fun {S} => by
    show some (("way" : Str) == "room") = _
    decide +kernel
  have rr : ∀ {S : Store}, cmpD S .Eq (.str "room") (.str "room") = some true := fun {S} => by
    show some (("room" : Str) == "room") = _
    decide +kernel
  have ww : ∀ {S : Store}, cmpD S .Eq (.str "way") (.str "way") = some true := fun {S} => by
    show some (("way" : Str) == "way") = _
    decide +kernel
  rw [callF_at fn_t rfl]
  show fin f_d_HouseReader_take (stAt S ks ns h i) (Fk.run txt.tab (callF txt.tab txt.fn (k + 2)) b_d_HouseReader_take [some (.hnd S.length), some (.str x), none] (stAt S ks ns h i)) = _
  by_cases hi : i < h.rs.length
  · unfold lines at hx
    rw [List.getElem?_append_left (by simpa using hi), List.getElem?_map, List.getElem?_eq_getElem hi] at hx
    have ex : x = roomLine h.rs[i] := by simpa using hx.symm
    subst ex
    have hr : h.rs[i] ∈ h.rs := List.getElem_mem hi
    obtain ⟨k1, k2, k3, k4⟩ := g.rk _ hr
    have tl1 : (h.rs.take i).length = i := by rw [List.length_take]; omega
    have tk : h.rs.take (i + 1) = h.rs.take i ++ [h.rs[i]] := by rw [List.take_add_one, List.getElem?_eq_getElem hi]; rfl
    have z1 : i - h.rs.length = 0 := by omega
    have z2 : i + 1 - h.rs.length = 0 := by omega
    have t := take_room_ok (k := k) (S := S) (ds := ns.map .str) (rs := h.rs.take i) g.ko k1 k2 k3 k4 (by omega)
    have e1 : stAt S ks ns h i = HS S (ks.map .str) (ns.map .str) ((h.rs.take i).map lotD) (h.rs.take i).length [] := by unfold stAt; rw [z1]; rfl
    have e2 : stAt S ks ns h (i + 1) = HS S (ks.map .str) (ns.map .str) ((h.rs.take i ++ [h.rs[i]]).map lotD) ((h.rs.take i).length + 1) [] := by
      unfold stAt
      rw [z2, tk, List.length_append]
      rfl
    rw [e1, e2]
    have sx : ∀ {S : Store}, bimD S (.str (roomLine h.rs[i])) "split" [.str " "] = some (.lst ((("room" : Str) :: h.rs[i]).map .str), S) := fun {S} => split_sp (by simp) (fun w hw => by
      rcases List.mem_cons.mp hw with z | z
      · rw [z]; decide +kernel
      · exact (g.lk hr w z).2.2.2.1) (by have := line_len g (roomLine h.rs[i]) (by unfold lines; exact List.mem_append_left _ (List.mem_map.mpr ⟨_, hr, rfl⟩)); unfold roomLine at this; omega)
    rw [List.map_cons] at sx t
    simp [-List.map_take, -List.length_take, -List.map_append, b_d_HouseReader_take, bk_split, sx, c_room, rr, t, fin_keep (F := f_d_HouseReader_take) rfl]
  · unfold lines at hx
    rw [List.getElem?_append_right (by simpa using hi), List.length_map, List.getElem?_map] at hx
    have hj : i - h.rs.length < h.ws.length := by
      cases hq : h.ws[i - h.rs.length]? with
      | none => rw [hq] at hx; cases hx
      | some y => exact (List.getElem?_eq_some_iff.mp hq).1
    rw [List.getElem?_eq_getElem hj] at hx
    have ex : x = wayLine h.ws[i - h.rs.length] := by simpa using hx.symm
    subst ex
    have hw : h.ws[i - h.rs.length] ∈ h.ws := List.getElem_mem hj
    obtain ⟨k1, k2, k3⟩ := g.wk _ hw
    have wa := g.wa hw
    have tl1 : h.rs.take i = h.rs := List.take_of_length_le (by omega)
    have tl2 : h.rs.take (i + 1) = h.rs := List.take_of_length_le (by omega)
    have z2 : i + 1 - h.rs.length = i - h.rs.length + 1 := by omega
    have tk : h.ws.take (i + 1 - h.rs.length) = h.ws.take (i - h.rs.length) ++ [h.ws[i - h.rs.length]] := by rw [z2, List.take_add_one, List.getElem?_eq_getElem hj]; rfl
    have w24 := g.w24
    have t := take_way_ok (k := k) (S := S) (ks := ks.map .str) (ls := h.rs.map lotD) (i := h.rs.length) (ws := h.ws.take (i - h.rs.length)) (w := h.ws[i - h.rs.length]) g.no (fun y hy => (g.wk y (by
        rw [← tk] at hy
        exact List.mem_of_mem_take hy)).1) r3 k2 k3 (by rw [List.length_take]; omega) (by rw [← tk]; exact rise_take _ g.wu)
    have e1 : stAt S ks ns h i = HS S (ks.map .str) (ns.map .str) (h.rs.map lotD) h.rs.length ((h.ws.take (i - h.rs.length)).map wayD) := by unfold stAt; rw [tl1]
    have e2 : stAt S ks ns h (i + 1) = HS S (ks.map .str) (ns.map .str) (h.rs.map lotD) h.rs.length ((h.ws.take (i - h.rs.length) ++ [h.ws[i - h.rs.length]]).map wayD) := by
      unfold stAt
      rw [tl2, tk]
    rw [e1, e2]
    have sx : ∀ {S : Store}, bimD S (.str (wayLine h.ws[i - h.rs.length])) "split" [.str " "] = some (.lst [.str "way", .str h.ws[i - h.rs.length].n, .str (num h.ws[i - h.rs.length].a), .str (num h.ws[i - h.rs.length].b)], S) := fun {S} => split_sp (ws := [("way" : Str), h.ws[i - h.rs.length].n, num h.ws[i - h.rs.length].a, num h.ws[i - h.rs.length].b]) (by simp) (fun w hw' => by
      simp only [List.mem_cons, List.not_mem_nil, or_false] at hw'
      rcases hw' with z | z | z | z
      · rw [z]; decide +kernel
      · rw [z]; exact (g.wn hw).2.2.2.1
      · rw [z]; exact (num_ok _ wa.1).2.2.1
      · rw [z]; exact (num_ok _ wa.2).2.2.1) (by have := line_len g (wayLine h.ws[i - h.rs.length]) (by unfold lines; exact List.mem_append_right _ (List.mem_map.mpr ⟨_, hw, rfl⟩)); unfold wayLine at this; omega)
    simp [-List.map_take, -List.length_take, -List.map_append, b_d_HouseReader_take, bk_split, sx, c_room, c_way, rw_ne, ww, t, cT_of, fin_keep (F := f_d_HouseReader_take) rfl]
theorem fn_told : txt.fn "HouseReader.told" = some f_d_HouseReader_told := by kernel_rfl
theorem told_ok {k : Nat} {S : Store} {ks ds ls ws : List D} {i : Nat} : callF txt.tab txt.fn (k + 1) "HouseReader.told" [.hnd S.length] (HS S ks ds ls i ws) = .ok (.tup [.tup [.tup ls, .tup ws]]) (HS S ks ds ls i ws) := by
  have t1 : bifD (HS S ks ds ls i ws) "tuple" [.hnd (S.length + 2)] = some (.tup ls) := tup_hnd hs2
  have t2 : bifD (HS S ks ds ls i ws) "tuple" [.hnd (S.length + 4)] = some (.tup ws) := tup_hnd hs4
  rw [callF_at fn_told rfl]
  show fin f_d_HouseReader_told _ (Fk.run txt.tab (callF txt.tab txt.fn k) b_d_HouseReader_told [some (.hnd S.length)] (HS S ks ds ls i ws)) = _
  simp [b_d_HouseReader_told, t1, t2, sline, fin_keep (F := f_d_HouseReader_told) rfl]
theorem stAt_0 {S : Store} : stAt S ks ns h 0 = HS S (ks.map .str) (ns.map .str) [] 0 [] := by
  unfold stAt
  simp
theorem stAt_end {S : Store} : stAt S ks ns h (lines h).length = HS S (ks.map .str) (ns.map .str) (h.rs.map lotD) h.rs.length (h.ws.map wayD) := by
  unfold stAt
  have e : (lines h).length = h.rs.length + h.ws.length := by simp [lines]
  rw [e, List.take_of_length_le (l := h.rs) (by omega), List.take_of_length_le (l := h.ws) (by omega)]
theorem stAt_m {S : Store} {i : Nat} : metOf txt.tab.mth (stAt S ks ns h i) (.hnd S.length) "take" = some "HouseReader.take" := m_t
theorem line_ln (g : Gh ks ns h) : ∀ x ∈ lines h, 10 ∉ tl x := by
  have j : ∀ ws : List Str, (∀ w ∈ ws, 10 ∉ tl w) → 10 ∉ tl (Str.join sp ws) := by
    intro ws
    induction ws with
    | nil => intro _; decide +kernel
    | cons w ws ih =>
      intro h
      cases ws with
      | nil => exact h w List.mem_cons_self
      | cons v ws =>
        show 10 ∉ tl (w ++ sp ++ Str.join sp (v :: ws))
        rw [tl_app, tl_app, List.mem_append, List.mem_append]
        rintro ((z | z) | z)
        · exact h w List.mem_cons_self z
        · revert z; decide +kernel
        · exact ih (fun y hy => h y (List.mem_cons_of_mem _ hy)) z
  intro x hx
  unfold lines at hx
  rcases List.mem_append.mp hx with z | z
  · obtain ⟨r, hr, rfl⟩ := List.mem_map.mp z
    refine j _ fun w hw => ?_
    rcases List.mem_cons.mp hw with z | z
    · rw [z]; decide +kernel
    · exact (g.lk hr w z).2.2.2.2
  · obtain ⟨w, hw, rfl⟩ := List.mem_map.mp z
    have wa := g.wa hw
    refine j _ fun y hy => ?_
    simp only [List.mem_cons, List.not_mem_nil, or_false] at hy
    rcases hy with z | z | z | z
    · rw [z]; decide +kernel
    · rw [z]; exact (g.wn hw).2.2.2.2
    · rw [z]; exact (num_ok _ wa.1).2.2.2
    · rw [z]; exact (num_ok _ wa.2).2.2.2
theorem split_text (g : Gh ks ns h) : Txt.split (houseT h) "\n" = lines h ++ [("" : Str)] := by
  have e : houseT h = Str.join ⟨#[10]⟩ (lines h ++ [("" : Str)]) := tl_inj (by
    unfold houseT
    rw [jn, tl_concat, tl_join])
  rw [e, ln10]
  refine split_join (by simp) fun p hp => ?_
  rcases List.mem_append.mp hp with z | z
  · exact line_ln g p z
  · rw [List.mem_singleton.mp z]; decide +kernel
theorem text_len (g : Gh ks ns h) : (houseT h).length ≤ 100000 := by
  have h1 := PySem.StrLaws.join_length_le "" ((lines h).map (· ++ ln))
  have h0 : ("" : Str).length = 0 := by decide +kernel
  have hc := lines_count g
  have := sum_le (l := (lines h).map (· ++ ln)) (n := 101) fun x hx => by
    obtain ⟨y, hy, rfl⟩ := List.mem_map.mp hx
    have := line_len g y hy
    have h1 : ln.length = 1 := by decide +kernel
    show (y ++ ln).length ≤ 101
    rw [len_app, h1]
    omega
  unfold houseT
  rw [jn]
  rw [h0] at h1
  simp at this h1
  simp
  omega
theorem ends_ok {k : Nat} {S : Store} (g : Gh ks ns h) : callF txt.tab txt.fn (k + 1) "ends_of" [.str (houseT h)] S = .ok (.tup [.lst ((lines h).map .str), .str ""]) S := by
  have hl := text_len g
  have hs : bimD S (.str (houseT h)) "split" [.str "\n"] = some (.lst ((lines h).map .str ++ [.str ""]), S) := by
    rw [bim_split]
    have h1 : ("\n" : Str).length ≠ 0 := by decide +kernel
    simp only
    rw [sline, if_pos ⟨h1, by omega⟩, split_text g]
    simp
  rw [callF_at fn_eo rfl]
  show fin f_d_ends_of S (Fk.run txt.tab (callF txt.tab txt.fn k) b_d_ends_of [some (.str (houseT h)), none] S) = _
  simp [b_d_ends_of, isi_str, cT_of, bk_split, hs, cut_last, at_last, sline, fin_keep (F := f_d_ends_of) rfl]
theorem house_dt (g : Gh ks ns h) : ∃ p, Dt 3 (houseD h) p := by
  obtain ⟨p1, q1⟩ := dts_ex (n := 1) lotD h.rs fun r hr => ⟨_, Dt.tup (n := 0) (Dts.of D.str PyData.str fun y hy => Dt.str (g.lk hr y hy).1)⟩
  obtain ⟨p2, q2⟩ := dts_ex (n := 1) wayD h.ws fun w hw => ⟨_, way_dt (g.wn hw).1⟩
  exact ⟨_, Dt.tup (n := 2) (.cons (Dt.tup (n := 1) q1) (.cons (Dt.tup (n := 1) q2) .nil))⟩
theorem fn_rb : txt.fn "read_by" = some f_d_read_by := by kernel_rfl
theorem read_by_ok {k : Nat} {S : Store} (g : Gh ks ns h) : callF txt.tab txt.fn (k + 4) "read_by" [.hnd S.length, .str (houseT h)] (HS S (ks.map .str) (ns.map .str) [] 0 []) = .ok (houseD h) (HS S (ks.map .str) (ns.map .str) (h.rs.map lotD) h.rs.length (h.ws.map wayD)) := by
  rw [← stAt_0 (h := h)]
  have eo := ends_ok (k := k + 2) (S := stAt S ks ns h 0) g
  obtain ⟨env', S', h1, h2, ⟨o2, o5, o6, h3⟩⟩ := forL_inv (T := txt.tab) (cl := callF txt.tab txt.fn (k + 3)) (tg := .tup (.cons (.var 5) (.cons (.var 6) .nil)))
    (body := Fk.run txt.tab (callF txt.tab txt.fn (k + 3)) (.cn (.ite (.not (.met (.var 0) "take" (.cons (.var 6) .nil))) (.cn .stop .nl) .nl) .nl)) (gs := []) (S0 := stAt S ks ns h 0)
    (fun i env S' => S' = stAt S ks ns h i ∧ ∃ o2 o5 o6, env = [some (.hnd S.length), some (.str (houseT h)), o2, some (.lst ((lines h).map .str)), some (.str ""), o5, o6])
    (((lines h).map D.str).mapIdx fun i x => .tup [.int i, x]) (by
      rintro i x env S' hx ⟨rfl, o2, o5, o6, rfl⟩
      rw [List.getElem?_mapIdx, List.getElem?_map] at hx
      cases hl : (lines h)[i]? with
      | none => rw [hl] at hx; cases hx
      | some y =>
        rw [hl] at hx
        cases hx
        have st := step_ok (k := k) (S := S) g hl
        refine ⟨_, rfl, ?_⟩
        refine ⟨[some (.hnd S.length), some (.str (houseT h)), o2, some (.lst ((lines h).map .str)), some (.str ""), some (.int i), some (.str y)], stAt S ks ns h (i + 1), .inl ?_, rfl, rfl, _, _, _, rfl⟩
        simp [stAt_m, st])
    0 _ rfl (Nat.zero_le _) [some (.hnd S.length), some (.str (houseT h)), none, some (.lst ((lines h).map .str)), some (.str ""), none, none] (stAt S ks ns h 0) ⟨rfl, _, _, _, rfl⟩
  have hlen : (((lines h).map D.str).mapIdx fun i x => D.tup [.int i, x]).length = (lines h).length := by simp
  rw [hlen, stAt_end] at h2
  rw [List.drop_zero] at h1
  subst h2 h3
  have td := told_ok (k := k + 2) (S := S) (ks := ks.map .str) (ds := ns.map .str) (ls := h.rs.map lotD) (i := h.rs.length) (ws := h.ws.map wayD)
  obtain ⟨p, hp⟩ := house_dt g
  have e1 : cmpD (HS S (ks.map .str) (ns.map .str) (h.rs.map lotD) h.rs.length (h.ws.map wayD)) .NotEq (.str "") (.str "") = some false := by
    show some (!(("" : Str) == "")) = _
    decide +kernel
  have e2 : cmpD (HS S (ks.map .str) (ns.map .str) (h.rs.map lotD) h.rs.length (h.ws.map wayD)) .Eq (.tup [houseD h]) (.tup []) = some false := by
    rw [eq_of ((Dt.tup (.cons hp .nil)).ds (by omega)) nil_ds]
    simp [PyData.eqv, PyData.eqvAll]
  have td' : callF txt.tab txt.fn (k + 3) "HouseReader.told" [.hnd S.length] (HS S (ks.map .str) (ns.map .str) (h.rs.map lotD) h.rs.length (h.ws.map wayD)) = .ok (.tup [houseD h]) (HS S (ks.map .str) (ns.map .str) (h.rs.map lotD) h.rs.length (h.ws.map wayD)) := td
  rw [callF_at fn_rb rfl]
  show fin f_d_read_by (stAt S ks ns h 0) (Fk.run txt.tab (callF txt.tab txt.fn (k + 3)) b_d_read_by [some (.hnd S.length), some (.str (houseT h)), none, none, none, none, none] (stAt S ks ns h 0)) = _
  simp [b_d_read_by, eo, enu_it, enu_g, h1, td', e1, e2, fin_keep (F := f_d_read_by) rfl]
end
theorem fn_init : txt.fn "HouseReader.__init__" = some f_d_HouseReader___init__ := by kernel_rfl
theorem ini_hr : txt.tab.ini "HouseReader" = some "HouseReader.__init__" := by kernel_rfl
theorem fn_rh : txt.fn "read_house" = some f_d_read_house := by kernel_rfl
theorem init_ok {k : Nat} {S : Store} {b : Bk} (hb : b.ds.length ≤ 10) : callF txt.tab txt.fn (k + 1) "HouseReader.__init__" [.hnd S.length, bookD b] (S ++ [D.obj "HouseReader" [] []]) = .ok .non (HS S (b.ks.map .str) ((b.ds.map Door.n).map .str) [] 0 []) := by
  have a1 := setA_new (S := S) (c := "HouseReader") (f := "kinds") (fs := []) (vs := []) (d := .tup (b.ks.map .str)) (l := []) fld_k (by simp)
  have a2 := fun d => setA_new (S := S) (c := "HouseReader") (f := "doors") (fs := ["kinds"]) (vs := [.tup (b.ks.map .str)]) (d := .hnd (S.length + 1)) (l := [d]) fld_d (by simp)
  have a3 := fun d => setA_new (S := S) (c := "HouseReader") (f := "lots_read") (fs := ["kinds", "doors"]) (vs := [.tup (b.ks.map .str), .hnd (S.length + 1)]) (d := .hnd (S.length + 2)) (l := [d, .lst []]) fld_l (by simp)
  have a4 := fun d => setA_new (S := S) (c := "HouseReader") (f := "spots") (fs := ["kinds", "doors", "lots_read"]) (vs := [.tup (b.ks.map .str), .hnd (S.length + 1), .hnd (S.length + 2)]) (d := .hnd (S.length + 3)) (l := [d, .lst [], .dct false [] []]) fld_s (by simp)
  have a5 := fun d => setA_new (S := S) (c := "HouseReader") (f := "ways") (fs := ["kinds", "doors", "lots_read", "spots"]) (vs := [.tup (b.ks.map .str), .hnd (S.length + 1), .hnd (S.length + 2), .hnd (S.length + 3)]) (d := .hnd (S.length + 4)) (l := [d, .lst [], .dct false [] [], .lst []]) fld_w (by simp)
  have p1 : ∀ x, putFD "kinds" x [] [] = ((["kinds"] : List Str), ([x] : List D)) := fun x => by kernel_rfl
  have p2 : ∀ x d, putFD "doors" d ["kinds"] [x] = ((["kinds", "doors"] : List Str), ([x, d] : List D)) := fun x d => by kernel_rfl
  have p3 : ∀ x y d, putFD "lots_read" d ["kinds", "doors"] [x, y] = ((["kinds", "doors", "lots_read"] : List Str), ([x, y, d] : List D)) := fun x y d => by kernel_rfl
  have p4 : ∀ x y z d, putFD "spots" d ["kinds", "doors", "lots_read"] [x, y, z] = ((["kinds", "doors", "lots_read", "spots"] : List Str), ([x, y, z, d] : List D)) := fun x y z d => by kernel_rfl
  have p5 : ∀ x y z u d, putFD "ways" d ["kinds", "doors", "lots_read", "spots"] [x, y, z, u] = ((["kinds", "doors", "lots_read", "spots", "ways"] : List Str), ([x, y, z, u, d] : List D)) := fun x y z u d => by kernel_rfl
  simp only [p1] at a1
  simp only [p2] at a2
  simp only [p3] at a3
  simp only [p4] at a4
  simp only [p5] at a5
  have lc := lc_map (tg := .var 2) (own := [2]) (e := ev txt.tab (callF txt.tab txt.fn k) (.sub (.var 2) (.int 0))) (gs := []) (S := S ++ [D.obj "HouseReader" ["kinds"] [.tup (b.ks.map .str)]]) (env := [some (.hnd S.length), some (bookD b), none]) doorD (fun d => .str d.n) b.ds (fun d hd => ⟨_, rfl, by simp [wipeE, doorD]⟩) (by rw [sline]; omega)
  have hb' : ∀ S, subD S (bookD b) (.int 2) = some (.tup (b.ds.map doorD)) := fun S => by simp [bookD]
  have hb0 : ∀ S, subD S (bookD b) (.int 0) = some (.tup (b.ks.map .str)) := fun S => by simp [bookD]
  rw [callF_at fn_init rfl]
  show fin f_d_HouseReader___init__ _ (Fk.run txt.tab (callF txt.tab txt.fn k) b_d_HouseReader___init__ [some (.hnd S.length), some (bookD b), none] (S ++ [D.obj "HouseReader" [] []])) = _
  simp [b_d_HouseReader___init__, sline, hb', hb0, lc, a1, a2, a3, a4, a5]
  show Res.ok D.non _ = _
  simp [HS, hO, spotK, spotV, Function.comp_def]
theorem read_house_ok {k : Nat} {S : Store} (hS : CS S) {b : Bk} {h : Hs} (hb : b.ds.length ≤ 10) (g : Gh b.ks (b.ds.map Door.n) h) : callF txt.tab txt.fn (k + 5) "read_house" [bookD b, .str (houseT h)] S = .ok (houseD h) S := by
  have i1 := init_ok (k := k + 3) (S := S) hb
  have r1 := read_by_ok (k := k) (S := S) g
  obtain ⟨p, hp⟩ := house_dt g
  have ev_new : ∀ o, ev txt.tab (callF txt.tab txt.fn (k + 4)) (.new "HouseReader" (.cons (.var 0) .nil)) [some (bookD b), o] S = .ok (.hnd S.length) (HS S (b.ks.map .str) ((b.ds.map Door.n).map .str) [] 0 []) := fun o => by
    show (match txt.tab.ini "HouseReader" with
      | some f => (callF txt.tab txt.fn (k + 4) f [.hnd S.length, bookD b] (S ++ [D.obj "HouseReader" [] []])).bind fun d S2 => match d with
        | .non => .ok (.hnd S.length) S2
        | _ => .stuck
      | none => .stuck) = _
    rw [ini_hr]
    show (callF txt.tab txt.fn (k + 3 + 1) "HouseReader.__init__" [.hnd S.length, bookD b] (S ++ [D.obj "HouseReader" [] []])).bind _ = _
    rw [i1]
    rfl
  have run1 : Fk.run txt.tab (callF txt.tab txt.fn (k + 4)) b_d_read_house [some (bookD b), some (.str (houseT h))] S = .rt (houseD h) (HS S (b.ks.map .str) ((b.ds.map Door.n).map .str) (h.rs.map lotD) h.rs.length (h.ws.map wayD)) := by
    simp [b_d_read_house, ev_new, r1, -List.map_map]
  rw [callF_at fn_rh rfl]
  show fin f_d_read_house S (Fk.run txt.tab (callF txt.tab txt.fn (k + 4)) b_d_read_house [some (bookD b), some (.str (houseT h))] S) = _
  have tk : (HS S (b.ks.map .str) ((b.ds.map Door.n).map .str) (h.rs.map lotD) h.rs.length (h.ws.map wayD)).take S.length = S := by simp [HS]
  rw [run1, fin_cut rfl (by rw [tk]; exact hS) (hp.fz _ _), tk]
end K74
set_option Elab.async false
set_option linter.all false
set_option autoImplicit false
set_option maxRecDepth 100000
set_option maxHeartbeats 2000000
/-! The looks at houses -/
namespace K74
open PySem Fk
section
variable {h : Hs} {b : Bk}
theorem fn_il : txt.fn "is_lot" = some f_d_is_lot := by kernel_rfl
theorem is_lot_ok {k : Nat} {S : Store} {ns : List Str} (g : Gh b.ks ns h) {r : List Str} (hr : r ∈ h.rs) : callF txt.tab txt.fn (k + 3) "is_lot" [bookD b, lotD r] S = .ok (.bl true) S := by
  obtain ⟨k1, k2, k3, k4⟩ := g.rk r hr
  have a := are_names_ok (k := k) (S := S) (l := r) (fun x hx k S => is_name_k x (g.kn x (k1 x hx))) (fun x hx => (g.lk hr x hx).1) (by omega) k4
  have hb0 : ∀ S, subD S (bookD b) (.int 0) = some (.tup (b.ks.map .str)) := fun S => by simp [bookD]
  have c := lc_map (tg := .var 2) (own := [2]) (e := ev txt.tab (callF txt.tab txt.fn (k + 2)) (.cmp .In (.var 2) (.sub (.var 0) (.int 0)))) (gs := []) (S := S) (env := [some (bookD b), some (lotD r), none]) D.str (fun _ => .bl true) r (fun x hx => ⟨_, rfl, by simp [wipeE, hb0, in_strs (k1 x hx) g.ko]⟩) (by rw [sline]; omega)
  have hl : 0 < r.length := by omega
  rw [callF_at fn_il rfl]
  show fin f_d_is_lot S (Fk.run txt.tab (callF txt.tab txt.fn (k + 2)) b_d_is_lot [some (bookD b), some (lotD r), none] S) = _
  simp only [lotD] at c ⊢
  have hr0 : r ≠ [] := by rintro rfl; simp at k2
  simp [b_d_is_lot, a, bf_len, hl, hr0, c, bf_all, all_true, cT_of, fin_keep (F := f_d_is_lot) rfl]
theorem fn_do : txt.fn "door_of" = some f_d_door_of := by kernel_rfl
theorem door_loop {T : Tab} {cl : Cl} {S0 S : Store} {n : Str} {o0 : Option D} : ∀ (ds : List Door) (o2 : Option D), n ∈ ds.map Door.n → ∃ d ∈ ds, forL T cl (.var 2) (Fk.run T cl (.cn (.ite (.cmp .Eq (.sub (.var 2) (.int 0)) (.var 1)) (.cn (.ret (.var 2)) .nl) .nl) .nl)) [] S0 (ds.map doorD) [o0, some (.str n), o2] S = .rt (doorD d) S
  | d :: ds, o2, hn => by
    have e0 : ∀ S, subD S (doorD d) (.int 0) = some (.str d.n) := fun S => by simp [doorD]
    by_cases e : d.n = n
    · refine ⟨d, List.mem_cons_self, ?_⟩
      have e1 : (d.n == n) = true := by simp [e]
      simp [forL, e0, eq_strs, e1, e]
    · have hn' : n ∈ ds.map Door.n := by
        rcases List.mem_cons.mp hn with z | z
        · exact absurd z.symm e
        · exact z
      obtain ⟨d', m, r⟩ := door_loop ds (some (doorD d)) hn'
      refine ⟨d', List.mem_cons_of_mem _ m, ?_⟩
      have e1 : (d.n == n) = false := beq_eq_false_iff_ne.mpr e
      simp [forL, e0, eq_strs, e1, stays_nil]
      simpa using r
theorem door_of_ok {k : Nat} {S : Store} {n : Str} (hn : n ∈ b.ds.map Door.n) : ∃ d ∈ b.ds, callF txt.tab txt.fn (k + 1) "door_of" [bookD b, .str n] S = .ok (doorD d) S := by
  obtain ⟨d, m, r⟩ := door_loop (T := txt.tab) (cl := callF txt.tab txt.fn k) (S0 := S) (S := S) (o0 := some (bookD b)) b.ds none hn
  refine ⟨d, m, ?_⟩
  have hb2 : ∀ S, subD S (bookD b) (.int 2) = some (.tup (b.ds.map doorD)) := fun S => by simp [bookD]
  rw [callF_at fn_do rfl]
  show fin f_d_door_of S (Fk.run txt.tab (callF txt.tab txt.fn k) (.cn (.for_ (.var 2) (.sub (.var 0) (.int 2)) (.cn (.ite (.cmp .Eq (.sub (.var 2) (.int 0)) (.var 1)) (.cn (.ret (.var 2)) .nl) .nl) .nl)) (.cn (.ret .non) .nl)) [some (bookD b), some (.str n), none] S) = _
  rw [run_cn, run_for]
  simp only [ev_sub, ev_var, ev_int, List.getD_cons_zero, opt_some, bind_ok, hb2, out_ok, itM_sub, items_tup, oB_some, gM_sub, hnd_tup]
  rw [r]
  simp [fin_keep (F := f_d_door_of) rfl]
theorem fn_if : txt.fn "is_from" = some f_d_is_from := by kernel_rfl
theorem is_from_ok {k : Nat} {S : Store} {a m : Int} (h0 : 0 ≤ a) (h1 : a ≤ m) : callF txt.tab txt.fn (k + 2) "is_from" [.int a, .int 0, .int m] S = .ok (.bl true) S := by
  have w := is_whole_int (k := k) (S := S) a
  rw [callF_at fn_if rfl]
  show fin f_d_is_from S (Fk.run txt.tab (callF txt.tab txt.fn (k + 1)) b_d_is_from [some (.int a), some (.int 0), some (.int m)] S) = _
  simp [b_d_is_from, w, h0, h1, fin_keep (F := f_d_is_from) rfl]
theorem fn_iw : txt.fn "is_way" = some f_d_is_way := by kernel_rfl
theorem is_way_ok {k : Nat} {S : Store} (g : Gh b.ks (b.ds.map Door.n) h) {w : Way} (hw : w ∈ h.ws) : callF txt.tab txt.fn (k + 3) "is_way" [bookD b, .int h.rs.length, wayD w] S = .ok (.bl true) S := by
  obtain ⟨k1, k2, k3⟩ := g.wk w hw
  obtain ⟨d, _, dd⟩ := door_of_ok (k := k + 1) (S := S) k1
  have nm := is_name_d (k := k + 1) (S := S) w.n (g.nn _ k1)
  have f1 := is_from_ok (k := k) (S := S) (a := w.a) (m := (h.rs.length : Int) - 1) (by omega) (by omega)
  have f2 := is_from_ok (k := k) (S := S) (a := w.b) (m := (h.rs.length : Int) - 1) (by omega) (by omega)
  have is0 : ∀ S, cmpD S .Is (doorD d) .non = some false := fun S => rfl
  have hx : isiD S (wayD w) "tuple" = some true := isi_tup
  have l3 : bifD S "len" [wayD w] = some (.int 3) := by rw [bf_len]; simp [wayD]
  rw [callF_at fn_iw rfl]
  show fin f_d_is_way S (Fk.run txt.tab (callF txt.tab txt.fn (k + 2)) b_d_is_way [some (bookD b), some (.int h.rs.length), some (wayD w)] S) = _
  have s0 : subD S (wayD w) (.int 0) = some (.str w.n) := by simp [wayD]
  have s1 : subD S (wayD w) (.int 1) = some (.int w.a) := by simp [wayD]
  have s2 : subD S (wayD w) (.int 2) = some (.int w.b) := by simp [wayD]
  simp [b_d_is_way, hx, l3, s0, s1, s2, nm, dd, is0, f1, f2, cT_of, fin_keep (F := f_d_is_way) rfl]
theorem fn_ih : txt.fn "is_house" = some f_d_is_house := by kernel_rfl
theorem is_house_ok {k : Nat} {S : Store} (g : Gh b.ks (b.ds.map Door.n) h) : callF txt.tab txt.fn (k + 4) "is_house" [bookD b, houseD h] S = .ok (.bl true) S := by
  have r3 := g.r3
  have w24 := g.w24
  let env0 : List (Option D) := [some (bookD b), some (houseD h), none, none, none, none, none, none, none]
  let env1 : List (Option D) := [some (bookD b), some (houseD h), some (.tup (h.rs.map lotD)), some (.tup (h.ws.map wayD)), none, none, none, none, none]
  have c0 := lc_map (tg := .var 7) (own := [7]) (e := ev txt.tab (callF txt.tab txt.fn (k + 3)) (.isi (.var 7) "tuple")) (gs := []) (S := S) (env := env0) D.tup (fun _ => .bl true) [h.rs.map lotD, h.ws.map wayD] (fun x hx => ⟨_, rfl, by simp [wipeE, env0, isi_tup]⟩) (by rw [sline]; simp)
  have c1 := lc_map (tg := .var 8) (own := [8]) (e := ev txt.tab (callF txt.tab txt.fn (k + 3)) (.call "is_lot" (.cons (.var 0) (.cons (.var 8) .nil)))) (gs := []) (S := S) (env := env1) lotD (fun _ => .bl true) h.rs (fun x hx => ⟨_, rfl, by simp [wipeE, env1, is_lot_ok (k := k) g hx]⟩) (by rw [sline]; omega)
  have c2 := lc_map (tg := .var 4) (own := [4]) (e := ev txt.tab (callF txt.tab txt.fn (k + 3)) (.call "is_way" (.cons (.var 0) (.cons (.bif "len" (.cons (.var 2) .nil)) (.cons (.var 4) .nil))))) (gs := []) (S := S) (env := env1) wayD (fun _ => .bl true) h.ws (fun x hx => ⟨_, rfl, by simp [wipeE, env1, bf_len, is_way_ok (k := k) g hx]⟩) (by rw [sline]; omega)
  have c3 := lc_map (tg := .tup (.cons (.var 5) (.cons (.var 6) .nil))) (own := [5, 6]) (e := ev txt.tab (callF txt.tab txt.fn (k + 3)) (.cmp .Lt (.var 5) (.var 6))) (gs := []) (S := S) (env := env1) (fun p : Way × Way => D.tup [wayD p.1, wayD p.2]) (fun _ => .bl true) (h.ws.zip h.ws.tail) (fun x hx => ⟨_, rfl, by
      have h1 := (g.wn (List.of_mem_zip hx).1).1
      have h2 := (g.wn (List.mem_of_mem_tail (List.of_mem_zip hx).2)).1
      simp [wipeE, env1, way_lt h1 h2]
      exact g.wu x hx⟩) (by rw [sline, List.length_zip]; omega)
  have hz := zip_map wayD h.ws
  have hb : seqOf S (houseD h) = some [.tup (h.rs.map lotD), .tup (h.ws.map wayD)] := rfl
  have hi : items S (houseD h) = some [.tup (h.rs.map lotD), .tup (h.ws.map wayD)] := rfl
  have hg : hndOf (houseD h) = [] := rfl
  have ht : isiD S (houseD h) "tuple" = some true := isi_tup
  have hl : bifD S "len" [houseD h] = some (.int 2) := by rw [bf_len]; simp [houseD]
  have hl2 : bifD S "len" [.tup (h.rs.map lotD)] = some (.int h.rs.length) := by rw [bf_len]; simp
  have nr : ¬ (300 : Int) < h.rs.length := by omega
  simp only [List.map_cons, List.map_nil, env0, env1] at c0 c1 c2 c3
  have a2 : (asBls [D.bl true, D.bl true]).map (fun bs => D.bl (bs.all id)) = some (.bl true) := by kernel_rfl
  rw [callF_at fn_ih rfl]
  show fin f_d_is_house S (Fk.run txt.tab (callF txt.tab txt.fn (k + 3)) b_d_is_house [some (bookD b), some (houseD h), none, none, none, none, none, none, none] S) = _
  simp [b_d_is_house, ht, hl, hi, hg, c0, a2, hb, hl2, c_rooms, nr, c1, c2, c3, bf_all, all_true, slc1_tup, itZT, gzT, hz, cT_of, fin_keep (F := f_d_is_house) rfl]
end
end K74
set_option Elab.async false
set_option linter.all false
set_option autoImplicit false
set_option maxRecDepth 100000
set_option maxHeartbeats 2000000
/-! Houses are drawn -/
namespace Fk
open PySem
theorem lcL_inv {tg : M} {own : List Nat} {e : Env' → Store → Res} {gs : List Nat} {S0 : Store} {env : Env'} (P : Nat → List D → Store → Prop) (xs : List D)
    (h : ∀ i x acc S, xs[i]? = some x → P i acc S → ∃ env', bindT tg x (wipeE env own) = some env' ∧ ∃ d S', e env' S = .ok d S' ∧ stays gs S0 S' = true ∧ acc.length < sizeLine ∧ P (i + 1) (acc ++ [d]) S') :
    ∀ (n : Nat) (ys : List D), ys = xs.drop n → n ≤ xs.length → ∀ acc S, P n acc S → ∃ acc' S', lcL tg own e gs S0 env ys acc S = .ok (.lst acc') S' ∧ P xs.length acc' S' := by
  intro n ys
  induction ys generalizing n with
  | nil =>
    intro e' hn acc S hP
    have hl : xs.length ≤ n := by
      have := congrArg List.length e'
      rw [List.length_drop] at this
      simp at this
      omega
    have : n = xs.length := by omega
    subst this
    exact ⟨acc, S, rfl, hP⟩
  | cons y ys ih =>
    intro e' hn acc S hP
    have hlt : n < xs.length := by
      have := congrArg List.length e'
      rw [List.length_drop] at this
      simp at this
      omega
    rw [List.drop_eq_getElem_cons hlt] at e'
    obtain ⟨e1, e2⟩ := List.cons.inj e'
    obtain ⟨env1, b1, d, S2, b2, b3, b4, b5⟩ := h n y acc S (by rw [e1]; simp [hlt]) hP
    obtain ⟨acc', S', r1, r2⟩ := ih (n + 1) e2 (by omega) (acc ++ [d]) S2 b5
    refine ⟨acc', S', ?_, r2⟩
    simp only [lcL, b1, b2]
    rw [if_pos ⟨b3, b4⟩]
    exact r1
end Fk
namespace K74
open PySem Fk
theorem some_ok_t {k : Nat} {S : Store} {a m : Int} {pool : List Str} (h : Deck S a) (hS : CS S) (ha : a + 100 ≤ 100000) (hm : 0 ≤ m) (hm' : m ≤ 100) (hp : pool.length ≤ 100) (hn : pool.Nodup) (ho : ∀ x ∈ pool, PyData.strOk x = true) :
    ∃ l : List Str, l.length = min m.toNat pool.length ∧ (∀ x ∈ l, x ∈ pool) ∧ Rise (fun x y => tl x < tl y) l ∧
      callF txt.tab txt.fn (k + 2) "_law_some" [.hnd 1, .tup (pool.map .str), .int m] S = .ok (.lst (l.map .str)) (adv S (a + l.length)) := by
  have n1 := deck_len h
  have e1 : ∀ env, ev txt.tab (callF txt.tab txt.fn (k + 1)) (.rng1 (.bif "min" (.cons (.var 2) (.cons (.bif "len" (.cons (.var 1) .nil)) .nil)))) [some (.hnd 1), some (.tup (pool.map .str)), some (.int m), env, none, none] (S ++ [.lst (pool.map .str)])
      = .ok (.lst ((List.range (min m.toNat pool.length)).map fun (i : Nat) => .int (0 + (i : Int)))) (S ++ [.lst (pool.map .str)]) := by
    intro env
    have hmin : (if (pool.length : Int) < m then (pool.length : Int) else m).toNat = min m.toNat pool.length := by
      split <;> omega
    rw [← hmin]
    refine ev_rng1_of ?_ ?_ ?_
    · simp [bf_len, bf_min]
    · split <;> omega
    · split <;> omega
  obtain ⟨found, left', f1, f2, f3⟩ := some_lc (k := k) ((List.range (min m.toNat pool.length)).map fun (i : Nat) => D.int (0 + (i : Int))) S S.length a pool [] (some (.tup (pool.map .str))) (some (.int m)) (S ++ [.lst (pool.map .str)]) rfl h (by simp; omega) (by simp; omega) (by simp; omega)
  simp only [List.length_map, List.length_range] at f1 f3
  have fm : ∀ x ∈ found, x ∈ pool := fun x hx => f2.mem_iff.mp (List.mem_append_left _ hx)
  have fn : found.Nodup := (List.nodup_append.mp (f2.nodup_iff.mpr hn)).1
  have so := sortD_ok D.str PyData.str found (n := 0) (by omega) (fun x hx => .str (ho x (fm x hx))) (fun x _ y _ => by simp [PySem.W.alike]) (.inr fun x _ => rfl) (by rw [sline]; omega)
  have sr := sort_rise PyData.str found fn fun x _ y _ h1 h2 => by
    rw [PySem.W.dataLt_str] at h1 h2
    exact tl_tri (of_decide_eq_false h1) (of_decide_eq_false h2)
  refine ⟨found.mergeSort (PySem.W.dataLe false PyData.str), by simp [f1], fun x hx => fm x (List.mem_mergeSort.mp hx), fun p hp => ?_, ?_⟩
  · have : PySem.W.dataLt (.str p.1) (.str p.2) = true := sr p hp
    rw [PySem.W.dataLt_str] at this
    exact of_decide_eq_true this
  · rw [callF_at fn_some rfl]
    show fin f_d__law_some S (Fk.run txt.tab (callF txt.tab txt.fn (k + 1)) b_d__law_some [some (.hnd 1), some (.tup (pool.map .str)), some (.int m), none, none, none] S) = _
    generalize hxs : (List.range (min m.toNat pool.length)).map (fun (i : Nat) => D.int (0 + (i : Int))) = xs at e1 f3
    rw [List.nil_append] at f3
    have rn : Fk.run txt.tab (callF txt.tab txt.fn (k + 1)) b_d__law_some [some (.hnd 1), some (.tup (pool.map .str)), some (.int m), none, none, none] S = .rt (.lst ((found.mergeSort (PySem.W.dataLe false PyData.str)).map .str)) (adv S (a + (min m.toNat pool.length : Nat)) ++ [.lst (left'.map .str)]) := by
      simp [b_d__law_some, bf_list, e1, f3, bf_sorted, so]
    have tk : (adv S (a + (min m.toNat pool.length : Nat)) ++ [D.lst (left'.map D.str)]).take S.length = adv S (a + (min m.toNat pool.length : Nat)) := List.take_left' (by simp)
    have cl := cs_adv (a := a + (min m.toNat pool.length : Nat)) n1 hS
    unfold CS at cl
    rw [adv_len] at cl
    have fz : frz S.length (adv S (a + (min m.toNat pool.length : Nat)) ++ [D.lst (left'.map D.str)]) 4 (.lst ((found.mergeSort (PySem.W.dataLe false PyData.str)).map .str)) = some (.lst ((found.mergeSort (PySem.W.dataLe false PyData.str)).map .str)) :=
      (Dt.lst (Dts.of (n := 0) D.str PyData.str fun x hx => .str (ho x (fm x (List.mem_mergeSort.mp hx))))).fz _ _
    rw [rn, fin_cut rfl (by rw [tk]; exact cl) fz, tk]
    simp [f1]
theorem some_at_t {k : Nat} {S : Store} {a b m : Int} {pool : List Str} (l : List D) (h : Deck S a) (hS : CS S) (hl : ∀ d ∈ l, closed S.length d = true) (h0 : 0 ≤ b) (h1 : b + 100 ≤ 100000) (hm : 0 ≤ m) (hm' : m ≤ 100) (hp : pool.length ≤ 100) (hn : pool.Nodup) (ho : ∀ x ∈ pool, PyData.strOk x = true) :
    ∃ ys : List Str, ys.length = min m.toNat pool.length ∧ (∀ x ∈ ys, x ∈ pool) ∧ Rise (fun x y => tl x < tl y) ys ∧
      callF txt.tab txt.fn (k + 2) "_law_some" [.hnd 1, .tup (pool.map .str), .int m] (adv S b ++ l) = .ok (.lst (ys.map .str)) (adv S (b + ys.length) ++ l) := by
  obtain ⟨ys, e1, e2, e3, e⟩ := some_ok_t (k := k) (deck_app (l := l) (deck_at h h0 (by omega))) (CS.app (cs_adv (deck_len h) hS) (by simpa using hl)) h1 hm hm' hp hn ho
  rw [adv_app (by have := deck_len h; simpa using this), adv_adv] at e
  exact ⟨ys, e1, e2, e3, e⟩
def wk (w : Way) : Ky := .inr [.inr w.n, .inl w.a, .inl w.b]
theorem wk_inj {r s : Way} (h : wk r = wk s) : r = s := by
  obtain ⟨a, b, c⟩ := r
  obtain ⟨d, e, f⟩ := s
  simp [wk] at h
  obtain ⟨h1, h2, h3⟩ := h
  have h2' : b = e := by omega
  have h3' : c = f := by omega
  rw [h1, h2', h3']
instance : DecidableEq Way := fun r s => if h : wk r = wk s then .isTrue (wk_inj h) else .isFalse fun e => h (by rw [e])
theorem hasK_wk {r : Way} : ∀ ws : List Way, hasK (wk r) (ws.map wk) = decide (r ∈ ws)
  | [] => by simp [hasK]
  | s :: ws => by
    simp only [List.map_cons, hasK, hasK_wk ws]
    by_cases e : r = s
    · subst e
      simp
    · have : wk r ≠ wk s := fun h => e (wk_inj h)
      simp [this, e]
theorem set_wk {S : Store} {n : Nat} {c : D} {ws : List Way} {vs : List D} {w : Way} (hn : n = S.length) (hp : ws.length ≤ 100) (hv : ∀ w ∈ vs, w = .bl true) :
    ∃ vs', (∀ w ∈ vs', w = .bl true) ∧ setD (S ++ [c, .dct true (ws.map wk) vs]) (.hnd (n + 1)) (wayD w) (.bl true) = some (S ++ [c, .dct true ((if w ∈ ws then ws else ws ++ [w]).map wk) vs']) := by
  refine ⟨(putK (wk w) (.bl true) (ws.map wk) vs).2, ?_, ?_⟩
  · unfold putK
    split
    · intro w hw
      rcases putA_mem _ _ hw with z | z
      · exact z
      · exact hv w z
    · intro w hw
      rcases List.mem_append.mp hw with z | z
      · exact hv w z
      · exact List.mem_singleton.mp z
  · have dr : deref (S ++ [c, .dct true (ws.map wk) vs]) (.hnd (n + 1)) = .dct true (ws.map wk) vs := deref_hnd (get2 hn)
    unfold setD
    rw [dr]
    simp only
    show (some (wk w)).bind _ = _
    rw [Option.bind_some, if_pos (by rw [sline]; simp; omega), set2 hn]
    have : (putK (wk w) (.bl true) (ws.map wk) vs).1 = (if w ∈ ws then ws else ws ++ [w]).map wk := by
      unfold putK
      rw [hasK_wk]
      by_cases e : w ∈ ws <;> simp [e]
    rw [this]
theorem set_wk1 {S : Store} {n : Nat} {ws : List Way} {vs : List D} {w : Way} (hn : n = S.length) (hp : ws.length ≤ 100) (hv : ∀ w ∈ vs, w = .bl true) :
    ∃ vs', (∀ w ∈ vs', w = .bl true) ∧ setD (S ++ [.dct true (ws.map wk) vs]) (.hnd n) (wayD w) (.bl true) = some (S ++ [.dct true ((if w ∈ ws then ws else ws ++ [w]).map wk) vs']) := by
  subst hn
  refine ⟨(putK (wk w) (.bl true) (ws.map wk) vs).2, ?_, ?_⟩
  · unfold putK
    split
    · intro w hw
      rcases putA_mem _ _ hw with z | z
      · exact z
      · exact hv w z
    · intro w hw
      rcases List.mem_append.mp hw with z | z
      · exact hv w z
      · exact List.mem_singleton.mp z
  · unfold setD
    rw [deref_last]
    simp only
    show (some (wk w)).bind _ = _
    rw [Option.bind_some, if_pos (by rw [sline]; simp; omega), set_last]
    have : (putK (wk w) (.bl true) (ws.map wk) vs).1 = (if w ∈ ws then ws else ws ++ [w]).map wk := by
      unfold putK
      rw [hasK_wk]
      by_cases e : w ∈ ws <;> simp [e]
    rw [this]
theorem list_ways {S : Store} {n : Nat} {ws : List Way} {vs : List D} (h : S[n]? = some (.dct true (ws.map wk) vs)) : bifD S "list" [.hnd n] = some (.lst (ws.map wayD)) := by
  rw [bf_list]
  have : deref S (.hnd n) = .dct true (ws.map wk) vs := deref_hnd h
  rw [this]
  simp only [List.map_map]
  rfl
theorem ways_sort {S : Store} {ws : List Way} (hn : ws.Nodup) (hl : ws.length ≤ 100) (ho : ∀ w ∈ ws, PyData.strOk w.n = true) :
    bifD S "sorted" [.lst (ws.map wayD)] = some (.lst ((ws.mergeSort (PySem.W.dataLe false wayP)).map wayD)) ∧
    Rise (fun u v => PySem.W.dataLt (wayP u) (wayP v) = true) (ws.mergeSort (PySem.W.dataLe false wayP)) := by
  have al : ∀ x y : Str, PySem.W.alike (.str x) (.str y) = true := fun x y => by simp [PySem.W.alike]
  have ai : ∀ x y : Int, PySem.W.alike (.int x) (.int y) = true := fun x y => by simp [PySem.W.alike]
  have so := sortD_ok wayD wayP ws (n := 1) (by omega) (fun r hr => way_dt (ho r hr)) (fun x _ y _ => by simp [PySem.W.alike, PySem.W.alikeAll, wayP]) (.inl fun x _ => rfl) (by rw [sline]; omega)
  refine ⟨by rw [bf_sorted]; simp [so], ?_⟩
  refine sort_rise wayP ws hn fun r _ s _ h1 h2 => ?_
  unfold wayP at h1 h2
  rw [PySem.W.dataLt_tuple, PySem.W.dataLt_cons (al _ _), PySem.W.dataLt_cons (ai _ _)] at h1 h2
  obtain ⟨r1, r2, r3⟩ := r
  obtain ⟨s1, s2, s3⟩ := s
  simp only [PyData.eqv, PySem.W.dataLt_str, PySem.W.dataLt_int] at h1 h2
  by_cases e : r1 = s1
  · subst e
    by_cases e' : r2 = s2
    · subst e'
      rw [PySem.W.dataLt_cons (ai _ _)] at h1 h2
      by_cases e'' : r3 = s3
      · rw [e'']
      · have q1 : ((r3 : Int) == (s3 : Int)) = false := by rw [beq_eq_false_iff_ne]; omega
        have q2 : ((s3 : Int) == (r3 : Int)) = false := by rw [beq_eq_false_iff_ne]; omega
        simp [PyData.eqv, q1, q2, PySem.W.dataLt_int] at h1 h2
        omega
    · have q1 : ((r2 : Int) == (s2 : Int)) = false := by rw [beq_eq_false_iff_ne]; omega
      have q2 : ((s2 : Int) == (r2 : Int)) = false := by rw [beq_eq_false_iff_ne]; omega
      simp [q1, q2] at h1 h2
      omega
  · have e1 : (r1 == s1) = false := beq_eq_false_iff_ne.mpr e
    have e2 : (s1 == r1) = false := beq_eq_false_iff_ne.mpr (Ne.symm e)
    simp [e1, e2] at h1 h2
    exact absurd (tl_tri (List.not_lt.mpr h1) (List.not_lt.mpr h2)) e
end K74
set_option Elab.async false
set_option linter.all false
set_option autoImplicit false
set_option maxRecDepth 100000
set_option maxHeartbeats 2000000
/-! Houses are drawn: rooms, ways -/
namespace K74
open PySem Fk
theorem rise_pw {α : Type} {R : α → α → Prop} (tr : ∀ x y z, R x y → R y z → R x z) : ∀ {l : List α}, Rise R l → l.Pairwise R
  | [], _ => .nil
  | [x], _ => by simp
  | x :: y :: r, h => by
    have h1 : R x y := h (x, y) List.mem_cons_self
    have h2 : (y :: r).Pairwise R := rise_pw tr fun p hp => h p (List.mem_cons_of_mem _ hp)
    refine List.pairwise_cons.mpr ⟨fun z hz => ?_, h2⟩
    rcases List.mem_cons.mp hz with e | e
    · rw [e]; exact h1
    · exact tr _ _ _ h1 ((List.pairwise_cons.mp h2).1 z e)
theorem rise_nodup {l : List Str} (h : Rise (fun x y => tl x < tl y) l) : l.Nodup := by
  refine (rise_pw (R := fun x y : Str => tl x < tl y) (fun x y z a b => List.lt_trans a b) h).imp ?_
  intro x y hxy e
  rw [e] at hxy
  exact List.lt_irrefl _ hxy
theorem at_mod' {α : Type} (f : α → D) {l : List α} (hl : l ≠ []) (v : Int) : ∃ x ∈ l, L2.atI (l.map f) (v % l.length) = some (f x) := by
  have hp : (0 : Int) < l.length := by
    have := List.length_pos_iff.mpr hl
    omega
  have h0 : 0 ≤ v % l.length := Int.emod_nonneg _ (by omega)
  have h1 : v % l.length < l.length := Int.emod_lt_of_pos _ hp
  have hj : (v % l.length).toNat < l.length := by omega
  refine ⟨l[(v % l.length).toNat], List.getElem_mem hj, ?_⟩
  simp [L2.atI, L2.ixN, h0, h1, hj]
def lotOk (ks : List Str) (r : List Str) : Prop := (∀ x ∈ r, x ∈ ks) ∧ 1 ≤ r.length ∧ r.length ≤ 6 ∧ Rise (fun x y => tl x < tl y) r
theorem lots_dts {ks : List Str} {rs : List (List Str)} (ko : ∀ x ∈ ks, PyData.strOk x = true) (hr : ∀ r ∈ rs, lotOk ks r) : Dts 1 (rs.map lotD) (rs.map fun r => .tuple (r.map .str)) :=
  Dts.of lotD (fun r => PyData.tuple (r.map .str)) fun r h => Dt.tup (n := 0) (Dts.of D.str PyData.str fun y hy => Dt.str (ko y ((hr r h).1 y hy)))
theorem lots_cl {ks : List Str} {rs : List (List Str)} {m : Nat} (ko : ∀ x ∈ ks, PyData.strOk x = true) (hr : ∀ r ∈ rs, lotOk ks r) : closed m (.lst (rs.map lotD)) = true := closed_of ((Dt.lst (lots_dts ko hr)).fz _ _)
def roomsBody : MS := .cn (.asg (.var 6) (.call "_law_next" (.cons (.var 0) .nil)))
  (.cn (.exp (.bim (.var 3) "append" (.cons (.bif "tuple" (.cons (.call "_law_some" (.cons (.var 0) (.cons (.sub (.var 1) (.int 0)) (.cons (.bin .Add (.int 1) (.bin .Mod (.var 6) (.bif "min" (.cons (.int 3) (.cons (.bif "len" (.cons (.sub (.var 1) (.int 0)) .nil)) .nil))))) .nil)))) .nil)) .nil)))
  .nl)
theorem rooms_loop {k : Nat} {S : Store} {a b0 : Int} (h : Deck S a) (hS : CS S) (h0 : 0 ≤ b0) (h1 : b0 + 1000 ≤ 100000) {b : Bk} (g : Gd b) {n : Nat} (hn : n ≤ 12) {o4 o6 : Option D} :
    ∃ (rs : List (List Str)) (a' : Int) (o4' o6' : Option D), rs.length = n ∧ (∀ r ∈ rs, lotOk b.ks r) ∧ b0 ≤ a' ∧ a' ≤ b0 + 4 * (n : Int) ∧
      forL txt.tab (callF txt.tab txt.fn (k + 2)) (.var 4) (Fk.run txt.tab (callF txt.tab txt.fn (k + 2)) roomsBody) [] (adv S b0 ++ [.lst []]) ((List.range n).map fun (i : Nat) => D.int (0 + (i : Int))) [some (.hnd 1), some (bookD b), some (.int 12), some (.hnd S.length), o4, none, o6] (adv S b0 ++ [.lst []])
        = .nx [some (.hnd 1), some (bookD b), some (.int 12), some (.hnd S.length), o4', none, o6'] (adv S a' ++ [.lst (rs.map lotD)]) := by
  have k1 := g.k1
  have k6 := g.k6
  have hb0 : ∀ S, subD S (bookD b) (.int 0) = some (.tup (b.ks.map .str)) := fun S => by simp [bookD]
  obtain ⟨env', S', r1, rs, a', o4', o6', q1, q2, q3, q4, q5, q6⟩ := forL_inv (T := txt.tab) (cl := callF txt.tab txt.fn (k + 2)) (tg := .var 4)
    (body := Fk.run txt.tab (callF txt.tab txt.fn (k + 2)) roomsBody) (gs := []) (S0 := adv S b0 ++ [.lst []])
    (fun i env S' => ∃ (rs : List (List Str)) (a' : Int) (o4' o6' : Option D), rs.length = i ∧ (∀ r ∈ rs, lotOk b.ks r) ∧ b0 ≤ a' ∧ a' ≤ b0 + 4 * (i : Int) ∧
      env = [some (.hnd 1), some (bookD b), some (.int 12), some (.hnd S.length), o4', none, o6'] ∧ S' = adv S a' ++ [.lst (rs.map lotD)])
    ((List.range n).map fun (i : Nat) => D.int (0 + (i : Int))) (by
      rintro j x env S' hx ⟨rs, a', o4', o6', q1, q2, q3, q4, rfl, rfl⟩
      have hj : j < n := by
        have := (List.getElem?_eq_some_iff.mp hx).1
        simpa using this
      refine ⟨_, rfl, ?_⟩
      obtain ⟨v, hv, en⟩ := next_at (k := k + 1) (b := a') [.lst (rs.map lotD)] h (by omega) (by omega)
      have q0 : ∃ q : Int, (if (b.ks.length : Int) < 3 then (b.ks.length : Int) else 3) = q ∧ 1 ≤ q ∧ q ≤ 3 ∧ q ≤ b.ks.length := by
        refine ⟨_, rfl, ?_⟩
        split <;> omega
      obtain ⟨q, qe, qa, qb, qc⟩ := q0
      have w0 : 0 ≤ v % q := Int.emod_nonneg _ (by omega)
      have w1 : v % q < q := Int.emod_lt_of_pos _ (by omega)
      obtain ⟨ys, y1, y2, y3, ey⟩ := some_at_t (k := k) (b := a' + 1) (m := 1 + v % q) (pool := b.ks) [.lst (rs.map lotD)] h hS (fun d hd => by
        rw [List.mem_singleton.mp hd]
        exact lots_cl g.ko q2) (by omega) (by omega) (by omega) (by omega) (by omega) (rise_nodup g.ku) g.ko
      have md : ∀ {S : Store}, binD S .Mod (.int v) (.int q) = some (.int (v % q)) := mod_int (by omega)
      have bk : ∀ c, bimK (adv S c ++ [.lst (rs.map lotD)]) (.hnd S.length) "append" = true := fun c => bk_at (xs := rs.map lotD) (by simp)
      have ba : ∀ c d, bimD (adv S c ++ [.lst (rs.map lotD)]) (.hnd S.length) "append" [d] = some (.non, adv S c ++ [.lst (rs.map lotD ++ [d])]) := fun c d => by
        rw [bim_app_at (xs := rs.map lotD) (by simp) (by rw [sline]; simp; omega), show S.length = (adv S c).length by simp, set_last]
      have mn : ∀ {S : Store}, bifD S "min" [.int 3, .int b.ks.length] = some (.int q) := by
        intro S
        rw [bf_min, qe]
      have ln3 : ∀ {S : Store}, bifD S "len" [.tup (b.ks.map .str)] = some (.int b.ks.length) := by
        intro S
        rw [bf_len]
        simp
      refine ⟨[some (.hnd 1), some (bookD b), some (.int 12), some (.hnd S.length), some x, none, some (.int v)], adv S (a' + 1 + ys.length) ++ [.lst ((rs ++ [ys]).map lotD)], .inl ?_, rfl, rs ++ [ys], _, _, _, by simp [q1], ?_, ?_, ?_, rfl, rfl⟩
      · simp [roomsBody, en, bk, hb0, ln3, mn, md, ey, tup_lst, ba, lotD]
      · intro r hr
        rcases List.mem_append.mp hr with z | z
        · exact q2 r z
        · rw [List.mem_singleton.mp z]
          exact ⟨y2, by omega, by omega, y3⟩
      · omega
      · push_cast
        omega)
    0 _ rfl (Nat.zero_le _) [some (.hnd 1), some (bookD b), some (.int 12), some (.hnd S.length), o4, none, o6] (adv S b0 ++ [.lst []])
    ⟨[], b0, _, _, rfl, fun r hr => by (cases hr), Int.le_refl _, by simp, rfl, rfl⟩
  subst q5 q6
  rw [List.drop_zero] at r1
  simp only [List.length_map, List.length_range] at q1 q4
  exact ⟨rs, a', o4', o6', q1, q2, q3, q4, r1⟩
def waysBody : MS := .cn (.asg (.var 6) (.call "_law_next" (.cons (.var 0) .nil)))
  (.cn (.asg (.sub (.var 5) (.tup (.cons (.sub (.sub (.sub (.var 1) (.int 2)) (.bin .Mod (.var 6) (.bif "len" (.cons (.sub (.var 1) (.int 2)) .nil)))) (.int 0)) (.cons (.bin .Mod (.bin .FloorDiv (.var 6) (.int 7)) (.bif "len" (.cons (.var 3) .nil))) (.cons (.bin .Mod (.bin .FloorDiv (.var 6) (.int 700)) (.bif "len" (.cons (.var 3) .nil))) .nil))))) (.bl true))
  .nl)
def wayOk (ns : List Str) (n : Nat) (w : Way) : Prop := w.n ∈ ns ∧ w.a < n ∧ w.b < n
theorem ways_loop {k : Nat} {S : Store} {a b0 : Int} (h : Deck S a) (h0 : 0 ≤ b0) (h1 : b0 + 1000 ≤ 100000) {b : Bk} (g : Gd b) {rs : List (List Str)} (hrs : rs.length ≤ 300) {n : Nat} (hn : n ≤ 24) (hne : n = 0 ∨ (rs ≠ [] ∧ b.ds ≠ [])) {o4 o6 : Option D} :
    ∃ (ws : List Way) (vs : List D) (o4' o6' : Option D), ws.Nodup ∧ (∀ w ∈ ws, wayOk (b.ds.map Door.n) rs.length w) ∧ ws.length ≤ n ∧ (∀ w ∈ vs, w = D.bl true) ∧
      forL txt.tab (callF txt.tab txt.fn (k + 2)) (.var 4) (Fk.run txt.tab (callF txt.tab txt.fn (k + 2)) waysBody) [] (adv S b0 ++ [.lst (rs.map lotD), .dct true [] []]) ((List.range n).map fun (i : Nat) => D.int (0 + (i : Int))) [some (.hnd 1), some (bookD b), some (.int 12), some (.hnd S.length), o4, some (.hnd (S.length + 1)), o6] (adv S b0 ++ [.lst (rs.map lotD), .dct true [] []])
        = .nx [some (.hnd 1), some (bookD b), some (.int 12), some (.hnd S.length), o4', some (.hnd (S.length + 1)), o6'] (adv S (b0 + (n : Int)) ++ [.lst (rs.map lotD), .dct true (ws.map wk) vs]) := by
  have hb2 : ∀ S, subD S (bookD b) (.int 2) = some (.tup (b.ds.map doorD)) := fun S => by simp [bookD]
  obtain ⟨env', S', r1, ws, vs, o4', o6', q1, q2, q3, q4, q5, q6⟩ := forL_inv (T := txt.tab) (cl := callF txt.tab txt.fn (k + 2)) (tg := .var 4)
    (body := Fk.run txt.tab (callF txt.tab txt.fn (k + 2)) waysBody) (gs := []) (S0 := adv S b0 ++ [.lst (rs.map lotD), .dct true [] []])
    (fun i env S' => ∃ (ws : List Way) (vs : List D) (o4' o6' : Option D), ws.Nodup ∧ (∀ w ∈ ws, wayOk (b.ds.map Door.n) rs.length w) ∧ ws.length ≤ i ∧ (∀ w ∈ vs, w = D.bl true) ∧
      env = [some (.hnd 1), some (bookD b), some (.int 12), some (.hnd S.length), o4', some (.hnd (S.length + 1)), o6'] ∧ S' = adv S (b0 + (i : Int)) ++ [.lst (rs.map lotD), .dct true (ws.map wk) vs])
    ((List.range n).map fun (i : Nat) => D.int (0 + (i : Int))) (by
      rintro j x env S' hx ⟨ws, vs, o4', o6', q1, q2, q3, q4, rfl, rfl⟩
      have hj : j < n := by
        have := (List.getElem?_eq_some_iff.mp hx).1
        simpa using this
      obtain ⟨rne, dne⟩ : rs ≠ [] ∧ b.ds ≠ [] := by
        rcases hne with z | z
        · omega
        · exact z
      have rp : (0 : Int) < rs.length := by
        have := List.length_pos_iff.mpr rne
        omega
      have dp : (0 : Int) < b.ds.length := by
        have := List.length_pos_iff.mpr dne
        omega
      refine ⟨_, rfl, ?_⟩
      obtain ⟨v, hv, en⟩ := next_at (k := k + 1) (b := b0 + (j : Int)) [.lst (rs.map lotD), .dct true (ws.map wk) vs] h (by omega) (by omega)
      obtain ⟨d, hd, ed⟩ := at_mod' doorD dne v
      have x0 : 0 ≤ v / 7 % rs.length := Int.emod_nonneg _ (by omega)
      have x1 : v / 7 % rs.length < rs.length := Int.emod_lt_of_pos _ rp
      have y0 : 0 ≤ v / 700 % rs.length := Int.emod_nonneg _ (by omega)
      have y1 : v / 700 % rs.length < rs.length := Int.emod_lt_of_pos _ rp
      obtain ⟨A, hA⟩ := Int.eq_ofNat_of_zero_le x0
      obtain ⟨B, hB⟩ := Int.eq_ofNat_of_zero_le y0
      obtain ⟨vs', v1, v2⟩ := set_wk (S := adv S (b0 + (j : Int) + 1)) (n := S.length) (c := .lst (rs.map lotD)) (ws := ws) (vs := vs) (w := ⟨d.n, A, B⟩) (by simp) (by omega) q4
      have m1 : ∀ {S : Store}, binD S .Mod (.int v) (.int b.ds.length) = some (.int (v % b.ds.length)) := mod_int dp
      have m2 : ∀ {S : Store}, binD S .Mod (.int (v / 7)) (.int rs.length) = some (.int A) := by intro S; rw [mod_int rp, hA]
      have m3 : ∀ {S : Store}, binD S .Mod (.int (v / 700)) (.int rs.length) = some (.int B) := by intro S; rw [mod_int rp, hB]
      have l1 : ∀ {S : Store}, bifD S "len" [.tup (b.ds.map doorD)] = some (.int b.ds.length) := by
        intro S
        rw [bf_len]
        simp
      have l2 : ∀ {c : Int} {q : D}, bifD (adv S c ++ [.lst (rs.map lotD), q]) "len" [.hnd S.length] = some (.int rs.length) := by
        intro c q
        rw [len_hl (xs := rs.map lotD) (by simp)]
        simp
      have sd : ∀ {S : Store}, subD S (doorD d) (.int 0) = some (.str d.n) := by
        intro S
        simp [doorD]
      simp only [wayD] at v2
      refine ⟨[some (.hnd 1), some (bookD b), some (.int 12), some (.hnd S.length), some x, some (.hnd (S.length + 1)), some (.int v)], adv S (b0 + (j : Int) + 1) ++ [.lst (rs.map lotD), .dct true ((if (⟨d.n, A, B⟩ : Way) ∈ ws then ws else ws ++ [⟨d.n, A, B⟩]).map wk) vs'], .inl ?_, rfl, _, vs', _, _, ?_, ?_, ?_, v1, rfl, by rw [Int.natCast_add, Int.add_assoc]; rfl⟩
      · simp [waysBody, en, hb2, l1, m1, ed, sd, div_int, l2, m2, m3, v2, sline]
      · split
        · exact q1
        · rename_i hm
          refine List.nodup_append.mpr ⟨q1, by simp, ?_⟩
          intro p hp q hq e
          rw [List.mem_singleton] at hq
          exact hm (by rw [← hq, ← e]; exact hp)
      · intro w hw
        split at hw
        · exact q2 w hw
        · rcases List.mem_append.mp hw with z | z
          · exact q2 w z
          · rw [List.mem_singleton.mp z]
            exact ⟨List.mem_map.mpr ⟨d, hd, rfl⟩, by show A < rs.length; omega, by show B < rs.length; omega⟩
      · split
        · omega
        · simp
          omega)
    0 _ rfl (Nat.zero_le _) [some (.hnd 1), some (bookD b), some (.int 12), some (.hnd S.length), o4, some (.hnd (S.length + 1)), o6] (adv S b0 ++ [.lst (rs.map lotD), .dct true [] []])
    ⟨[], [], _, _, List.nodup_nil, fun r hr => by (cases hr), Nat.le_refl _, fun w hw => by (cases hw), rfl, by simp⟩
  subst q5 q6
  rw [List.drop_zero] at r1
  simp only [List.length_map, List.length_range] at q3 r1
  exact ⟨ws, vs, o4', o6', q1, q2, q3, q4, r1⟩
end K74
set_option Elab.async false
set_option linter.all false
set_option autoImplicit false
set_option maxRecDepth 100000
set_option maxHeartbeats 2000000
/-! A house drawn; a long one; a further book -/
namespace K74
open PySem Fk
theorem fn_lh : txt.fn "_law_house" = some f_d__law_house := by kernel_rfl
theorem dct_cl {m : Nat} {ks : List Ky} {vs : List D} (h : ∀ w ∈ vs, w = D.bl true) : closed m (.dct true ks vs) = true := by
  refine closed_of ?_
  have := frzGs_map (fun d => d) (m := m) (g := fun _ => none) vs fun x hx => by rw [h x hx]; simp [frzG]
  simp only [List.map_id'] at this
  simp [frzG, this]
theorem gh_of {b : Bk} (g : Gd b) {rs : List (List Str)} {ws : List Way} (h1 : rs.length ≤ 300) (h2 : ∀ r ∈ rs, lotOk b.ks r) (h3 : ws.length ≤ 24) (h4 : ∀ w ∈ ws, wayOk (b.ds.map Door.n) rs.length w)
    (h5 : Rise (fun u v => PySem.W.dataLt (wayP u) (wayP v) = true) (ws.mergeSort (PySem.W.dataLe false wayP))) : Gh b.ks (b.ds.map Door.n) ⟨rs, ws.mergeSort (PySem.W.dataLe false wayP)⟩ where
  kn := g.kn
  nn := fun x hx => by
    obtain ⟨d, hd, rfl⟩ := List.mem_map.mp hx
    exact (g.dk d hd).1
  r3 := h1
  rk := h2
  w24 := by simp; exact h3
  wk := fun w hw => h4 w (List.mem_mergeSort.mp hw)
  wu := h5
theorem doors_dts {b : Bk} (g : Gd b) : ∃ ps, Dts 2 (b.ds.map doorD) ps := dts_ex (n := 2) doorD b.ds fun x hx => by
  obtain ⟨h1, h2, h3, h4, h5⟩ := g.dk x hx
  exact door_dt (dn_ok _ h1).1 (g.ko _ h2) (g.ko _ h3) h4 h5
/-- how many ways are drawn -/
def manyW : M := .bin .Mult (.bin .Mod (.call "_law_next" (.cons (.var 0) .nil)) (.bin .Add (.bin .Mult (.int 2) (.var 2)) (.int 1))) (.bif "int" (.cons (.and (.cmp .NotEq (.var 3) (.lst .nil)) (.one (.cmp .NotEq (.sub (.var 1) (.int 2)) (.tup .nil)))) .nil))
theorem many_w {k : Nat} {S : Store} {a b0 : Int} (h : Deck S a) (h0 : 0 ≤ b0) (h1 : b0 + 1000 ≤ 100000) {b : Bk} (g : Gd b) {rs : List (List Str)} (hr : ∀ r ∈ rs, lotOk b.ks r) {r : List (Option D)} :
    ∃ n : Nat, n ≤ 24 ∧ (n = 0 ∨ (rs ≠ [] ∧ b.ds ≠ [])) ∧ ev txt.tab (callF txt.tab txt.fn (k + 1)) manyW (some (.hnd 1) :: some (bookD b) :: some (.int 12) :: some (.hnd S.length) :: r) (adv S b0 ++ [.lst (rs.map lotD), .dct true [] []]) = .ok (.int n) (adv S (b0 + 1) ++ [.lst (rs.map lotD), .dct true [] []]) := by
  obtain ⟨v, hv, en⟩ := next_at (k := k) (b := b0) [.lst (rs.map lotD), .dct true [] []] h (by omega) (by omega)
  have w0 : 0 ≤ v % 25 := Int.emod_nonneg _ (by decide)
  have w1 : v % 25 < 25 := Int.emod_lt_of_pos _ (by decide)
  obtain ⟨A, hA⟩ := Int.eq_ofNat_of_zero_le w0
  have hb2 : ∀ S, subD S (bookD b) (.int 2) = some (.tup (b.ds.map doorD)) := fun S => by simp [bookD]
  have e1 : cmpD (adv S (b0 + 1) ++ [.lst (rs.map lotD), .dct true [] []]) .NotEq (.hnd S.length) (.lst []) = some (!rs.isEmpty) := by
    rw [ne_of ((Dt.lst (lots_dts g.ko hr)).hnd (by omega) (by simp)) nilL_ds]
    cases rs <;> simp [PyData.eqv, PyData.eqvAll]
  obtain ⟨ps, hps⟩ := doors_dts g
  have e2 : ∀ S, cmpD S .NotEq (.tup (b.ds.map doorD)) (.tup []) = some (!b.ds.isEmpty) := fun S => by
    rw [ne_of ((Dt.tup hps).ds (by omega)) nil_ds]
    have := hps.py
    cases hd : b.ds with
    | nil =>
      rw [hd] at this
      simp only [List.map_nil, pyDs, Option.some.injEq] at this
      subst this
      simp [PyData.eqv, PyData.eqvAll]
    | cons d ds =>
      rw [hd] at this
      simp only [List.map_cons, pyDs] at this
      cases q1 : pyD (doorD d) with
      | none => rw [q1] at this; cases this
      | some p1 =>
        cases q2 : pyDs (ds.map doorD) with
        | none => rw [q1, q2] at this; cases this
        | some p2 =>
          rw [q1, q2] at this
          cases this
          simp [PyData.eqv, PyData.eqvAll]
  have m1 : ∀ {S : Store}, binD S .Mult (.int (A : Int)) (.int 1) = some (.int ((A : Int) * 1)) := mul_int (.inr (by decide))
  have m0 : ∀ {S : Store}, binD S .Mult (.int (A : Int)) (.int 0) = some (.int ((A : Int) * 0)) := mul_int (.inr (by decide))
  have m2 : ∀ {S : Store}, binD S .Mult (.int 2) (.int 12) = some (.int (2 * 12)) := mul_int (.inr (by decide))
  have md : ∀ {S : Store}, binD S .Mod (.int v) (.int 25) = some (.int A) := by
    intro S
    rw [mod_int (by decide), hA]
  cases hr0 : rs.isEmpty with
  | true =>
    rw [hr0] at e1
    exact ⟨0, by omega, .inl rfl, by simp [manyW, en, m2, md, e1, sline, bf_int_bl, m0]⟩
  | false =>
    rw [hr0] at e1
    cases hd0 : b.ds.isEmpty with
    | true =>
      rw [hd0] at e2
      exact ⟨0, by omega, .inl rfl, by simp [manyW, en, m2, md, e1, e2, hb2, sline, bf_int_bl, m0]⟩
    | false =>
      rw [hd0] at e2
      refine ⟨A, by omega, .inr ⟨?_, ?_⟩, by simp [manyW, en, m2, md, e1, e2, hb2, sline, bf_int_bl, m1]⟩
      · rintro rfl; simp at hr0
      · intro z; rw [z] at hd0; simp at hd0
theorem law_house_ok {k : Nat} {S : Store} {a : Int} (h : Deck S a) (hS : CS S) (ha : a + 2000 ≤ 100000) {b : Bk} (g : Gd b) : ∃ (x : Hs) (a' : Int), Gh b.ks (b.ds.map Door.n) x ∧ a ≤ a' ∧ a' ≤ a + 400 ∧ callF txt.tab txt.fn (k + 3) "_law_house" [.hnd 1, bookD b, .int 12] S = .ok (houseD x) (adv S a') := by
  have lo := h.lo
  have n1 := deck_len h
  obtain ⟨v, hv, en⟩ := next_at (k := k + 1) (b := a) [.lst []] h (by omega) (by omega)
  rw [adv_self h] at en
  have w0 : 0 ≤ v % 13 := Int.emod_nonneg _ (by decide)
  have w1 : v % 13 < 13 := Int.emod_lt_of_pos _ (by decide)
  have e1 := ev_rng1_of (T := txt.tab) (cl := callF txt.tab txt.fn (k + 2)) (a := .bin .Mod (.call "_law_next" (.cons (.var 0) .nil)) (.bin .Add (.var 2) (.int 1))) (env := [some (.hnd 1), some (bookD b), some (.int 12), some (.hnd S.length), none, none, none]) (S := S ++ [.lst []]) (S' := adv S (a + 1) ++ [.lst []]) (n := v % 13) (by simp [en, mod_int]) (by omega) (by omega)
  obtain ⟨rs, a1, o4, o6, r1, r2, r3, r4, r5⟩ := rooms_loop (k := k) (b0 := a + 1) h hS (by omega) (by omega) g (n := (v % 13).toNat) (by omega) (o4 := none) (o6 := none)
  obtain ⟨n, t1, t2, t3⟩ := many_w (k := k + 1) (b0 := a1) h (by omega) (by omega) g r2 (r := [o4, some (.hnd (S.length + 1)), o6])
  have e2 := ev_rng1_of t3 (by omega) (by omega)
  obtain ⟨ws, vs, p4, p6, u1, u2, u3, u4, u5⟩ := ways_loop (k := k) (b0 := a1 + 1) h (by omega) (by omega) g (rs := rs) (by omega) t1 t2 (o4 := o4) (o6 := o6)
  have wo : ∀ w ∈ ws, PyData.strOk w.n = true := fun w hw => by
    obtain ⟨d, hd, e⟩ := List.mem_map.mp (u2 w hw).1
    rw [← e]
    exact (dn_ok _ (g.dk d hd).1).1
  have so := fun S => ways_sort (S := S) u1 (by omega) wo
  have G := gh_of g (rs := rs) (ws := ws) (by omega) r2 (by omega) u2 (so S).2
  refine ⟨_, a1 + 1 + n, G, by omega, by omega, ?_⟩
  obtain ⟨p, hp⟩ := house_dt G
  have lk : ∀ {c : Int} {d : D}, (adv S c ++ [d]).length = S.length + 1 := by simp
  have l1 : ∀ {c : Int} {q : D}, bifD (adv S c ++ [.lst (rs.map lotD), q]) "tuple" [.hnd S.length] = some (.tup (rs.map lotD)) := tup_hnd (by simp)
  have l2 : ∀ {c : Int} {q : D}, bifD (adv S c ++ [q, .dct true (ws.map wk) vs]) "list" [.hnd (S.length + 1)] = some (.lst (ws.map wayD)) := list_ways (vs := vs) (get2 (by simp))
  rw [callF_at fn_lh rfl]
  show fin f_d__law_house S (Fk.run txt.tab (callF txt.tab txt.fn (k + 2)) (.cn (.asg (.var 3) (.thaw (.lst .nil)))
  (.cn (.for_ (.var 4) (.rng1 (.bin .Mod (.call "_law_next" (.cons (.var 0) .nil)) (.bin .Add (.var 2) (.int 1)))) roomsBody)
  (.cn (.asg (.var 5) (.thaw (.emp true)))
  (.cn (.for_ (.var 4) (.rng1 manyW) waysBody)
  (.cn (.ret (.tup (.cons (.bif "tuple" (.cons (.var 3) .nil)) (.cons (.bif "tuple" (.cons (.bif "sorted" (.cons (.bif "list" (.cons (.var 5) .nil)) .nil)) .nil)) .nil))))
  .nl))))) [some (.hnd 1), some (bookD b), some (.int 12), none, none, none, none] S) = _
  have rn : Fk.run txt.tab (callF txt.tab txt.fn (k + 2)) (.cn (.asg (.var 3) (.thaw (.lst .nil)))
  (.cn (.for_ (.var 4) (.rng1 (.bin .Mod (.call "_law_next" (.cons (.var 0) .nil)) (.bin .Add (.var 2) (.int 1)))) roomsBody)
  (.cn (.asg (.var 5) (.thaw (.emp true)))
  (.cn (.for_ (.var 4) (.rng1 manyW) waysBody)
  (.cn (.ret (.tup (.cons (.bif "tuple" (.cons (.var 3) .nil)) (.cons (.bif "tuple" (.cons (.bif "sorted" (.cons (.bif "list" (.cons (.var 5) .nil)) .nil)) .nil)) .nil))))
  .nl))))) [some (.hnd 1), some (bookD b), some (.int 12), none, none, none, none] S = .rt (houseD ⟨rs, ws.mergeSort (PySem.W.dataLe false wayP)⟩) (adv S (a1 + 1 + n) ++ [.lst (rs.map lotD), .dct true (ws.map wk) vs]) := by
    rw [run_cn, run_asg]
    simp only [ev_thaw, ev_lst, ev_nil, bind_ok, tupOf_tup, List.length_nil, Nat.zero_le, isMut_lst, if_true, out_ok, asg_var, sq_nx, List.set_cons_succ, List.set_cons_zero]
    rw [run_cn, run_for, e1]
    simp only [out_ok, itM_rng1, items_lst, oB_some, gM_rng1, hnd_lst]
    rw [r5, sq_nx, run_cn, run_asg]
    simp only [ev_thaw, ev_emp, bind_ok, isMut_dct, if_true, out_ok, asg_var, sq_nx, List.set_cons_succ, List.set_cons_zero, lk, List.append_assoc, List.singleton_append]
    rw [run_cn, run_for, e2]
    simp only [out_ok, itM_rng1, items_lst, oB_some, gM_rng1, hnd_lst, Int.toNat_natCast]
    rw [u5, sq_nx]
    simp [tup_lst, l1, l2, (so _).1, sline, houseD]
  have tk : (adv S (a1 + 1 + n) ++ [D.lst (rs.map lotD), D.dct true (ws.map wk) vs]).take S.length = adv S (a1 + 1 + n) := List.take_left' (by simp)
  have cl := cs_adv (a := a1 + 1 + n) n1 hS
  unfold CS at cl
  rw [adv_len] at cl
  rw [rn, fin_cut rfl (by rw [tk]; exact cl) (hp.fz _ _), tk]
end K74
set_option Elab.async false
set_option linter.all false
set_option autoImplicit false
set_option maxRecDepth 100000
set_option maxHeartbeats 2000000
/-! A long house; a further book -/
namespace K74
open PySem Fk
theorem fn_ll : txt.fn "_law_long" = some f_d__law_long := by kernel_rfl
def longE : M := .tup (.cons (.sub (.sub (.var 1) (.int 0)) (.bin .Mod (.bin .Add (.bin .Mult (.var 9) (.var 9)) (.call "_law_next" (.cons (.var 0) .nil))) (.bif "len" (.cons (.sub (.var 1) (.int 0)) .nil)))) .nil)
theorem long_rooms {k : Nat} {S : Store} {a : Int} (h : Deck S a) (ha : a + 1000 ≤ 100000) {b : Bk} (g : Gd b) : ∃ rs : List (List Str), rs.length = 300 ∧ (∀ r ∈ rs, lotOk b.ks r) ∧
    lcL (.var 9) [9] (ev txt.tab (callF txt.tab txt.fn (k + 1)) longE) [] S [some (.hnd 1), some (bookD b), none, none, none, none, none, none, none, none] ((List.range 300).map fun (i : Nat) => D.int (0 + (i : Int))) [] S = .ok (.lst (rs.map lotD)) (adv S (a + 300)) := by
  have lo := h.lo
  have k1 := g.k1
  have kne : b.ks ≠ [] := by
    intro z
    rw [z] at k1
    simp at k1
  have kp : (0 : Int) < b.ks.length := by omega
  have hb0 : ∀ S, subD S (bookD b) (.int 0) = some (.tup (b.ks.map .str)) := fun S => by simp [bookD]
  obtain ⟨acc, S', r1, rs, q1, q2, q3, q4⟩ := lcL_inv (tg := .var 9) (own := [9]) (e := ev txt.tab (callF txt.tab txt.fn (k + 1)) longE) (gs := []) (S0 := S) (env := [some (.hnd 1), some (bookD b), none, none, none, none, none, none, none, none])
    (fun i acc S' => ∃ rs : List (List Str), acc = rs.map lotD ∧ rs.length = i ∧ (∀ r ∈ rs, lotOk b.ks r) ∧ S' = adv S (a + (i : Int)))
    ((List.range 300).map fun (i : Nat) => D.int (0 + (i : Int))) (by
      rintro j x acc S' hx ⟨rs, rfl, q2, q3, rfl⟩
      have hj : j < 300 := by
        have := (List.getElem?_eq_some_iff.mp hx).1
        simpa using this
      have ex : x = .int (j : Int) := by
        rw [List.getElem?_map, List.getElem?_range hj] at hx
        simpa using hx.symm
      subst ex
      refine ⟨_, rfl, ?_⟩
      obtain ⟨v, hv, en⟩ := next_at (k := k) (b := a + (j : Int)) [] h (by omega) (by omega)
      rw [List.append_nil, List.append_nil] at en
      obtain ⟨y, hy, ey⟩ := at_mod kne ((j : Int) * (j : Int) + v)
      have mm : ∀ {S : Store}, binD S .Mult (.int (j : Int)) (.int (j : Int)) = some (.int ((j : Int) * (j : Int))) := mul_int (.inl (by omega))
      have md : ∀ {S : Store} {i : Int}, binD S .Mod (.int i) (.int b.ks.length) = some (.int (i % b.ks.length)) := mod_int kp
      have l1 : ∀ {S : Store}, bifD S "len" [.tup (b.ks.map .str)] = some (.int b.ks.length) := by
        intro S
        rw [bf_len]
        simp
      refine ⟨lotD [y], adv S (a + (j : Int) + 1), ?_, rfl, by rw [sline]; simp; omega, rs ++ [[y]], by simp, by simp [q2], ?_, by rw [Int.natCast_add, Int.add_assoc]; rfl⟩
      · simp [longE, wipeE, hb0, mm, en, l1, md, ey, sline, lotD]
      · intro r hr
        rcases List.mem_append.mp hr with z | z
        · exact q3 r z
        · rw [List.mem_singleton.mp z]
          exact ⟨fun x hx => by rw [List.mem_singleton.mp hx]; exact hy, by simp, by simp, fun p hp => by simp at hp⟩)
    0 _ rfl (Nat.zero_le _) [] S ⟨[], rfl, rfl, fun r hr => by (cases hr), by simp [adv_self h]⟩
  subst q1 q4
  rw [List.drop_zero] at r1
  simp only [List.length_map, List.length_range] at q2 r1
  exact ⟨rs, q2, q3, r1⟩
def longBody : MS := .cn (.asg (.sub (.var 3) (.tup (.cons (.var 4) (.cons (.int 299) (.cons (.bin .Mod (.call "_law_next" (.cons (.var 0) .nil)) (.int 300)) .nil))))) (.bl true))
  (.cn (.asg (.sub (.var 3) (.tup (.cons (.var 4) (.cons (.bin .Mod (.call "_law_next" (.cons (.var 0) .nil)) (.int 300)) (.cons (.int 99) .nil))))) (.bl true))
  .nl)
theorem ins_ok {ws : List Way} {w : Way} {ns : List Str} {m n : Nat} (h1 : ws.Nodup) (h2 : ∀ w ∈ ws, wayOk ns n w) (h3 : ws.length ≤ m) (hw : wayOk ns n w) : (if w ∈ ws then ws else ws ++ [w]).Nodup ∧ (∀ x ∈ (if w ∈ ws then ws else ws ++ [w]), wayOk ns n x) ∧ (if w ∈ ws then ws else ws ++ [w]).length ≤ m + 1 := by
  split
  · exact ⟨h1, h2, by omega⟩
  · rename_i hm
    refine ⟨List.nodup_append.mpr ⟨h1, by simp, ?_⟩, ?_, by simp; omega⟩
    · intro p hp q hq e
      rw [List.mem_singleton] at hq
      exact hm (by rw [← hq, ← e]; exact hp)
    · intro x hx
      rcases List.mem_append.mp hx with z | z
      · exact h2 x z
      · rw [List.mem_singleton.mp z]
        exact hw
theorem long_ways {k : Nat} {S : Store} {a b0 : Int} (h : Deck S a) (h0 : 0 ≤ b0) (h1 : b0 + 1000 ≤ 100000) {b : Bk} (g : Gd b) {o2 : Option D} :
    ∃ (ws : List Way) (vs : List D) (o4 o5 o6 o7 o8 : Option D), ws.Nodup ∧ (∀ w ∈ ws, wayOk (b.ds.map Door.n) 300 w) ∧ ws.length ≤ 12 ∧ (∀ w ∈ vs, w = D.bl true) ∧
      forL txt.tab (callF txt.tab txt.fn (k + 1)) (.tup (.cons (.var 4) (.cons (.var 5) (.cons (.var 6) (.cons (.var 7) (.cons (.var 8) .nil)))))) (Fk.run txt.tab (callF txt.tab txt.fn (k + 1)) longBody) [] (adv S b0 ++ [.dct true [] []]) (b.ds.map doorD) [some (.hnd 1), some (bookD b), o2, some (.hnd S.length), none, none, none, none, none, none] (adv S b0 ++ [.dct true [] []])
        = .nx [some (.hnd 1), some (bookD b), o2, some (.hnd S.length), o4, o5, o6, o7, o8, none] (adv S (b0 + 2 * (b.ds.length : Int)) ++ [.dct true (ws.map wk) vs]) := by
  have d6 := g.d6
  obtain ⟨env', S', r1, ws, vs, o4, o5, o6, o7, o8, q1, q2, q3, q4, q5, q6⟩ := forL_inv (T := txt.tab) (cl := callF txt.tab txt.fn (k + 1)) (tg := .tup (.cons (.var 4) (.cons (.var 5) (.cons (.var 6) (.cons (.var 7) (.cons (.var 8) .nil))))))
    (body := Fk.run txt.tab (callF txt.tab txt.fn (k + 1)) longBody) (gs := []) (S0 := adv S b0 ++ [.dct true [] []])
    (fun i env S' => ∃ (ws : List Way) (vs : List D) (o4 o5 o6 o7 o8 : Option D), ws.Nodup ∧ (∀ w ∈ ws, wayOk (b.ds.map Door.n) 300 w) ∧ ws.length ≤ 2 * i ∧ (∀ w ∈ vs, w = D.bl true) ∧
      env = [some (.hnd 1), some (bookD b), o2, some (.hnd S.length), o4, o5, o6, o7, o8, none] ∧ S' = adv S (b0 + 2 * (i : Int)) ++ [.dct true (ws.map wk) vs])
    (b.ds.map doorD) (by
      rintro j x env S' hx ⟨ws, vs, o4, o5, o6, o7, o8, q1, q2, q3, q4, rfl, rfl⟩
      have hj : j < b.ds.length := by
        have := (List.getElem?_eq_some_iff.mp hx).1
        simpa using this
      have ex : x = doorD b.ds[j] := by
        rw [List.getElem?_map, List.getElem?_eq_getElem hj] at hx
        simpa using hx.symm
      subst ex
      have hd : b.ds[j] ∈ b.ds := List.getElem_mem hj
      generalize b.ds[j] = d at hd hx
      refine ⟨_, rfl, ?_⟩
      have md : ∀ {S : Store} {i : Int}, binD S .Mod (.int i) (.int 300) = some (.int (i % 300)) := mod_int (by decide)
      obtain ⟨v, hv, en⟩ := next_at (k := k) (b := b0 + 2 * (j : Int)) [.dct true (ws.map wk) vs] h (by omega) (by omega)
      have x0 : 0 ≤ v % 300 := Int.emod_nonneg _ (by decide)
      have x1 : v % 300 < 300 := Int.emod_lt_of_pos _ (by decide)
      obtain ⟨A, hA⟩ := Int.eq_ofNat_of_zero_le x0
      obtain ⟨vs1, v1, v2⟩ := set_wk1 (S := adv S (b0 + 2 * (j : Int) + 1)) (n := S.length) (ws := ws) (vs := vs) (w := ⟨d.n, 299, A⟩) (by simp) (by omega) q4
      obtain ⟨i1, i2, i3⟩ := ins_ok q1 q2 q3 (show wayOk (b.ds.map Door.n) 300 ⟨d.n, 299, A⟩ from ⟨List.mem_map.mpr ⟨d, hd, rfl⟩, by show 299 < 300; omega, by show A < 300; omega⟩)
      generalize hW : (if (⟨d.n, 299, A⟩ : Way) ∈ ws then ws else ws ++ [⟨d.n, 299, A⟩]) = W at v2 i1 i2 i3
      obtain ⟨u, hu, eu⟩ := next_at (k := k) (b := b0 + 2 * (j : Int) + 1) [.dct true (W.map wk) vs1] h (by omega) (by omega)
      have y0 : 0 ≤ u % 300 := Int.emod_nonneg _ (by decide)
      have y1 : u % 300 < 300 := Int.emod_lt_of_pos _ (by decide)
      obtain ⟨B, hB⟩ := Int.eq_ofNat_of_zero_le y0
      obtain ⟨vs2, u1, u2⟩ := set_wk1 (S := adv S (b0 + 2 * (j : Int) + 1 + 1)) (n := S.length) (ws := W) (vs := vs1) (w := ⟨d.n, B, 99⟩) (by simp) (by omega) v1
      obtain ⟨j1, j2, j3⟩ := ins_ok i1 i2 i3 (show wayOk (b.ds.map Door.n) 300 ⟨d.n, B, 99⟩ from ⟨List.mem_map.mpr ⟨d, hd, rfl⟩, by show B < 300; omega, by show 99 < 300; omega⟩)
      simp only [wayD] at v2 u2
      have v2' : setD (adv S (b0 + 2 * (j : Int) + 1) ++ [.dct true (ws.map wk) vs]) (.hnd S.length) (.tup [.str d.n, .int 299, .int A]) (.bl true) = some (adv S (b0 + 2 * (j : Int) + 1) ++ [.dct true (W.map wk) vs1]) := v2
      have u2' : setD (adv S (b0 + 2 * (j : Int) + 1 + 1) ++ [.dct true (W.map wk) vs1]) (.hnd S.length) (.tup [.str d.n, .int B, .int 99]) (.bl true) = some (adv S (b0 + 2 * (j : Int) + 1 + 1) ++ [.dct true ((if (⟨d.n, B, 99⟩ : Way) ∈ W then W else W ++ [⟨d.n, B, 99⟩]).map wk) vs2]) := u2
      refine ⟨[some (.hnd 1), some (bookD b), o2, some (.hnd S.length), some (.str d.n), some (.str d.s), some (.str d.g), some d.o.1, some d.i.1, none], adv S (b0 + 2 * (j : Int) + 1 + 1) ++ [.dct true ((if (⟨d.n, B, 99⟩ : Way) ∈ W then W else W ++ [⟨d.n, B, 99⟩]).map wk) vs2], .inl ?_, rfl, _, vs2, _, _, _, _, _, j1, j2, by omega, u1, rfl, by rw [show b0 + 2 * (j : Int) + 1 + 1 = b0 + 2 * ((j + 1 : Nat) : Int) by omega]⟩
      simp [longBody, en, eu, md, hA, hB, v2', u2', sline])
    0 _ rfl (Nat.zero_le _) [some (.hnd 1), some (bookD b), o2, some (.hnd S.length), none, none, none, none, none, none] (adv S b0 ++ [.dct true [] []])
    ⟨[], [], _, _, _, _, _, List.nodup_nil, fun r hr => by (cases hr), Nat.le_refl _, fun w hw => by (cases hw), rfl, by simp⟩
  subst q5 q6
  rw [List.drop_zero] at r1
  simp only [List.length_map] at q3 r1
  exact ⟨ws, vs, o4, o5, o6, o7, o8, q1, q2, by omega, q4, r1⟩
theorem law_long_ok {k : Nat} {S : Store} {a : Int} (h : Deck S a) (hS : CS S) (ha : a + 2000 ≤ 100000) {b : Bk} (g : Gd b) : ∃ (x : Hs) (a' : Int), Gh b.ks (b.ds.map Door.n) x ∧ a ≤ a' ∧ a' ≤ a + 400 ∧ callF txt.tab txt.fn (k + 2) "_law_long" [.hnd 1, bookD b] S = .ok (houseD x) (adv S a') := by
  have lo := h.lo
  have n1 := deck_len h
  have d6 := g.d6
  have hb2 : ∀ S, subD S (bookD b) (.int 2) = some (.tup (b.ds.map doorD)) := fun S => by simp [bookD]
  obtain ⟨rs, r1, r2, r3⟩ := long_rooms (k := k) h (by omega) g
  have e1 := ev_rng1_of (T := txt.tab) (cl := callF txt.tab txt.fn (k + 1)) (a := .int 300) (env := [some (.hnd 1), some (bookD b), none, none, none, none, none, none, none, none]) (S := S) (S' := S) rfl (by omega) (by omega)
  obtain ⟨ws, vs, o4, o5, o6, o7, o8, u1, u2, u3, u4, u5⟩ := long_ways (k := k) (b0 := a + 300) h (by omega) (by omega) g (o2 := some (.tup (rs.map lotD)))
  have wo : ∀ w ∈ ws, PyData.strOk w.n = true := fun w hw => by
    obtain ⟨d, hd, e⟩ := List.mem_map.mp (u2 w hw).1
    rw [← e]
    exact (dn_ok _ (g.dk d hd).1).1
  have so := fun S => ways_sort (S := S) u1 (by omega) wo
  have G := gh_of g (rs := rs) (ws := ws) (by omega) r2 (by omega) (by rw [r1]; exact u2) (so S).2
  refine ⟨_, a + 300 + 2 * (b.ds.length : Int), G, by omega, by omega, ?_⟩
  obtain ⟨p, hp⟩ := house_dt G
  have l2 : ∀ {c : Int}, bifD (adv S c ++ [.dct true (ws.map wk) vs]) "list" [.hnd S.length] = some (.lst (ws.map wayD)) := list_ways (vs := vs) (by simp)
  rw [callF_at fn_ll rfl]
  have rn : Fk.run txt.tab (callF txt.tab txt.fn (k + 1)) (.cn (.asg (.var 2) (.bif "tuple" (.cons (.lc [9] (.var 9) (.rng1 (.int 300)) longE) .nil)))
  (.cn (.asg (.var 3) (.thaw (.emp true)))
  (.cn (.for_ (.tup (.cons (.var 4) (.cons (.var 5) (.cons (.var 6) (.cons (.var 7) (.cons (.var 8) .nil)))))) (.sub (.var 1) (.int 2)) longBody)
  (.cn (.ret (.tup (.cons (.var 2) (.cons (.bif "tuple" (.cons (.bif "sorted" (.cons (.bif "list" (.cons (.var 3) .nil)) .nil)) .nil)) .nil))))
  .nl)))) [some (.hnd 1), some (bookD b), none, none, none, none, none, none, none, none] S = .rt (houseD ⟨rs, ws.mergeSort (PySem.W.dataLe false wayP)⟩) (adv S (a + 300 + 2 * (b.ds.length : Int)) ++ [.dct true (ws.map wk) vs]) := by
    rw [run_cn, run_asg]
    simp only [ev_bif, ev_cons, ev_nil, ev_lc, e1, bind_ok, itM_rng1, items_lst, oB_some, gM_rng1, hnd_lst, Int.reduceToNat]
    rw [r3]
    simp only [bind_ok, tupOf_tup, tup_lst, opt_some, out_ok, asg_var, sq_nx, List.set_cons_succ, List.set_cons_zero]
    rw [run_cn, run_asg]
    simp only [ev_thaw, ev_emp, bind_ok, isMut_dct, if_true, out_ok, asg_var, sq_nx, List.set_cons_succ, List.set_cons_zero, adv_len]
    rw [run_cn, run_for]
    simp only [ev_sub, ev_var, ev_int, List.getD_cons_zero, List.getD_cons_succ, opt_some, bind_ok, hb2, out_ok, itM_sub, items_tup, oB_some, gM_sub, hnd_tup]
    rw [u5, sq_nx]
    simp [tup_lst, l2, (so _).1, sline, houseD]
  show fin f_d__law_long S (Fk.run txt.tab (callF txt.tab txt.fn (k + 1)) (.cn (.asg (.var 2) (.bif "tuple" (.cons (.lc [9] (.var 9) (.rng1 (.int 300)) longE) .nil)))
  (.cn (.asg (.var 3) (.thaw (.emp true)))
  (.cn (.for_ (.tup (.cons (.var 4) (.cons (.var 5) (.cons (.var 6) (.cons (.var 7) (.cons (.var 8) .nil)))))) (.sub (.var 1) (.int 2)) longBody)
  (.cn (.ret (.tup (.cons (.var 2) (.cons (.bif "tuple" (.cons (.bif "sorted" (.cons (.bif "list" (.cons (.var 3) .nil)) .nil)) .nil)) .nil))))
  .nl)))) [some (.hnd 1), some (bookD b), none, none, none, none, none, none, none, none] S) = _
  have tk : (adv S (a + 300 + 2 * (b.ds.length : Int)) ++ [D.dct true (ws.map wk) vs]).take S.length = adv S (a + 300 + 2 * (b.ds.length : Int)) := List.take_left' (by simp)
  have cl := cs_adv (a := a + 300 + 2 * (b.ds.length : Int)) n1 hS
  unfold CS at cl
  rw [adv_len] at cl
  rw [rn, fin_cut rfl (by rw [tk]; exact cl) (hp.fz _ _), tk]
theorem fn_lf : txt.fn "_law_further" = some f_d__law_further := by kernel_rfl
theorem at_end {α : Type} (f : α → D) {l : List α} (hl : l ≠ []) : ∃ x ∈ l, L2.atI (l.map f) (-1) = some (f x) := by
  refine ⟨l.getLast hl, List.getLast_mem hl, ?_⟩
  have e := List.dropLast_concat_getLast hl
  have : l.map f = l.dropLast.map f ++ [f (l.getLast hl)] := by
    rw [← List.map_singleton, ← List.map_append, e]
  rw [this, at_last]
theorem further_ok {k : Nat} {S : Store} {b : Bk} (g : Gd b) : ∃ b' : Bk, b'.ks = b.ks ∧ b'.ds.length ≤ 10 ∧ (∀ n ∈ b.ds.map Door.n, n ∈ b'.ds.map Door.n) ∧ (∀ n ∈ b'.ds.map Door.n, n ∈ doorNames) ∧ callF txt.tab txt.fn (k + 1) "_law_further" [bookD b] S = .ok (bookD b') S := by
  have d6 := g.d6
  have k1 := g.k1
  have nn : ∀ n ∈ b.ds.map Door.n, n ∈ doorNames := fun n hn => by
    obtain ⟨d, hd, rfl⟩ := List.mem_map.mp hn
    exact (g.dk d hd).1
  have kne : b.ks ≠ [] := by
    intro z
    rw [z] at k1
    simp at k1
  have hb2 : ∀ S, subD S (bookD b) (.int 2) = some (.tup (b.ds.map doorD)) := fun S => by simp [bookD]
  have hb0 : ∀ S, subD S (bookD b) (.int 0) = some (.tup (b.ks.map .str)) := fun S => by simp [bookD]
  have hb1 : ∀ S, subD S (bookD b) (.int 1) = some (.tup (b.rs.map ruleD)) := fun S => by simp [bookD]
  have l1 : ∀ {S : Store}, bifD S "len" [.tup (b.ds.map doorD)] = some (.int b.ds.length) := by
    intro S
    rw [bf_len]
    simp
  obtain ⟨y, hy, ey⟩ := at_end D.str kne
  obtain ⟨x, hx, ex⟩ := at_mod' D.str kne 0
  rw [Int.zero_emod] at ex
  have same : ∀ {r : Res}, r = .ok (bookD b) S → ∃ b' : Bk, b'.ks = b.ks ∧ b'.ds.length ≤ 10 ∧ (∀ n ∈ b.ds.map Door.n, n ∈ b'.ds.map Door.n) ∧ (∀ n ∈ b'.ds.map Door.n, n ∈ doorNames) ∧ r = .ok (bookD b') S := fun e => ⟨b, rfl, by omega, fun n h => h, nn, e⟩
  have more : ∀ {r : Res}, r = .ok (.tup [.tup (b.ks.map .str), .tup (b.rs.map ruleD), .tup (b.ds.map doorD ++ [.tup [.str "zzzzzzzz", .str x, .str y, .tup [.int 0, .non], .tup [.int 0, .non]]])]) S → ∃ b' : Bk, b'.ks = b.ks ∧ b'.ds.length ≤ 10 ∧ (∀ n ∈ b.ds.map Door.n, n ∈ b'.ds.map Door.n) ∧ (∀ n ∈ b'.ds.map Door.n, n ∈ doorNames) ∧ r = .ok (bookD b') S := fun e =>
    ⟨⟨b.ks, b.rs, b.ds ++ [⟨"zzzzzzzz", x, y, (.tup [.int 0, .non], "0-*"), (.tup [.int 0, .non], "0-*")⟩]⟩, rfl, by simp; omega, fun n h => by simp only [List.map_append]; exact List.mem_append_left _ h, fun n h => by
      simp only [List.map_append, List.map_cons, List.map_nil] at h
      rcases List.mem_append.mp h with z | z
      · exact nn n z
      · rw [List.mem_singleton.mp z]; decide, by rw [e]; simp [bookD, doorD]⟩
  rw [callF_at fn_lf rfl]
  show ∃ b' : Bk, b'.ks = b.ks ∧ b'.ds.length ≤ 10 ∧ (∀ n ∈ b.ds.map Door.n, n ∈ b'.ds.map Door.n) ∧ (∀ n ∈ b'.ds.map Door.n, n ∈ doorNames) ∧ fin f_d__law_further S (Fk.run txt.tab (callF txt.tab txt.fn k) b_d__law_further [some (bookD b)] S) = .ok (bookD b') S
  have lx : b.ds.length + 1 ≤ 16777216 := by omega
  by_cases h6 : b.ds.length = 6
  · have e6 : ((b.ds.length : Int) == 6) = true := by simp; omega
    exact same (by simp [b_d__law_further, hb2, l1, e6, fin_keep (F := f_d__law_further) rfl])
  · have e6 : ((b.ds.length : Int) == 6) = false := by rw [beq_eq_false_iff_ne]; omega
    obtain ⟨ps, hps⟩ := doors_dts g
    by_cases hd : b.ds = []
    · have e2 : ∀ S, cmpD S .NotEq (.tup (b.ds.map doorD)) (.tup []) = some false := fun S => by
        rw [hd]
        rw [List.map_nil, ne_of nil_ds nil_ds]
        simp [PyData.eqv, PyData.eqvAll]
      exact more (by simp [b_d__law_further, hb0, hb1, hb2, l1, e6, e2, ex, ey, cT_of, sline, lx, fin_keep (F := f_d__law_further) rfl])
    · have e2 : ∀ S, cmpD S .NotEq (.tup (b.ds.map doorD)) (.tup []) = some true := fun S => by
        rw [ne_of ((Dt.tup hps).ds (by omega)) nil_ds]
        have := hps.py
        cases hd' : b.ds with
        | nil => exact absurd hd' hd
        | cons d ds =>
          rw [hd'] at this
          simp only [List.map_cons, pyDs] at this
          cases q1 : pyD (doorD d) with
          | none => rw [q1] at this; cases this
          | some p1 =>
            cases q2 : pyDs (ds.map doorD) with
            | none => rw [q1, q2] at this; cases this
            | some p2 =>
              rw [q1, q2] at this
              cases this
              simp [PyData.eqv, PyData.eqvAll]
      obtain ⟨d, _, ed⟩ := at_end doorD hd
      have sd : ∀ {S : Store}, subD S (doorD d) (.int 0) = some (.str d.n) := by
        intro S
        simp [doorD]
      by_cases hz : d.n = "zzzzzzzz"
      · have ez : ∀ {S : Store}, cmpD S .Eq (.str d.n) (.str "zzzzzzzz") = some true := by
          intro S
          rw [eq_strs, hz]
          simp
        exact same (by simp [b_d__law_further, hb2, l1, e6, e2, ed, sd, ez, cT_of, fin_keep (F := f_d__law_further) rfl])
      · have ez : ∀ {S : Store}, cmpD S .Eq (.str d.n) (.str "zzzzzzzz") = some false := by
          intro S
          rw [eq_strs, beq_eq_false_iff_ne.mpr hz]
        exact more (by simp [b_d__law_further, hb0, hb1, hb2, l1, e6, e2, ed, sd, ez, ex, ey, cT_of, sline, lx, fin_keep (F := f_d__law_further) rfl])
end K74
set_option Elab.async false
set_option linter.all false
set_option autoImplicit false
set_option maxRecDepth 100000
set_option maxHeartbeats 2000000
/-! The law -/
namespace K74
open PySem Fk
section
variable {ks ns : List Str} {h : Hs}
theorem int_rp : ∀ n : Nat, n < 300 → (PyData.int (n : Int)).weight ≤ 10 ∧ (PyData.int (n : Int)).intsShort 13 = true ∧ (PyData.int (n : Int)).showable = true ∧ (PyData.int (n : Int)).hasDict = false := by decide +kernel
theorem Rp.int {m n : Nat} (hn : n < 300) : Rp m 10 (.int (n : Int)) (.int (n : Int)) := ⟨.int _, (int_rp n hn).1, (int_rp n hn).2.1, (int_rp n hn).2.2.1, (int_rp n hn).2.2.2⟩
theorem house_rp (g : Gh ks ns h) : ∃ p, Rp 3 100000 (houseD h) p := by
  have r3 := g.r3
  have w24 := g.w24
  obtain ⟨p1, q1⟩ := Rps.of (n := 1) (w := 54) lotD (l := h.rs) fun r hr => by
    obtain ⟨p, q⟩ := Rps.of (n := 0) (w := 8) D.str (l := r) fun x hx => ⟨_, .str (g.lk hr x hx).1 (g.lk hr x hx).2.1⟩
    have := (g.rk r hr).2.2.1
    exact ⟨_, (Rp.tup q).mono (Nat.le_refl _) (by omega)⟩
  obtain ⟨p2, q2⟩ := Rps.of (n := 1) (w := 8 + 1 + (10 + 1 + (10 + 1 + 0))) wayD (l := h.ws) fun w hw => by
    have ha := g.wa hw
    exact ⟨_, Rp.tup (n := 0) (.cons (.str (g.wn hw).1 (g.wn hw).2.1) (.cons (Rp.int ha.1) (.cons (Rp.int ha.2) .nil)))⟩
  have t1 := (Rp.tup q1).mono (m := 2) (w' := 17000) (by omega) (by omega)
  have t2 := (Rp.tup q2).mono (m := 2) (w' := 1000) (by omega) (by omega)
  exact ⟨_, (Rp.tup (.cons t1 (.cons t2 (.nil (w := 0))))).mono (by omega) (by omega)⟩
theorem text_strOk (g : Gh ks ns h) : PyData.strOk (houseT h) = true := by
  unfold houseT
  rw [jn]
  have sk : PyData.strOk sp = true := by decide +kernel
  refine strOk_join (by decide +kernel) _ fun x hx => ?_
  obtain ⟨y, hy, rfl⟩ := List.mem_map.mp hx
  refine strOk_app ?_ (by decide +kernel)
  unfold lines at hy
  rcases List.mem_append.mp hy with z | z
  · obtain ⟨r, hr, rfl⟩ := List.mem_map.mp z
    refine strOk_join sk _ fun w hw => ?_
    rcases List.mem_cons.mp hw with z | z
    · rw [z]; decide +kernel
    · exact (g.lk hr w z).1
  · obtain ⟨w, hw, rfl⟩ := List.mem_map.mp z
    have ha := g.wa hw
    refine strOk_join sk _ fun y hy => ?_
    simp only [List.mem_cons, List.not_mem_nil, or_false] at hy
    rcases hy with z | z | z | z
    · rw [z]; decide +kernel
    · rw [z]; exact (g.wn hw).1
    · rw [z]; exact (num_ok _ ha.1).1
    · rw [z]; exact (num_ok _ ha.2).1
theorem text_rp (g : Gh ks ns h) : Rp 0 100000 (.str (houseT h)) (.str (houseT h)) := .str (text_strOk g) (text_len g)
theorem Gh.more (g : Gh ks ns h) {ns' : List Str} (h1 : ∀ n ∈ ns, n ∈ ns') (h2 : ∀ n ∈ ns', n ∈ doorNames) : Gh ks ns' h := ⟨g.kn, h2, g.r3, g.rk, g.w24, fun w hw => ⟨h1 _ (g.wk w hw).1, (g.wk w hw).2⟩, g.wu⟩
theorem Gh.empty (g : Gh ks ns h) : Gh ks ns ⟨[], []⟩ := ⟨g.kn, g.nn, by simp, fun r hr => by (cases hr), by simp, fun r hr => by (cases hr), fun p hp => by simp at hp⟩
end
theorem empty_t : houseT ⟨[], []⟩ = "" := by decide +kernel
theorem empty_d : houseD ⟨[], []⟩ = .tup [.tup [], .tup []] := rfl
theorem repr2 {b : Bk} {ks ns : List Str} {h : Hs} (gb : Gd b) (g : Gh ks ns h) : ∃ x : Str, ∀ S, bifD S "repr" [.lst [bookD b, houseD h]] = some (.str x) := by
  obtain ⟨p, hp⟩ := book_rp gb
  obtain ⟨q, hq⟩ := house_rp g
  exact ⟨_, fun S => (Rp.lst (.cons hp (.cons (hq.mono (m := 4) (by omega) (Nat.le_refl _)) (.nil (w := 0))))).repr (by omega) (by omega)⟩
def look1 : MS := .cn (.asg (.var 6) (.bif "repr" (.cons (.lst (.cons (.var 2) (.cons (.var 5) .nil))) .nil)))
  (.cn (.asg (.var 7) (.call "_law_house_text" (.cons (.var 5) .nil)))
  (.cn (.ite (.or (.cmp .IsNot (.call "is_house" (.cons (.var 2) (.cons (.var 5) .nil))) (.bl true)) (.one (.not (.call "_law_same" (.cons (.call "house_text" (.cons (.var 5) .nil)) (.cons (.var 7) .nil))))))
  (.cn (.ret (.bl false))
  .nl)
  .nl)
  (.cn (.ite (.or (.not (.call "_law_same" (.cons (.call "read_house" (.cons (.var 2) (.cons (.var 7) .nil))) (.cons (.var 5) .nil)))) (.one (.not (.call "_law_same" (.cons (.call "read_house" (.cons (.var 3) (.cons (.var 7) .nil))) (.cons (.var 5) .nil))))))
  (.cn (.ret (.bl false))
  .nl)
  .nl)
  (.cn (.ite (.or (.not (.call "_law_same" (.cons (.call "read_house" (.cons (.var 2) (.cons (.str "") .nil))) (.cons (.tup (.cons (.tup .nil) (.cons (.tup .nil) .nil))) .nil)))) (.one (.not (.call "_law_same" (.cons (.call "house_text" (.cons (.tup (.cons (.tup .nil) (.cons (.tup .nil) .nil))) .nil)) (.cons (.str "") .nil))))))
  (.cn (.ret (.bl false))
  .nl)
  .nl)
  (.cn (.ite (.or (.not (.call "_law_same" (.cons (.call "house_text" (.cons (.call "read_house" (.cons (.var 2) (.cons (.var 7) .nil))) .nil)) (.cons (.var 7) .nil)))) (.one (.cmp .NotEq (.bif "repr" (.cons (.lst (.cons (.var 2) (.cons (.var 5) .nil))) .nil)) (.var 6))))
  (.cn (.ret (.bl false))
  .nl)
  .nl)
  .nl)))))
def lawBody : MS := .cn (.asg (.var 5) (.call "_law_house" (.cons (.var 1) (.cons (.var 2) (.cons (.int 12) .nil)))))
  (.cn (.ite (.cmp .Eq (.bin .Mod (.call "_law_next" (.cons (.var 1) .nil)) (.int 12)) (.int 0))
  (.cn (.asg (.var 5) (.call "_law_long" (.cons (.var 1) (.cons (.var 2) .nil))))
  .nl)
  .nl)
  look1)
theorem look_ok {S : Store} (cs : CS S) {b b' : Bk} (gb : Gd b) {x : Hs} (g : Gh b.ks (b.ds.map Door.n) x) (g' : Gh b'.ks (b'.ds.map Door.n) x) (hl : b'.ds.length ≤ 10) (o0 o1 o4 o6 o7 : Option D) :
    ∃ o6' o7', Fk.run txt.tab cl8 look1 [o0, o1, some (bookD b), some (bookD b'), o4, some (houseD x), o6, o7] S = .nx [o0, o1, some (bookD b), some (bookD b'), o4, some (houseD x), o6', o7'] S := by
  obtain ⟨y, hy⟩ := repr2 gb g
  obtain ⟨p, rp⟩ := house_rp g
  obtain ⟨q, rq⟩ := house_rp g.empty
  have d6 := gb.d6
  have ge := g.empty
  have c1 : cl8 "_law_house_text" [houseD x] S = .ok (.str (houseT x)) S := law_house_text_ok (k := 6) cs g
  have c2 : cl8 "is_house" [bookD b, houseD x] S = .ok (.bl true) S := is_house_ok (k := 4) g
  have c3 : cl8 "house_text" [houseD x] S = .ok (.str (houseT x)) S := house_text_ok (k := 6) cs g
  have c4 : cl8 "read_house" [bookD b, .str (houseT x)] S = .ok (houseD x) S := read_house_ok (k := 3) cs (by omega) g
  have c5 : cl8 "read_house" [bookD b', .str (houseT x)] S = .ok (houseD x) S := read_house_ok (k := 3) cs hl g'
  have c6 : cl8 "read_house" [bookD b, .str ""] S = .ok (.tup [.tup [], .tup []]) S := by
    have := read_house_ok (k := 3) cs (b := b) (by omega) ge
    rw [empty_t] at this
    exact this
  have c7 : cl8 "house_text" [.tup [.tup [], .tup []]] S = .ok (.str "") S := by
    have := house_text_ok (k := 6) cs ge
    rw [empty_t] at this
    exact this
  have s1 : cl8 "_law_same" [.str (houseT x), .str (houseT x)] S = .ok (.bl true) S := same_ok (k := 7) (text_rp g) (text_rp g) (by omega) (by omega) (by omega) (by omega)
  have s2 : cl8 "_law_same" [houseD x, houseD x] S = .ok (.bl true) S := same_ok (k := 7) rp rp (by omega) (by omega) (by omega) (by omega)
  have s3 : cl8 "_law_same" [.tup [.tup [], .tup []], .tup [.tup [], .tup []]] S = .ok (.bl true) S := same_ok (k := 7) rq rq (by omega) (by omega) (by omega) (by omega)
  have s4 : cl8 "_law_same" [.str "", .str ""] S = .ok (.bl true) S := by
    have := same_ok (k := 7) (S := S) (text_rp ge) (text_rp ge) (by omega) (by omega) (by omega) (by omega)
    rw [empty_t] at this
    exact this
  refine ⟨some (.str y), some (.str (houseT x)), ?_⟩
  generalize cl8 = cl at *
  simp [look1, hy, c1, c2, c3, c4, c5, c6, c7, s1, s2, s3, s4, ne_strs, isnot_tt, sline]
theorem turn_ok {S0 : Store} {a : Int} (h : Deck S0 0) (hS : CS S0) (h0 : 0 ≤ a) (ha : a ≤ 10000) {b b' : Bk} (gb : Gd b) (hk : b'.ks = b.ks) (h1 : ∀ n ∈ b.ds.map Door.n, n ∈ b'.ds.map Door.n) (h2 : ∀ n ∈ b'.ds.map Door.n, n ∈ doorNames) (hl : b'.ds.length ≤ 10) (o0 o4 o5 o6 o7 : Option D) :
    ∃ a' o5' o6' o7', a ≤ a' ∧ a' ≤ a + 1000 ∧ Fk.run txt.tab cl8 lawBody [o0, some (.hnd 1), some (bookD b), some (bookD b'), o4, o5, o6, o7] (adv S0 a) = .nx [o0, some (.hnd 1), some (bookD b), some (bookD b'), o4, o5', o6', o7'] (adv S0 a') := by
  have n1 := deck_len h
  obtain ⟨x, a1, g1, l1, u1, e1⟩ := law_house_ok (k := 5) (deck_at h h0 (by omega)) (cs_adv n1 hS) (by omega) gb
  rw [adv_adv] at e1
  obtain ⟨v, hv, en⟩ := next_at (k := 7) (b := a1) [] h (by omega) (by omega)
  rw [List.append_nil, List.append_nil] at en
  obtain ⟨x2, a2, g2, l2, u2, e2⟩ := law_long_ok (k := 6) (deck_at h (b := a1 + 1) (by omega) (by omega)) (cs_adv n1 hS) (by omega) gb
  rw [adv_adv] at e2
  have c1 : cl8 "_law_house" [.hnd 1, bookD b, .int 12] (adv S0 a) = .ok (houseD x) (adv S0 a1) := e1
  have c2 : cl8 "_law_next" [.hnd 1] (adv S0 a1) = .ok (.int v) (adv S0 (a1 + 1)) := en
  have c3 : cl8 "_law_long" [.hnd 1, bookD b] (adv S0 (a1 + 1)) = .ok (houseD x2) (adv S0 a2) := e2
  have m1 : ∀ {S : Store}, binD S .Mod (.int v) (.int 12) = some (.int (v % 12)) := mod_int (by decide)
  have up : ∀ {y : Hs}, Gh b.ks (b.ds.map Door.n) y → Gh b'.ks (b'.ds.map Door.n) y := fun {y} g => by
    rw [hk]
    exact g.more h1 h2
  by_cases hz : v % 12 = 0
  · obtain ⟨o6', o7', lk⟩ := look_ok (S := adv S0 a2) (cs_adv n1 hS) gb g2 (up g2) hl o0 (some (.hnd 1)) o4 o6 o7
    refine ⟨a2, some (houseD x2), o6', o7', by omega, by omega, ?_⟩
    have ez : (v % 12 == 0) = true := by simp [hz]
    generalize cl8 = cl at *
    simp [lawBody, c1, c2, c3, m1, ez, lk]
  · obtain ⟨o6', o7', lk⟩ := look_ok (S := adv S0 (a1 + 1)) (cs_adv n1 hS) gb g1 (up g1) hl o0 (some (.hnd 1)) o4 o6 o7
    refine ⟨a1 + 1, some (houseD x), o6', o7', by omega, by omega, ?_⟩
    have ez : (v % 12 == 0) = false := beq_eq_false_iff_ne.mpr hz
    generalize cl8 = cl at *
    simp [lawBody, c1, c2, m1, ez, lk]
theorem law_ok9 (ns : List Int) : ∃ S, callF txt.tab txt.fn 9 "law" [.scr ns] [] = .ok (.bl true) S := by
  obtain ⟨ds, h1, h2, e⟩ := deck_ok (k := 7) (ns := ns)
  have hD := deck0 h1 h2
  have hC := cs0 (ds := ds)
  generalize hS0 : ([.lst (ds.map .int), .lst [.int 0, .hnd 0]] : Store) = S0 at e hD hC
  have n1 := deck_len hD
  obtain ⟨b, a0, gb, lb, ub, eb⟩ := book_ok (k := 5) hD hC (by omega)
  obtain ⟨b', fk, fl, f1, f2, ef⟩ := further_ok (k := 7) (S := adv S0 a0) gb
  have ce : cl8 "_law_deck" [.scr ns] [] = .ok (.hnd 1) S0 := e
  have cb : cl8 "_law_book" [.hnd 1] S0 = .ok (bookD b) (adv S0 a0) := eb
  have cf : cl8 "_law_further" [bookD b] (adv S0 a0) = .ok (bookD b') (adv S0 a0) := ef
  have er := ev_rng1_of (T := txt.tab) (cl := cl8) (a := .int 4) (env := [some (.scr ns), some (.hnd 1), some (bookD b), some (bookD b'), none, none, none, none]) (S := adv S0 a0) (S' := adv S0 a0) rfl (by omega) (by omega)
  obtain ⟨env', S', l1, a', o4', o5', o6', o7', l2, l3, l4, l5⟩ := forL_inv (T := txt.tab) (cl := cl8) (tg := .var 4) (body := Fk.run txt.tab cl8 lawBody) (gs := []) (S0 := adv S0 a0)
    (fun j env S' => ∃ (a : Int) (o4 o5 o6 o7 : Option D), 0 ≤ a ∧ a ≤ 100 + 1000 * (j : Int) ∧ env = [some (.scr ns), some (.hnd 1), some (bookD b), some (bookD b'), o4, o5, o6, o7] ∧ S' = adv S0 a)
    ((List.range (4 : Int).toNat).map fun (i : Nat) => D.int (0 + (i : Int))) (by
      rintro j x env S' hx ⟨a, o4, o5, o6, o7, k1, k2, rfl, rfl⟩
      have hj : j < 4 := by
        have := (List.getElem?_eq_some_iff.mp hx).1
        simpa using this
      obtain ⟨a', o5', o6', o7', t1, t2, t3⟩ := turn_ok hD hC k1 (by omega) gb fk f1 f2 fl (some (.scr ns)) (some x) o5 o6 o7
      exact ⟨_, rfl, _, _, .inl t3, rfl, a', _, _, _, _, by omega, by omega, rfl, rfl⟩)
    0 _ rfl (Nat.zero_le _) [some (.scr ns), some (.hnd 1), some (bookD b), some (bookD b'), none, none, none, none] (adv S0 a0) ⟨a0, _, _, _, _, by omega, by omega, rfl, rfl⟩
  subst l4 l5
  rw [List.drop_zero] at l1
  refine ⟨adv S0 a', ?_⟩
  rw [callF_at (k := 8) fn_law rfl]
  have rn : Fk.run txt.tab cl8 (.cn (.asg (.var 1) (.call "_law_deck" (.cons (.var 0) .nil))) (.cn (.asg (.var 2) (.call "_law_book" (.cons (.var 1) .nil))) (.cn (.asg (.var 3) (.call "_law_further" (.cons (.var 2) .nil))) (.cn (.for_ (.var 4) (.rng1 (.int 4)) lawBody) (.cn (.ret (.bl true)) .nl))))) [some (.scr ns), none, none, none, none, none, none, none] [] = .rt (.bl true) (adv S0 a') := by
    rw [run_cn, run_asg]
    simp only [ev_call, ev_cons, ev_nil, ev_var, List.getD_cons_zero, opt_some, bind_ok, tupOf_tup, ce, out_ok, asg_var, sq_nx, List.set_cons_succ, List.set_cons_zero]
    rw [run_cn, run_asg]
    simp only [ev_call, ev_cons, ev_nil, ev_var, List.getD_cons_zero, List.getD_cons_succ, opt_some, bind_ok, tupOf_tup, cb, out_ok, asg_var, sq_nx, List.set_cons_succ, List.set_cons_zero]
    rw [run_cn, run_asg]
    simp only [ev_call, ev_cons, ev_nil, ev_var, List.getD_cons_zero, List.getD_cons_succ, opt_some, bind_ok, tupOf_tup, cf, out_ok, asg_var, sq_nx, List.set_cons_succ, List.set_cons_zero]
    rw [run_cn, run_for, er]
    simp only [out_ok, itM_rng1, items_lst, oB_some, gM_rng1, hnd_lst]
    rw [l1, sq_nx]
    rfl
  show fin f_d_law [] (Fk.run txt.tab cl8 (.cn (.asg (.var 1) (.call "_law_deck" (.cons (.var 0) .nil))) (.cn (.asg (.var 2) (.call "_law_book" (.cons (.var 1) .nil))) (.cn (.asg (.var 3) (.call "_law_further" (.cons (.var 2) .nil))) (.cn (.for_ (.var 4) (.rng1 (.int 4)) lawBody) (.cn (.ret (.bl true)) .nl))))) [some (.scr ns), none, none, none, none, none, none, none] []) = _
  rw [rn]
  exact fin_keep rfl
end K74
set_option Elab.async false
set_option linter.all false
set_option autoImplicit false
set_option maxRecDepth 100000
set_option maxHeartbeats 4000000
namespace K74
open PySem L2 Fk
abbrev depth : Nat := 9
theorem ok : txt.ok = true := by decide +kernel
theorem plain : ∀ ns : List Int, ns.length ≤ 63 → ∃ S, callF txt.tab txt.fn depth "law" [.scr ns] [] = .ok (.bl true) S :=
  fun ns _ => law_ok9 ns
end K74
namespace K74
open PySem L2 Fk
section
variable {K : PySem.W.Frag} {mg : Str → Option Value}
theorem topF {f0 f1 f2 f3 f4 f5 f6 f7 f8 f9 f10 f11 f12 f13 f14 f15 f16 f17 f18 f19 f20 f21 f22 f23 f24 f25 f26 f27 f28 f29 f30 : Addr} {C0 : Addr} {h : Heap} (X : K.In h) (G : h.Ns mainGlobals mg)
    {od0 an0 : Option Addr} {sl0 : Array (Option Value)} {oc0 kV0 dc0 pm0 cd0 ct0 : Value}
    (a0 : PySem.W.nsIn K mainGlobals "is_whole" = some (some (.ref f0)))
    (l0 : K.lookup f0 = some ⟨oc0, od0, .func (PySem.W.fnOf "is_whole" "is_whole" (defArgs d_is_whole.st) (defBody d_is_whole.st) (defScope d_is_whole.st) .none kV0 dc0 pm0 an0 cd0 ct0), sl0⟩) (c0 : PySem.W.codeIn K cd0 "is_whole" = true) (k0 : PySem.W.keepIn K (.ref f0) = true)
    {od1 an1 : Option Addr} {sl1 : Array (Option Value)} {oc1 kV1 dc1 pm1 cd1 ct1 : Value}
    (a1 : PySem.W.nsIn K mainGlobals "is_from" = some (some (.ref f1)))
    (l1 : K.lookup f1 = some ⟨oc1, od1, .func (PySem.W.fnOf "is_from" "is_from" (defArgs d_is_from.st) (defBody d_is_from.st) (defScope d_is_from.st) .none kV1 dc1 pm1 an1 cd1 ct1), sl1⟩) (c1 : PySem.W.codeIn K cd1 "is_from" = true) (k1 : PySem.W.keepIn K (.ref f1) = true)
    {od2 an2 : Option Addr} {sl2 : Array (Option Value)} {oc2 kV2 dc2 pm2 cd2 ct2 : Value}
    (a2 : PySem.W.nsIn K mainGlobals "is_name" = some (some (.ref f2)))
    (l2 : K.lookup f2 = some ⟨oc2, od2, .func (PySem.W.fnOf "is_name" "is_name" (defArgs d_is_name.st) (defBody d_is_name.st) (defScope d_is_name.st) .none kV2 dc2 pm2 an2 cd2 ct2), sl2⟩) (c2 : PySem.W.codeIn K cd2 "is_name" = true) (k2 : PySem.W.keepIn K (.ref f2) = true)
    {od3 an3 : Option Addr} {sl3 : Array (Option Value)} {oc3 kV3 dc3 pm3 cd3 ct3 : Value}
    (a3 : PySem.W.nsIn K mainGlobals "are_names" = some (some (.ref f3)))
    (l3 : K.lookup f3 = some ⟨oc3, od3, .func (PySem.W.fnOf "are_names" "are_names" (defArgs d_are_names.st) (defBody d_are_names.st) (defScope d_are_names.st) .none kV3 dc3 pm3 an3 cd3 ct3), sl3⟩) (c3 : PySem.W.codeIn K cd3 "are_names" = true) (k3 : PySem.W.keepIn K (.ref f3) = true)
    {od4 an4 : Option Addr} {sl4 : Array (Option Value)} {oc4 kV4 dc4 pm4 cd4 ct4 : Value}
    (a4 : PySem.W.nsIn K mainGlobals "is_lot" = some (some (.ref f4)))
    (l4 : K.lookup f4 = some ⟨oc4, od4, .func (PySem.W.fnOf "is_lot" "is_lot" (defArgs d_is_lot.st) (defBody d_is_lot.st) (defScope d_is_lot.st) .none kV4 dc4 pm4 an4 cd4 ct4), sl4⟩) (c4 : PySem.W.codeIn K cd4 "is_lot" = true) (k4 : PySem.W.keepIn K (.ref f4) = true)
    {od5 an5 : Option Addr} {sl5 : Array (Option Value)} {oc5 kV5 dc5 pm5 cd5 ct5 : Value}
    (a5 : PySem.W.nsIn K mainGlobals "house_text" = some (some (.ref f5)))
    (l5 : K.lookup f5 = some ⟨oc5, od5, .func (PySem.W.fnOf "house_text" "house_text" (defArgs d_house_text.st) (defBody d_house_text.st) (defScope d_house_text.st) .none kV5 dc5 pm5 an5 cd5 ct5), sl5⟩) (c5 : PySem.W.codeIn K cd5 "house_text" = true) (k5 : PySem.W.keepIn K (.ref f5) = true)
    {od6 an6 : Option Addr} {sl6 : Array (Option Value)} {oc6 kV6 dc6 pm6 cd6 ct6 : Value}
    (a6 : PySem.W.nsIn K mainGlobals "ends_of" = some (some (.ref f6)))
    (l6 : K.lookup f6 = some ⟨oc6, od6, .func (PySem.W.fnOf "ends_of" "ends_of" (defArgs d_ends_of.st) (defBody d_ends_of.st) (defScope d_ends_of.st) .none kV6 dc6 pm6 an6 cd6 ct6), sl6⟩) (c6 : PySem.W.codeIn K cd6 "ends_of" = true) (k6 : PySem.W.keepIn K (.ref f6) = true)
    {od7 an7 : Option Addr} {sl7 : Array (Option Value)} {oc7 kV7 dc7 pm7 cd7 ct7 : Value}
    (a7 : PySem.W.nsIn K mainGlobals "is_rising" = some (some (.ref f7)))
    (l7 : K.lookup f7 = some ⟨oc7, od7, .func (PySem.W.fnOf "is_rising" "is_rising" (defArgs d_is_rising.st) (defBody d_is_rising.st) (defScope d_is_rising.st) .none kV7 dc7 pm7 an7 cd7 ct7), sl7⟩) (c7 : PySem.W.codeIn K cd7 "is_rising" = true) (k7 : PySem.W.keepIn K (.ref f7) = true)
    {od8 an8 : Option Addr} {sl8 : Array (Option Value)} {oc8 kV8 dc8 pm8 cd8 ct8 : Value}
    (aC0 : PySem.W.nsIn K mainGlobals "HouseReader" = some (some (.ref C0)))
    (a8 : PySem.W.findIn K (.ref C0) "__init__" = some (some (.ref f8))) (i8 : PySem.W.isFn K (.ref f8) = true)
    (l8 : K.lookup f8 = some ⟨oc8, od8, .func (PySem.W.fnOf "__init__" "HouseReader.__init__" (defArgs d_HouseReader___init__.st) (defBody d_HouseReader___init__.st) (defScope d_HouseReader___init__.st) .none kV8 dc8 pm8 an8 cd8 ct8), sl8⟩) (c8 : PySem.W.codeIn K cd8 "HouseReader.__init__" = true) (k8 : PySem.W.keepIn K (.ref f8) = true)
    {od9 an9 : Option Addr} {sl9 : Array (Option Value)} {oc9 kV9 dc9 pm9 cd9 ct9 : Value}
    (a9 : PySem.W.findIn K (.ref C0) "take_room" = some (some (.ref f9))) (i9 : PySem.W.isFn K (.ref f9) = true)
    (l9 : K.lookup f9 = some ⟨oc9, od9, .func (PySem.W.fnOf "take_room" "HouseReader.take_room" (defArgs d_HouseReader_take_room.st) (defBody d_HouseReader_take_room.st) (defScope d_HouseReader_take_room.st) .none kV9 dc9 pm9 an9 cd9 ct9), sl9⟩) (c9 : PySem.W.codeIn K cd9 "HouseReader.take_room" = true) (k9 : PySem.W.keepIn K (.ref f9) = true)
    {od10 an10 : Option Addr} {sl10 : Array (Option Value)} {oc10 kV10 dc10 pm10 cd10 ct10 : Value}
    (a10 : PySem.W.findIn K (.ref C0) "take_way" = some (some (.ref f10))) (i10 : PySem.W.isFn K (.ref f10) = true)
    (l10 : K.lookup f10 = some ⟨oc10, od10, .func (PySem.W.fnOf "take_way" "HouseReader.take_way" (defArgs d_HouseReader_take_way.st) (defBody d_HouseReader_take_way.st) (defScope d_HouseReader_take_way.st) .none kV10 dc10 pm10 an10 cd10 ct10), sl10⟩) (c10 : PySem.W.codeIn K cd10 "HouseReader.take_way" = true) (k10 : PySem.W.keepIn K (.ref f10) = true)
    {od11 an11 : Option Addr} {sl11 : Array (Option Value)} {oc11 kV11 dc11 pm11 cd11 ct11 : Value}
    (a11 : PySem.W.findIn K (.ref C0) "take" = some (some (.ref f11))) (i11 : PySem.W.isFn K (.ref f11) = true)
    (l11 : K.lookup f11 = some ⟨oc11, od11, .func (PySem.W.fnOf "take" "HouseReader.take" (defArgs d_HouseReader_take.st) (defBody d_HouseReader_take.st) (defScope d_HouseReader_take.st) .none kV11 dc11 pm11 an11 cd11 ct11), sl11⟩) (c11 : PySem.W.codeIn K cd11 "HouseReader.take" = true) (k11 : PySem.W.keepIn K (.ref f11) = true)
    {od12 an12 : Option Addr} {sl12 : Array (Option Value)} {oc12 kV12 dc12 pm12 cd12 ct12 : Value}
    (a12 : PySem.W.findIn K (.ref C0) "told" = some (some (.ref f12))) (i12 : PySem.W.isFn K (.ref f12) = true)
    (l12 : K.lookup f12 = some ⟨oc12, od12, .func (PySem.W.fnOf "told" "HouseReader.told" (defArgs d_HouseReader_told.st) (defBody d_HouseReader_told.st) (defScope d_HouseReader_told.st) .none kV12 dc12 pm12 an12 cd12 ct12), sl12⟩) (c12 : PySem.W.codeIn K cd12 "HouseReader.told" = true) (k12 : PySem.W.keepIn K (.ref f12) = true)
    {od13 an13 : Option Addr} {sl13 : Array (Option Value)} {oc13 kV13 dc13 pm13 cd13 ct13 : Value}
    (a13 : PySem.W.nsIn K mainGlobals "read_by" = some (some (.ref f13)))
    (l13 : K.lookup f13 = some ⟨oc13, od13, .func (PySem.W.fnOf "read_by" "read_by" (defArgs d_read_by.st) (defBody d_read_by.st) (defScope d_read_by.st) .none kV13 dc13 pm13 an13 cd13 ct13), sl13⟩) (c13 : PySem.W.codeIn K cd13 "read_by" = true) (k13 : PySem.W.keepIn K (.ref f13) = true)
    {od14 an14 : Option Addr} {sl14 : Array (Option Value)} {oc14 kV14 dc14 pm14 cd14 ct14 : Value}
    (a14 : PySem.W.nsIn K mainGlobals "read_house" = some (some (.ref f14)))
    (l14 : K.lookup f14 = some ⟨oc14, od14, .func (PySem.W.fnOf "read_house" "read_house" (defArgs d_read_house.st) (defBody d_read_house.st) (defScope d_read_house.st) .none kV14 dc14 pm14 an14 cd14 ct14), sl14⟩) (c14 : PySem.W.codeIn K cd14 "read_house" = true) (k14 : PySem.W.keepIn K (.ref f14) = true)
    {od15 an15 : Option Addr} {sl15 : Array (Option Value)} {oc15 kV15 dc15 pm15 cd15 ct15 : Value}
    (a15 : PySem.W.nsIn K mainGlobals "door_of" = some (some (.ref f15)))
    (l15 : K.lookup f15 = some ⟨oc15, od15, .func (PySem.W.fnOf "door_of" "door_of" (defArgs d_door_of.st) (defBody d_door_of.st) (defScope d_door_of.st) .none kV15 dc15 pm15 an15 cd15 ct15), sl15⟩) (c15 : PySem.W.codeIn K cd15 "door_of" = true) (k15 : PySem.W.keepIn K (.ref f15) = true)
    {od16 an16 : Option Addr} {sl16 : Array (Option Value)} {oc16 kV16 dc16 pm16 cd16 ct16 : Value}
    (a16 : PySem.W.nsIn K mainGlobals "is_way" = some (some (.ref f16)))
    (l16 : K.lookup f16 = some ⟨oc16, od16, .func (PySem.W.fnOf "is_way" "is_way" (defArgs d_is_way.st) (defBody d_is_way.st) (defScope d_is_way.st) .none kV16 dc16 pm16 an16 cd16 ct16), sl16⟩) (c16 : PySem.W.codeIn K cd16 "is_way" = true) (k16 : PySem.W.keepIn K (.ref f16) = true)
    {od17 an17 : Option Addr} {sl17 : Array (Option Value)} {oc17 kV17 dc17 pm17 cd17 ct17 : Value}
    (a17 : PySem.W.nsIn K mainGlobals "is_house" = some (some (.ref f17)))
    (l17 : K.lookup f17 = some ⟨oc17, od17, .func (PySem.W.fnOf "is_house" "is_house" (defArgs d_is_house.st) (defBody d_is_house.st) (defScope d_is_house.st) .none kV17 dc17 pm17 an17 cd17 ct17), sl17⟩) (c17 : PySem.W.codeIn K cd17 "is_house" = true) (k17 : PySem.W.keepIn K (.ref f17) = true)
    {od18 an18 : Option Addr} {sl18 : Array (Option Value)} {oc18 kV18 dc18 pm18 cd18 ct18 : Value}
    (a18 : PySem.W.nsIn K mainGlobals "_law_deck" = some (some (.ref f18)))
    (l18 : K.lookup f18 = some ⟨oc18, od18, .func (PySem.W.fnOf "_law_deck" "_law_deck" (defArgs d__law_deck.st) (defBody d__law_deck.st) (defScope d__law_deck.st) .none kV18 dc18 pm18 an18 cd18 ct18), sl18⟩) (c18 : PySem.W.codeIn K cd18 "_law_deck" = true) (k18 : PySem.W.keepIn K (.ref f18) = true)
    {od19 an19 : Option Addr} {sl19 : Array (Option Value)} {oc19 kV19 dc19 pm19 cd19 ct19 : Value}
    (a19 : PySem.W.nsIn K mainGlobals "_law_next" = some (some (.ref f19)))
    (l19 : K.lookup f19 = some ⟨oc19, od19, .func (PySem.W.fnOf "_law_next" "_law_next" (defArgs d__law_next.st) (defBody d__law_next.st) (defScope d__law_next.st) .none kV19 dc19 pm19 an19 cd19 ct19), sl19⟩) (c19 : PySem.W.codeIn K cd19 "_law_next" = true) (k19 : PySem.W.keepIn K (.ref f19) = true)
    {od20 an20 : Option Addr} {sl20 : Array (Option Value)} {oc20 kV20 dc20 pm20 cd20 ct20 : Value}
    (a20 : PySem.W.nsIn K mainGlobals "_law_some" = some (some (.ref f20)))
    (l20 : K.lookup f20 = some ⟨oc20, od20, .func (PySem.W.fnOf "_law_some" "_law_some" (defArgs d__law_some.st) (defBody d__law_some.st) (defScope d__law_some.st) .none kV20 dc20 pm20 an20 cd20 ct20), sl20⟩) (c20 : PySem.W.codeIn K cd20 "_law_some" = true) (k20 : PySem.W.keepIn K (.ref f20) = true)
    {od21 an21 : Option Addr} {sl21 : Array (Option Value)} {oc21 kV21 dc21 pm21 cd21 ct21 : Value}
    (a21 : PySem.W.nsIn K mainGlobals "_law_fan" = some (some (.ref f21)))
    (l21 : K.lookup f21 = some ⟨oc21, od21, .func (PySem.W.fnOf "_law_fan" "_law_fan" (defArgs d__law_fan.st) (defBody d__law_fan.st) (defScope d__law_fan.st) .none kV21 dc21 pm21 an21 cd21 ct21), sl21⟩) (c21 : PySem.W.codeIn K cd21 "_law_fan" = true) (k21 : PySem.W.keepIn K (.ref f21) = true)
    {od22 an22 : Option Addr} {sl22 : Array (Option Value)} {oc22 kV22 dc22 pm22 cd22 ct22 : Value}
    (a22 : PySem.W.nsIn K mainGlobals "_law_kind_names" = some (some (.ref f22)))
    (l22 : K.lookup f22 = some ⟨oc22, od22, .func (PySem.W.fnOf "_law_kind_names" "_law_kind_names" (defArgs d__law_kind_names.st) (defBody d__law_kind_names.st) (defScope d__law_kind_names.st) .none kV22 dc22 pm22 an22 cd22 ct22), sl22⟩) (c22 : PySem.W.codeIn K cd22 "_law_kind_names" = true) (k22 : PySem.W.keepIn K (.ref f22) = true)
    {od23 an23 : Option Addr} {sl23 : Array (Option Value)} {oc23 kV23 dc23 pm23 cd23 ct23 : Value}
    (a23 : PySem.W.nsIn K mainGlobals "_law_door_names" = some (some (.ref f23)))
    (l23 : K.lookup f23 = some ⟨oc23, od23, .func (PySem.W.fnOf "_law_door_names" "_law_door_names" (defArgs d__law_door_names.st) (defBody d__law_door_names.st) (defScope d__law_door_names.st) .none kV23 dc23 pm23 an23 cd23 ct23), sl23⟩) (c23 : PySem.W.codeIn K cd23 "_law_door_names" = true) (k23 : PySem.W.keepIn K (.ref f23) = true)
    {od24 an24 : Option Addr} {sl24 : Array (Option Value)} {oc24 kV24 dc24 pm24 cd24 ct24 : Value}
    (a24 : PySem.W.nsIn K mainGlobals "_law_book" = some (some (.ref f24)))
    (l24 : K.lookup f24 = some ⟨oc24, od24, .func (PySem.W.fnOf "_law_book" "_law_book" (defArgs d__law_book.st) (defBody d__law_book.st) (defScope d__law_book.st) .none kV24 dc24 pm24 an24 cd24 ct24), sl24⟩) (c24 : PySem.W.codeIn K cd24 "_law_book" = true) (k24 : PySem.W.keepIn K (.ref f24) = true)
    {od25 an25 : Option Addr} {sl25 : Array (Option Value)} {oc25 kV25 dc25 pm25 cd25 ct25 : Value}
    (a25 : PySem.W.nsIn K mainGlobals "_law_house" = some (some (.ref f25)))
    (l25 : K.lookup f25 = some ⟨oc25, od25, .func (PySem.W.fnOf "_law_house" "_law_house" (defArgs d__law_house.st) (defBody d__law_house.st) (defScope d__law_house.st) .none kV25 dc25 pm25 an25 cd25 ct25), sl25⟩) (c25 : PySem.W.codeIn K cd25 "_law_house" = true) (k25 : PySem.W.keepIn K (.ref f25) = true)
    {od26 an26 : Option Addr} {sl26 : Array (Option Value)} {oc26 kV26 dc26 pm26 cd26 ct26 : Value}
    (a26 : PySem.W.nsIn K mainGlobals "_law_house_text" = some (some (.ref f26)))
    (l26 : K.lookup f26 = some ⟨oc26, od26, .func (PySem.W.fnOf "_law_house_text" "_law_house_text" (defArgs d__law_house_text.st) (defBody d__law_house_text.st) (defScope d__law_house_text.st) .none kV26 dc26 pm26 an26 cd26 ct26), sl26⟩) (c26 : PySem.W.codeIn K cd26 "_law_house_text" = true) (k26 : PySem.W.keepIn K (.ref f26) = true)
    {od27 an27 : Option Addr} {sl27 : Array (Option Value)} {oc27 kV27 dc27 pm27 cd27 ct27 : Value}
    (a27 : PySem.W.nsIn K mainGlobals "_law_same" = some (some (.ref f27)))
    (l27 : K.lookup f27 = some ⟨oc27, od27, .func (PySem.W.fnOf "_law_same" "_law_same" (defArgs d__law_same.st) (defBody d__law_same.st) (defScope d__law_same.st) .none kV27 dc27 pm27 an27 cd27 ct27), sl27⟩) (c27 : PySem.W.codeIn K cd27 "_law_same" = true) (k27 : PySem.W.keepIn K (.ref f27) = true)
    {od28 an28 : Option Addr} {sl28 : Array (Option Value)} {oc28 kV28 dc28 pm28 cd28 ct28 : Value}
    (a28 : PySem.W.nsIn K mainGlobals "_law_long" = some (some (.ref f28)))
    (l28 : K.lookup f28 = some ⟨oc28, od28, .func (PySem.W.fnOf "_law_long" "_law_long" (defArgs d__law_long.st) (defBody d__law_long.st) (defScope d__law_long.st) .none kV28 dc28 pm28 an28 cd28 ct28), sl28⟩) (c28 : PySem.W.codeIn K cd28 "_law_long" = true) (k28 : PySem.W.keepIn K (.ref f28) = true)
    {od29 an29 : Option Addr} {sl29 : Array (Option Value)} {oc29 kV29 dc29 pm29 cd29 ct29 : Value}
    (a29 : PySem.W.nsIn K mainGlobals "_law_further" = some (some (.ref f29)))
    (l29 : K.lookup f29 = some ⟨oc29, od29, .func (PySem.W.fnOf "_law_further" "_law_further" (defArgs d__law_further.st) (defBody d__law_further.st) (defScope d__law_further.st) .none kV29 dc29 pm29 an29 cd29 ct29), sl29⟩) (c29 : PySem.W.codeIn K cd29 "_law_further" = true) (k29 : PySem.W.keepIn K (.ref f29) = true)
    {od30 an30 : Option Addr} {sl30 : Array (Option Value)} {oc30 kV30 dc30 pm30 cd30 ct30 : Value}
    (a30 : PySem.W.nsIn K mainGlobals "law" = some (some (.ref f30)))
    (l30 : K.lookup f30 = some ⟨oc30, od30, .func (PySem.W.fnOf "law" "law" (defArgs d_law.st) (defBody d_law.st) (defScope d_law.st) .none kV30 dc30 pm30 an30 cd30 ct30), sl30⟩) (c30 : PySem.W.codeIn K cd30 "law" = true) (k30 : PySem.W.keepIn K (.ref f30) = true)
    (pg0 : PySem.W.plainGet K C0 Str.empty = true) (hd0 : PySem.W.hasDictIn K C0 = true) (po0 : PySem.W.plainOver K C0 = true) (sa0 : PySem.W.findIn K (.ref C0) "__setattr__" = some (some (.builtin "object.__setattr__"))) (mk0 : PySem.W.makesIn K C0 = true) (kc0 : PySem.W.keepIn K (.ref C0) = true)
    (n0_0 : PySem.W.findIn K (.ref C0) "kinds" = some none)
    (n0_1 : PySem.W.findIn K (.ref C0) "doors" = some none)
    (n0_2 : PySem.W.findIn K (.ref C0) "lots_read" = some none)
    (n0_3 : PySem.W.findIn K (.ref C0) "spots" = some none)
    (n0_4 : PySem.W.findIn K (.ref C0) "ways" = some none)
    (z0 : PySem.W.nsIn K mainGlobals "all" = some none)
    (z1 : PySem.W.nsIn K mainGlobals "bool" = some none)
    (z2 : PySem.W.nsIn K mainGlobals "enumerate" = some none)
    (z3 : PySem.W.nsIn K mainGlobals "int" = some none)
    (z4 : PySem.W.nsIn K mainGlobals "isinstance" = some none)
    (z5 : PySem.W.nsIn K mainGlobals "len" = some none)
    (z6 : PySem.W.nsIn K mainGlobals "list" = some none)
    (z7 : PySem.W.nsIn K mainGlobals "max" = some none)
    (z8 : PySem.W.nsIn K mainGlobals "min" = some none)
    (z9 : PySem.W.nsIn K mainGlobals "range" = some none)
    (z10 : PySem.W.nsIn K mainGlobals "repr" = some none)
    (z11 : PySem.W.nsIn K mainGlobals "sorted" = some none)
    (z12 : PySem.W.nsIn K mainGlobals "str" = some none)
    (z13 : PySem.W.nsIn K mainGlobals "tuple" = some none)
    (z14 : PySem.W.nsIn K mainGlobals "zip" = some none)
    {u0 : Tok} (y0 : PySem.W.nsIn K mainGlobals "LETTERS" = some (some (.str "abcdefghijklmnopqrstuvwxyz" u0)))
    {u1 : Tok} (y1 : PySem.W.nsIn K mainGlobals "ROOM" = some (some (.str "room" u1)))
    {u2 : Tok} (y2 : PySem.W.nsIn K mainGlobals "ROOMS" = some (some (.int 300 u2)))
    {u3 : Tok} (y3 : PySem.W.nsIn K mainGlobals "WAY" = some (some (.str "way" u3))) :
    TopF txt K mg [f0, f1, f2, f3, f4, f5, f6, f7, f8, f9, f10, f11, f12, f13, f14, f15, f16, f17, f18, f19, f20, f21, f22, f23, f24, f25, f26, f27, f28, f29, f30] [C0] where
  defs := ⟨⟨_, fun_mk (st := d_is_whole.st) l0 c0 k0, (fun_mk (st := d_is_whole.st) l0 c0 k0).binds (fun _ _ _ _ _ _ us hl => match us, hl with | [_], _ => rfl)⟩,
    ⟨_, fun_mk (st := d_is_from.st) l1 c1 k1, (fun_mk (st := d_is_from.st) l1 c1 k1).binds (fun _ _ _ _ _ _ us hl => match us, hl with | [_, _, _], _ => rfl)⟩,
    ⟨_, fun_mk (st := d_is_name.st) l2 c2 k2, (fun_mk (st := d_is_name.st) l2 c2 k2).binds (fun _ _ _ _ _ _ us hl => match us, hl with | [_], _ => rfl)⟩,
    ⟨_, fun_mk (st := d_are_names.st) l3 c3 k3, (fun_mk (st := d_are_names.st) l3 c3 k3).binds (fun _ _ _ _ _ _ us hl => match us, hl with | [_], _ => rfl)⟩,
    ⟨_, fun_mk (st := d_is_lot.st) l4 c4 k4, (fun_mk (st := d_is_lot.st) l4 c4 k4).binds (fun _ _ _ _ _ _ us hl => match us, hl with | [_, _], _ => rfl)⟩,
    ⟨_, fun_mk (st := d_house_text.st) l5 c5 k5, (fun_mk (st := d_house_text.st) l5 c5 k5).binds (fun _ _ _ _ _ _ us hl => match us, hl with | [_], _ => rfl)⟩,
    ⟨_, fun_mk (st := d_ends_of.st) l6 c6 k6, (fun_mk (st := d_ends_of.st) l6 c6 k6).binds (fun _ _ _ _ _ _ us hl => match us, hl with | [_], _ => rfl)⟩,
    ⟨_, fun_mk (st := d_is_rising.st) l7 c7 k7, (fun_mk (st := d_is_rising.st) l7 c7 k7).binds (fun _ _ _ _ _ _ us hl => match us, hl with | [_], _ => rfl)⟩,
    ⟨_, fun_mk (st := d_HouseReader___init__.st) l8 c8 k8, (fun_mk (st := d_HouseReader___init__.st) l8 c8 k8).binds (fun _ _ _ _ _ _ us hl => match us, hl with | [_, _], _ => rfl)⟩,
    ⟨_, fun_mk (st := d_HouseReader_take_room.st) l9 c9 k9, (fun_mk (st := d_HouseReader_take_room.st) l9 c9 k9).binds (fun _ _ _ _ _ _ us hl => match us, hl with | [_, _], _ => rfl)⟩,
    ⟨_, fun_mk (st := d_HouseReader_take_way.st) l10 c10 k10, (fun_mk (st := d_HouseReader_take_way.st) l10 c10 k10).binds (fun _ _ _ _ _ _ us hl => match us, hl with | [_, _], _ => rfl)⟩,
    ⟨_, fun_mk (st := d_HouseReader_take.st) l11 c11 k11, (fun_mk (st := d_HouseReader_take.st) l11 c11 k11).binds (fun _ _ _ _ _ _ us hl => match us, hl with | [_, _], _ => rfl)⟩,
    ⟨_, fun_mk (st := d_HouseReader_told.st) l12 c12 k12, (fun_mk (st := d_HouseReader_told.st) l12 c12 k12).binds (fun _ _ _ _ _ _ us hl => match us, hl with | [_], _ => rfl)⟩,
    ⟨_, fun_mk (st := d_read_by.st) l13 c13 k13, (fun_mk (st := d_read_by.st) l13 c13 k13).binds (fun _ _ _ _ _ _ us hl => match us, hl with | [_, _], _ => rfl)⟩,
    ⟨_, fun_mk (st := d_read_house.st) l14 c14 k14, (fun_mk (st := d_read_house.st) l14 c14 k14).binds (fun _ _ _ _ _ _ us hl => match us, hl with | [_, _], _ => rfl)⟩,
    ⟨_, fun_mk (st := d_door_of.st) l15 c15 k15, (fun_mk (st := d_door_of.st) l15 c15 k15).binds (fun _ _ _ _ _ _ us hl => match us, hl with | [_, _], _ => rfl)⟩,
    ⟨_, fun_mk (st := d_is_way.st) l16 c16 k16, (fun_mk (st := d_is_way.st) l16 c16 k16).binds (fun _ _ _ _ _ _ us hl => match us, hl with | [_, _, _], _ => rfl)⟩,
    ⟨_, fun_mk (st := d_is_house.st) l17 c17 k17, (fun_mk (st := d_is_house.st) l17 c17 k17).binds (fun _ _ _ _ _ _ us hl => match us, hl with | [_, _], _ => rfl)⟩,
    ⟨_, fun_mk (st := d__law_deck.st) l18 c18 k18, (fun_mk (st := d__law_deck.st) l18 c18 k18).binds (fun _ _ _ _ _ _ us hl => match us, hl with | [_], _ => rfl)⟩,
    ⟨_, fun_mk (st := d__law_next.st) l19 c19 k19, (fun_mk (st := d__law_next.st) l19 c19 k19).binds (fun _ _ _ _ _ _ us hl => match us, hl with | [_], _ => rfl)⟩,
    ⟨_, fun_mk (st := d__law_some.st) l20 c20 k20, (fun_mk (st := d__law_some.st) l20 c20 k20).binds (fun _ _ _ _ _ _ us hl => match us, hl with | [_, _, _], _ => rfl)⟩,
    ⟨_, fun_mk (st := d__law_fan.st) l21 c21 k21, (fun_mk (st := d__law_fan.st) l21 c21 k21).binds (fun _ _ _ _ _ _ us hl => match us, hl with | [_], _ => rfl)⟩,
    ⟨_, fun_mk (st := d__law_kind_names.st) l22 c22 k22, (fun_mk (st := d__law_kind_names.st) l22 c22 k22).binds (fun _ _ _ _ _ _ us hl => match us, hl with | [], _ => rfl)⟩,
    ⟨_, fun_mk (st := d__law_door_names.st) l23 c23 k23, (fun_mk (st := d__law_door_names.st) l23 c23 k23).binds (fun _ _ _ _ _ _ us hl => match us, hl with | [], _ => rfl)⟩,
    ⟨_, fun_mk (st := d__law_book.st) l24 c24 k24, (fun_mk (st := d__law_book.st) l24 c24 k24).binds (fun _ _ _ _ _ _ us hl => match us, hl with | [_], _ => rfl)⟩,
    ⟨_, fun_mk (st := d__law_house.st) l25 c25 k25, (fun_mk (st := d__law_house.st) l25 c25 k25).binds (fun _ _ _ _ _ _ us hl => match us, hl with | [_, _, _], _ => rfl)⟩,
    ⟨_, fun_mk (st := d__law_house_text.st) l26 c26 k26, (fun_mk (st := d__law_house_text.st) l26 c26 k26).binds (fun _ _ _ _ _ _ us hl => match us, hl with | [_], _ => rfl)⟩,
    ⟨_, fun_mk (st := d__law_same.st) l27 c27 k27, (fun_mk (st := d__law_same.st) l27 c27 k27).binds (fun _ _ _ _ _ _ us hl => match us, hl with | [_, _], _ => rfl)⟩,
    ⟨_, fun_mk (st := d__law_long.st) l28 c28 k28, (fun_mk (st := d__law_long.st) l28 c28 k28).binds (fun _ _ _ _ _ _ us hl => match us, hl with | [_, _], _ => rfl)⟩,
    ⟨_, fun_mk (st := d__law_further.st) l29 c29 k29, (fun_mk (st := d__law_further.st) l29 c29 k29).binds (fun _ _ _ _ _ _ us hl => match us, hl with | [_], _ => rfl)⟩,
    ⟨_, fun_mk (st := d_law.st) l30 c30 k30, (fun_mk (st := d_law.st) l30 c30 k30).binds (fun _ _ _ _ _ _ us hl => match us, hl with | [_], _ => rfl)⟩, trivial⟩
  clss := ⟨⟨⟨pg0, hd0, po0, sa0⟩, ⟨n0_0, n0_1, n0_2, n0_3, n0_4, trivial⟩, ⟨⟨a9, i9, k9⟩, ⟨a10, i10, k10⟩, ⟨a11, i11, k11⟩, ⟨a12, i12, k12⟩, trivial⟩, ⟨mk0, a8, i8, kc0⟩⟩, trivial⟩
  cons := ⟨⟨_, V.str "abcdefghijklmnopqrstuvwxyz", PySem.W.mg_of X G y0, ⟨u0, rfl⟩, fun _ _ _ _ => by unfold Rep; rfl⟩, ⟨_, V.str "room", PySem.W.mg_of X G y1, ⟨u1, rfl⟩, fun _ _ _ _ => by unfold Rep; rfl⟩, ⟨_, V.int 300, PySem.W.mg_of X G y2, ⟨u2, rfl⟩, fun _ _ _ _ => by unfold Rep; rfl⟩, ⟨_, V.str "way", PySem.W.mg_of X G y3, ⟨u3, rfl⟩, fun _ _ _ _ => by unfold Rep; rfl⟩, trivial⟩
  bis := ⟨PySem.W.mg_none_of X G z0, PySem.W.mg_none_of X G z1, PySem.W.mg_none_of X G z2, PySem.W.mg_none_of X G z3, PySem.W.mg_none_of X G z4, PySem.W.mg_none_of X G z5, PySem.W.mg_none_of X G z6, PySem.W.mg_none_of X G z7, PySem.W.mg_none_of X G z8, PySem.W.mg_none_of X G z9, PySem.W.mg_none_of X G z10, PySem.W.mg_none_of X G z11, PySem.W.mg_none_of X G z12, PySem.W.mg_none_of X G z13, PySem.W.mg_none_of X G z14, trivial⟩
  fns := ⟨⟨(plc_adr (l := defs) (x := "is_whole") (i := 0) (by decide +kernel)) ▸ PySem.W.mg_of X G a0, (plc_adr (l := defs) (x := "is_whole") (i := 0) (by decide +kernel)) ▸ k0⟩, ⟨(plc_adr (l := defs) (x := "is_from") (i := 1) (by decide +kernel)) ▸ PySem.W.mg_of X G a1, (plc_adr (l := defs) (x := "is_from") (i := 1) (by decide +kernel)) ▸ k1⟩, ⟨(plc_adr (l := defs) (x := "is_name") (i := 2) (by decide +kernel)) ▸ PySem.W.mg_of X G a2, (plc_adr (l := defs) (x := "is_name") (i := 2) (by decide +kernel)) ▸ k2⟩, ⟨(plc_adr (l := defs) (x := "are_names") (i := 3) (by decide +kernel)) ▸ PySem.W.mg_of X G a3, (plc_adr (l := defs) (x := "are_names") (i := 3) (by decide +kernel)) ▸ k3⟩, ⟨(plc_adr (l := defs) (x := "is_lot") (i := 4) (by decide +kernel)) ▸ PySem.W.mg_of X G a4, (plc_adr (l := defs) (x := "is_lot") (i := 4) (by decide +kernel)) ▸ k4⟩, ⟨(plc_adr (l := defs) (x := "house_text") (i := 5) (by decide +kernel)) ▸ PySem.W.mg_of X G a5, (plc_adr (l := defs) (x := "house_text") (i := 5) (by decide +kernel)) ▸ k5⟩, ⟨(plc_adr (l := defs) (x := "ends_of") (i := 6) (by decide +kernel)) ▸ PySem.W.mg_of X G a6, (plc_adr (l := defs) (x := "ends_of") (i := 6) (by decide +kernel)) ▸ k6⟩, ⟨(plc_adr (l := defs) (x := "is_rising") (i := 7) (by decide +kernel)) ▸ PySem.W.mg_of X G a7, (plc_adr (l := defs) (x := "is_rising") (i := 7) (by decide +kernel)) ▸ k7⟩, ⟨(plc_adr (l := defs) (x := "read_by") (i := 13) (by decide +kernel)) ▸ PySem.W.mg_of X G a13, (plc_adr (l := defs) (x := "read_by") (i := 13) (by decide +kernel)) ▸ k13⟩, ⟨(plc_adr (l := defs) (x := "read_house") (i := 14) (by decide +kernel)) ▸ PySem.W.mg_of X G a14, (plc_adr (l := defs) (x := "read_house") (i := 14) (by decide +kernel)) ▸ k14⟩, ⟨(plc_adr (l := defs) (x := "door_of") (i := 15) (by decide +kernel)) ▸ PySem.W.mg_of X G a15, (plc_adr (l := defs) (x := "door_of") (i := 15) (by decide +kernel)) ▸ k15⟩, ⟨(plc_adr (l := defs) (x := "is_way") (i := 16) (by decide +kernel)) ▸ PySem.W.mg_of X G a16, (plc_adr (l := defs) (x := "is_way") (i := 16) (by decide +kernel)) ▸ k16⟩, ⟨(plc_adr (l := defs) (x := "is_house") (i := 17) (by decide +kernel)) ▸ PySem.W.mg_of X G a17, (plc_adr (l := defs) (x := "is_house") (i := 17) (by decide +kernel)) ▸ k17⟩, ⟨(plc_adr (l := defs) (x := "_law_deck") (i := 18) (by decide +kernel)) ▸ PySem.W.mg_of X G a18, (plc_adr (l := defs) (x := "_law_deck") (i := 18) (by decide +kernel)) ▸ k18⟩, ⟨(plc_adr (l := defs) (x := "_law_next") (i := 19) (by decide +kernel)) ▸ PySem.W.mg_of X G a19, (plc_adr (l := defs) (x := "_law_next") (i := 19) (by decide +kernel)) ▸ k19⟩, ⟨(plc_adr (l := defs) (x := "_law_some") (i := 20) (by decide +kernel)) ▸ PySem.W.mg_of X G a20, (plc_adr (l := defs) (x := "_law_some") (i := 20) (by decide +kernel)) ▸ k20⟩, ⟨(plc_adr (l := defs) (x := "_law_fan") (i := 21) (by decide +kernel)) ▸ PySem.W.mg_of X G a21, (plc_adr (l := defs) (x := "_law_fan") (i := 21) (by decide +kernel)) ▸ k21⟩, ⟨(plc_adr (l := defs) (x := "_law_kind_names") (i := 22) (by decide +kernel)) ▸ PySem.W.mg_of X G a22, (plc_adr (l := defs) (x := "_law_kind_names") (i := 22) (by decide +kernel)) ▸ k22⟩, ⟨(plc_adr (l := defs) (x := "_law_door_names") (i := 23) (by decide +kernel)) ▸ PySem.W.mg_of X G a23, (plc_adr (l := defs) (x := "_law_door_names") (i := 23) (by decide +kernel)) ▸ k23⟩, ⟨(plc_adr (l := defs) (x := "_law_book") (i := 24) (by decide +kernel)) ▸ PySem.W.mg_of X G a24, (plc_adr (l := defs) (x := "_law_book") (i := 24) (by decide +kernel)) ▸ k24⟩, ⟨(plc_adr (l := defs) (x := "_law_house") (i := 25) (by decide +kernel)) ▸ PySem.W.mg_of X G a25, (plc_adr (l := defs) (x := "_law_house") (i := 25) (by decide +kernel)) ▸ k25⟩, ⟨(plc_adr (l := defs) (x := "_law_house_text") (i := 26) (by decide +kernel)) ▸ PySem.W.mg_of X G a26, (plc_adr (l := defs) (x := "_law_house_text") (i := 26) (by decide +kernel)) ▸ k26⟩, ⟨(plc_adr (l := defs) (x := "_law_same") (i := 27) (by decide +kernel)) ▸ PySem.W.mg_of X G a27, (plc_adr (l := defs) (x := "_law_same") (i := 27) (by decide +kernel)) ▸ k27⟩, ⟨(plc_adr (l := defs) (x := "_law_long") (i := 28) (by decide +kernel)) ▸ PySem.W.mg_of X G a28, (plc_adr (l := defs) (x := "_law_long") (i := 28) (by decide +kernel)) ▸ k28⟩, ⟨(plc_adr (l := defs) (x := "_law_further") (i := 29) (by decide +kernel)) ▸ PySem.W.mg_of X G a29, (plc_adr (l := defs) (x := "_law_further") (i := 29) (by decide +kernel)) ▸ k29⟩, trivial⟩
  news := ⟨PySem.W.mg_of X G aC0, trivial⟩
theorem all_mk {l : PySem.W.OpenLaw} {w : World} {fa : Addr} {f0 f1 f2 f3 f4 f5 f6 f7 f8 f9 f10 f11 f12 f13 f14 f15 f16 f17 f18 f19 f20 f21 f22 f23 f24 f25 f26 f27 f28 f29 f30 : Addr} {C0 : Addr} {h : Heap} (X : K.In h) (G : h.Ns mainGlobals mg) (hfa : mg "law" = some (.ref fa))
    {od0 an0 : Option Addr} {sl0 : Array (Option Value)} {oc0 kV0 dc0 pm0 cd0 ct0 : Value}
    (a0 : PySem.W.nsIn K mainGlobals "is_whole" = some (some (.ref f0)))
    (l0 : K.lookup f0 = some ⟨oc0, od0, .func (PySem.W.fnOf "is_whole" "is_whole" (defArgs d_is_whole.st) (defBody d_is_whole.st) (defScope d_is_whole.st) .none kV0 dc0 pm0 an0 cd0 ct0), sl0⟩) (c0 : PySem.W.codeIn K cd0 "is_whole" = true) (k0 : PySem.W.keepIn K (.ref f0) = true)
    {od1 an1 : Option Addr} {sl1 : Array (Option Value)} {oc1 kV1 dc1 pm1 cd1 ct1 : Value}
    (a1 : PySem.W.nsIn K mainGlobals "is_from" = some (some (.ref f1)))
    (l1 : K.lookup f1 = some ⟨oc1, od1, .func (PySem.W.fnOf "is_from" "is_from" (defArgs d_is_from.st) (defBody d_is_from.st) (defScope d_is_from.st) .none kV1 dc1 pm1 an1 cd1 ct1), sl1⟩) (c1 : PySem.W.codeIn K cd1 "is_from" = true) (k1 : PySem.W.keepIn K (.ref f1) = true)
    {od2 an2 : Option Addr} {sl2 : Array (Option Value)} {oc2 kV2 dc2 pm2 cd2 ct2 : Value}
    (a2 : PySem.W.nsIn K mainGlobals "is_name" = some (some (.ref f2)))
    (l2 : K.lookup f2 = some ⟨oc2, od2, .func (PySem.W.fnOf "is_name" "is_name" (defArgs d_is_name.st) (defBody d_is_name.st) (defScope d_is_name.st) .none kV2 dc2 pm2 an2 cd2 ct2), sl2⟩) (c2 : PySem.W.codeIn K cd2 "is_name" = true) (k2 : PySem.W.keepIn K (.ref f2) = true)
    {od3 an3 : Option Addr} {sl3 : Array (Option Value)} {oc3 kV3 dc3 pm3 cd3 ct3 : Value}
    (a3 : PySem.W.nsIn K mainGlobals "are_names" = some (some (.ref f3)))
    (l3 : K.lookup f3 = some ⟨oc3, od3, .func (PySem.W.fnOf "are_names" "are_names" (defArgs d_are_names.st) (defBody d_are_names.st) (defScope d_are_names.st) .none kV3 dc3 pm3 an3 cd3 ct3), sl3⟩) (c3 : PySem.W.codeIn K cd3 "are_names" = true) (k3 : PySem.W.keepIn K (.ref f3) = true)
    {od4 an4 : Option Addr} {sl4 : Array (Option Value)} {oc4 kV4 dc4 pm4 cd4 ct4 : Value}
    (a4 : PySem.W.nsIn K mainGlobals "is_lot" = some (some (.ref f4)))
    (l4 : K.lookup f4 = some ⟨oc4, od4, .func (PySem.W.fnOf "is_lot" "is_lot" (defArgs d_is_lot.st) (defBody d_is_lot.st) (defScope d_is_lot.st) .none kV4 dc4 pm4 an4 cd4 ct4), sl4⟩) (c4 : PySem.W.codeIn K cd4 "is_lot" = true) (k4 : PySem.W.keepIn K (.ref f4) = true)
    {od5 an5 : Option Addr} {sl5 : Array (Option Value)} {oc5 kV5 dc5 pm5 cd5 ct5 : Value}
    (a5 : PySem.W.nsIn K mainGlobals "house_text" = some (some (.ref f5)))
    (l5 : K.lookup f5 = some ⟨oc5, od5, .func (PySem.W.fnOf "house_text" "house_text" (defArgs d_house_text.st) (defBody d_house_text.st) (defScope d_house_text.st) .none kV5 dc5 pm5 an5 cd5 ct5), sl5⟩) (c5 : PySem.W.codeIn K cd5 "house_text" = true) (k5 : PySem.W.keepIn K (.ref f5) = true)
    {od6 an6 : Option Addr} {sl6 : Array (Option Value)} {oc6 kV6 dc6 pm6 cd6 ct6 : Value}
    (a6 : PySem.W.nsIn K mainGlobals "ends_of" = some (some (.ref f6)))
    (l6 : K.lookup f6 = some ⟨oc6, od6, .func (PySem.W.fnOf "ends_of" "ends_of" (defArgs d_ends_of.st) (defBody d_ends_of.st) (defScope d_ends_of.st) .none kV6 dc6 pm6 an6 cd6 ct6), sl6⟩) (c6 : PySem.W.codeIn K cd6 "ends_of" = true) (k6 : PySem.W.keepIn K (.ref f6) = true)
    {od7 an7 : Option Addr} {sl7 : Array (Option Value)} {oc7 kV7 dc7 pm7 cd7 ct7 : Value}
    (a7 : PySem.W.nsIn K mainGlobals "is_rising" = some (some (.ref f7)))
    (l7 : K.lookup f7 = some ⟨oc7, od7, .func (PySem.W.fnOf "is_rising" "is_rising" (defArgs d_is_rising.st) (defBody d_is_rising.st) (defScope d_is_rising.st) .none kV7 dc7 pm7 an7 cd7 ct7), sl7⟩) (c7 : PySem.W.codeIn K cd7 "is_rising" = true) (k7 : PySem.W.keepIn K (.ref f7) = true)
    {od8 an8 : Option Addr} {sl8 : Array (Option Value)} {oc8 kV8 dc8 pm8 cd8 ct8 : Value}
    (aC0 : PySem.W.nsIn K mainGlobals "HouseReader" = some (some (.ref C0)))
    (a8 : PySem.W.findIn K (.ref C0) "__init__" = some (some (.ref f8))) (i8 : PySem.W.isFn K (.ref f8) = true)
    (l8 : K.lookup f8 = some ⟨oc8, od8, .func (PySem.W.fnOf "__init__" "HouseReader.__init__" (defArgs d_HouseReader___init__.st) (defBody d_HouseReader___init__.st) (defScope d_HouseReader___init__.st) .none kV8 dc8 pm8 an8 cd8 ct8), sl8⟩) (c8 : PySem.W.codeIn K cd8 "HouseReader.__init__" = true) (k8 : PySem.W.keepIn K (.ref f8) = true)
    {od9 an9 : Option Addr} {sl9 : Array (Option Value)} {oc9 kV9 dc9 pm9 cd9 ct9 : Value}
    (a9 : PySem.W.findIn K (.ref C0) "take_room" = some (some (.ref f9))) (i9 : PySem.W.isFn K (.ref f9) = true)
    (l9 : K.lookup f9 = some ⟨oc9, od9, .func (PySem.W.fnOf "take_room" "HouseReader.take_room" (defArgs d_HouseReader_take_room.st) (defBody d_HouseReader_take_room.st) (defScope d_HouseReader_take_room.st) .none kV9 dc9 pm9 an9 cd9 ct9), sl9⟩) (c9 : PySem.W.codeIn K cd9 "HouseReader.take_room" = true) (k9 : PySem.W.keepIn K (.ref f9) = true)
    {od10 an10 : Option Addr} {sl10 : Array (Option Value)} {oc10 kV10 dc10 pm10 cd10 ct10 : Value}
    (a10 : PySem.W.findIn K (.ref C0) "take_way" = some (some (.ref f10))) (i10 : PySem.W.isFn K (.ref f10) = true)
    (l10 : K.lookup f10 = some ⟨oc10, od10, .func (PySem.W.fnOf "take_way" "HouseReader.take_way" (defArgs d_HouseReader_take_way.st) (defBody d_HouseReader_take_way.st) (defScope d_HouseReader_take_way.st) .none kV10 dc10 pm10 an10 cd10 ct10), sl10⟩) (c10 : PySem.W.codeIn K cd10 "HouseReader.take_way" = true) (k10 : PySem.W.keepIn K (.ref f10) = true)
    {od11 an11 : Option Addr} {sl11 : Array (Option Value)} {oc11 kV11 dc11 pm11 cd11 ct11 : Value}
    (a11 : PySem.W.findIn K (.ref C0) "take" = some (some (.ref f11))) (i11 : PySem.W.isFn K (.ref f11) = true)
    (l11 : K.lookup f11 = some ⟨oc11, od11, .func (PySem.W.fnOf "take" "HouseReader.take" (defArgs d_HouseReader_take.st) (defBody d_HouseReader_take.st) (defScope d_HouseReader_take.st) .none kV11 dc11 pm11 an11 cd11 ct11), sl11⟩) (c11 : PySem.W.codeIn K cd11 "HouseReader.take" = true) (k11 : PySem.W.keepIn K (.ref f11) = true)
    {od12 an12 : Option Addr} {sl12 : Array (Option Value)} {oc12 kV12 dc12 pm12 cd12 ct12 : Value}
    (a12 : PySem.W.findIn K (.ref C0) "told" = some (some (.ref f12))) (i12 : PySem.W.isFn K (.ref f12) = true)
    (l12 : K.lookup f12 = some ⟨oc12, od12, .func (PySem.W.fnOf "told" "HouseReader.told" (defArgs d_HouseReader_told.st) (defBody d_HouseReader_told.st) (defScope d_HouseReader_told.st) .none kV12 dc12 pm12 an12 cd12 ct12), sl12⟩) (c12 : PySem.W.codeIn K cd12 "HouseReader.told" = true) (k12 : PySem.W.keepIn K (.ref f12) = true)
    {od13 an13 : Option Addr} {sl13 : Array (Option Value)} {oc13 kV13 dc13 pm13 cd13 ct13 : Value}
    (a13 : PySem.W.nsIn K mainGlobals "read_by" = some (some (.ref f13)))
    (l13 : K.lookup f13 = some ⟨oc13, od13, .func (PySem.W.fnOf "read_by" "read_by" (defArgs d_read_by.st) (defBody d_read_by.st) (defScope d_read_by.st) .none kV13 dc13 pm13 an13 cd13 ct13), sl13⟩) (c13 : PySem.W.codeIn K cd13 "read_by" = true) (k13 : PySem.W.keepIn K (.ref f13) = true)
    {od14 an14 : Option Addr} {sl14 : Array (Option Value)} {oc14 kV14 dc14 pm14 cd14 ct14 : Value}
    (a14 : PySem.W.nsIn K mainGlobals "read_house" = some (some (.ref f14)))
    (l14 : K.lookup f14 = some ⟨oc14, od14, .func (PySem.W.fnOf "read_house" "read_house" (defArgs d_read_house.st) (defBody d_read_house.st) (defScope d_read_house.st) .none kV14 dc14 pm14 an14 cd14 ct14), sl14⟩) (c14 : PySem.W.codeIn K cd14 "read_house" = true) (k14 : PySem.W.keepIn K (.ref f14) = true)
    {od15 an15 : Option Addr} {sl15 : Array (Option Value)} {oc15 kV15 dc15 pm15 cd15 ct15 : Value}
    (a15 : PySem.W.nsIn K mainGlobals "door_of" = some (some (.ref f15)))
    (l15 : K.lookup f15 = some ⟨oc15, od15, .func (PySem.W.fnOf "door_of" "door_of" (defArgs d_door_of.st) (defBody d_door_of.st) (defScope d_door_of.st) .none kV15 dc15 pm15 an15 cd15 ct15), sl15⟩) (c15 : PySem.W.codeIn K cd15 "door_of" = true) (k15 : PySem.W.keepIn K (.ref f15) = true)
    {od16 an16 : Option Addr} {sl16 : Array (Option Value)} {oc16 kV16 dc16 pm16 cd16 ct16 : Value}
    (a16 : PySem.W.nsIn K mainGlobals "is_way" = some (some (.ref f16)))
    (l16 : K.lookup f16 = some ⟨oc16, od16, .func (PySem.W.fnOf "is_way" "is_way" (defArgs d_is_way.st) (defBody d_is_way.st) (defScope d_is_way.st) .none kV16 dc16 pm16 an16 cd16 ct16), sl16⟩) (c16 : PySem.W.codeIn K cd16 "is_way" = true) (k16 : PySem.W.keepIn K (.ref f16) = true)
    {od17 an17 : Option Addr} {sl17 : Array (Option Value)} {oc17 kV17 dc17 pm17 cd17 ct17 : Value}
    (a17 : PySem.W.nsIn K mainGlobals "is_house" = some (some (.ref f17)))
    (l17 : K.lookup f17 = some ⟨oc17, od17, .func (PySem.W.fnOf "is_house" "is_house" (defArgs d_is_house.st) (defBody d_is_house.st) (defScope d_is_house.st) .none kV17 dc17 pm17 an17 cd17 ct17), sl17⟩) (c17 : PySem.W.codeIn K cd17 "is_house" = true) (k17 : PySem.W.keepIn K (.ref f17) = true)
    {od18 an18 : Option Addr} {sl18 : Array (Option Value)} {oc18 kV18 dc18 pm18 cd18 ct18 : Value}
    (a18 : PySem.W.nsIn K mainGlobals "_law_deck" = some (some (.ref f18)))
    (l18 : K.lookup f18 = some ⟨oc18, od18, .func (PySem.W.fnOf "_law_deck" "_law_deck" (defArgs d__law_deck.st) (defBody d__law_deck.st) (defScope d__law_deck.st) .none kV18 dc18 pm18 an18 cd18 ct18), sl18⟩) (c18 : PySem.W.codeIn K cd18 "_law_deck" = true) (k18 : PySem.W.keepIn K (.ref f18) = true)
    {od19 an19 : Option Addr} {sl19 : Array (Option Value)} {oc19 kV19 dc19 pm19 cd19 ct19 : Value}
    (a19 : PySem.W.nsIn K mainGlobals "_law_next" = some (some (.ref f19)))
    (l19 : K.lookup f19 = some ⟨oc19, od19, .func (PySem.W.fnOf "_law_next" "_law_next" (defArgs d__law_next.st) (defBody d__law_next.st) (defScope d__law_next.st) .none kV19 dc19 pm19 an19 cd19 ct19), sl19⟩) (c19 : PySem.W.codeIn K cd19 "_law_next" = true) (k19 : PySem.W.keepIn K (.ref f19) = true)
    {od20 an20 : Option Addr} {sl20 : Array (Option Value)} {oc20 kV20 dc20 pm20 cd20 ct20 : Value}
    (a20 : PySem.W.nsIn K mainGlobals "_law_some" = some (some (.ref f20)))
    (l20 : K.lookup f20 = some ⟨oc20, od20, .func (PySem.W.fnOf "_law_some" "_law_some" (defArgs d__law_some.st) (defBody d__law_some.st) (defScope d__law_some.st) .none kV20 dc20 pm20 an20 cd20 ct20), sl20⟩) (c20 : PySem.W.codeIn K cd20 "_law_some" = true) (k20 : PySem.W.keepIn K (.ref f20) = true)
    {od21 an21 : Option Addr} {sl21 : Array (Option Value)} {oc21 kV21 dc21 pm21 cd21 ct21 : Value}
    (a21 : PySem.W.nsIn K mainGlobals "_law_fan" = some (some (.ref f21)))
    (l21 : K.lookup f21 = some ⟨oc21, od21, .func (PySem.W.fnOf "_law_fan" "_law_fan" (defArgs d__law_fan.st) (defBody d__law_fan.st) (defScope d__law_fan.st) .none kV21 dc21 pm21 an21 cd21 ct21), sl21⟩) (c21 : PySem.W.codeIn K cd21 "_law_fan" = true) (k21 : PySem.W.keepIn K (.ref f21) = true)
    {od22 an22 : Option Addr} {sl22 : Array (Option Value)} {oc22 kV22 dc22 pm22 cd22 ct22 : Value}
    (a22 : PySem.W.nsIn K mainGlobals "_law_kind_names" = some (some (.ref f22)))
    (l22 : K.lookup f22 = some ⟨oc22, od22, .func (PySem.W.fnOf "_law_kind_names" "_law_kind_names" (defArgs d__law_kind_names.st) (defBody d__law_kind_names.st) (defScope d__law_kind_names.st) .none kV22 dc22 pm22 an22 cd22 ct22), sl22⟩) (c22 : PySem.W.codeIn K cd22 "_law_kind_names" = true) (k22 : PySem.W.keepIn K (.ref f22) = true)
    {od23 an23 : Option Addr} {sl23 : Array (Option Value)} {oc23 kV23 dc23 pm23 cd23 ct23 : Value}
    (a23 : PySem.W.nsIn K mainGlobals "_law_door_names" = some (some (.ref f23)))
    (l23 : K.lookup f23 = some ⟨oc23, od23, .func (PySem.W.fnOf "_law_door_names" "_law_door_names" (defArgs d__law_door_names.st) (defBody d__law_door_names.st) (defScope d__law_door_names.st) .none kV23 dc23 pm23 an23 cd23 ct23), sl23⟩) (c23 : PySem.W.codeIn K cd23 "_law_door_names" = true) (k23 : PySem.W.keepIn K (.ref f23) = true)
    {od24 an24 : Option Addr} {sl24 : Array (Option Value)} {oc24 kV24 dc24 pm24 cd24 ct24 : Value}
    (a24 : PySem.W.nsIn K mainGlobals "_law_book" = some (some (.ref f24)))
    (l24 : K.lookup f24 = some ⟨oc24, od24, .func (PySem.W.fnOf "_law_book" "_law_book" (defArgs d__law_book.st) (defBody d__law_book.st) (defScope d__law_book.st) .none kV24 dc24 pm24 an24 cd24 ct24), sl24⟩) (c24 : PySem.W.codeIn K cd24 "_law_book" = true) (k24 : PySem.W.keepIn K (.ref f24) = true)
    {od25 an25 : Option Addr} {sl25 : Array (Option Value)} {oc25 kV25 dc25 pm25 cd25 ct25 : Value}
    (a25 : PySem.W.nsIn K mainGlobals "_law_house" = some (some (.ref f25)))
    (l25 : K.lookup f25 = some ⟨oc25, od25, .func (PySem.W.fnOf "_law_house" "_law_house" (defArgs d__law_house.st) (defBody d__law_house.st) (defScope d__law_house.st) .none kV25 dc25 pm25 an25 cd25 ct25), sl25⟩) (c25 : PySem.W.codeIn K cd25 "_law_house" = true) (k25 : PySem.W.keepIn K (.ref f25) = true)
    {od26 an26 : Option Addr} {sl26 : Array (Option Value)} {oc26 kV26 dc26 pm26 cd26 ct26 : Value}
    (a26 : PySem.W.nsIn K mainGlobals "_law_house_text" = some (some (.ref f26)))
    (l26 : K.lookup f26 = some ⟨oc26, od26, .func (PySem.W.fnOf "_law_house_text" "_law_house_text" (defArgs d__law_house_text.st) (defBody d__law_house_text.st) (defScope d__law_house_text.st) .none kV26 dc26 pm26 an26 cd26 ct26), sl26⟩) (c26 : PySem.W.codeIn K cd26 "_law_house_text" = true) (k26 : PySem.W.keepIn K (.ref f26) = true)
    {od27 an27 : Option Addr} {sl27 : Array (Option Value)} {oc27 kV27 dc27 pm27 cd27 ct27 : Value}
    (a27 : PySem.W.nsIn K mainGlobals "_law_same" = some (some (.ref f27)))
    (l27 : K.lookup f27 = some ⟨oc27, od27, .func (PySem.W.fnOf "_law_same" "_law_same" (defArgs d__law_same.st) (defBody d__law_same.st) (defScope d__law_same.st) .none kV27 dc27 pm27 an27 cd27 ct27), sl27⟩) (c27 : PySem.W.codeIn K cd27 "_law_same" = true) (k27 : PySem.W.keepIn K (.ref f27) = true)
    {od28 an28 : Option Addr} {sl28 : Array (Option Value)} {oc28 kV28 dc28 pm28 cd28 ct28 : Value}
    (a28 : PySem.W.nsIn K mainGlobals "_law_long" = some (some (.ref f28)))
    (l28 : K.lookup f28 = some ⟨oc28, od28, .func (PySem.W.fnOf "_law_long" "_law_long" (defArgs d__law_long.st) (defBody d__law_long.st) (defScope d__law_long.st) .none kV28 dc28 pm28 an28 cd28 ct28), sl28⟩) (c28 : PySem.W.codeIn K cd28 "_law_long" = true) (k28 : PySem.W.keepIn K (.ref f28) = true)
    {od29 an29 : Option Addr} {sl29 : Array (Option Value)} {oc29 kV29 dc29 pm29 cd29 ct29 : Value}
    (a29 : PySem.W.nsIn K mainGlobals "_law_further" = some (some (.ref f29)))
    (l29 : K.lookup f29 = some ⟨oc29, od29, .func (PySem.W.fnOf "_law_further" "_law_further" (defArgs d__law_further.st) (defBody d__law_further.st) (defScope d__law_further.st) .none kV29 dc29 pm29 an29 cd29 ct29), sl29⟩) (c29 : PySem.W.codeIn K cd29 "_law_further" = true) (k29 : PySem.W.keepIn K (.ref f29) = true)
    {od30 an30 : Option Addr} {sl30 : Array (Option Value)} {oc30 kV30 dc30 pm30 cd30 ct30 : Value}
    (a30 : PySem.W.nsIn K mainGlobals "law" = some (some (.ref f30)))
    (l30 : K.lookup f30 = some ⟨oc30, od30, .func (PySem.W.fnOf "law" "law" (defArgs d_law.st) (defBody d_law.st) (defScope d_law.st) .none kV30 dc30 pm30 an30 cd30 ct30), sl30⟩) (c30 : PySem.W.codeIn K cd30 "law" = true) (k30 : PySem.W.keepIn K (.ref f30) = true)
    (pg0 : PySem.W.plainGet K C0 Str.empty = true) (hd0 : PySem.W.hasDictIn K C0 = true) (po0 : PySem.W.plainOver K C0 = true) (sa0 : PySem.W.findIn K (.ref C0) "__setattr__" = some (some (.builtin "object.__setattr__"))) (mk0 : PySem.W.makesIn K C0 = true) (kc0 : PySem.W.keepIn K (.ref C0) = true)
    (n0_0 : PySem.W.findIn K (.ref C0) "kinds" = some none)
    (n0_1 : PySem.W.findIn K (.ref C0) "doors" = some none)
    (n0_2 : PySem.W.findIn K (.ref C0) "lots_read" = some none)
    (n0_3 : PySem.W.findIn K (.ref C0) "spots" = some none)
    (n0_4 : PySem.W.findIn K (.ref C0) "ways" = some none)
    (z0 : PySem.W.nsIn K mainGlobals "all" = some none)
    (z1 : PySem.W.nsIn K mainGlobals "bool" = some none)
    (z2 : PySem.W.nsIn K mainGlobals "enumerate" = some none)
    (z3 : PySem.W.nsIn K mainGlobals "int" = some none)
    (z4 : PySem.W.nsIn K mainGlobals "isinstance" = some none)
    (z5 : PySem.W.nsIn K mainGlobals "len" = some none)
    (z6 : PySem.W.nsIn K mainGlobals "list" = some none)
    (z7 : PySem.W.nsIn K mainGlobals "max" = some none)
    (z8 : PySem.W.nsIn K mainGlobals "min" = some none)
    (z9 : PySem.W.nsIn K mainGlobals "range" = some none)
    (z10 : PySem.W.nsIn K mainGlobals "repr" = some none)
    (z11 : PySem.W.nsIn K mainGlobals "sorted" = some none)
    (z12 : PySem.W.nsIn K mainGlobals "str" = some none)
    (z13 : PySem.W.nsIn K mainGlobals "tuple" = some none)
    (z14 : PySem.W.nsIn K mainGlobals "zip" = some none)
    {u0 : Tok} (y0 : PySem.W.nsIn K mainGlobals "LETTERS" = some (some (.str "abcdefghijklmnopqrstuvwxyz" u0)))
    {u1 : Tok} (y1 : PySem.W.nsIn K mainGlobals "ROOM" = some (some (.str "room" u1)))
    {u2 : Tok} (y2 : PySem.W.nsIn K mainGlobals "ROOMS" = some (some (.int 300 u2)))
    {u3 : Tok} (y3 : PySem.W.nsIn K mainGlobals "WAY" = some (some (.str "way" u3))) :
    ∃ fd : FuncData, (∀ (s : Shared) (u : Value), K.In s.heap → BindsTo s fd ⟨[u], []⟩ [("_law_script", u)]) ∧ ∀ bs : Heap, K.In bs → bs.Ns mainGlobals mg → Prom l.prog w K mg bs (2 * depth) fa fd ["_law_script"] (spLaw K 63) := by
  have e := hfa.symm.trans (PySem.W.mg_of X G a30)
  cases e
  exact law_end (d := d_law) ok (topF X G a0 l0 c0 k0 a1 l1 c1 k1 a2 l2 c2 k2 a3 l3 c3 k3 a4 l4 c4 k4 a5 l5 c5 k5 a6 l6 c6 k6 a7 l7 c7 k7 aC0 a8 i8 l8 c8 k8 a9 i9 l9 c9 k9 a10 i10 l10 c10 k10 a11 i11 l11 c11 k11 a12 i12 l12 c12 k12 a13 l13 c13 k13 a14 l14 c14 k14 a15 l15 c15 k15 a16 l16 c16 k16 a17 l17 c17 k17 a18 l18 c18 k18 a19 l19 c19 k19 a20 l20 c20 k20 a21 l21 c21 k21 a22 l22 c22 k22 a23 l23 c23 k23 a24 l24 c24 k24 a25 l25 c25 k25 a26 l26 c26 k26 a27 l27 c27 k27 a28 l28 c28 k28 a29 l29 c29 k29 a30 l30 c30 k30 pg0 hd0 po0 sa0 mk0 kc0 n0_0 n0_1 n0_2 n0_3 n0_4 z0 z1 z2 z3 z4 z5 z6 z7 z8 z9 z10 z11 z12 z13 z14 y0 y1 y2 y3) (by kernel_rfl) rfl ((plc_adr (l := defs) (x := "law") (i := 30) (by decide +kernel)).trans rfl) plain
end
theorem walk {l : PySem.W.OpenLaw} {q : Program} {loose : List Str} {XP : (Str → Option Value) → Heap → Prop} {YP : World → Heap → Prop} {d : DefRec} {K : Params → PySem.W.Frag} (hn : l.most = some 63) (hdf : d.params.defaults = []) (hY : ∀ (w : World) (h : Heap), YP w h → (K w.params).In h)
    (F : ∀ (w : World) (mg : Str → Option Value) (fa : Addr) (h : Heap), (K w.params).In h → h.Ns mainGlobals mg → mg d.name = some (.ref fa) → ∃ fd : FuncData, (∀ (s : Shared) (u : Value), (K w.params).In s.heap → BindsTo s fd ⟨[u], []⟩ [("_law_script", u)]) ∧ ∀ bs : Heap, (K w.params).In bs → bs.Ns mainGlobals mg → Prom l.prog w (K w.params) mg bs (2 * depth) fa fd ["_law_script"] (spLaw (K w.params) 63)) :
    PySem.W.WalkO q loose XP YP l.row.toRowW d [] (fun f vs => PySem.call f vs) :=
  walk_law (sp := fun w => spLaw (K w.params) 63) hn (by decide) hdf ⟨rfl, by decide, by decide⟩ hY F fun w H a ns hl hS => ⟨a, ns, rfl, hS, hl, fun _ => rfl⟩
end K74
open PySem PySem.W PyProof.Rows in
set_option maxRecDepth 100000 in
set_option maxHeartbeats 0 in
theorem PySem.Challenge.cw_fankinds_k74_houses_written_and_read_holds : PySem.Challenge.rw_fankinds_k74_houses_written_and_read.Holds := by
  w_on; o_law; k_head; (case hw => w_witness2)
  k_fill
  refine K74.walk (l := PySem.Challenge.rw_fankinds_k74_houses_written_and_read) rfl rfl (fun w h Y => PySem.W.kIn_of Y) ?F
  case F =>
    intro w mg fa h KX G hmg
    refine' K74.all_mk KX G hmg ?a0 ?l0 ?c0 ?k0 ?a1 ?l1 ?c1 ?k1 ?a2 ?l2 ?c2 ?k2 ?a3 ?l3 ?c3 ?k3 ?a4 ?l4 ?c4 ?k4 ?a5 ?l5 ?c5 ?k5 ?a6 ?l6 ?c6 ?k6 ?a7 ?l7 ?c7 ?k7 ?aC0 ?a8 ?i8 ?l8 ?c8 ?k8 ?a9 ?i9 ?l9 ?c9 ?k9 ?a10 ?i10 ?l10 ?c10 ?k10 ?a11 ?i11 ?l11 ?c11 ?k11 ?a12 ?i12 ?l12 ?c12 ?k12 ?a13 ?l13 ?c13 ?k13 ?a14 ?l14 ?c14 ?k14 ?a15 ?l15 ?c15 ?k15 ?a16 ?l16 ?c16 ?k16 ?a17 ?l17 ?c17 ?k17 ?a18 ?l18 ?c18 ?k18 ?a19 ?l19 ?c19 ?k19 ?a20 ?l20 ?c20 ?k20 ?a21 ?l21 ?c21 ?k21 ?a22 ?l22 ?c22 ?k22 ?a23 ?l23 ?c23 ?k23 ?a24 ?l24 ?c24 ?k24 ?a25 ?l25 ?c25 ?k25 ?a26 ?l26 ?c26 ?k26 ?a27 ?l27 ?c27 ?k27 ?a28 ?l28 ?c28 ?k28 ?a29 ?l29 ?c29 ?k29 ?a30 ?l30 ?c30 ?k30 ?pg0 ?hd0 ?po0 ?sa0 ?mk0 ?kc0 ?n0_0 ?n0_1 ?n0_2 ?n0_3 ?n0_4 ?z0 ?z1 ?z2 ?z3 ?z4 ?z5 ?z6 ?z7 ?z8 ?z9 ?z10 ?z11 ?z12 ?z13 ?z14 ?y0 ?y1 ?y2 ?y3
    (case a0 => k_is)
    (case l0 => k_is)
    (case c0 => k_is)
    (case k0 => k_is)
    (case a1 => k_is)
    (case l1 => k_is)
    (case c1 => k_is)
    (case k1 => k_is)
    (case a2 => k_is)
    (case l2 => k_is)
    (case c2 => k_is)
    (case k2 => k_is)
    (case a3 => k_is)
    (case l3 => k_is)
    (case c3 => k_is)
    (case k3 => k_is)
    (case a4 => k_is)
    (case l4 => k_is)
    (case c4 => k_is)
    (case k4 => k_is)
    (case a5 => k_is)
    (case l5 => k_is)
    (case c5 => k_is)
    (case k5 => k_is)
    (case a6 => k_is)
    (case l6 => k_is)
    (case c6 => k_is)
    (case k6 => k_is)
    (case a7 => k_is)
    (case l7 => k_is)
    (case c7 => k_is)
    (case k7 => k_is)
    (case aC0 => k_is)
    (case a8 => k_is)
    (case i8 => k_is)
    (case l8 => k_is)
    (case c8 => k_is)
    (case k8 => k_is)
    (case a9 => k_is)
    (case i9 => k_is)
    (case l9 => k_is)
    (case c9 => k_is)
    (case k9 => k_is)
    (case a10 => k_is)
    (case i10 => k_is)
    (case l10 => k_is)
    (case c10 => k_is)
    (case k10 => k_is)
    (case a11 => k_is)
    (case i11 => k_is)
    (case l11 => k_is)
    (case c11 => k_is)
    (case k11 => k_is)
    (case a12 => k_is)
    (case i12 => k_is)
    (case l12 => k_is)
    (case c12 => k_is)
    (case k12 => k_is)
    (case a13 => k_is)
    (case l13 => k_is)
    (case c13 => k_is)
    (case k13 => k_is)
    (case a14 => k_is)
    (case l14 => k_is)
    (case c14 => k_is)
    (case k14 => k_is)
    (case a15 => k_is)
    (case l15 => k_is)
    (case c15 => k_is)
    (case k15 => k_is)
    (case a16 => k_is)
    (case l16 => k_is)
    (case c16 => k_is)
    (case k16 => k_is)
    (case a17 => k_is)
    (case l17 => k_is)
    (case c17 => k_is)
    (case k17 => k_is)
    (case a18 => k_is)
    (case l18 => k_is)
    (case c18 => k_is)
    (case k18 => k_is)
    (case a19 => k_is)
    (case l19 => k_is)
    (case c19 => k_is)
    (case k19 => k_is)
    (case a20 => k_is)
    (case l20 => k_is)
    (case c20 => k_is)
    (case k20 => k_is)
    (case a21 => k_is)
    (case l21 => k_is)
    (case c21 => k_is)
    (case k21 => k_is)
    (case a22 => k_is)
    (case l22 => k_is)
    (case c22 => k_is)
    (case k22 => k_is)
    (case a23 => k_is)
    (case l23 => k_is)
    (case c23 => k_is)
    (case k23 => k_is)
    (case a24 => k_is)
    (case l24 => k_is)
    (case c24 => k_is)
    (case k24 => k_is)
    (case a25 => k_is)
    (case l25 => k_is)
    (case c25 => k_is)
    (case k25 => k_is)
    (case a26 => k_is)
    (case l26 => k_is)
    (case c26 => k_is)
    (case k26 => k_is)
    (case a27 => k_is)
    (case l27 => k_is)
    (case c27 => k_is)
    (case k27 => k_is)
    (case a28 => k_is)
    (case l28 => k_is)
    (case c28 => k_is)
    (case k28 => k_is)
    (case a29 => k_is)
    (case l29 => k_is)
    (case c29 => k_is)
    (case k29 => k_is)
    (case a30 => k_is)
    (case l30 => k_is)
    (case c30 => k_is)
    (case k30 => k_is)
    (case pg0 => k_is)
    (case hd0 => k_is)
    (case po0 => k_is)
    (case sa0 => k_is)
    (case mk0 => k_is)
    (case kc0 => k_is)
    (case n0_0 => k_is)
    (case n0_1 => k_is)
    (case n0_2 => k_is)
    (case n0_3 => k_is)
    (case n0_4 => k_is)
    (case z0 => k_is)
    (case z1 => k_is)
    (case z2 => k_is)
    (case z3 => k_is)
    (case z4 => k_is)
    (case z5 => k_is)
    (case z6 => k_is)
    (case z7 => k_is)
    (case z8 => k_is)
    (case z9 => k_is)
    (case z10 => k_is)
    (case z11 => k_is)
    (case z12 => k_is)
    (case z13 => k_is)
    (case z14 => k_is)
    (case y0 => k_is)
    (case y1 => k_is)
    (case y2 => k_is)
    (case y3 => k_is)
