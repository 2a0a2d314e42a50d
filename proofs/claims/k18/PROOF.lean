import PyProof.Rows.All
import HandS.ForMost
import HandS.ForExc
import HandS.Conv
import HandS.IsInst
import HandS.TryMany
import HandS.ExcInit
import HandS.ExcIs
import HandS.WideBits
import HandS.Wide
import PyProof.ReprRoads
import HandS.Deep
import HandS.HeadHook2
import HandS.Head2
import HandS.HeadEnd
import HandS.ExcField
import HandS.Dict
import HandS.Codes
import PyProof.Rows.ReprOcc
import PyProof.Rows.StrJoinMade
import PyProof.Rows.StrJoinRep
import KE.KStateDown
import HandS.Head0
import HandS.Head1
import PySem.Challenge.RW_eachreader_k18_tokens
set_option Elab.async false
set_option linter.all false
set_option maxRecDepth 100000
set_option maxHeartbeats 4000000
/-! A semantics by plain data (trees) over the layer. -/
namespace Fw
open PySem PySem.Spec PyProof.Rows L2

abbrev Fg := PySem.W.Frag
/-- nothing tracked -/
abbrev H00 : Hp := fun _ => none

/-! ### data -/
def keyD : Key → PyData
  | .inl i => .int i
  | .inr x => .str x
mutual
/-- v is the datum d; M: the addresses that may change (none of them is in d) -/
inductive Dt (K : Fg) (M : Addr → Prop) (H : Hp) : V → PyData → Prop
  | non : Dt K M H .non .none
  | bl (b : Bool) : Dt K M H (.bl b) (.bool b)
  | int (i : Int) : Dt K M H (.int i) (.int i)
  | str (x : Str) : Dt K M H (.str x) (.str x)
  | lst {a : Addr} {xs : List V} {ds : List PyData} (nm : ¬ M a) (r : H a = some (.lst xs)) (h : DtAll K M H xs ds) : Dt K M H (.ref a) (.list ds)
  | tup {a : Addr} {xs : List V} {ds : List PyData} (nm : ¬ M a) (r : H a = some (.tup xs)) (h : DtAll K M H xs ds) : Dt K M H (.ref a) (.tuple ds)
  | tupK {a : Addr} {xs : List V} {ds : List PyData} (r : SqT K H00 a xs) (h : DtAll K M H xs ds) : Dt K M H (.ref a) (.tuple ds)
  | dct {a : Addr} {kvs : List (Key × V)} {ds : List (PyData × PyData)} (nm : ¬ M a) (r : H a = some (.dK kvs)) (h : DtKv K M H kvs ds) : Dt K M H (.ref a) (.dict ds)
inductive DtAll (K : Fg) (M : Addr → Prop) (H : Hp) : List V → List PyData → Prop
  | nil : DtAll K M H [] []
  | cons {v : V} {vs : List V} {d : PyData} {ds : List PyData} (h : Dt K M H v d) (t : DtAll K M H vs ds) : DtAll K M H (v :: vs) (d :: ds)
inductive DtKv (K : Fg) (M : Addr → Prop) (H : Hp) : List (Key × V) → List (PyData × PyData) → Prop
  | nil : DtKv K M H [] []
  | cons {k : Key} {v : V} {kvs : List (Key × V)} {d : PyData} {ds : List (PyData × PyData)} (h : Dt K M H v d) (t : DtKv K M H kvs ds) : DtKv K M H ((k, v) :: kvs) ((keyD k, d) :: ds)
end

theorem seqT_00 {K : Fg} {H : Hp} {a : Addr} {xs : List V} (h : SqT K H00 a xs) : SqT K H a xs := by
  rcases h with (h | ⟨o, h⟩) | h
  · cases h
  · cases h
  · exact .inr h
mutual
/-- other heaps, other marks -/
theorem Dt.move {K : Fg} {M M' : Addr → Prop} {H H' : Hp} (g : ∀ a o, H a = some o → ¬ M a → H' a = some o ∧ ¬ M' a) : ∀ {v : V} {d : PyData}, Dt K M H v d → Dt K M' H' v d
  | _, _, .non => .non
  | _, _, .bl b => .bl b
  | _, _, .int i => .int i
  | _, _, .str x => .str x
  | _, _, .lst nm r h => .lst (g _ _ r nm).2 (g _ _ r nm).1 (DtAll.move g h)
  | _, _, .tup nm r h => .tup (g _ _ r nm).2 (g _ _ r nm).1 (DtAll.move g h)
  | _, _, .tupK r h => .tupK r (DtAll.move g h)
  | _, _, .dct nm r h => .dct (g _ _ r nm).2 (g _ _ r nm).1 (DtKv.move g h)
theorem DtAll.move {K : Fg} {M M' : Addr → Prop} {H H' : Hp} (g : ∀ a o, H a = some o → ¬ M a → H' a = some o ∧ ¬ M' a) : ∀ {vs : List V} {ds : List PyData}, DtAll K M H vs ds → DtAll K M' H' vs ds
  | _, _, .nil => .nil
  | _, _, .cons h t => .cons (Dt.move g h) (DtAll.move g t)
theorem DtKv.move {K : Fg} {M M' : Addr → Prop} {H H' : Hp} (g : ∀ a o, H a = some o → ¬ M a → H' a = some o ∧ ¬ M' a) : ∀ {vs : List (Key × V)} {ds : List (PyData × PyData)}, DtKv K M H vs ds → DtKv K M' H' vs ds
  | _, _, .nil => .nil
  | _, _, .cons h t => .cons (Dt.move g h) (DtKv.move g t)
end
/-- outside M all stays -/
def Go (M : Addr → Prop) (H H' : Hp) : Prop := ∀ a o, H a = some o → ¬ M a → H' a = some o
theorem Go.refl (M : Addr → Prop) (H : Hp) : Go M H H := fun _ _ e _ => e
theorem Go.trans {M : Addr → Prop} {H H1 H2 : Hp} (a : Go M H H1) (b : Go M H1 H2) : Go M H H2 := fun x o e n => b x o (a x o e n) n
theorem Go.of_same {M : Addr → Prop} {H H' : Hp} (s : Same H H') : Go M H H' := fun a o e _ => s a o e
theorem Go.less {M M' : Addr → Prop} {H H' : Hp} (g : Go M H H') (h : ∀ a, M a → M' a) : Go M' H H' := fun a o e n => g a o e fun z => n (h a z)
theorem same_new {H : Hp} {p : Addr} {o : HO} (n : H p = none) : Same H (upd H p o) := fun b u e => by
  rw [upd_ne (ne_of_none e n)]
  exact e
section
variable {K : Fg} {M M' : Addr → Prop} {H H' : Hp} {v : V} {d : PyData} {vs : List V} {ds : List PyData}
theorem Dt.go (h : Dt K M H v d) (g : Go M H H') : Dt K M H' v d := h.move fun a o e n => ⟨g a o e n, n⟩
theorem DtAll.go (h : DtAll K M H vs ds) (g : Go M H H') : DtAll K M H' vs ds := h.move fun a o e n => ⟨g a o e n, n⟩
theorem DtKv.go {kvs : List (Key × V)} {ps : List (PyData × PyData)} (h : DtKv K M H kvs ps) (g : Go M H H') : DtKv K M H' kvs ps := h.move fun a o e n => ⟨g a o e n, n⟩
theorem Dt.less (h : Dt K M H v d) (l : ∀ a, M' a → M a) : Dt K M' H v d := h.move fun a o e n => ⟨e, fun z => n (l a z)⟩
theorem DtAll.less (h : DtAll K M H vs ds) (l : ∀ a, M' a → M a) : DtAll K M' H vs ds := h.move fun a o e n => ⟨e, fun z => n (l a z)⟩
theorem DtKv.less {kvs : List (Key × V)} {ps : List (PyData × PyData)} (h : DtKv K M H kvs ps) (l : ∀ a, M' a → M a) : DtKv K M' H kvs ps := h.move fun a o e n => ⟨e, fun z => n (l a z)⟩
/-- more marks, at addresses that H does not know -/
theorem Dt.more (h : Dt K M H v d) (l : ∀ a, M' a → M a ∨ H a = none) : Dt K M' H v d := h.move fun a o e n => ⟨e, fun z => (l a z).elim n fun q => by rw [q] at e; cases e⟩
theorem DtAll.more (h : DtAll K M H vs ds) (l : ∀ a, M' a → M a ∨ H a = none) : DtAll K M' H vs ds := h.move fun a o e n => ⟨e, fun z => (l a z).elim n fun q => by rw [q] at e; cases e⟩
theorem DtAll.length (h : DtAll K M H vs ds) : vs.length = ds.length := by
  induction ds generalizing vs with
  | nil => cases h; rfl
  | cons d ds ih =>
    cases h with
    | cons a b => rw [List.length_cons, List.length_cons, ih b]
theorem DtAll.append : ∀ {vs ws : List V} {ds es : List PyData}, DtAll K M H vs ds → DtAll K M H ws es → DtAll K M H (vs ++ ws) (ds ++ es)
  | _, _, _, _, .nil, b => b
  | _, _, _, _, .cons h t, b => .cons h (DtAll.append t b)
theorem DtAll.get : ∀ {vs : List V} {ds : List PyData} {i : Nat} {d : PyData}, DtAll K M H vs ds → ds[i]? = some d → ∃ v, vs[i]? = some v ∧ Dt K M H v d
  | _, _, _, _, .nil, e => by simp at e
  | _, _, 0, _, .cons h _, e => by
    simp at e
    subst e
    exact ⟨_, rfl, h⟩
  | _, _, i + 1, d, .cons _ t, e => by
    obtain ⟨v, h1, h2⟩ := DtAll.get (i := i) (d := d) t (by simpa using e)
    exact ⟨v, by simpa using h1, h2⟩
theorem DtAll.getV : ∀ {vs : List V} {ds : List PyData} {i : Nat} {v : V}, DtAll K M H vs ds → vs[i]? = some v → ∃ d, ds[i]? = some d ∧ Dt K M H v d
  | _, _, _, _, .nil, e => by simp at e
  | _, _, 0, _, .cons h _, e => by
    simp at e
    subst e
    exact ⟨_, rfl, h⟩
  | _, _, i + 1, v, .cons _ t, e => by
    obtain ⟨d, h1, h2⟩ := DtAll.getV (i := i) (v := v) t (by simpa using e)
    exact ⟨d, by simpa using h1, h2⟩
theorem DtAll.take : ∀ {vs : List V} {ds : List PyData} (n : Nat), DtAll K M H vs ds → DtAll K M H (vs.take n) (ds.take n)
  | _, _, 0, _ => .nil
  | _, _, _ + 1, .nil => .nil
  | _, _, n + 1, .cons h t => .cons h (DtAll.take n t)
theorem DtAll.drop : ∀ {vs : List V} {ds : List PyData} (n : Nat), DtAll K M H vs ds → DtAll K M H (vs.drop n) (ds.drop n)
  | _, _, 0, h => h
  | _, _, _ + 1, .nil => .nil
  | _, _, n + 1, .cons _ t => DtAll.drop n t
theorem DtAll.eraseIdx : ∀ {vs : List V} {ds : List PyData} (n : Nat), DtAll K M H vs ds → DtAll K M H (vs.eraseIdx n) (ds.eraseIdx n)
  | _, _, _, .nil => .nil
  | _, _, 0, .cons _ t => t
  | _, _, n + 1, .cons h t => .cons h (DtAll.eraseIdx n t)
theorem DtAll.set {v : V} {d : PyData} (h : Dt K M H v d) : ∀ {vs : List V} {ds : List PyData} (n : Nat), DtAll K M H vs ds → DtAll K M H (vs.set n v) (ds.set n d)
  | _, _, _, .nil => .nil
  | _, _, 0, .cons _ t => .cons h t
  | _, _, n + 1, .cons g t => .cons g (DtAll.set h n t)
theorem DtAll.rep (h : DtAll K M H vs ds) : ∀ k : Nat, DtAll K M H (List.replicate k vs).flatten (List.replicate k ds).flatten
  | 0 => .nil
  | k + 1 => by
    rw [List.replicate_succ, List.replicate_succ, List.flatten_cons, List.flatten_cons]
    exact h.append (DtAll.rep h k)
/-- what a datum is, from the datum -/
theorem Dt.int_of {i : Int} (h : Dt K M H v (.int i)) : v = .int i := by cases h; rfl
theorem Dt.str_of {x : Str} (h : Dt K M H v (.str x)) : v = .str x := by cases h; rfl
theorem Dt.bl_of {b : Bool} (h : Dt K M H v (.bool b)) : v = .bl b := by cases h; rfl
theorem Dt.non_of (h : Dt K M H v .none) : v = .non := by cases h; rfl
theorem Dt.list_of (h : Dt K M H v (.list ds)) : ∃ a xs, v = .ref a ∧ H a = some (.lst xs) ∧ DtAll K M H xs ds := by
  cases h with
  | lst nm r h => exact ⟨_, _, rfl, r, h⟩
theorem Dt.tuple_of (h : Dt K M H v (.tuple ds)) : ∃ a xs, v = .ref a ∧ SqT K H a xs ∧ DtAll K M H xs ds := by
  cases h with
  | tup nm r h => exact ⟨_, _, rfl, SqT.of r, h⟩
  | tupK r h => exact ⟨_, _, rfl, seqT_00 r, h⟩
theorem Dt.dict_of {ps : List (PyData × PyData)} (h : Dt K M H v (.dict ps)) : ∃ a kvs, v = .ref a ∧ H a = some (.dK kvs) ∧ DtKv K M H kvs ps := by
  cases h with
  | dct nm r h => exact ⟨_, _, rfl, r, h⟩
end
mutual
/-- without dicts: the layer's own data -/
theorem Dt.dp {K : Fg} {M : Addr → Prop} {H : Hp} : ∀ {v : V} {d : PyData}, Dt K M H v d → d.hasDict = false → Dp K H v d
  | _, _, .non, _ => .non
  | _, _, .bl b, _ => .bl b
  | _, _, .int i, _ => .int i
  | _, _, .str x, _ => .str x
  | _, _, .lst _ r h, e => .lst (SqL.of r) (DtAll.dp h (by simpa only [PyData.hasDict] using e))
  | _, _, .tup _ r h, e => .tup (SqT.of r) (DtAll.dp h (by simpa only [PyData.hasDict] using e))
  | _, _, .tupK r h, e => .tup (seqT_00 r) (DtAll.dp h (by simpa only [PyData.hasDict] using e))
  | _, _, .dct _ _ _, e => by simp [PyData.hasDict] at e
theorem DtAll.dp {K : Fg} {M : Addr → Prop} {H : Hp} : ∀ {vs : List V} {ds : List PyData}, DtAll K M H vs ds → PyData.hasDictAll ds = false → DpAll K H vs ds
  | _, _, .nil, _ => .nil
  | _, _, .cons h t, e => by
    simp only [PyData.hasDictAll, Bool.or_eq_false_iff] at e
    exact .cons (Dt.dp h e.1) (DtAll.dp t e.2)
end
end Fw
set_option maxHeartbeats 4000000
namespace Fw
open PySem PySem.Spec PyProof.Rows L2

/-! ### outcomes -/
/-- an own exception: its class's name, its fields (the newest first) -/
structure Ex where
  cls : Str
  fields : List (Str × PyData)
inductive Oc (π α : Type) where
  | ok (a : α) (p : π)
  | ex (e : Ex) (p : π)
  | no
abbrev Ma (π α : Type) := π → Oc π α
section
variable {π α β γ : Type}
def ret (a : α) : Ma π α := fun p => .ok a p
def bnd (m : Ma π α) (f : α → Ma π β) : Ma π β := fun p => match m p with
  | .ok a q => f a q
  | .ex e q => .ex e q
  | .no => .no
def fail : Ma π α := fun _ => .no
def ofO : Option α → Ma π α
  | some a => ret a
  | none => fail
@[simp] theorem bnd_ret (a : α) (f : α → Ma π β) : bnd (ret a) f = f a := rfl
@[simp] theorem bnd_fail (f : α → Ma π β) : bnd (fail : Ma π α) f = fail := rfl
@[simp] theorem ofO_some (a : α) : (ofO (some a) : Ma π α) = ret a := rfl
@[simp] theorem ofO_none : (ofO (none : Option α) : Ma π α) = fail := rfl
end

/-! ### slots and the frame -/
inductive Slot where
  | emp
  | val (d : PyData)
  | own (d : PyData)
  | pot
abbrev Evn := List Slot

/-- what a value is: a datum that stays; an object of a slot's own (its items stay); a new object -/
inductive Vd where
  | st (d : PyData)
  | tr (d : PyData)
  | fr (d : PyData)
def Vd.d : Vd → PyData
  | .st d => d
  | .tr d => d
  | .fr d => d

/-- a resource: what holds of it at its addresses -/
structure Rc (π : Type) where
  At : List Addr → π → Hp → Prop
  dep : ∀ pa p H H', (∀ a ∈ pa, H' a = H a) → At pa p H → At pa p H'
  trk : ∀ pa p H, At pa p H → ∀ a ∈ pa, ∃ o, H a = some o
/-- the activation: the resource's addresses; what may change around (M0), the heap at the entry; what must go on being so -/
structure Wd {π : Type} (R : Rc π) where
  pa : List Addr
  M0 : Addr → Prop
  H0 : Hp
  gh : List (V × PyData)
abbrev Wd.At {π : Type} {R : Rc π} (_ : Wd R) : List Addr → π → Hp → Prop := R.At
abbrev Wd.dep {π : Type} {R : Rc π} (_ : Wd R) := R.dep
abbrev Wd.trk {π : Type} {R : Rc π} (_ : Wd R) := R.trk
theorem Wd.mono {π : Type} {R : Rc π} (W : Wd R) (pa : List Addr) (p : π) (H H' : Hp) (s : Same H H') (h : W.At pa p H) : W.At pa p H' := W.dep pa p H H' (fun a m => by
  obtain ⟨o, e⟩ := W.trk pa p H h a m
  rw [e]
  exact s a o e) h
theorem Wd.updN {π : Type} {R : Rc π} (W : Wd R) {pa : List Addr} {p : π} {H : Hp} {D : Addr} {o : HO} (n : D ∉ pa) (h : W.At pa p H) : W.At pa p (upd H D o) := W.dep pa p H _ (fun a m => upd_ne (fun z => n (z ▸ m))) h
/-- the object at a holds d, its parts stay -/
def OwnAt (K : Fg) (M : Addr → Prop) (H : Hp) (a : Addr) : PyData → Prop
  | .list ds => ∃ vs, H a = some (.lst vs) ∧ DtAll K M H vs ds
  | .dict ps => ∃ kvs, H a = some (.dK kvs) ∧ DtKv K M H kvs ps
  | _ => False

structure EnvR {π : Type} {R : Rc π} (K : Fg) (W : Wd R) (M : Addr → Prop) (σ : L2.St) (env : Evn) (p : π) (H : Hp) : Prop where
  len : σ.length = env.length
  ext : ∀ a o, W.H0 a = some o → a ∉ W.pa → H a = some o
  at_ : W.At W.pa p H
  low : ∀ a, W.M0 a → M a
  pam : ∀ a ∈ W.pa, W.M0 a
  mtr : ∀ a, M a → ∃ o, H a = some o
  gho : ∀ q ∈ W.gh, Dt K M H q.1 q.2
  sl : ∀ (i : Nat) (d : PyData), env[i]? = some (.val d) → ∃ v, σ[i]? = some (some v) ∧ Dt K M H v d
  ow : ∀ (i : Nat) (d : PyData), env[i]? = some (.own d) → ∃ a, σ[i]? = some (some (.ref a)) ∧ OwnAt K M H a d ∧ M a ∧ ¬ W.M0 a ∧ W.H0 a = none
  dj : ∀ (i j : Nat) (d e : PyData) (a : Addr), env[i]? = some (.own d) → env[j]? = some (.own e) → σ[i]? = some (some (.ref a)) → σ[j]? = some (some (.ref a)) → i = j
  pt : ∀ (i : Nat), env[i]? = some .pot → ∃ a, W.pa.head? = some a ∧ σ[i]? = some (some (.ref a))

/-- behind an expression: all but the resource's objects stay -/
abbrev GoP {π : Type} {R : Rc π} (W : Wd R) (H H' : Hp) : Prop := Go (fun a => a ∈ W.pa) H H'

section
variable {π : Type} {R : Rc π} {K : Fg} {W : Wd R} {M M' : Addr → Prop} {σ : L2.St} {env : Evn} {p q : π} {H H' : Hp} {a : Addr} {d : PyData} {v : V}
theorem OwnAt.go (h : OwnAt K M H a d) (g : Go M H H') (ha : ∀ o, H a = some o → H' a = some o) : OwnAt K M H' a d := by
  cases d with
  | list ds =>
    obtain ⟨vs, e, h⟩ := h
    exact ⟨vs, ha _ e, h.go g⟩
  | dict ps =>
    obtain ⟨kvs, e, h⟩ := h
    exact ⟨kvs, ha _ e, h.go g⟩
  | _ => exact h.elim
theorem OwnAt.less (h : OwnAt K M H a d) (l : ∀ a, M' a → M a) : OwnAt K M' H a d := by
  cases d with
  | list ds =>
    obtain ⟨vs, e, h⟩ := h
    exact ⟨vs, e, h.less l⟩
  | dict ps =>
    obtain ⟨kvs, e, h⟩ := h
    exact ⟨kvs, e, h.less l⟩
  | _ => exact h.elim
theorem OwnAt.more (h : OwnAt K M H a d) (l : ∀ a, M' a → M a ∨ H a = none) : OwnAt K M' H a d := by
  cases d with
  | list ds =>
    obtain ⟨vs, e, h⟩ := h
    exact ⟨vs, e, h.more l⟩
  | dict ps =>
    obtain ⟨kvs, e, h⟩ := h
    exact ⟨kvs, e, h.move fun b o q n => ⟨q, fun z => (l b z).elim n fun r => by rw [r] at q; cases q⟩⟩
  | _ => exact h.elim
/-- as a datum that stays -/
theorem OwnAt.dt (h : OwnAt K M H a d) (n : ¬ M a) : Dt K M H (.ref a) d := by
  cases d with
  | list ds =>
    obtain ⟨vs, e, h⟩ := h
    exact .lst n e h
  | dict ps =>
    obtain ⟨kvs, e, h⟩ := h
    exact .dct n e h
  | _ => exact h.elim
theorem OwnAt.there (h : OwnAt K M H a d) : ∃ o, H a = some o := by
  cases d with
  | list ds =>
    obtain ⟨vs, e, _⟩ := h
    exact ⟨_, e⟩
  | dict ps =>
    obtain ⟨vs, e, _⟩ := h
    exact ⟨_, e⟩
  | _ => exact h.elim
theorem EnvR.goM (E : EnvR K W M σ env p H) (g : GoP W H H') : Go M H H' := g.less fun a z => E.low a (E.pam a z)
/-- on with a heap in which all but the resource stayed -/
theorem EnvR.go (E : EnvR K W M σ env p H) (g : GoP W H H') (at' : W.At W.pa q H') : EnvR K W M σ env q H' := by
  have gM := E.goM g
  refine ⟨E.len, fun a o e n => g a o (E.ext a o e n) n, at', E.low, E.pam, fun a m => ?_, fun r hr => (E.gho r hr).go gM, fun i d e => ?_, fun i d e => ?_, E.dj, E.pt⟩
  · by_cases ha : a ∈ W.pa
    · exact W.trk _ _ _ at' a ha
    · obtain ⟨o, e⟩ := E.mtr a m
      exact ⟨o, g a o e ha⟩
  · obtain ⟨v, e1, h⟩ := E.sl i d e
    exact ⟨v, e1, h.go gM⟩
  · obtain ⟨a, e1, h, m, n, h0⟩ := E.ow i d e
    exact ⟨a, e1, h.go gM fun o r => g a o r fun z => n (E.pam a z), m, n, h0⟩
theorem EnvR.same (E : EnvR K W M σ env p H) (s : Same H H') : EnvR K W M σ env p H' := E.go (Go.of_same s) (W.mono _ _ _ _ s E.at_)
/-- a further mark at an address that is not tracked -/
theorem EnvR.mark (E : EnvR K W M σ env p H) {b : Addr} {o : HO} (n : H b = none) : EnvR K W (fun a => M a ∨ a = b) σ env p (upd H b o) := by
  have s : Same H (upd H b o) := same_new n
  have l : ∀ a, (M a ∨ a = b) → M a ∨ H a = none := fun a z => z.elim .inl fun e => .inr (by rw [e]; exact n)
  have gM : Go (fun a => M a ∨ a = b) H (upd H b o) := Go.of_same s
  refine ⟨E.len, fun a o e n => s a o (E.ext a o e n), W.mono _ _ _ _ s E.at_, fun a m => .inl (E.low a m), E.pam, fun a m => ?_, fun r hr => ((E.gho r hr).more l).go gM, fun i d e => ?_, fun i d e => ?_, E.dj, E.pt⟩
  · rcases m with m | m
    · obtain ⟨u, e⟩ := E.mtr a m
      exact ⟨u, s a u e⟩
    · subst m
      exact ⟨o, upd_same⟩
  · obtain ⟨v, e1, h⟩ := E.sl i d e
    exact ⟨v, e1, (h.more l).go gM⟩
  · obtain ⟨a, e1, h, m, n, h0⟩ := E.ow i d e
    exact ⟨a, e1, (h.more l).go gM fun u r => s a u r, .inl m, n, h0⟩
/-- fewer marks: those of M that are neither around nor a slot's own -/
theorem EnvR.unmark (E : EnvR K W M σ env p H) (l : ∀ a, M' a → M a) (low : ∀ a, W.M0 a → M' a) (ow : ∀ (i : Nat) (d : PyData) (a : Addr), env[i]? = some (.own d) → σ[i]? = some (some (.ref a)) → M a → M' a) : EnvR K W M' σ env p H := by
  refine ⟨E.len, E.ext, E.at_, low, E.pam, fun a m => E.mtr a (l a m), fun r hr => (E.gho r hr).less l, fun i d e => ?_, fun i d e => ?_, E.dj, E.pt⟩
  · obtain ⟨v, e1, h⟩ := E.sl i d e
    exact ⟨v, e1, h.less l⟩
  · obtain ⟨a, e1, h, m, n, h0⟩ := E.ow i d e
    exact ⟨a, e1, h.less l, ow i d a e e1 m, n, h0⟩
end

/-- what a value v is, in the frame -/
def VR {π : Type} {R : Rc π} (K : Fg) (W : Wd R) (M : Addr → Prop) (σ : L2.St) (env : Evn) (p : π) (H : Hp) (v : V) : Vd → Prop
  | .st d => Dt K M H v d
  | .tr d => ∃ a, v = .ref a ∧ ¬ W.M0 a ∧ OwnAt K M H a d
  | .fr d => ∃ a, v = .ref a ∧ ¬ M a ∧ W.H0 a = none ∧ OwnAt K M H a d ∧ EnvR K W (fun b => M b ∨ b = a) σ env p H ∧ OwnAt K (fun b => M b ∨ b = a) H a d
section
variable {π : Type} {R : Rc π} {K : Fg} {W : Wd R} {M M' : Addr → Prop} {σ : L2.St} {env : Evn} {p q : π} {H H' : Hp} {v : V} {r : Vd}
theorem VR.go (E : EnvR K W M σ env p H) (h : VR K W M σ env p H v r) (g : GoP W H H') (at' : W.At W.pa q H') : VR K W M σ env q H' v r := by
  have gM := E.goM g
  cases r with
  | st d => exact Dt.go h gM
  | tr d =>
    obtain ⟨a, e, n, o⟩ := h
    exact ⟨a, e, n, o.go gM fun u z => g a u z fun y => n (E.pam a y)⟩
  | fr d =>
    obtain ⟨a, e, n, h0, o, E', o'⟩ := h
    have np : a ∉ W.pa := fun z => n (E.low a (E.pam a z))
    exact ⟨a, e, n, h0, o.go gM fun u z => g a u z np, E'.go g at', o'.go (E'.goM g) fun u z => g a u z np⟩
/-- to be kept -/
def Vd.esc : Vd → Option PyData
  | .st d => some d
  | .tr _ => none
  | .fr d => some d
theorem VR.esc {d : PyData} (h : VR K W M σ env p H v r) (e : r.esc = some d) : Dt K M H v d := by
  cases r with
  | st d' =>
    have e' : d' = d := Option.some.inj e
    subst e'
    exact h
  | tr d' => cases e
  | fr d' =>
    have e' : d' = d := Option.some.inj e
    subst e'
    obtain ⟨a, rfl, n, _, o, _⟩ := h
    exact o.dt n
/-- as it stands now: a datum with nothing marked -/
theorem VR.now (h : VR K W M σ env p H v r) : Dt K (fun _ => False) H v r.d := by
  cases r with
  | st d => exact Dt.less h fun _ z => z.elim
  | tr d =>
    obtain ⟨a, rfl, _, o⟩ := h
    exact (o.less fun _ z => z.elim).dt fun z => z
  | fr d =>
    obtain ⟨a, rfl, _, _, o, _⟩ := h
    exact (o.less fun _ z => z.elim).dt fun z => z
/-- a list, its items to be kept -/
theorem VR.list {ds : List PyData} (h : VR K W M σ env p H v r) (e : r.d = .list ds) : ∃ a xs, v = .ref a ∧ H a = some (.lst xs) ∧ DtAll K M H xs ds := by
  cases r with
  | st d =>
    have e' : d = .list ds := e
    subst e'
    exact Dt.list_of h
  | tr d =>
    have e' : d = .list ds := e
    subst e'
    obtain ⟨a, rfl, _, vs, e, h⟩ := h
    exact ⟨a, vs, rfl, e, h⟩
  | fr d =>
    have e' : d = .list ds := e
    subst e'
    obtain ⟨a, rfl, _, _, ⟨vs, e, h⟩, _⟩ := h
    exact ⟨a, vs, rfl, e, h⟩
theorem VR.tuple {ds : List PyData} (h : VR K W M σ env p H v r) (e : r.d = .tuple ds) : ∃ a xs, v = .ref a ∧ SqT K H a xs ∧ DtAll K M H xs ds := by
  cases r with
  | st d =>
    have e' : d = .tuple ds := e
    subst e'
    exact Dt.tuple_of h
  | tr d =>
    have e' : d = .tuple ds := e
    subst e'
    obtain ⟨a, rfl, _, z⟩ := h
    exact z.elim
  | fr d =>
    have e' : d = .tuple ds := e
    subst e'
    obtain ⟨a, rfl, _, _, z, _⟩ := h
    exact z.elim
theorem VR.scal {d : PyData} (h : VR K W M σ env p H v r) (e : r.d = d) : Dt K (fun _ => False) H v d := e ▸ h.now
end

/-! ### the readings -/
/-- an exception as it lies -/
def ExR (K : Fg) (mg : Str → Option Value) (M : Addr → Prop) (H : Hp) (cls : Value) (dd : Option Addr) (e : Ex) : Prop :=
  ∃ (C d : Addr) (fs : List (Str × V)), mg e.cls = some (.ref C) ∧ cls = .ref C ∧ dd = some d ∧ H d = some (.xd fs) ∧
    ∀ f x, e.fields.lookup f = some x → ∃ v, fs.lookup f = some v ∧ Dt K M H v x
/-- what is wanted behind an outcome of an expression -/
def post {π : Type} {R : Rc π} (K : Fg) (mg : Str → Option Value) (W : Wd R) (M : Addr → Prop) (σ : L2.St) (env : Evn) (H : Hp) (wx : WX) (Q : VK) : Oc π Vd → Prop
  | .ok r p' => ∀ v H', GoP W H H' → W.At W.pa p' H' → VR K W M σ env p' H' v r → Q v H'
  | .ex e p' => ∀ cls dd H', EnvR K W M σ env p' H' → ExR K mg M H' cls dd e → wx cls dd σ H'
  | .no => False
/-- an expression's meaning -/
abbrev SE (π : Type) := Evn → Ma π Vd
def tE {π : Type} {R : Rc π} (K : Fg) (mg : Str → Option Value) (W : Wd R) (wx : WX) (f : SE π) : TE := fun σ H Q =>
  ∃ M env p, EnvR K W M σ env p H ∧ post K mg W M σ env H wx Q (f env p)
theorem _root_.L2.PE.imp {X : Cx} {e : Expr} {t t' : TE} (h : PE X e t) (i : ∀ σ H Q, t' σ H Q → t σ H Q) : PE X e t' := ⟨fun pins s σ H Q I q => h.run pins s σ H Q I (i σ H Q q)⟩
theorem _root_.L2.PT.imp {X : Cx} {e : Expr} {t t' : TT} (h : PT X e t) (i : ∀ σ H Q, t' σ H Q → t σ H Q) : PT X e t' := ⟨fun pins s σ H Q I q => h.run pins s σ H Q I (i σ H Q q)⟩
theorem _root_.L2.PA.imp {X : Cx} {e : List Expr} {t t' : TA} (h : PA X e t) (i : ∀ σ H Q, t' σ H Q → t σ H Q) : PA X e t' := ⟨fun po pins s σ H Q I q => h.run po pins s σ H Q I (i σ H Q q)⟩
theorem _root_.L2.PS.imp {X : Cx} {e : Stmt} {t t' : TS} (h : PS X e t) (i : ∀ D σ H, t' D σ H → t D σ H) : PS X e t' := ⟨fun pins s σ H D I q => h.run pins s σ H D I (i D σ H q)⟩
theorem _root_.L2.PSs.imp {X : Cx} {e : List Stmt} {t t' : TS} (h : PSs X e t) (i : ∀ D σ H, t' D σ H → t D σ H) : PSs X e t' := ⟨fun pins s σ H D I q => h.run pins s σ H D I (i D σ H q)⟩
/-- the judgement: e means f -/
abbrev IE {π : Type} (R : Rc π) (X : Cx) (wx : WX) (e : Expr) (f : SE π) : Prop := ∀ W : Wd R, PE X e (tE X.K X.mg W wx f)

section
variable {π : Type} {R : Rc π} {X : Cx} {wx : WX}
/-- a name -/
def sVar (i : Nat) : SE π := fun env p => match env[i]? with
  | some (.val d) => .ok (.st d) p
  | some (.own d) => .ok (.tr d) p
  | _ => .no
theorem ie_var {i : Nat} {e : Expr} (h : PE X e (tVar i)) : IE R X wx e (sVar i) := fun W => h.imp fun σ H Q ⟨M, env, p, E, q⟩ => by
  unfold sVar at q
  cases e1 : env[i]? with
  | none => rw [e1] at q; exact q.elim
  | some s =>
    rw [e1] at q
    cases s with
    | val d =>
      obtain ⟨v, e2, h⟩ := E.sl i d e1
      exact ⟨v, e2, q v H (Go.refl _ _) E.at_ h⟩
    | own d =>
      obtain ⟨a, e2, o, m, n, _⟩ := E.ow i d e1
      exact ⟨.ref a, e2, q _ H (Go.refl _ _) E.at_ ⟨a, rfl, n, o⟩⟩
    | emp => exact q.elim
    | pot => exact q.elim
/-- a constant, a module's constant -/
def sC (d : PyData) : SE π := fun _ p => .ok (.st d) p
theorem ie_c {e : Expr} {v : V} {d : PyData} (h : PE X e (tC v)) (k : ∀ M H, Dt X.K M H v d) : IE R X wx e (sC d) := fun W => h.imp fun σ H Q ⟨M, env, p, E, q⟩ =>
  q v H (Go.refl _ _) E.at_ (k M H)
theorem ie_int {i j pos} : IE R X wx (.Constant (.int i) j pos) (sC (.int i)) := ie_c pe_int fun _ _ => .int i
theorem ie_bl {b j pos} : IE R X wx (.Constant (.bool b) j pos) (sC (.bool b)) := ie_c pe_bl fun _ _ => .bl b
theorem ie_non {j pos} : IE R X wx (.Constant .none j pos) (sC .none) := ie_c pe_non fun _ _ => .non
theorem ie_str {x j pos} : IE R X wx (.Constant (.str x) j pos) (sC (.str x)) := ie_c pe_str fun _ _ => .str x

/-! ### chains -/
/-- behind a first expression, a second reading -/
theorem post_bnd {K : Fg} {mg : Str → Option Value} {W : Wd R} {M : Addr → Prop} {σ : L2.St} {env : Evn} {H : Hp} {p : π} {Q : VK} {f : SE π} {g : Vd → Ma π Vd} {Q1 : VK} (E : EnvR K W M σ env p H)
    (h : post K mg W M σ env H wx Q (bnd (f env) g p))
    (next : ∀ r p1 v H1, GoP W H H1 → EnvR K W M σ env p1 H1 → VR K W M σ env p1 H1 v r → post K mg W M σ env H1 wx Q (g r p1) → Q1 v H1) : post K mg W M σ env H wx Q1 (f env p) := by
  unfold bnd at h
  cases e : f env p with
  | ok r p1 =>
    rw [e] at h
    intro v H1 g1 at1 vr
    have E1 := E.go g1 at1
    refine next r p1 v H1 g1 E1 vr ?_
    have h' : post K mg W M σ env H wx Q (g r p1) := h
    cases e2 : g r p1 with
    | ok r2 p2 =>
      rw [e2] at h'
      exact fun v2 H2 g2 at2 vr2 => h' v2 H2 (g1.trans g2) at2 vr2
    | ex x p2 =>
      rw [e2] at h'
      exact h'
    | no =>
      rw [e2] at h'
      exact h'.elim
  | ex x p1 =>
    rw [e] at h
    exact h
  | no =>
    rw [e] at h
    exact h.elim
theorem tE_of {K : Fg} {mg : Str → Option Value} {W : Wd R} {M : Addr → Prop} {σ : L2.St} {env : Evn} {H : Hp} {p : π} {Q : VK} {f : SE π} (E : EnvR K W M σ env p H) (h : post K mg W M σ env H wx Q (f env p)) : tE K mg W wx f σ H Q := ⟨M, env, p, E, h⟩

/-- a list | a tuple, its items to be kept -/
def IsL (K : Fg) (M : Addr → Prop) (H : Hp) (x : V) (a : PyData) : Prop := ∀ ds, a = .list ds → ∃ p xs, x = .ref p ∧ H p = some (.lst xs) ∧ DtAll K M H xs ds
def IsU (K : Fg) (M : Addr → Prop) (H : Hp) (x : V) (a : PyData) : Prop := ∀ ds, a = .tuple ds → ∃ p xs, x = .ref p ∧ SqT K H p xs ∧ DtAll K M H xs ds
/-- a two-place operation: its meaning on data -/
def R2D (K : Fg) (r : R2) (g : PyData → PyData → Option PyData) : Prop := ∀ (M : Addr → Prop) (H : Hp) (x y : V) (a b : PyData) (d : PyData) (Q : VK), (∀ a, M a → ∃ o, H a = some o) →
  IsL K M H x a → IsL K M H y b → IsU K M H x a → IsU K M H y b → Dt K (fun _ => False) H x a → Dt K (fun _ => False) H y b → g a b = some d → (∀ v H', Same H H' → Dt K M H' v d → Q v H') → r x y H Q
def sBin (g : PyData → PyData → Option PyData) (f1 f2 : SE π) : SE π := fun env => bnd (f1 env) fun a => bnd (f2 env) fun b => ofO ((g a.d b.d).map Vd.st)
theorem ie_bin {e a b : Expr} {r : R2} {g : PyData → PyData → Option PyData} {f1 f2 : SE π} (mk : ∀ {ta tb : TE}, PE X a ta → PE X b tb → PE X e (tOp r ta tb)) (hr : R2D X.K r g) (h1 : IE R X wx a f1) (h2 : IE R X wx b f2) : IE R X wx e (sBin g f1 f2) := fun W =>
  (mk (h1 W) (h2 W)).imp fun σ H Q ⟨M, env, p, E, q⟩ => by
    refine tE_of E (post_bnd E q fun ra p1 x H1 g1 E1 v1 q1 => ?_)
    refine tE_of E1 (post_bnd E1 q1 fun rb p2 y H2 g2 E2 v2 q2 => ?_)
    have v1' := v1.go E1 g2 E2.at_
    cases e : g ra.d rb.d with
    | none => rw [e] at q2; exact q2.elim
    | some d =>
      rw [e] at q2
      exact hr M H2 x y ra.d rb.d d Q E2.mtr (fun ds z => v1'.list z) (fun ds z => v2.list z) (fun ds z => v1'.tuple z) (fun ds z => v2.tuple z) v1'.now v2.now e
        fun v H' s h => q2 v H' (Go.of_same s) (W.mono _ _ _ _ s E2.at_) h
end
end Fw
set_option maxHeartbeats 4000000
namespace Fw
open PySem PySem.Spec PyProof.Rows L2

/-! ### tests, argument lists -/
abbrev ST (π : Type) := Evn → Ma π Bool
abbrev SA (π : Type) := Evn → Ma π (List Vd)
def postT {π : Type} {R : Rc π} (K : Fg) (mg : Str → Option Value) (W : Wd R) (M : Addr → Prop) (σ : L2.St) (env : Evn) (H : Hp) (wx : WX) (Q : Bool → Hp → Prop) : Oc π Bool → Prop
  | .ok b p' => ∀ H', GoP W H H' → W.At W.pa p' H' → Q b H'
  | .ex e p' => ∀ cls dd H', EnvR K W M σ env p' H' → ExR K mg M H' cls dd e → wx cls dd σ H'
  | .no => False
def postA {π : Type} {R : Rc π} (K : Fg) (mg : Str → Option Value) (W : Wd R) (M : Addr → Prop) (σ : L2.St) (env : Evn) (H : Hp) (wx : WX) (Q : List V → Hp → Prop) : Oc π (List Vd) → Prop
  | .ok rs p' => ∀ vs H', GoP W H H' → W.At W.pa p' H' → Paired (fun v r => VR K W M σ env p' H' v r) vs rs → Q vs H'
  | .ex e p' => ∀ cls dd H', EnvR K W M σ env p' H' → ExR K mg M H' cls dd e → wx cls dd σ H'
  | .no => False
def tT {π : Type} {R : Rc π} (K : Fg) (mg : Str → Option Value) (W : Wd R) (wx : WX) (f : ST π) : TT := fun σ H Q => ∃ M env p, EnvR K W M σ env p H ∧ postT K mg W M σ env H wx Q (f env p)
def tA {π : Type} {R : Rc π} (K : Fg) (mg : Str → Option Value) (W : Wd R) (wx : WX) (f : SA π) : TA := fun σ H Q => ∃ M env p, EnvR K W M σ env p H ∧ postA K mg W M σ env H wx Q (f env p)
abbrev IT {π : Type} (R : Rc π) (X : Cx) (wx : WX) (e : Expr) (f : ST π) : Prop := ∀ W : Wd R, PT X e (tT X.K X.mg W wx f)
abbrev IA {π : Type} (R : Rc π) (X : Cx) (wx : WX) (es : List Expr) (f : SA π) : Prop := ∀ W : Wd R, PA X es (tA X.K X.mg W wx f)

section
variable {π : Type} {R : Rc π} {X : Cx} {wx : WX}
/-- any of the three, chained: a first part gives α, the rest is wanted -/
def postX {π α : Type} {R : Rc π} (K : Fg) (mg : Str → Option Value) (W : Wd R) (M : Addr → Prop) (σ : L2.St) (env : Evn) (H : Hp) (wx : WX) (R : α → π → Hp → Prop) : Oc π α → Prop
  | .ok a p' => ∀ H', GoP W H H' → W.At W.pa p' H' → R a p' H'
  | .ex e p' => ∀ cls dd H', EnvR K W M σ env p' H' → ExR K mg M H' cls dd e → wx cls dd σ H'
  | .no => False
theorem post_X {K : Fg} {mg : Str → Option Value} {W : Wd R} {M : Addr → Prop} {σ : L2.St} {env : Evn} {H : Hp} {Q : VK} {o : Oc π Vd} :
    post K mg W M σ env H wx Q o ↔ postX K mg W M σ env H wx (fun r p' H' => ∀ v, VR K W M σ env p' H' v r → Q v H') o := by
  cases o with
  | ok r p => exact ⟨fun h H' g a v r => h v H' g a r, fun h v H' g a r => h H' g a v r⟩
  | ex e p => exact Iff.rfl
  | no => exact Iff.rfl
theorem postT_X {K : Fg} {mg : Str → Option Value} {W : Wd R} {M : Addr → Prop} {σ : L2.St} {env : Evn} {H : Hp} {Q : Bool → Hp → Prop} {o : Oc π Bool} :
    postT K mg W M σ env H wx Q o ↔ postX K mg W M σ env H wx (fun b _ H' => Q b H') o := by
  cases o <;> exact Iff.rfl
theorem postA_X {K : Fg} {mg : Str → Option Value} {W : Wd R} {M : Addr → Prop} {σ : L2.St} {env : Evn} {H : Hp} {Q : List V → Hp → Prop} {o : Oc π (List Vd)} :
    postA K mg W M σ env H wx Q o ↔ postX K mg W M σ env H wx (fun rs p' H' => ∀ vs, Paired (fun v r => VR K W M σ env p' H' v r) vs rs → Q vs H') o := by
  cases o with
  | ok r p => exact ⟨fun h H' g a v r => h v H' g a r, fun h v H' g a r => h H' g a v r⟩
  | ex e p => exact Iff.rfl
  | no => exact Iff.rfl
/-- the chain -/
theorem postX_bnd {α β : Type} {K : Fg} {mg : Str → Option Value} {W : Wd R} {M : Addr → Prop} {σ : L2.St} {env : Evn} {H : Hp} {p : π} {m : Ma π α} {g : α → Ma π β} {R : β → π → Hp → Prop} {R1 : α → π → Hp → Prop} (E : EnvR K W M σ env p H)
    (h : postX K mg W M σ env H wx R (bnd m g p))
    (next : ∀ a p1 H1, GoP W H H1 → EnvR K W M σ env p1 H1 → postX K mg W M σ env H1 wx R (g a p1) → R1 a p1 H1) : postX K mg W M σ env H wx R1 (m p) := by
  unfold bnd at h
  cases e : m p with
  | ok a p1 =>
    rw [e] at h
    intro H1 g1 at1
    refine next a p1 H1 g1 (E.go g1 at1) ?_
    have h' : postX K mg W M σ env H wx R (g a p1) := h
    cases e2 : g a p1 with
    | ok r2 p2 =>
      rw [e2] at h'
      exact fun H2 g2 at2 => h' H2 (g1.trans g2) at2
    | ex x p2 =>
      rw [e2] at h'
      exact h'
    | no =>
      rw [e2] at h'
      exact h'.elim
  | ex x p1 =>
    rw [e] at h
    exact h
  | no =>
    rw [e] at h
    exact h.elim

/-! ### tests -/
/-- a value that is a bool, as a test -/
def asB : Vd → Option Bool
  | .st (.bool b) => some b
  | _ => none
def sTest (f : SE π) : ST π := fun env => bnd (f env) fun r => ofO (asB r)
theorem asB_of {K : Fg} {W : Wd R} {M : Addr → Prop} {σ : L2.St} {env : Evn} {p : π} {H : Hp} {v : V} {r : Vd} {b : Bool} (h : VR K W M σ env p H v r) (e : asB r = some b) : v = .bl b := by
  cases r with
  | st d =>
    cases d with
    | bool c =>
      have e' : c = b := Option.some.inj e
      subst e'
      exact Dt.bl_of h
    | _ => cases e
  | _ => cases e
/-- the way from a value's reading to a test's -/
theorem it_of {e : Expr} {f : SE π} {tt : TE → TT} (mk : ∀ {t : TE}, PE X e t → PT X e (tB t)) (h : IE R X wx e f) : IT R X wx e (sTest f) := fun W => (mk (h W)).imp fun σ H Q ⟨M, env, p, E, q⟩ => by
  refine tE_of E (post_X.mpr (postX_bnd E (postT_X.mp q) fun r p1 H1 g1 E1 q1 v vr => ?_))
  cases e : asB r with
  | none => rw [e] at q1; exact q1.elim
  | some b =>
    rw [e] at q1
    exact ⟨b, asB_of vr e, q1 H1 (Go.refl _ _) E1.at_⟩
theorem it_val {e : Expr} {f : SE π} (h : IE R X wx e f) (he : ∀ whole, isTrue e X.env whole = (do let v ← whole; standAt e.pos; holding [v] (truthy v)) := by intro _; rfl) : IT R X wx e (sTest f) := fun W =>
  (pt_val (h W) he).imp fun σ H Q ⟨M, env, p, E, q⟩ => by
    refine tE_of E (post_X.mpr (postX_bnd E (postT_X.mp q) fun r p1 H1 g1 E1 q1 v vr => ?_))
    cases e : asB r with
    | none => rw [e] at q1; exact q1.elim
    | some b =>
      rw [e] at q1
      exact ⟨b, asB_of vr e, q1 H1 (Go.refl _ _) E1.at_⟩
/-- a comparison as a test: mk is pt_cmpR ho _ _ hm, its reading's meaning hr -/
theorem it_cmp {e a b : Expr} {r : R2} {g : PyData → PyData → Option PyData} {f1 f2 : SE π} (mk : ∀ {ta tb : TE}, PE X a ta → PE X b tb → PT X e (tTest (tOp r ta tb))) (hr : R2D X.K r g) (h1 : IE R X wx a f1) (h2 : IE R X wx b f2) : IT R X wx e (sTest (sBin g f1 f2)) := fun W =>
  (mk (h1 W) (h2 W)).imp fun σ H Q ⟨M, env, p, E, q⟩ => by
    have q' : postX X.K X.mg W M σ env H wx (fun b _ H' => Q b H') (bnd (f1 env) (fun ra => bnd (f2 env) fun rb => bnd (ofO ((g ra.d rb.d).map Vd.st)) fun r => ofO (asB r)) p) := by
      have e0 := postT_X.mp q
      unfold sTest sBin at e0
      rw [show bnd (f1 env) (fun ra => bnd (f2 env) fun rb => bnd (ofO ((g ra.d rb.d).map Vd.st)) fun r => ofO (asB r)) p = bnd (bnd (f1 env) (fun a => bnd (f2 env) fun b => ofO ((g a.d b.d).map Vd.st))) (fun r => ofO (asB r)) p by
        unfold bnd
        cases f1 env p with
        | ok r1 p1 => simp only; cases f2 env p1 <;> rfl
        | ex _ _ => rfl
        | no => rfl]
      exact e0
    refine tE_of E (post_X.mpr (postX_bnd E q' fun ra p1 H1 g1 E1 q1 x v1 => ?_))
    refine tE_of E1 (post_X.mpr (postX_bnd E1 q1 fun rb p2 H2 g2 E2 q2 y v2 => ?_))
    have v1' := v1.go E1 g2 E2.at_
    cases e : g ra.d rb.d with
    | none => rw [e] at q2; exact q2.elim
    | some d =>
      rw [e] at q2
      refine hr M H2 x y ra.d rb.d d _ E2.mtr (fun ds z => v1'.list z) (fun ds z => v2.list z) (fun ds z => v1'.tuple z) (fun ds z => v2.tuple z) v1'.now v2.now e fun v H' s h => ?_
      cases d with
      | bool c => exact ⟨c, Dt.bl_of h, q2 H' (Go.of_same s) (W.mono _ _ _ _ s E2.at_)⟩
      | _ => exact q2.elim
def sAnd (f g : ST π) : ST π := fun env => bnd (f env) fun b => if b then g env else ret false
def sOr (f g : ST π) : ST π := fun env => bnd (f env) fun b => if b then ret true else g env
def sNot (f : ST π) : ST π := fun env => bnd (f env) fun b => ret (!b)
/-- a test in any whole (and, or) -/
abbrev IW {π : Type} (R : Rc π) (X : Cx) (wx : WX) (e : Expr) (f : ST π) : Prop := ∀ W : Wd R, PW X e (tT X.K X.mg W wx f)
theorem _root_.L2.PW.imp {X : Cx} {e : Expr} {t t' : TT} (h : PW X e t) (i : ∀ σ H Q, t' σ H Q → t σ H Q) : PW X e t' := ⟨fun wh pins s σ H Q I q => h.run wh pins s σ H Q I (i σ H Q q)⟩
variable {a b : Expr} {rest : List Expr} {pos : Pos} {f g : ST π}
theorem iw_and1 (h : IT R X wx a f) : IW R X wx (.BoolOp .And [a] pos) f := fun W => pw_and1 (h W)
theorem iw_or1 (h : IT R X wx a f) : IW R X wx (.BoolOp .Or [a] pos) f := fun W => pw_or1 (h W)
theorem iw_and (h1 : IT R X wx a f) (h2 : IW R X wx (.BoolOp .And (b :: rest) pos) g) : IW R X wx (.BoolOp .And (a :: b :: rest) pos) (sAnd f g) := fun W => (pw_and (h1 W) (h2 W)).imp fun σ H Q ⟨M, env, p, E, q⟩ => by
  refine ⟨M, env, p, E, postT_X.mpr (postX_bnd E (postT_X.mp q) fun c p1 H1 g1 E1 q1 => ?_)⟩
  cases c with
  | true => exact ⟨M, env, p1, E1, postT_X.mpr q1⟩
  | false => exact q1 H1 (Go.refl _ _) E1.at_
theorem iw_or (h1 : IT R X wx a f) (h2 : IW R X wx (.BoolOp .Or (b :: rest) pos) g) : IW R X wx (.BoolOp .Or (a :: b :: rest) pos) (sOr f g) := fun W => (pw_or (h1 W) (h2 W)).imp fun σ H Q ⟨M, env, p, E, q⟩ => by
  refine ⟨M, env, p, E, postT_X.mpr (postX_bnd E (postT_X.mp q) fun c p1 H1 g1 E1 q1 => ?_)⟩
  cases c with
  | true => exact q1 H1 (Go.refl _ _) E1.at_
  | false => exact ⟨M, env, p1, E1, postT_X.mpr q1⟩
theorem it_w (h : IW R X wx a f) : IT R X wx a f := fun W => (h W).pt
theorem it_not (h : IT R X wx a f) : IT R X wx (.UnaryOp .Not a pos) (sNot f) := fun W => (pt_not (h W)).imp fun σ H Q ⟨M, env, p, E, q⟩ => by
  refine ⟨M, env, p, E, postT_X.mpr (postX_bnd E (postT_X.mp q) fun c p1 H1 g1 E1 q1 => q1 H1 (Go.refl _ _) E1.at_)⟩
/-- .. as values -/
def sAndV (f g : SE π) : SE π := fun env => bnd (sTest f env) fun b => if b then g env else ret (.st (.bool false))
def sOrV (f g : SE π) : SE π := fun env => bnd (sTest f env) fun b => if b then ret (.st (.bool true)) else g env
def sNotV (f : SE π) : SE π := fun env => bnd (sTest f env) fun b => ret (.st (.bool (!b)))
variable {fa fb : SE π}
/-- bnd is associative -/
theorem bnd_bnd {α β γ : Type} (m : Ma π α) (f : α → Ma π β) (g : β → Ma π γ) : bnd (bnd m f) g = bnd m fun a => bnd (f a) g := by
  funext p
  unfold bnd
  cases m p <;> rfl
theorem ie_one {op} (h : IE R X wx a fa) : IE R X wx (.BoolOp op [a] pos) fa := fun W => pe_one (h W)
theorem testV {W : Wd R} {M : Addr → Prop} {σ : L2.St} {env : Evn} {p : π} {H : Hp} {Q Q1 : VK} {k : Bool → Ma π Vd} (E : EnvR X.K W M σ env p H) (q : post X.K X.mg W M σ env H wx Q (bnd (sTest fa env) k p))
    (next : ∀ c p1 H1, EnvR X.K W M σ env p1 H1 → post X.K X.mg W M σ env H1 wx Q (k c p1) → Q1 (.bl c) H1) : tE X.K X.mg W wx fa σ H Q1 := by
  unfold sTest at q
  rw [bnd_bnd] at q
  refine tE_of E (post_X.mpr (postX_bnd E (post_X.mp q) fun r p1 H1 g1 E1 q1 v vr => ?_))
  cases e : asB r with
  | none => rw [e] at q1; exact q1.elim
  | some c =>
    rw [e] at q1
    have ev := asB_of vr e
    subst ev
    exact next c p1 H1 E1 (post_X.mpr q1)
theorem ie_and (h1 : IE R X wx a fa) (h2 : IE R X wx (.BoolOp .And (b :: rest) pos) fb) : IE R X wx (.BoolOp .And (a :: b :: rest) pos) (sAndV fa fb) := fun W => (pe_and (h1 W) (h2 W)).imp fun σ H Q ⟨M, env, p, E, q⟩ => by
  refine testV E q fun c p1 H1 E1 q1 => ⟨c, rfl, ?_⟩
  cases c with
  | true => exact tE_of E1 q1
  | false => exact q1 _ H1 (Go.refl _ _) E1.at_ (.bl false)
theorem ie_or (h1 : IE R X wx a fa) (h2 : IE R X wx (.BoolOp .Or (b :: rest) pos) fb) : IE R X wx (.BoolOp .Or (a :: b :: rest) pos) (sOrV fa fb) := fun W => (pe_or (h1 W) (h2 W)).imp fun σ H Q ⟨M, env, p, E, q⟩ => by
  refine testV E q fun c p1 H1 E1 q1 => ⟨c, rfl, ?_⟩
  cases c with
  | true => exact q1 _ H1 (Go.refl _ _) E1.at_ (.bl true)
  | false => exact tE_of E1 q1
theorem ie_not (h1 : IE R X wx a fa) : IE R X wx (.UnaryOp .Not a pos) (sNotV fa) := fun W => (pe_not (h1 W)).imp fun σ H Q ⟨M, env, p, E, q⟩ => by
  refine testV E q fun c p1 H1 E1 q1 => ⟨c, rfl, q1 _ H1 (Go.refl _ _) E1.at_ (.bl (!c))⟩
def sIf (c : ST π) (f g : SE π) : SE π := fun env => bnd (c env) fun b => if b then f env else g env
theorem ie_if {c : Expr} {fc : ST π} (hc : IT R X wx c fc) (h1 : IE R X wx a fa) (h2 : IE R X wx b fb) : IE R X wx (.IfExp c a b pos) (sIf fc fa fb) := fun W => (pe_ifExp (hc W) (h1 W) (h2 W)).imp fun σ H Q ⟨M, env, p, E, q⟩ => by
  refine ⟨M, env, p, E, postT_X.mpr (postX_bnd E (post_X.mp q) fun c p1 H1 g1 E1 q1 => ?_)⟩
  cases c with
  | true => exact tE_of E1 (post_X.mpr q1)
  | false => exact tE_of E1 (post_X.mpr q1)

/-! ### argument lists, displays -/
def sNil : SA π := fun _ => ret []
def sCons (f : SE π) (g : SA π) : SA π := fun env => bnd (f env) fun a => bnd (g env) fun r => ret (a :: r)
theorem ia_nil : IA R X wx [] sNil := fun W => pa_nil.imp fun σ H Q ⟨M, env, p, E, q⟩ => q [] H (Go.refl _ _) E.at_ .nil
theorem paired_go {K : Fg} {W : Wd R} {M : Addr → Prop} {σ : L2.St} {env : Evn} {p q : π} {H H' : Hp} (E : EnvR K W M σ env p H) (g : GoP W H H') (at' : W.At W.pa q H') {vs : List V} {rs : List Vd}
    (h : Paired (fun v r => VR K W M σ env p H v r) vs rs) : Paired (fun v r => VR K W M σ env q H' v r) vs rs := Paired.mapP h fun _ _ z => z.go E g at'
theorem ia_cons {es : List Expr} {fs : SA π} (h1 : IE R X wx a fa) (h2 : IA R X wx es fs) (hs : starEach (a :: es) X.env = (false, eval a X.env) :: starEach es X.env := by rfl) : IA R X wx (a :: es) (sCons fa fs) := fun W => (pa_cons (h1 W) (h2 W) hs).imp fun σ H Q ⟨M, env, p, E, q⟩ => by
  refine tE_of E (post_X.mpr (postX_bnd E (postA_X.mp q) fun r p1 H1 g1 E1 q1 v vr => ?_))
  refine ⟨M, env, p1, E1, postA_X.mpr (postX_bnd E1 q1 fun rs p2 H2 g2 E2 q2 vs pr => ?_)⟩
  exact q2 H2 (Go.refl _ _) E2.at_ _ (.cons (vr.go E1 g2 E2.at_) pr)
/-- all to be kept -/
def escs : List Vd → Option (List PyData)
  | [] => some []
  | r :: rs => match r.esc, escs rs with
    | some d, some ds => some (d :: ds)
    | _, _ => none
theorem escs_of {K : Fg} {W : Wd R} {M : Addr → Prop} {σ : L2.St} {env : Evn} {p : π} {H : Hp} : ∀ {vs : List V} {rs : List Vd} {ds : List PyData}, Paired (fun v r => VR K W M σ env p H v r) vs rs → escs rs = some ds → DtAll K M H vs ds
  | _, _, _, .nil, e => by
    cases e
    exact .nil
  | v :: vs, r :: rs, _, .cons h t, e => by
    unfold escs at e
    cases e1 : r.esc with
    | none => rw [e1] at e; cases e
    | some d =>
      cases e2 : escs rs with
      | none => rw [e1, e2] at e; cases e
      | some ds =>
        rw [e1, e2] at e
        cases e
        exact .cons (VR.esc h e1) (escs_of t e2)
/-- the largest length -/
def line : Nat := 16777216
theorem line_eq : sizeLine = line := sizeLine_eq
def sTup (fs : SA π) : SE π := fun env => bnd (fs env) fun rs => ofO ((escs rs).bind fun ds => if ds.length ≤ line then some (Vd.st (.tuple ds)) else none)
def sLst (fs : SA π) : SE π := fun env => bnd (fs env) fun rs => ofO ((escs rs).bind fun ds => if ds.length ≤ line then some (Vd.fr (.list ds)) else none)
theorem nomark_new {K : Fg} {W : Wd R} {M : Addr → Prop} {σ : L2.St} {env : Evn} {p : π} {H : Hp} {b : Addr} (E : EnvR K W M σ env p H) (n : H b = none) : ¬ M b := fun m => by
  obtain ⟨o, e⟩ := E.mtr b m
  rw [n] at e
  cases e
/-- a new list, as a fresh value -/
theorem fresh_lst {K : Fg} {W : Wd R} {M : Addr → Prop} {σ : L2.St} {env : Evn} {p : π} {H : Hp} {b : Addr} {vs : List V} {ds : List PyData} (E : EnvR K W M σ env p H) (n : H b = none) (h : DtAll K M H vs ds) :
    VR K W M σ env p (upd H b (.lst vs)) (.ref b) (.fr (.list ds)) := by
  have nm := nomark_new E n
  have n0 : W.H0 b = none := by
    cases e : W.H0 b with
    | none => rfl
    | some o =>
      by_cases z : b ∈ W.pa
      · exact absurd (E.low b (E.pam b z)) nm
      · rw [E.ext b o e z] at n
        cases n
  have s : Same H (upd H b (.lst vs)) := same_new n
  have h2 : DtAll K (fun a => M a ∨ a = b) H vs ds := h.more fun a z => z.elim .inl fun e => .inr (by rw [e]; exact n)
  exact ⟨b, rfl, nm, n0, ⟨vs, upd_same, h.go (Go.of_same s)⟩, E.mark n, ⟨vs, upd_same, h2.go (Go.of_same s)⟩⟩
variable {es : List Expr} {fs : SA π}
theorem ie_tup {x1} (h : IA R X wx es fs) : IE R X wx (.Tuple es x1 pos) (sTup fs) := fun W => (pe_tup (h W)).imp fun σ H Q ⟨M, env, p, E, q⟩ => by
  refine ⟨M, env, p, E, postA_X.mpr (postX_bnd E (post_X.mp q) fun rs p1 H1 g1 E1 q1 vs pr => ?_)⟩
  cases e : escs rs with
  | none => rw [e] at q1; exact q1.elim
  | some ds =>
    rw [e] at q1
    have hd := escs_of pr e
    by_cases hl : ds.length ≤ line
    · rw [show ((some ds).bind fun ds => if ds.length ≤ line then some (Vd.st (.tuple ds)) else none) = some (Vd.st (.tuple ds)) from if_pos hl] at q1
      refine ⟨by rw [line_eq, hd.length]; exact hl, fun b n => ?_⟩
      have s : Same H1 (upd H1 b (.tup vs)) := same_new n
      exact q1 _ (Go.of_same s) (W.mono _ _ _ _ s E1.at_) _ (.tup (nomark_new E1 n) upd_same (hd.go (Go.of_same s)))
    · rw [show ((some ds).bind fun ds => if ds.length ≤ line then some (Vd.st (.tuple ds)) else none) = none from if_neg hl] at q1
      exact q1.elim
theorem ie_lst (h : IA R X wx es fs) : IE R X wx (.List es pos) (sLst fs) := fun W => (pe_lst (h W)).imp fun σ H Q ⟨M, env, p, E, q⟩ => by
  refine ⟨M, env, p, E, postA_X.mpr (postX_bnd E (post_X.mp q) fun rs p1 H1 g1 E1 q1 vs pr => ?_)⟩
  cases e : escs rs with
  | none => rw [e] at q1; exact q1.elim
  | some ds =>
    rw [e] at q1
    have hd := escs_of pr e
    by_cases hl : ds.length ≤ line
    · rw [show ((some ds).bind fun ds => if ds.length ≤ line then some (Vd.fr (.list ds)) else none) = some (Vd.fr (.list ds)) from if_pos hl] at q1
      refine ⟨by rw [line_eq, hd.length]; exact hl, fun b n => ?_⟩
      have s : Same H1 (upd H1 b (.lst vs)) := same_new n
      exact q1 _ (Go.of_same s) (W.mono _ _ _ _ s E1.at_) _ (fresh_lst E1 n hd)
    · rw [show ((some ds).bind fun ds => if ds.length ≤ line then some (Vd.fr (.list ds)) else none) = none from if_neg hl] at q1
      exact q1.elim
end
end Fw
set_option maxHeartbeats 4000000
namespace Fw
open PySem PySem.Spec PyProof.Rows L2

/-! ### operations on data -/
def opAdd : PyData → PyData → Option PyData
  | .int i, .int j => some (.int (i + j))
  | .str x, .str y => if x.length + y.length ≤ line then some (.str (x ++ y)) else none
  | .list a, .list b => if a.length + b.length ≤ line then some (.list (a ++ b)) else none
  | .tuple a, .tuple b => if a.length ≠ 0 ∧ b.length ≠ 0 ∧ a.length + b.length ≤ line then some (.tuple (a ++ b)) else none
  | _, _ => none
def opSub : PyData → PyData → Option PyData
  | .int i, .int j => some (.int (i - j))
  | _, _ => none
/-- a factor of a machine's word -/
def small64 (i : Int) : Bool := decide (-(2 ^ 64) < i) && decide (i < 2 ^ 64)
def opMul : PyData → PyData → Option PyData
  | .int i, .int j => if small64 i || small64 j then some (.int (i * j)) else none
  | .list a, .int k => if -(2 ^ 63) ≤ k ∧ k < 2 ^ 63 ∧ a.length * k.toNat ≤ line then some (.list (List.replicate k.toNat a).flatten) else none
  | .str x, .int k => if -(2 ^ 63) ≤ k ∧ k.toNat ≤ line ∧ x.length * k.toNat ≤ line then some (.str (Txt.mul x k)) else none
  | _, _ => none
def opMod : PyData → PyData → Option PyData
  | .int i, .int j => if 0 < j then some (.int (i % j)) else none
  | _, _ => none
def opDiv : PyData → PyData → Option PyData
  | .int i, .int j => if 0 < j ∧ j < 1073741824 then some (.int (i / j)) else none
  | _, _ => none
def opEq (a b : PyData) : Option PyData := if SeqAt.shaped a && SeqAt.shaped b then some (.bool (PyData.eqv a b)) else none
def opNe (a b : PyData) : Option PyData := if SeqAt.shaped a && SeqAt.shaped b then some (.bool (!PyData.eqv a b)) else none
def opLt : PyData → PyData → Option PyData
  | .int i, .int j => some (.bool (decide (i < j)))
  | .str x, .str y => some (.bool (decide (x.cps.toList < y.cps.toList)))
  | _, _ => none
def opLe : PyData → PyData → Option PyData
  | .int i, .int j => some (.bool (decide (i ≤ j)))
  | _, _ => none
def opGt : PyData → PyData → Option PyData
  | .int i, .int j => some (.bool (decide (j < i)))
  | _, _ => none
def opGe : PyData → PyData → Option PyData
  | .int i, .int j => some (.bool (decide (j ≤ i)))
  | _, _ => none
/-- a in b: one sign in a text; an item of a list, of a tuple -/
def opInB : PyData → PyData → Option Bool
  | .str x, .str z => match x.cps.toList with
    | [c] => some (decide (c ∈ z.cps.toList))
    | _ => none
  | a, .list ds => if SeqAt.shaped a && SeqAt.shaped (.list ds) then some (ds.any fun z => PyData.eqv z a) else none
  | a, .tuple ds => if SeqAt.shaped a && SeqAt.shaped (.tuple ds) then some (ds.any fun z => PyData.eqv z a) else none
  | _, _ => none
def opIn (a b : PyData) : Option PyData := (opInB a b).map .bool
def opNotIn (a b : PyData) : Option PyData := (opInB a b).map fun k => .bool (!k)
def opIs (a b : PyData) : Option PyData := match b with
  | .none => some (.bool (match a with | .none => true | _ => false))
  | _ => none
def opIsNot (a b : PyData) : Option PyData := match b with
  | .none => some (.bool (match a with | .none => false | _ => true))
  | _ => none

/-- two relations for one operation -/
def rOr (r r' : R2) : R2 := fun x y H Q => r x y H Q ∨ r' x y H Q
section
variable {X : Cx} {K : Fg}
theorem shaped_noDict {d : PyData} (h : SeqAt.shaped d = true) : d.hasDict = false := PyData.hasDict_of_canLay d (SeqAt.canLay_of_shaped h)

theorem nomark_h {M : Addr → Prop} {H : Hp} {p : Addr} (m : ∀ a, M a → ∃ o, H a = some o) (n : H p = none) : ¬ M p := fun z => by
  obtain ⟨o, e⟩ := m p z
  rw [n] at e
  cases e
/-- + -/
abbrev rAddA (K : Fg) : R2 := rOr (rI0 fun i j => .int (i + j)) (rOr (fun x y H Q => ∃ i j, x = .str i ∧ y = .str j ∧ i.length + j.length ≤ sizeLine ∧ Q (.str (i ++ j)) H) (rOr rCat (rCatT K)))
theorem op_addA : OpR X (binaryOp .Add) (rAddA X.K) := op_add.or (op_add_str.or (op_cat.or op_catT))
theorem d_add : R2D K (rAddA K) opAdd := by
  intro M H x y a b d Q mt la lb ua ub ha hb e q
  cases a with
  | int i =>
    cases b with
    | int j =>
      cases e
      exact .inl ⟨i, j, Dt.int_of ha, Dt.int_of hb, q _ H (Same.refl H) (.int _)⟩
    | _ => cases e
  | str i =>
    cases b with
    | str j =>
      by_cases h : i.length + j.length ≤ line
      · have e' : d = .str (i ++ j) := by
          have e0 : (if i.length + j.length ≤ line then some (PyData.str (i ++ j)) else none) = some d := e
          rw [if_pos h] at e0
          exact (Option.some.inj e0).symm
        subst e'
        exact .inr (.inl ⟨i, j, Dt.str_of ha, Dt.str_of hb, by rw [line_eq]; exact h, q _ H (Same.refl H) (.str _)⟩)
      · have e0 : (if i.length + j.length ≤ line then some (PyData.str (i ++ j)) else none) = some d := e
        rw [if_neg h] at e0
        cases e0
    | _ => cases e
  | list i =>
    cases b with
    | list j =>
      have e0 : (if i.length + j.length ≤ line then some (PyData.list (i ++ j)) else none) = some d := e
      by_cases h : i.length + j.length ≤ line
      · rw [if_pos h] at e0
        cases e0
        obtain ⟨p, xs, rfl, hp, dx⟩ := la i rfl
        obtain ⟨p', ys, rfl, hp', dy⟩ := lb j rfl
        refine .inr (.inr (.inl ⟨p, p', xs, ys, rfl, rfl, hp, hp', by rw [line_eq, dx.length, dy.length]; exact h, fun l n => ?_⟩))
        have s : Same H (upd H l (.lst (xs ++ ys))) := same_new n
        exact q _ _ s (.lst (nomark_h mt n) upd_same ((dx.append dy).go (Go.of_same s)))
      · rw [if_neg h] at e0
        cases e0
    | _ => cases e
  | tuple i =>
    cases b with
    | tuple j =>
      have e0 : (if i.length ≠ 0 ∧ j.length ≠ 0 ∧ i.length + j.length ≤ line then some (PyData.tuple (i ++ j)) else none) = some d := e
      by_cases h : i.length ≠ 0 ∧ j.length ≠ 0 ∧ i.length + j.length ≤ line
      · rw [if_pos h] at e0
        cases e0
        obtain ⟨h1, h2, h3⟩ := h
        obtain ⟨p, xs, rfl, hp, dx⟩ := ua i rfl
        obtain ⟨p', ys, rfl, hp', dy⟩ := ub j rfl
        have l1 := dx.length
        have l2 := dy.length
        refine .inr (.inr (.inr ⟨p, p', xs, ys, rfl, rfl, hp, hp', fun z => h1 (by rw [← l1, z]; rfl), by rw [line_eq, l1, l2]; exact h3, fun z => absurd (by rw [← l2, z]; rfl) h2, fun _ l n => ?_⟩))
        have s : Same H (upd H l (.tup (xs ++ ys))) := same_new n
        exact q _ _ s (.tup (nomark_h mt n) upd_same ((dx.append dy).go (Go.of_same s)))
      · rw [if_neg h] at e0
        cases e0
    | _ => cases e
  | _ => cases b <;> cases e
theorem if_some {α : Type} {c : Prop} [Decidable c] {x d : α} (h : (if c then some x else none) = some d) : c ∧ x = d := by
  by_cases k : c
  · rw [if_pos k] at h
    exact ⟨k, Option.some.inj h⟩
  · rw [if_neg k] at h
    cases h
theorem d_sub : R2D K (rI0 fun i j => .int (i - j)) opSub := by
  intro M H x y a b d Q mt la lb ua ub ha hb e q
  cases a with
  | int i =>
    cases b with
    | int j =>
      cases e
      exact ⟨i, j, Dt.int_of ha, Dt.int_of hb, q _ H (Same.refl H) (.int _)⟩
    | _ => cases e
  | _ => cases b <;> cases e
def rTimes : R2 := fun x y H Q => ∃ (z : Str) (n : Int), x = .str z ∧ y = .int n ∧ MulOk z n ∧ Q (.str (Txt.mul z n)) H
theorem op_times : OpR X (binaryOp .Mult) rTimes := by
  intro pins s σ H x y v u Q I rx ry h
  obtain ⟨z, n, rfl, rfl, ok, q⟩ := h
  obtain ⟨t, rfl⟩ := rx
  obtain ⟨t', rfl⟩ := ry
  exact SB.mul ok fun t' k => ⟨.str _, H, I.kept (t' := k) fun _ _ z => z, ⟨_, rfl⟩, q⟩
abbrev rMulA : R2 := rOr (rI CMul fun i j => .int (i * j)) (rOr rRep rTimes)
theorem op_mulA : OpR X (binaryOp .Mult) rMulA := op_mul.or (op_rep.or op_times)
theorem small64_of {i : Int} (h : small64 i = true) : -(2 ^ 64) < i ∧ i < 2 ^ 64 := by
  obtain ⟨h1, h2⟩ := Bool.and_eq_true_iff.mp h
  exact ⟨of_decide_eq_true h1, of_decide_eq_true h2⟩
theorem d_mul : R2D K rMulA opMul := by
  intro M H x y a b d Q mt la lb ua ub ha hb e q
  cases a with
  | int i =>
    cases b with
    | int j =>
      obtain ⟨k, rfl⟩ := if_some (show (if (small64 i || small64 j) = true then some (PyData.int (i * j)) else none) = some d from e)
      refine .inl ⟨i, j, Dt.int_of ha, Dt.int_of hb, ?_, q _ H (Same.refl H) (.int _)⟩
      rcases Bool.or_eq_true_iff.mp k with k | k
      · exact .inl (small64_of k)
      · exact .inr (small64_of k)
    | _ => cases e
  | list i =>
    cases b with
    | int j =>
      obtain ⟨⟨k1, k2, k3⟩, rfl⟩ := if_some (show (if -(2 ^ 63) ≤ j ∧ j < 2 ^ 63 ∧ i.length * j.toNat ≤ line then some (PyData.list (List.replicate j.toNat i).flatten) else none) = some d from e)
      obtain ⟨p, xs, rfl, hp, dx⟩ := la i rfl
      refine .inr (.inl ⟨p, j, xs, rfl, Dt.int_of hb, hp, k1, k2, by rw [line_eq, dx.length]; exact k3, fun l n => ?_⟩)
      have s : Same H (upd H l (.lst (List.replicate j.toNat xs).flatten)) := same_new n
      exact q _ _ s (.lst (nomark_h mt n) upd_same ((dx.rep _).go (Go.of_same s)))
    | _ => cases e
  | str i =>
    cases b with
    | int j =>
      obtain ⟨⟨k1, k2, k3⟩, rfl⟩ := if_some (show (if -(2 ^ 63) ≤ j ∧ j.toNat ≤ line ∧ i.length * j.toNat ≤ line then some (PyData.str (Txt.mul i j)) else none) = some d from e)
      exact .inr (.inr ⟨i, j, Dt.str_of ha, Dt.int_of hb, mulOk_of i.length j.toNat (Nat.le_refl _) (by omega) k1 k2 k3, q _ H (Same.refl H) (.str _)⟩)
    | _ => cases e
  | _ => cases b <;> cases e
theorem d_mod : R2D K (rI (fun _ j => 0 < j) fun i j => .int (i % j)) opMod := by
  intro M H x y a b d Q mt la lb ua ub ha hb e q
  cases a with
  | int i =>
    cases b with
    | int j =>
      obtain ⟨k, rfl⟩ := if_some (show (if 0 < j then some (PyData.int (i % j)) else none) = some d from e)
      exact ⟨i, j, Dt.int_of ha, Dt.int_of hb, k, q _ H (Same.refl H) (.int _)⟩
    | _ => cases e
  | _ => cases b <;> cases e
theorem d_div : R2D K (rI CDiv fun i j => .int (i / j)) opDiv := by
  intro M H x y a b d Q mt la lb ua ub ha hb e q
  cases a with
  | int i =>
    cases b with
    | int j =>
      obtain ⟨k, rfl⟩ := if_some (show (if 0 < j ∧ j < 1073741824 then some (PyData.int (i / j)) else none) = some d from e)
      exact ⟨i, j, Dt.int_of ha, Dt.int_of hb, k, q _ H (Same.refl H) (.int _)⟩
    | _ => cases e
  | _ => cases b <;> cases e
theorem dp_of {K : Fg} {H : Hp} {v : V} {d : PyData} (h : Dt K (fun _ => False) H v d) (n : SeqAt.shaped d = true) : Dp K H v d := h.dp (shaped_noDict n)
theorem d_eq : R2D K (rEqD K) opEq := by
  intro M H x y a b d Q mt la lb ua ub ha hb e q
  obtain ⟨k, rfl⟩ := if_some (show (if (SeqAt.shaped a && SeqAt.shaped b) = true then some (PyData.bool (PyData.eqv a b)) else none) = some d from e)
  obtain ⟨k1, k2⟩ := Bool.and_eq_true_iff.mp k
  exact ⟨a, b, dp_of ha k1, dp_of hb k2, k1, k2, q _ H (Same.refl H) (.bl _)⟩
theorem d_ne : R2D K (rNeD K) opNe := by
  intro M H x y a b d Q mt la lb ua ub ha hb e q
  obtain ⟨k, rfl⟩ := if_some (show (if (SeqAt.shaped a && SeqAt.shaped b) = true then some (PyData.bool (!PyData.eqv a b)) else none) = some d from e)
  obtain ⟨k1, k2⟩ := Bool.and_eq_true_iff.mp k
  exact ⟨a, b, dp_of ha k1, dp_of hb k2, k1, k2, q _ H (Same.refl H) (.bl _)⟩
abbrev rLtA : R2 := rOr (rI0 fun i j => .bl (decide (i < j))) (fun x y H Q => ∃ i j, x = .str i ∧ y = .str j ∧ Q (.bl (decide (i.cps.toList < j.cps.toList))) H)
theorem op_ltA : OpR X (compareOp .Lt) rLtA := op_lt.or op_lt_str
theorem d_lt : R2D K rLtA opLt := by
  intro M H x y a b d Q mt la lb ua ub ha hb e q
  cases a with
  | int i =>
    cases b with
    | int j =>
      cases e
      exact .inl ⟨i, j, Dt.int_of ha, Dt.int_of hb, q _ H (Same.refl H) (.bl _)⟩
    | _ => cases e
  | str i =>
    cases b with
    | str j =>
      cases e
      exact .inr ⟨i, j, Dt.str_of ha, Dt.str_of hb, q _ H (Same.refl H) (.bl _)⟩
    | _ => cases e
  | _ => cases b <;> cases e
theorem d_le : R2D K (rI0 fun i j => .bl (decide (i ≤ j))) opLe := by
  intro M H x y a b d Q mt la lb ua ub ha hb e q
  cases a with
  | int i =>
    cases b with
    | int j =>
      cases e
      exact ⟨i, j, Dt.int_of ha, Dt.int_of hb, q _ H (Same.refl H) (.bl _)⟩
    | _ => cases e
  | _ => cases b <;> cases e
theorem d_gt : R2D K (rI0 fun i j => .bl (decide (j < i))) opGt := by
  intro M H x y a b d Q mt la lb ua ub ha hb e q
  cases a with
  | int i =>
    cases b with
    | int j =>
      cases e
      exact ⟨i, j, Dt.int_of ha, Dt.int_of hb, q _ H (Same.refl H) (.bl _)⟩
    | _ => cases e
  | _ => cases b <;> cases e
theorem d_ge : R2D K (rI0 fun i j => .bl (decide (j ≤ i))) opGe := by
  intro M H x y a b d Q mt la lb ua ub ha hb e q
  cases a with
  | int i =>
    cases b with
    | int j =>
      cases e
      exact ⟨i, j, Dt.int_of ha, Dt.int_of hb, q _ H (Same.refl H) (.bl _)⟩
    | _ => cases e
  | _ => cases b <;> cases e
/-- in -/
def rInU (K : Fg) (neg : Bool) : R2 := fun x y H Q => ∃ d ds, Dp K H x d ∧ Dp K H y (.tuple ds) ∧ SeqAt.shaped d = true ∧ SeqAt.shaped (.tuple ds) = true ∧ Q (.bl (if neg then !ds.any fun z => PyData.eqv z d else ds.any fun z => PyData.eqv z d)) H
theorem op_inU (hu : X.A.units + 65 < cLine) : OpR X (compareOp .In) (rInU X.K false) := by
  intro pins s σ H x y v u Q I rx ry ⟨d, ds, hd, he, sd, se, q⟩
  obtain ⟨as, r1⟩ := Dp.reads I d x v hd rx
  obtain ⟨bs, r2⟩ := Dp.reads I (.tuple ds) y u he ry
  refine SeqAt.in_tuple_reads r2 r1 (by simpa only [PyData.canLay0] using SeqAt.canLay_of_shaped se) (SeqAt.canLay_of_shaped sd) ?_ ⟨.bl _, H, I, rfl, q⟩
  have := SeqAt.depth_of_shaped sd
  omega
theorem op_notInU (hu : X.A.units + 65 < cLine) : OpR X (compareOp .NotIn) (rInU X.K true) := by
  intro pins s σ H x y v u Q I rx ry ⟨d, ds, hd, he, sd, se, q⟩
  obtain ⟨as, r1⟩ := Dp.reads I d x v hd rx
  obtain ⟨bs, r2⟩ := Dp.reads I (.tuple ds) y u he ry
  refine SeqAt.notIn_tuple_reads r2 r1 (by simpa only [PyData.canLay0] using SeqAt.canLay_of_shaped se) (SeqAt.canLay_of_shaped sd) ?_ ⟨.bl _, H, I, rfl, q⟩
  have := SeqAt.depth_of_shaped sd
  omega
abbrev rSign (neg : Bool) : R2 := fun x y H Q => ∃ (c : Nat) (z : Str), x = .str ⟨#[c]⟩ ∧ y = .str z ∧ Q (.bl (if neg then !decide (c ∈ z.cps.toList) else decide (c ∈ z.cps.toList))) H
theorem op_signIn : OpR X (compareOp .In) (rSign false) := op_in_sign
theorem op_signNot : OpR X (compareOp .NotIn) (rSign true) := op_notIn_sign
abbrev rInA (K : Fg) : R2 := rOr (rSign false) (rOr (rInD K) (rInU K false))
abbrev rNotInA (K : Fg) : R2 := rOr (rSign true) (rOr (rNotInD K) (rInU K true))
theorem op_inA (hu : X.A.units + 65 < cLine) : OpR X (compareOp .In) (rInA X.K) := op_signIn.or ((op_inD hu).or (op_inU hu))
theorem op_notInA (hu : X.A.units + 65 < cLine) : OpR X (compareOp .NotIn) (rNotInA X.K) := op_signNot.or ((op_notInD hu).or (op_notInU hu))
theorem str_one {x : Str} {c : Nat} (h : x.cps.toList = [c]) : x = ⟨#[c]⟩ := by
  obtain ⟨⟨l⟩⟩ := x
  have h' : l = [c] := h
  rw [h']
/-- what is asked of in, by its answer -/
theorem inB_cases {a b : PyData} {k : Bool} (h : opInB a b = some k) :
    (∃ c z, a = .str ⟨#[c]⟩ ∧ b = .str z ∧ k = decide (c ∈ z.cps.toList)) ∨
    (∃ ds, b = .list ds ∧ SeqAt.shaped a = true ∧ SeqAt.shaped (.list ds) = true ∧ k = ds.any fun z => PyData.eqv z a) ∨
    (∃ ds, b = .tuple ds ∧ SeqAt.shaped a = true ∧ SeqAt.shaped (.tuple ds) = true ∧ k = ds.any fun z => PyData.eqv z a) := by
  cases b with
  | list ds =>
    have h' : (if (SeqAt.shaped a && SeqAt.shaped (.list ds)) = true then some (ds.any fun z => PyData.eqv z a) else none) = some k := by cases a <;> exact h
    obtain ⟨k1, k2⟩ := if_some h'
    obtain ⟨k3, k4⟩ := Bool.and_eq_true_iff.mp k1
    exact .inr (.inl ⟨ds, rfl, k3, k4, k2.symm⟩)
  | tuple ds =>
    have h' : (if (SeqAt.shaped a && SeqAt.shaped (.tuple ds)) = true then some (ds.any fun z => PyData.eqv z a) else none) = some k := by cases a <;> exact h
    obtain ⟨k1, k2⟩ := if_some h'
    obtain ⟨k3, k4⟩ := Bool.and_eq_true_iff.mp k1
    exact .inr (.inr ⟨ds, rfl, k3, k4, k2.symm⟩)
  | str z =>
    cases a with
    | str x =>
      have h' : (match x.cps.toList with | [c] => some (decide (c ∈ z.cps.toList)) | _ => none) = some k := h
      cases e : x.cps.toList with
      | nil => rw [e] at h'; cases h'
      | cons c r =>
        cases r with
        | nil =>
          rw [e] at h'
          exact .inl ⟨c, z, by rw [str_one e], rfl, (Option.some.inj h').symm⟩
        | cons _ _ => rw [e] at h'; cases h'
    | _ => cases h
  | _ => cases a <;> cases h
theorem d_in : R2D K (rInA K) opIn := by
  intro M H x y a b d Q mt la lb ua ub ha hb e q
  unfold opIn at e
  cases e1 : opInB a b with
  | none => rw [e1] at e; cases e
  | some k =>
    rw [e1] at e
    cases e
    have q' := q (.bl k) H (Same.refl H) (.bl k)
    rcases inB_cases e1 with ⟨c, z, rfl, rfl, rfl⟩ | ⟨ds, rfl, k1, k2, rfl⟩ | ⟨ds, rfl, k1, k2, rfl⟩
    · exact .inl ⟨c, z, Dt.str_of ha, Dt.str_of hb, q'⟩
    · exact .inr (.inl ⟨a, ds, dp_of ha k1, dp_of hb k2, k1, k2, q'⟩)
    · exact .inr (.inr ⟨a, ds, dp_of ha k1, dp_of hb k2, k1, k2, q'⟩)
theorem d_notIn : R2D K (rNotInA K) opNotIn := by
  intro M H x y a b d Q mt la lb ua ub ha hb e q
  unfold opNotIn at e
  cases e1 : opInB a b with
  | none => rw [e1] at e; cases e
  | some k =>
    rw [e1] at e
    cases e
    have q' := q (.bl (!k)) H (Same.refl H) (.bl (!k))
    rcases inB_cases e1 with ⟨c, z, rfl, rfl, rfl⟩ | ⟨ds, rfl, k1, k2, rfl⟩ | ⟨ds, rfl, k1, k2, rfl⟩
    · exact .inl ⟨c, z, Dt.str_of ha, Dt.str_of hb, q'⟩
    · exact .inr (.inl ⟨a, ds, dp_of ha k1, dp_of hb k2, k1, k2, q'⟩)
    · exact .inr (.inr ⟨a, ds, dp_of ha k1, dp_of hb k2, k1, k2, q'⟩)
abbrev rIsN : R2 := fun x y H Q => y = .non ∧ Q (.bl (decide (x = .non))) H
abbrev rNotN : R2 := fun x y H Q => y = .non ∧ Q (.bl (!decide (x = .non))) H
theorem d_is : R2D K rIsN opIs := by
  intro M H x y a b d Q mt la lb ua ub ha hb e q
  cases b with
  | none =>
    refine ⟨Dt.non_of hb, ?_⟩
    cases a <;> cases e <;> cases ha <;> exact q _ H (Same.refl H) (.bl _)
  | _ => cases e
theorem d_isNot : R2D K rNotN opIsNot := by
  intro M H x y a b d Q mt la lb ua ub ha hb e q
  cases b with
  | none =>
    refine ⟨Dt.non_of hb, ?_⟩
    cases a <;> cases e <;> cases ha <;> exact q _ H (Same.refl H) (.bl _)
  | _ => cases e
end
end Fw
set_option maxHeartbeats 4000000
namespace Fw
open PySem PySem.Spec PyProof.Rows L2

/-! ### calls of built-ins -/
def CD {π : Type} (R : Rc π) (X : Cx) (r : List V → Hp → VK → Prop) (g : List Vd → Option Vd) : Prop :=
  ∀ (W : Wd R) (M : Addr → Prop) (σ : L2.St) (env : Evn) (p : π) (H : Hp) (vs : List V) (rs : List Vd) (res : Vd) (Q : VK), EnvR X.K W M σ env p H → Paired (fun v r => VR X.K W M σ env p H v r) vs rs →
    g rs = some res → (∀ v H', Same H H' → VR X.K W M σ env p H' v res → Q v H') → r vs H Q
def sCall {π : Type} (g : List Vd → Option Vd) (fs : SA π) : SE π := fun env => bnd (fs env) fun rs => ofO (g rs)
section
variable {π : Type} {R : Rc π} {X : Cx} {wx : WX} {e : Expr} {es : List Expr} {fs : SA π} {r : List V → Hp → VK → Prop} {g : List Vd → Option Vd}
theorem ie_call (mk : ∀ {t : TA}, PA X es t → PE X e (tCB r t)) (hr : CD R X r g) (h : IA R X wx es fs) : IE R X wx e (sCall g fs) := fun W => (mk (h W)).imp fun σ H Q ⟨M, env, p, E, q⟩ => by
  refine ⟨M, env, p, E, postA_X.mpr (postX_bnd E (post_X.mp q) fun rs p1 H1 g1 E1 q1 vs pr => ?_)⟩
  cases e : g rs with
  | none => rw [e] at q1; exact q1.elim
  | some res =>
    rw [e] at q1
    exact hr W M σ env p1 H1 vs rs res Q E1 pr e fun v H' s vr => q1 H' (Go.of_same s) (W.mono _ _ _ _ s E1.at_) v vr
theorem pair1 {α β : Type} {F : α → β → Prop} {l : List α} {b : β} (h : Paired F l [b]) : ∃ a, l = [a] ∧ F a b := by
  cases h with
  | cons x t => cases t; exact ⟨_, rfl, x⟩
theorem pair2 {α β : Type} {F : α → β → Prop} {l : List α} {b c : β} (h : Paired F l [b, c]) : ∃ a d, l = [a, d] ∧ F a b ∧ F d c := by
  cases h with
  | cons x t =>
    cases t with
    | cons y t => cases t; exact ⟨_, _, rfl, x, y⟩
theorem VR.same {K : Fg} {W : Wd R} {M : Addr → Prop} {σ : L2.St} {env : Evn} {p : π} {H H' : Hp} {v : V} {r : Vd} (E : EnvR K W M σ env p H) (h : VR K W M σ env p H v r) (s : Same H H') : VR K W M σ env p H' v r :=
  h.go E (Go.of_same s) (W.mono _ _ _ _ s E.at_)
theorem VR.isI {K : Fg} {W : Wd R} {M : Addr → Prop} {σ : L2.St} {env : Evn} {p : π} {H : Hp} {v : V} {r : Vd} {i : Int} (h : VR K W M σ env p H v r) (e : r.d = .int i) : v = .int i := Dt.int_of (h.scal e)
theorem VR.isS {K : Fg} {W : Wd R} {M : Addr → Prop} {σ : L2.St} {env : Evn} {p : π} {H : Hp} {v : V} {r : Vd} {x : Str} (h : VR K W M σ env p H v r) (e : r.d = .str x) : v = .str x := Dt.str_of (h.scal e)

/-- one argument, its datum matters -/
def g1 (f : PyData → Option Vd) : List Vd → Option Vd
  | [r] => f r.d
  | _ => none
theorem g1_some {f : PyData → Option Vd} {rs : List Vd} {res : Vd} (h : g1 f rs = some res) : ∃ r, rs = [r] ∧ f r.d = some res := by
  cases rs with
  | nil => cases h
  | cons r t =>
    cases t with
    | nil => exact ⟨r, rfl, h⟩
    | cons _ _ => cases h
/-- len -/
def fLen : PyData → Option Vd
  | .list ds => some (.st (.int ds.length))
  | .tuple ds => some (.st (.int ds.length))
  | .str x => if x.length ≤ line then some (.st (.int x.length)) else none
  | _ => none
theorem cd_len : CD R X (fun xs H Q => ∃ x n, xs = [x] ∧ LenV X.K x H n ∧ Q (.int n) H) (g1 fLen) := by
  intro W M σ env p H vs rs res Q E pr e q
  obtain ⟨r, rfl, e2⟩ := g1_some e
  replace e := e2
  obtain ⟨v, rfl, h⟩ := pair1 pr
  cases ed : r.d with
  | list ds =>
    rw [ed] at e
    cases e
    obtain ⟨a, xs, rfl, hp, dx⟩ := h.list ed
    exact ⟨_, ds.length, rfl, .inl ⟨xs, SqL.of hp, dx.length.symm⟩, q _ H (Same.refl H) (.int _)⟩
  | tuple ds =>
    rw [ed] at e
    cases e
    obtain ⟨a, xs, rfl, hp, dx⟩ := h.tuple ed
    exact ⟨_, ds.length, rfl, .inr ⟨xs, hp, dx.length.symm⟩, q _ H (Same.refl H) (.int _)⟩
  | str x =>
    rw [ed] at e
    obtain ⟨k, rfl⟩ := if_some (show (if x.length ≤ line then some (Vd.st (.int x.length)) else none) = some res from e)
    have ev := h.isS ed
    subst ev
    exact ⟨_, x.length, rfl, ⟨by rw [line_eq]; exact k, rfl⟩, q _ H (Same.refl H) (.int _)⟩
  | _ => rw [ed] at e; cases e
/-- abs, int -/
def fAbs : PyData → Option Vd
  | .int i => some (.st (.int (if i < 0 then -i else i)))
  | _ => none
theorem cd_abs : CD R X (fun xs H Q => ∃ i, xs = [.int i] ∧ Q (.int (if i < 0 then -i else i)) H) (g1 fAbs) := by
  intro W M σ env p H vs rs res Q E pr e q
  obtain ⟨r, rfl, e2⟩ := g1_some e
  replace e := e2
  obtain ⟨v, rfl, h⟩ := pair1 pr
  cases ed : r.d with
  | int i =>
    rw [ed] at e
    cases e
    exact ⟨i, by rw [h.isI ed], q _ H (Same.refl H) (.int _)⟩
  | _ => rw [ed] at e; cases e
def fInt : PyData → Option Vd
  | .int i => some (.st (.int i))
  | _ => none
theorem cd_int : CD R X (fun xs H Q => (∃ i, xs = [.int i] ∧ Q (.int i) H) ∨ ∃ k, xs = [.bl k] ∧ Q (.int (if k then 1 else 0)) H) (g1 fInt) := by
  intro W M σ env p H vs rs res Q E pr e q
  obtain ⟨r, rfl, e2⟩ := g1_some e
  replace e := e2
  obtain ⟨v, rfl, h⟩ := pair1 pr
  cases ed : r.d with
  | int i =>
    rw [ed] at e
    cases e
    exact .inl ⟨i, by rw [h.isI ed], q _ H (Same.refl H) (.int _)⟩
  | _ => rw [ed] at e; cases e
/-- sum of ints; all of bools -/
def intsOf : List PyData → Option (List Int)
  | [] => some []
  | .int i :: r => (intsOf r).map (i :: ·)
  | _ :: _ => none
def boolsOf : List PyData → Option (List Bool)
  | [] => some []
  | .bool i :: r => (boolsOf r).map (i :: ·)
  | _ :: _ => none
def strsOf : List PyData → Option (List Str)
  | [] => some []
  | .str i :: r => (strsOf r).map (i :: ·)
  | _ :: _ => none
theorem intsOf_map : ∀ {ds : List PyData} {ns : List Int}, intsOf ds = some ns → ds = ns.map .int
  | [], _, h => by cases h; rfl
  | .int i :: r, ns, h => by
    have h' : (intsOf r).map (i :: ·) = some ns := h
    cases e : intsOf r with
    | none => rw [e] at h'; cases h'
    | some ms =>
      rw [e] at h'
      cases h'
      rw [intsOf_map e]
      rfl
  | .none :: _, _, h => by cases h
  | .bool _ :: _, _, h => by cases h
  | .str _ :: _, _, h => by cases h
  | .list _ :: _, _, h => by cases h
  | .tuple _ :: _, _, h => by cases h
  | .dict _ :: _, _, h => by cases h
theorem boolsOf_map : ∀ {ds : List PyData} {ns : List Bool}, boolsOf ds = some ns → ds = ns.map .bool
  | [], _, h => by cases h; rfl
  | .bool i :: r, ns, h => by
    have h' : (boolsOf r).map (i :: ·) = some ns := h
    cases e : boolsOf r with
    | none => rw [e] at h'; cases h'
    | some ms =>
      rw [e] at h'
      cases h'
      rw [boolsOf_map e]
      rfl
  | .none :: _, _, h => by cases h
  | .int _ :: _, _, h => by cases h
  | .str _ :: _, _, h => by cases h
  | .list _ :: _, _, h => by cases h
  | .tuple _ :: _, _, h => by cases h
  | .dict _ :: _, _, h => by cases h
theorem strsOf_map : ∀ {ds : List PyData} {ns : List Str}, strsOf ds = some ns → ds = ns.map .str
  | [], _, h => by cases h; rfl
  | .str i :: r, ns, h => by
    have h' : (strsOf r).map (i :: ·) = some ns := h
    cases e : strsOf r with
    | none => rw [e] at h'; cases h'
    | some ms =>
      rw [e] at h'
      cases h'
      rw [strsOf_map e]
      rfl
  | .none :: _, _, h => by cases h
  | .int _ :: _, _, h => by cases h
  | .bool _ :: _, _, h => by cases h
  | .list _ :: _, _, h => by cases h
  | .tuple _ :: _, _, h => by cases h
  | .dict _ :: _, _, h => by cases h
theorem vals_int {K : Fg} {M : Addr → Prop} {H : Hp} : ∀ {ns : List Int} {xs : List V}, DtAll K M H xs (ns.map .int) → xs = ns.map .int
  | [], _, h => by cases h; rfl
  | n :: ns, _, h => by
    cases h with
    | cons a b => rw [Dt.int_of a, vals_int b]; rfl
theorem vals_bool {K : Fg} {M : Addr → Prop} {H : Hp} : ∀ {ns : List Bool} {xs : List V}, DtAll K M H xs (ns.map .bool) → xs = ns.map .bl
  | [], _, h => by cases h; rfl
  | n :: ns, _, h => by
    cases h with
    | cons a b => rw [Dt.bl_of a, vals_bool b]; rfl
theorem vals_str {K : Fg} {M : Addr → Prop} {H : Hp} : ∀ {ns : List Str} {xs : List V}, DtAll K M H xs (ns.map .str) → xs = ns.map .str
  | [], _, h => by cases h; rfl
  | n :: ns, _, h => by
    cases h with
    | cons a b => rw [Dt.str_of a, vals_str b]; rfl
theorem strs_dt {K : Fg} {M : Addr → Prop} {H : Hp} : ∀ ns : List Str, DtAll K M H (ns.map .str) (ns.map .str)
  | [] => .nil
  | n :: ns => .cons (.str n) (strs_dt ns)
def fSum : PyData → Option Vd
  | .list ds => (intsOf ds).map fun ns => .st (.int ns.sum)
  | _ => none
theorem cd_sum : CD R X (rSum X.K) (g1 fSum) := by
  intro W M σ env p H vs rs res Q E pr e q
  obtain ⟨r, rfl, e2⟩ := g1_some e
  replace e := e2
  obtain ⟨v, rfl, h⟩ := pair1 pr
  cases ed : r.d with
  | list ds =>
    rw [ed] at e
    have e' : (intsOf ds).map (fun ns => Vd.st (.int ns.sum)) = some res := e
    cases ei : intsOf ds with
    | none => rw [ei] at e'; cases e'
    | some ns =>
      rw [ei] at e'
      cases e'
      obtain ⟨a, xs, rfl, hp, dx⟩ := h.list ed
      rw [intsOf_map ei] at dx
      rw [vals_int dx] at hp
      exact ⟨a, ns, rfl, SqL.of hp, q _ H (Same.refl H) (.int _)⟩
  | _ => rw [ed] at e; cases e
def fAll : PyData → Option Vd
  | .list ds => (boolsOf ds).map fun ns => .st (.bool (ns.all id))
  | _ => none
theorem cd_all : CD R X (rAll X.K) (g1 fAll) := by
  intro W M σ env p H vs rs res Q E pr e q
  obtain ⟨r, rfl, e2⟩ := g1_some e
  replace e := e2
  obtain ⟨v, rfl, h⟩ := pair1 pr
  cases ed : r.d with
  | list ds =>
    rw [ed] at e
    have e' : (boolsOf ds).map (fun ns => Vd.st (.bool (ns.all id))) = some res := e
    cases ei : boolsOf ds with
    | none => rw [ei] at e'; cases e'
    | some ns =>
      rw [ei] at e'
      cases e'
      obtain ⟨a, xs, rfl, hp, dx⟩ := h.list ed
      rw [boolsOf_map ei] at dx
      rw [vals_bool dx] at hp
      exact ⟨a, ns, rfl, SqL.of hp, q _ H (Same.refl H) (.bl _)⟩
  | _ => rw [ed] at e; cases e
/-- list(xs), tuple(xs) -/
def fList : PyData → Option Vd
  | .list ds => some (.fr (.list ds))
  | .tuple ds => some (.fr (.list ds))
  | _ => none
theorem cd_list : CD R X (fun xs H Q => ∃ p ys, xs = [.ref p] ∧ (SqL X.K H p ys ∨ SqT X.K H p ys) ∧ ∀ l, H l = none → Q (.ref l) (upd H l (.lst ys))) (g1 fList) := by
  intro W M σ env p H vs rs res Q E pr e q
  obtain ⟨r, rfl, e2⟩ := g1_some e
  replace e := e2
  obtain ⟨v, rfl, h⟩ := pair1 pr
  cases ed : r.d with
  | list ds =>
    rw [ed] at e
    cases e
    obtain ⟨a, xs, rfl, hp, dx⟩ := h.list ed
    exact ⟨a, xs, rfl, .inl (SqL.of hp), fun l n => q _ _ (same_new n) (fresh_lst E n dx)⟩
  | tuple ds =>
    rw [ed] at e
    cases e
    obtain ⟨a, xs, rfl, hp, dx⟩ := h.tuple ed
    exact ⟨a, xs, rfl, .inr hp, fun l n => q _ _ (same_new n) (fresh_lst E n dx)⟩
  | _ => rw [ed] at e; cases e
def fTuple : Vd → Option Vd
  | .st (.tuple ds) => some (.st (.tuple ds))
  | r => match r.d with
    | .list ds => some (.st (.tuple ds))
    | _ => none
def gTuple : List Vd → Option Vd
  | [r] => fTuple r
  | _ => none
theorem cd_tuple : CD R X (fun xs H Q => ∃ p ys, xs = [.ref p] ∧ ((SqL X.K H p ys ∧ ∀ l, H l = none → Q (.ref l) (upd H l (.tup ys))) ∨ (SqT X.K H p ys ∧ Q (.ref p) H))) gTuple := by
  intro W M σ env p H vs rs res Q E pr e q
  cases rs with
  | nil => cases e
  | cons r t =>
    cases t with
    | cons _ _ => cases e
    | nil =>
      have e' : fTuple r = some res := e
      obtain ⟨v, rfl, h⟩ := pair1 pr
      cases ed : r.d with
      | list ds =>
        obtain ⟨a, xs, rfl, hp, dx⟩ := h.list ed
        have er : res = .st (.tuple ds) := by
          unfold fTuple at e'
          cases r with
          | st d =>
            have z : d = .list ds := ed
            subst z
            cases e'
            rfl
          | tr d =>
            have z : d = .list ds := ed
            subst z
            cases e'
            rfl
          | fr d =>
            have z : d = .list ds := ed
            subst z
            cases e'
            rfl
        subst er
        exact ⟨a, xs, rfl, .inl ⟨SqL.of hp, fun l n => q _ _ (same_new n) (.tup (nomark_new E n) upd_same (dx.go (Go.of_same (same_new n))))⟩⟩
      | tuple ds =>
        cases r with
        | st d =>
          have z : d = .tuple ds := ed
          subst z
          cases e'
          obtain ⟨a, xs, rfl, hp, dx⟩ := h.tuple (r := .st (.tuple ds)) rfl
          exact ⟨a, xs, rfl, .inr ⟨hp, q _ H (Same.refl H) h⟩⟩
        | tr d =>
          have z : d = .tuple ds := ed
          subst z
          cases e'
        | fr d =>
          have z : d = .tuple ds := ed
          subst z
          cases e'
      | _ =>
        unfold fTuple at e'
        cases r <;> (rename_i d; have z := ed; change d = _ at z; subst z; cases e')
/-- max, min of two ints -/
def gMax : List Vd → Option Vd
  | [a, b] => match a.d, b.d with
    | .int i, .int j => some (.st (.int (if j > i then j else i)))
    | _, _ => none
  | _ => none
def gMin : List Vd → Option Vd
  | [a, b] => match a.d, b.d with
    | .int i, .int j => some (.st (.int (if j < i then j else i)))
    | _, _ => none
  | _ => none
theorem cd_max : CD R X (fun xs H Q => ∃ i j, xs = [.int i, .int j] ∧ Q (.int (if j > i then j else i)) H) gMax := by
  intro W M σ env p H vs rs res Q E pr e q
  match rs, pr, e with
  | [a, b], pr, e =>
    obtain ⟨v, w, rfl, h1, h2⟩ := pair2 pr
    have e' : (match a.d, b.d with | .int i, .int j => some (Vd.st (.int (if j > i then j else i))) | _, _ => none) = some res := e
    cases ea : a.d with
    | int i =>
      cases eb : b.d with
      | int j =>
        rw [ea, eb] at e'
        cases e'
        exact ⟨i, j, by rw [h1.isI ea, h2.isI eb], q _ H (Same.refl H) (.int _)⟩
      | _ => rw [ea, eb] at e'; cases e'
    | _ => rw [ea] at e'; cases e'
theorem cd_min : CD R X (fun xs H Q => ∃ i j, xs = [.int i, .int j] ∧ Q (.int (if j < i then j else i)) H) gMin := by
  intro W M σ env p H vs rs res Q E pr e q
  match rs, pr, e with
  | [a, b], pr, e =>
    obtain ⟨v, w, rfl, h1, h2⟩ := pair2 pr
    have e' : (match a.d, b.d with | .int i, .int j => some (Vd.st (.int (if j < i then j else i))) | _, _ => none) = some res := e
    cases ea : a.d with
    | int i =>
      cases eb : b.d with
      | int j =>
        rw [ea, eb] at e'
        cases e'
        exact ⟨i, j, by rw [h1.isI ea, h2.isI eb], q _ H (Same.refl H) (.int _)⟩
      | _ => rw [ea, eb] at e'; cases e'
    | _ => rw [ea] at e'; cases e'

/-! ### repr -/
def okShow (d : PyData) : Bool := !d.hasDict || (match d with | .dict [] => true | _ => false)
def opShow (d : PyData) : Option Str := if d.showable && okShow d && decide (d.depth ≤ 60) && decide (d.shown.length ≤ line) then some d.shown else none
def fRepr (d : PyData) : Option Vd := (opShow d).map fun x => .st (.str x)
def rRepr (K : Fg) : List V → Hp → VK → Prop := fun xs H Q => ∃ (v : V) (d : PyData) (x : Str), xs = [v] ∧ Dt K (fun _ => False) H v d ∧ opShow d = some x ∧ Q (.str x) H
theorem reads_of {pins : List (Addr × Obj)} {σ : L2.St} {H : Hp} {s : Shared} {v : V} {u : Value} {d : PyData} (I : Inv X pins σ H s) (h : Dt X.K (fun _ => False) H v d) (r : RelV v u) (ok : okShow d = true) :
    ∃ as, Reads s.heap u d as ∧ (d.hasDict = true → sysModules ∉ as) := by
  cases hd : d.hasDict with
  | false =>
    obtain ⟨as, q⟩ := Dp.reads I d v u (h.dp hd) r
    exact ⟨as, q, fun z => by cases z⟩
  | true =>
    unfold okShow at ok
    rw [hd] at ok
    cases d with
    | dict kvs =>
      cases kvs with
      | nil =>
        obtain ⟨a, ks, rfl, ha, hk⟩ := Dt.dict_of h
        cases hk
        cases (show u = Value.ref a from r)
        obtain ⟨_, hs, vs, kv, o, es, n, h1, h2, h3, _, h5, _⟩ := (show ObjOk X.prog X.w H s.heap a (.dK []) from I.hok a _ ha)
        cases kv
        have es0 : es.toList = [] := by
          cases e : es.toList with
          | nil => rfl
          | cons _ _ => rw [e] at h5; cases h5
        exact ⟨_, Reads.dict h1 h2.1 h3 (by rw [es0]; exact .nil) (by rw [es0]; exact .nil), fun _ z => by
          have z' : sysModules = a := by simpa using z
          rw [z'] at hs
          simp at hs⟩
      | cons _ _ => simp at ok
    | _ => simp at ok
theorem call_repr (hg : X.A.guards = some []) (hu : X.A.units + 64 < cLine) : CallR X (.builtin "repr") (rRepr X.K) := by
  intro pins s σ H xs us Q I r h
  obtain ⟨v, d, x, rfl, hd, ho, q⟩ := h
  obtain ⟨u, rfl, ru⟩ := vals1 r
  obtain ⟨k, rfl⟩ := if_some (show (if (d.showable && okShow d && decide (d.depth ≤ 60) && decide (d.shown.length ≤ line)) = true then some d.shown else none) = some x from ho)
  simp only [Bool.and_eq_true, decide_eq_true_eq] at k
  obtain ⟨⟨⟨k1, k2⟩, k3⟩, k4⟩ := k
  have hz : d.shown.length ≤ sizeLine := by rw [line_eq]; exact k4
  obtain ⟨as, rd, hsm⟩ := reads_of I hd ru k2
  cases rd with
  | none => exact PySem.P.repr_of_none ⟨.str _, H, I.tok _, ⟨_, rfl⟩, by simpa only [PyData.shown] using q⟩
  | bool b => exact PySem.P.repr_of_bool ⟨.str _, H, I.tok _, ⟨_, rfl⟩, by simpa only [PyData.shown] using q⟩
  | int i t => exact PySem.P.repr_of_int (by simpa [PyData.showable] using k1) ⟨.str _, H, I.tok _, ⟨_, rfl⟩, by simpa only [PyData.shown] using q⟩
  | str y t => exact PySem.P.repr_of_str ⟨.str _, H, I.tok _, ⟨_, rfl⟩, by simpa only [PyData.shown] using q⟩ (by simpa only [PyData.shown] using hz)
  | list h1 h2 h3 h4 => exact repr_of_reads' (.list h1 h2 h3 h4) k1 hsm hg (by omega) (fun _ _ e => e) (fun h' u tk hk => ⟨.str _, H, I.kept (t' := tk) hk, ⟨_, rfl⟩, q⟩) hz
  | tuple h1 h2 h3 h4 => exact repr_of_reads' (.tuple h1 h2 h3 h4) k1 hsm hg (by omega) (fun _ _ e => e) (fun h' u tk hk => ⟨.str _, H, I.kept (t' := tk) hk, ⟨_, rfl⟩, q⟩) hz
  | dict h1 h2 h3 h4 h5 => exact repr_of_reads' (.dict h1 h2 h3 h4 h5) k1 hsm hg (by omega) (fun _ _ e => e) (fun h' u tk hk => ⟨.str _, H, I.kept (t' := tk) hk, ⟨_, rfl⟩, q⟩) hz
theorem cd_repr : CD R X (rRepr X.K) (g1 fRepr) := by
  intro W M σ env p H vs rs res Q E pr e q
  obtain ⟨r, rfl, e2⟩ := g1_some e
  replace e := e2
  obtain ⟨v, rfl, h⟩ := pair1 pr
  unfold fRepr at e
  cases ed : opShow r.d with
  | none => rw [ed] at e; cases e
  | some x =>
    rw [ed] at e
    cases e
    exact ⟨v, r.d, x, rfl, h.now, ed, q _ H (Same.refl H) (.str _)⟩
end
end Fw
set_option maxHeartbeats 4000000
namespace Fw
open PySem PySem.Spec PyProof.Rows L2

/-! ### places -/
def opIx : PyData → PyData → Option PyData
  | .list ds, .int i => atI ds i
  | .tuple ds, .int i => atI ds i
  | .str z, .int i => if z.length ≤ line then (atI z.cps.toList i).map fun c => .str ⟨#[c]⟩ else none
  | _, _ => none
theorem atI_dt {K : Fg} {M : Addr → Prop} {H : Hp} {xs : List V} {ds : List PyData} {i : Int} {d : PyData} (h : DtAll K M H xs ds) (e : atI ds i = some d) : ∃ v, atI xs i = some v ∧ Dt K M H v d := by
  unfold atI at e ⊢
  rw [h.length]
  cases ei : ixN ds.length i with
  | none => rw [ei] at e; cases e
  | some j =>
    rw [ei] at e
    exact h.get e
theorem d_ix {K : Fg} : R2D K (rIx K) opIx := by
  intro M H x y a b d Q mt la lb ua ub ha hb e q
  cases b with
  | int i =>
    have hy := Dt.int_of hb
    subst hy
    cases a with
    | list ds =>
      obtain ⟨p, xs, rfl, hp, dx⟩ := la ds rfl
      obtain ⟨v, e1, dv⟩ := atI_dt dx e
      exact .inl ⟨p, xs, i, v, rfl, rfl, SqL.of hp, e1, q v H (Same.refl H) dv⟩
    | tuple ds =>
      obtain ⟨p, xs, rfl, hp, dx⟩ := ua ds rfl
      obtain ⟨v, e1, dv⟩ := atI_dt dx e
      exact .inr (.inl ⟨p, xs, i, v, rfl, rfl, hp, e1, q v H (Same.refl H) dv⟩)
    | str z =>
      have hx := Dt.str_of ha
      subst hx
      have e0 : (if z.length ≤ line then (atI z.cps.toList i).map (fun c => PyData.str ⟨#[c]⟩) else none) = some d := e
      by_cases k : z.length ≤ line
      · rw [if_pos k] at e0
        cases ec : atI z.cps.toList i with
        | none => rw [ec] at e0; cases e0
        | some c =>
          rw [ec] at e0
          cases e0
          exact .inr (.inr ⟨z, i, c, rfl, rfl, by rw [line_eq]; exact k, ec, q _ H (Same.refl H) (.str _)⟩)
      · rw [if_neg k] at e0
        cases e0
    | _ => cases e
  | _ => cases a <;> cases e

section
variable {π : Type} {R : Rc π} {X : Cx} {wx : WX} {a b : Expr} {pos p2 : Pos} {fa fb : SE π}
theorem ie_ix (h1 : IE R X wx a fa) (h2 : IE R X wx b fb) (hs : PlainIx b := by exact fun _ _ => rfl) : IE R X wx (.Subscript a b pos) (sBin opIx fa fb) := ie_bin (fun ha hb => pe_ix ix_seq ha hb hs) d_ix h1 h2

/-! ### slices -/
abbrev SO (π : Type) := Evn → Ma π (Option Int)
def tO {R : Rc π} (K : Fg) (mg : Str → Option Value) (W : Wd R) (wx : WX) (f : SO π) : TO := fun σ H Q => ∃ M env p, EnvR K W M σ env p H ∧ postX K mg W M σ env H wx (fun o _ H' => Q o H') (f env p)
abbrev IO (R : Rc π) (X : Cx) (wx : WX) (e : Option Expr) (f : SO π) : Prop := ∀ W : Wd R, PO X e (tO X.K X.mg W wx f)
theorem _root_.L2.PO.imp {X : Cx} {e : Option Expr} {t t' : TO} (h : PO X e t) (i : ∀ σ H Q, t' σ H Q → t σ H Q) : PO X e t' := ⟨fun pins s σ H Q I q => h.run pins s σ H Q I (i σ H Q q)⟩
def sNoPart : SO π := fun _ => ret none
def asI : PyData → Option (Option Int)
  | .int i => some (some i)
  | _ => none
def sPart (f : SE π) : SO π := fun env => bnd (f env) fun r => ofO (asI r.d)
theorem io_none : IO R X wx none sNoPart := fun W => po_none.imp fun σ H Q ⟨M, env, p, E, q⟩ => q H (Go.refl _ _) E.at_
theorem io_some (h : IE R X wx a fa) : IO R X wx (some a) (sPart fa) := fun W => (po_some (h W)).imp fun σ H Q ⟨M, env, p, E, q⟩ => by
  refine tE_of E (post_X.mpr (postX_bnd E q fun r p1 H1 g1 E1 q1 v vr => ?_))
  cases ed : r.d with
  | int i =>
    rw [ed] at q1
    exact ⟨i, vr.isI ed, q1 H1 (Go.refl _ _) E1.at_⟩
  | _ => rw [ed] at q1; exact q1.elim
/-- the items of xs[lo:hi] -/
def cutD (ds : List PyData) (lo hi : Option Int) : List PyData := (ds.drop (HT.sIx ds.length 0 lo)).take (HT.sIx ds.length ds.length hi - HT.sIx ds.length 0 lo)
theorem cut_dt {K : Fg} {M : Addr → Prop} {H : Hp} {xs : List V} {ds : List PyData} {lo hi : Option Int} (h : DtAll K M H xs ds) : DtAll K M H (cutV xs lo hi) (cutD ds lo hi) := by
  unfold cutV cutD
  rw [h.length]
  exact (h.drop _).take _
def opSl (d : PyData) (lo hi : Option Int) : Option Vd := match d with
  | .list ds => some (.fr (.list (cutD ds lo hi)))
  | .tuple ds => if HT.sIx ds.length 0 lo = 0 ∧ HT.sIx ds.length ds.length hi = ds.length then none else some (.st (.tuple (cutD ds lo hi)))
  | .str z => if z.length ≤ line then some (.st (.str (cutS z lo hi))) else none
  | _ => none
abbrev rSlA (K : Fg) : V → Option Int → Option Int → Hp → VK → Prop := fun x lo hi H Q => rSlL K x lo hi H Q ∨ (fun x lo hi H Q => rSlT K x lo hi H Q ∨ rSlS x lo hi H Q) x lo hi H Q
theorem sl_all : SlR X (rSlA X.K) := sl_list.or (sl_tup.or sl_str)
def sSl (f : SE π) (lo hi : SO π) : SE π := fun env => bnd (f env) fun r => bnd (lo env) fun l => bnd (hi env) fun u => ofO (opSl r.d l u)
variable {lo hi : Option Expr} {fl fu : SO π}
theorem ie_sl (h1 : IE R X wx a fa) (h2 : IO R X wx lo fl) (h3 : IO R X wx hi fu) : IE R X wx (.Subscript a (.Slice lo hi none p2) pos) (sSl fa fl fu) := fun W => (pe_slice sl_all (h1 W) (h2 W) (h3 W)).imp fun σ H Q ⟨M, env, p, E, q⟩ => by
  refine tE_of E (post_X.mpr (postX_bnd E (post_X.mp q) fun r p1 H1 g1 E1 q1 v vr => ?_))
  refine ⟨M, env, p1, E1, postX_bnd E1 q1 fun l p2 H2 g2 E2 q2 => ?_⟩
  refine ⟨M, env, p2, E2, postX_bnd E2 q2 fun u p3 H3 g3 E3 q3 => ?_⟩
  have vr := (vr.go E1 g2 E2.at_).go E2 g3 E3.at_
  cases ed : r.d with
  | list ds =>
    rw [ed] at q3
    obtain ⟨p, xs, rfl, hp, dx⟩ := vr.list ed
    exact .inl ⟨p, xs, rfl, SqL.of hp, fun l n => q3 _ (Go.of_same (same_new n)) (W.mono _ _ _ _ (same_new n) E3.at_) _ (fresh_lst E3 n (cut_dt dx))⟩
  | tuple ds =>
    rw [ed] at q3
    obtain ⟨p, xs, rfl, hp, dx⟩ := vr.tuple ed
    by_cases k : HT.sIx ds.length 0 l = 0 ∧ HT.sIx ds.length ds.length u = ds.length
    · rw [show opSl (.tuple ds) l u = none from if_pos k] at q3
      exact q3.elim
    · rw [show opSl (.tuple ds) l u = some (.st (.tuple (cutD ds l u))) from if_neg k] at q3
      exact .inr (.inl ⟨p, xs, rfl, hp, by rw [dx.length]; exact k, fun l n => q3 _ (Go.of_same (same_new n)) (W.mono _ _ _ _ (same_new n) E3.at_) _ (.tup (nomark_new E3 n) upd_same ((cut_dt dx).go (Go.of_same (same_new n))))⟩)
  | str z =>
    rw [ed] at q3
    have hv := vr.isS ed
    subst hv
    by_cases k : z.length ≤ line
    · rw [show opSl (.str z) l u = some (.st (.str (cutS z l u))) from if_pos k] at q3
      exact .inr (.inr ⟨z, rfl, by rw [line_eq]; exact k, q3 _ (Go.refl _ _) E3.at_ _ (.str _)⟩)
    · rw [show opSl (.str z) l u = none from if_neg k] at q3
      exact q3.elim
  | _ => rw [ed] at q3; exact q3.elim

/-! ### methods of texts, one argument -/
def asStr : PyData → Option Str
  | .str y => some y
  | _ => none
def sM1 (g : Str → PyData → Option Vd) (fo fe : SE π) : SE π := fun env => bnd (fo env) fun o => bnd (ofO (asStr o.d)) fun y => bnd (fe env) fun x => ofO (g y x.d)
/-- the meaning of a text's method -/
def MD {π : Type} (R : Rc π) (X : Cx) (r : V → List V → Hp → VK → Prop) (g : Str → PyData → Option Vd) : Prop :=
  ∀ (W : Wd R) (M : Addr → Prop) (σ : L2.St) (env : Evn) (p : π) (H : Hp) (y : Str) (x : V) (rx : Vd) (res : Vd) (Q : VK), EnvR X.K W M σ env p H → VR X.K W M σ env p H x rx →
    g y rx.d = some res → (∀ v H', Same H H' → VR X.K W M σ env p H' v res → Q v H') → r (.str y) [x] H Q
theorem asStr_of {d : PyData} {y : Str} (h : asStr d = some y) : d = .str y := by
  cases d with
  | str z => cases h; rfl
  | _ => cases h
theorem ie_m1 {e : Expr} {g : Str → PyData → Option Vd} {r : V → List V → Hp → VK → Prop} (mk : ∀ {to te : TE}, PE X a to → PE X b te → PE X e (tM1 r to te)) (hr : MD R X r g) (h1 : IE R X wx a fa) (h2 : IE R X wx b fb) : IE R X wx e (sM1 g fa fb) := fun W =>
  (mk (h1 W) (h2 W)).imp fun σ H Q ⟨M, env, p, E, q⟩ => by
    refine tE_of E (post_X.mpr (postX_bnd E (post_X.mp q) fun ro p1 H1 g1 E1 q1 o vo => ?_))
    cases eo : asStr ro.d with
    | none => rw [eo] at q1; exact q1.elim
    | some y =>
      rw [eo] at q1
      have ev := vo.isS (asStr_of eo)
      subst ev
      refine ⟨⟨y, rfl⟩, tE_of E1 (post_X.mpr (postX_bnd E1 q1 fun rx p2 H2 g2 E2 q2 x xr => ?_))⟩
      cases eg : g y rx.d with
      | none => rw [eg] at q2; exact q2.elim
      | some res =>
        rw [eg] at q2
        exact hr W M σ env p2 H2 y x rx res Q E2 xr eg fun v H' s h => q2 H' (Go.of_same s) (W.mono _ _ _ _ s E2.at_) v h
/-- split, join -/
def gSplit (a : Str) : PyData → Option Vd
  | .str b => if (b.length == 0) = false ∧ a.length + 2 ≤ line then some (.fr (.list ((Txt.split a b).map .str))) else none
  | _ => none
theorem md_split : MD R X (fun x xs H Q => ∃ a b, x = .str a ∧ xs = [.str b] ∧ (b.length == 0) = false ∧ a.length + 2 ≤ sizeLine ∧ rNewStrs (Txt.split a b) H Q) gSplit := by
  intro W M σ env p H y x rx res Q E xr e q
  cases ed : rx.d with
  | str b =>
    rw [ed] at e
    obtain ⟨⟨k1, k2⟩, rfl⟩ := if_some (show (if (b.length == 0) = false ∧ y.length + 2 ≤ line then some (Vd.fr (.list ((Txt.split y b).map .str))) else none) = some res from e)
    exact ⟨y, b, rfl, by rw [xr.isS ed], k1, by rw [line_eq]; exact k2, fun l n => q _ _ (same_new n) (fresh_lst E n (strs_dt _))⟩
  | _ => rw [ed] at e; cases e
def gJoin (a : Str) (d : PyData) : Option Vd := match (match d with | .list ds => strsOf ds | .tuple ds => strsOf ds | _ => none) with
  | some ys => if (ys.map (·.length)).sum + ys.length * a.length ≤ 16777216 then some (.st (.str (Txt.join a ys))) else none
  | none => none
theorem md_join : MD R X (fun x xs H Q => ∃ a p, ∃ ys : List Str, x = .str a ∧ xs = [.ref p] ∧ (SqL X.K H p (ys.map V.str) ∨ SqT X.K H p (ys.map V.str)) ∧ (ys.map (·.length)).sum + ys.length * a.length ≤ 16777216 ∧ Q (.str (Txt.join a ys)) H) gJoin := by
  intro W M σ env p H y x rx res Q E xr e q
  unfold gJoin at e
  cases ed : rx.d with
  | list ds =>
    rw [ed] at e
    cases es : strsOf ds with
    | none => simp only [es] at e; cases e
    | some ys =>
      simp only [es] at e
      obtain ⟨k, rfl⟩ := if_some e
      obtain ⟨a, xs, rfl, hp, dx⟩ := xr.list ed
      rw [strsOf_map es] at dx
      rw [vals_str dx] at hp
      exact ⟨y, a, ys, rfl, rfl, .inl (SqL.of hp), k, q _ H (Same.refl H) (.str _)⟩
  | tuple ds =>
    rw [ed] at e
    cases es : strsOf ds with
    | none => simp only [es] at e; cases e
    | some ys =>
      simp only [es] at e
      obtain ⟨k, rfl⟩ := if_some e
      obtain ⟨a, xs, rfl, hp, dx⟩ := xr.tuple ed
      rw [strsOf_map es] at dx
      rw [vals_str dx] at hp
      exact ⟨y, a, ys, rfl, rfl, .inr hp, k, q _ H (Same.refl H) (.str _)⟩
  | _ => rw [ed] at e; cases e

/-! ### a built-in's one-place operation: -i -/
def opNeg : PyData → Option PyData
  | .int i => some (.int (-i))
  | _ => none
def sNeg (f : SE π) : SE π := fun env => bnd (f env) fun r => ofO ((opNeg r.d).map Vd.st)
theorem ie_neg (h1 : IE R X wx a fa) : IE R X wx (.UnaryOp .USub a pos) (sNeg fa) := fun W => (pe_un un_neg (h1 W)).imp fun σ H Q ⟨M, env, p, E, q⟩ => by
  refine tE_of E (post_X.mpr (postX_bnd E (post_X.mp q) fun r p1 H1 g1 E1 q1 v vr => ?_))
  cases ed : r.d with
  | int i =>
    rw [ed] at q1
    exact ⟨i, vr.isI ed, q1 H1 (Go.refl _ _) E1.at_ _ (.int _)⟩
  | _ => rw [ed] at q1; exact q1.elim

/-! ### isinstance(x, T), T a built-in class -/
def tyName : PyData → String
  | .none => "NoneType"
  | .bool _ => "bool"
  | .int _ => "int"
  | .str _ => "str"
  | .list _ => "list"
  | .tuple _ => "tuple"
  | .dict _ => "dict"
theorem ty_of {K : Fg} {H : Hp} {v : V} {d : PyData} (h : Dt K (fun _ => False) H v d) : TyX K H v (.type (tyName d)) := by
  cases h with
  | non => exact .base .non
  | bl b => exact .base (.bl b)
  | int i => exact .base (.int i)
  | str x => exact .base (.str x)
  | lst _ r _ => exact .base (.lst r)
  | tup _ r _ => exact .base (.tup r)
  | tupK r _ =>
    rcases r with (r | ⟨o, r⟩) | ⟨o, its, n, hk, hc, _⟩
    · cases r
    · cases r
    · exact .kTuple hk hc
  | dct _ r _ => exact .base (.dK r)
def isTyN (T t : String) : Bool := T == t || (T == "int" && t == "bool")
def isTy (T : String) (d : PyData) : Bool := isTyN T (tyName d)
def tyNames : List String := ["NoneType", "bool", "int", "str", "list", "tuple", "dict"]
theorem tyName_mem (d : PyData) : tyName d ∈ tyNames := by cases d <;> simp [tyName, tyNames]
def kitAllB (n : String) : Bool := tyNames.all fun t => decide (kitB t n = some (isTyN n t))
theorem kit_by {n : String} (h : kitAllB n = true) (d : PyData) : kitB (tyName d) n = some (isTy n d) := of_decide_eq_true (List.all_eq_true.mp h _ (tyName_mem d))
def sIsi (T : String) (f : SE π) : SE π := fun env => bnd (f env) fun r => ret (.st (.bool (isTy T r.d)))
theorem ie_isi {e T : Expr} {n : String} (mk : ∀ {t : TA}, PA X [a, T] t → PE X e (tCB (rIsi X.K) t)) (hT : PE X T (tC (.ty n))) (hn : ∀ d : PyData, kitB (tyName d) n = some (isTy n d)) (h1 : IE R X wx a fa)
    (hs : starEach [a, T] X.env = (false, eval a X.env) :: starEach [T] X.env := by rfl) (hs2 : starEach [T] X.env = (false, eval T X.env) :: starEach [] X.env := by rfl) : IE R X wx e (sIsi n fa) := fun W =>
  (mk (pa_cons (h1 W) (pa_cons hT pa_nil hs2) hs)).imp fun σ H Q ⟨M, env, p, E, q⟩ => by
    refine tE_of E (post_X.mpr (postX_bnd E (post_X.mp q) fun r p1 H1 g1 E1 q1 v vr => ?_))
    exact ⟨v, .ty n, .type (tyName r.d), .type n, isTy n r.d, rfl, .ty n, ty_of vr.now, kit_ty (hn r.d), q1 H1 (Go.refl _ _) E1.at_ _ (.bl _)⟩
theorem kit_str (d : PyData) : kitB (tyName d) "str" = some (isTy "str" d) := kit_by (by decide +kernel) d
theorem kit_int (d : PyData) : kitB (tyName d) "int" = some (isTy "int" d) := kit_by (by decide +kernel) d
theorem kit_bool (d : PyData) : kitB (tyName d) "bool" = some (isTy "bool" d) := kit_by (by decide +kernel) d
theorem kit_tuple (d : PyData) : kitB (tyName d) "tuple" = some (isTy "tuple" d) := kit_by (by decide +kernel) d
theorem kit_list (d : PyData) : kitB (tyName d) "list" = some (isTy "list" d) := kit_by (by decide +kernel) d
theorem kit_dict (d : PyData) : kitB (tyName d) "dict" = some (isTy "dict" d) := kit_by (by decide +kernel) d
end
end Fw
set_option maxHeartbeats 4000000
namespace Fw
open PySem PySem.Spec PyProof.Rows L2

/-! ### slots stored -/
def wipeE (env : Evn) : List Nat → Evn
  | [] => env
  | i :: r => (wipeE env r).set i .emp
section
variable {π : Type} {R : Rc π} {K : Fg} {W : Wd R} {M M' : Addr → Prop} {σ : L2.St} {env : Evn} {p q : π} {H H' : Hp} {v : V} {d : PyData} {i : Nat}
theorem set_val {α : Type} {l : List α} {i j : Nat} {x y : α} (h : (l.set i x)[j]? = some y) : (i = j ∧ y = x) ∨ (i ≠ j ∧ l[j]? = some y) := by
  by_cases e : i = j
  · subst e
    rw [List.getElem?_set] at h
    simp only [if_true] at h
    split at h
    · exact .inl ⟨rfl, (Option.some.inj h).symm⟩
    · cases h
  · rw [List.getElem?_set_ne e] at h
    exact .inr ⟨e, h⟩
/-- a slot becomes a datum -/
theorem EnvR.setV (E : EnvR K W M σ env p H) (h : Dt K M H v d) : EnvR K W M (σ.set i (some v)) (env.set i (.val d)) p H := by
  refine ⟨by rw [List.length_set, List.length_set]; exact E.len, E.ext, E.at_, E.low, E.pam, E.mtr, E.gho, fun j e he => ?_, fun j e he => ?_, fun j k d1 d2 a h1 h2 h3 h4 => ?_, fun j he => ?_⟩
  · rcases set_val he with ⟨rfl, hz⟩ | ⟨ne, hz⟩
    · cases hz
      have hi : i < σ.length := by
        rw [E.len]
        have z : i < (env.set i (.val d)).length := (List.getElem?_eq_some_iff.mp ‹_›).1
        simpa using z
      exact ⟨v, by rw [List.getElem?_set_self hi], h⟩
    · obtain ⟨u, e1, hu⟩ := E.sl j e hz
      exact ⟨u, by rw [List.getElem?_set_ne ne]; exact e1, hu⟩
  · rcases set_val he with ⟨rfl, hz⟩ | ⟨ne, hz⟩
    · cases hz
    · obtain ⟨a, e1, r⟩ := E.ow j e hz
      exact ⟨a, by rw [List.getElem?_set_ne ne]; exact e1, r⟩
  · rcases set_val h1 with ⟨rfl, z⟩ | ⟨n1, z1⟩
    · cases z
    · rcases set_val h2 with ⟨rfl, z⟩ | ⟨n2, z2⟩
      · cases z
      · rw [List.getElem?_set_ne n1] at h3
        rw [List.getElem?_set_ne n2] at h4
        exact E.dj j k d1 d2 a z1 z2 h3 h4
  · rcases set_val he with ⟨rfl, hz⟩ | ⟨ne, hz⟩
    · cases hz
    · obtain ⟨a, e1, e2⟩ := E.pt j hz
      exact ⟨a, e1, by rw [List.getElem?_set_ne ne]; exact e2⟩
/-- a slot is forgotten -/
theorem EnvR.setN (E : EnvR K W M σ env p H) : EnvR K W M (σ.set i none) (env.set i .emp) p H := by
  refine ⟨by rw [List.length_set, List.length_set]; exact E.len, E.ext, E.at_, E.low, E.pam, E.mtr, E.gho, fun j e he => ?_, fun j e he => ?_, fun j k d1 d2 a h1 h2 h3 h4 => ?_, fun j he => ?_⟩
  · rcases set_val he with ⟨rfl, hz⟩ | ⟨ne, hz⟩
    · cases hz
    · obtain ⟨u, e1, hu⟩ := E.sl j e hz
      exact ⟨u, by rw [List.getElem?_set_ne ne]; exact e1, hu⟩
  · rcases set_val he with ⟨rfl, hz⟩ | ⟨ne, hz⟩
    · cases hz
    · obtain ⟨a, e1, r⟩ := E.ow j e hz
      exact ⟨a, by rw [List.getElem?_set_ne ne]; exact e1, r⟩
  · rcases set_val h1 with ⟨rfl, z⟩ | ⟨n1, z1⟩
    · cases z
    · rcases set_val h2 with ⟨rfl, z⟩ | ⟨n2, z2⟩
      · cases z
      · rw [List.getElem?_set_ne n1] at h3
        rw [List.getElem?_set_ne n2] at h4
        exact E.dj j k d1 d2 a z1 z2 h3 h4
  · rcases set_val he with ⟨rfl, hz⟩ | ⟨ne, hz⟩
    · cases hz
    · obtain ⟨a, e1, e2⟩ := E.pt j hz
      exact ⟨a, e1, by rw [List.getElem?_set_ne ne]; exact e2⟩
theorem EnvR.wipe (E : EnvR K W M σ env p H) : ∀ vs : List Nat, EnvR K W M (L2.wipe σ vs) (wipeE env vs) p H
  | [] => E
  | i :: r => (E.wipe r).setN
/-- a slot gets an object of its own (new, or no longer one's) -/
theorem EnvR.setO {a : Addr} (E : EnvR K W M σ env p H) (h : OwnAt K M H a d) (m : M a) (n : ¬ W.M0 a) (h0 : W.H0 a = none) (apart : ∀ (j : Nat) (e : PyData), j ≠ i → env[j]? = some (.own e) → σ[j]? ≠ some (some (.ref a))) :
    EnvR K W M (σ.set i (some (.ref a))) (env.set i (.own d)) p H := by
  refine ⟨by rw [List.length_set, List.length_set]; exact E.len, E.ext, E.at_, E.low, E.pam, E.mtr, E.gho, fun j e he => ?_, fun j e he => ?_, fun j k d1 d2 b h1 h2 h3 h4 => ?_, fun j he => ?_⟩
  · rcases set_val he with ⟨rfl, hz⟩ | ⟨ne, hz⟩
    · cases hz
    · obtain ⟨u, e1, hu⟩ := E.sl j e hz
      exact ⟨u, by rw [List.getElem?_set_ne ne]; exact e1, hu⟩
  · rcases set_val he with ⟨rfl, hz⟩ | ⟨ne, hz⟩
    · cases hz
      have hi : i < σ.length := by
        rw [E.len]
        have z : i < (env.set i (.own d)).length := (List.getElem?_eq_some_iff.mp he).1
        simpa using z
      exact ⟨a, by rw [List.getElem?_set_self hi], h, m, n, h0⟩
    · obtain ⟨b, e1, r⟩ := E.ow j e hz
      exact ⟨b, by rw [List.getElem?_set_ne ne]; exact e1, r⟩
  · have key : ∀ (j : Nat) (d1 : PyData), (env.set i (.own d))[j]? = some (.own d1) → (σ.set i (some (.ref a)))[j]? = some (some (.ref b)) → (i = j ∧ b = a) ∨ (i ≠ j ∧ env[j]? = some (.own d1) ∧ σ[j]? = some (some (.ref b))) := fun j d1 x y => by
      rcases set_val x with ⟨rfl, _⟩ | ⟨n1, z1⟩
      · rcases set_val y with ⟨_, w⟩ | ⟨nn, _⟩
        · have w' := Option.some.inj w
          cases w'
          exact .inl ⟨rfl, rfl⟩
        · exact absurd rfl nn
      · rw [List.getElem?_set_ne n1] at y
        exact .inr ⟨n1, z1, y⟩
    rcases key j d1 h1 h3 with ⟨e1, e2⟩ | ⟨n1, x1, y1⟩
    · rcases key k d2 h2 h4 with ⟨e3, _⟩ | ⟨n2, x2, y2⟩
      · exact e1.symm.trans e3
      · rw [e2] at y2
        exact absurd y2 (apart k d2 (Ne.symm n2) x2)
    · rcases key k d2 h2 h4 with ⟨e3, e4⟩ | ⟨n2, x2, y2⟩
      · rw [e4] at y1
        exact absurd y1 (apart j d1 (Ne.symm n1) x1)
      · exact E.dj j k d1 d2 b x1 x2 y1 y2
  · rcases set_val he with ⟨rfl, hz⟩ | ⟨ne, hz⟩
    · cases hz
    · obtain ⟨b, e1, e2⟩ := E.pt j hz
      exact ⟨b, e1, by rw [List.getElem?_set_ne ne]; exact e2⟩
end

/-! ### targets -/
/-- the meaning of a target: the slots' new data; the slots that it stores -/
structure GD (K : Fg) (g : TG) (b : PyData → Evn → Option Evn) (is : List Nat) : Prop where
  run : ∀ {π : Type} {R : Rc π} (W : Wd R) (M : Addr → Prop) (σ : L2.St) (env : Evn) (p : π) (H : Hp) (v : V) (d : PyData) (env' : Evn) (Q : L2.St → Hp → Prop), EnvR K W M σ env p H → Dt K M H v d → b d env = some env' →
    (∀ σ', EnvR K W M σ' env' p H → (∀ vs : List Nat, (∀ i ∈ is, i ∈ vs) → L2.wipe σ' vs = L2.wipe σ vs) → Q σ' H) → g v σ H Q
def bName (i : Nat) : PyData → Evn → Option Evn := fun d env => some (env.set i (.val d))
theorem wipe_get {σ : L2.St} {j : Nat} : ∀ {vs : List Nat}, (L2.wipe σ vs)[j]? = if j ∈ vs then (σ[j]?).map fun _ => none else σ[j]?
  | [] => by simp [L2.wipe]
  | i :: r => by
    show ((L2.wipe σ r).set i none)[j]? = _
    by_cases e : i = j
    · subst e
      rw [List.getElem?_set]
      have h := wipe_get (σ := σ) (j := i) (vs := r)
      simp only [if_true, List.mem_cons, true_or]
      by_cases l : i < σ.length
      · rw [if_pos (by rw [L2.wipe_length]; exact l), List.getElem?_eq_getElem l]
        rfl
      · rw [if_neg (by rw [L2.wipe_length]; exact l), List.getElem?_eq_none_iff.mpr (by omega)]
        rfl
    · rw [List.getElem?_set_ne e, wipe_get]
      have : (j ∈ i :: r) ↔ j ∈ r := by
        rw [List.mem_cons]
        exact ⟨fun z => z.elim (fun w => absurd w.symm e) id, .inr⟩
      by_cases k : j ∈ r
      · rw [if_pos k, if_pos (this.mpr k)]
      · rw [if_neg k, if_neg (fun z => k (this.mp z))]
theorem wipe_set {σ : L2.St} {i : Nat} {x : Option V} {vs : List Nat} (h : i ∈ vs) : L2.wipe (σ.set i x) vs = L2.wipe σ vs := by
  apply List.ext_getElem?
  intro j
  rw [wipe_get, wipe_get]
  by_cases k : j ∈ vs
  · rw [if_pos k, if_pos k]
    by_cases e : i = j
    · subst e
      rw [List.getElem?_set]
      by_cases l : i < σ.length
      · simp [l]
      · simp [l]
    · rw [List.getElem?_set_ne e]
  · have e : i ≠ j := fun z => k (z ▸ h)
    rw [if_neg k, if_neg k, List.getElem?_set_ne e]
theorem gd_name {K : Fg} {i : Nat} : GD K (gName i) (bName i) [i] := ⟨fun W M σ env p H v d env' Q E h e q => by
  have e' : env.set i (.val d) = env' := Option.some.inj e
  subst e'
  exact q _ (E.setV h) fun vs z => wipe_set (z i (by simp))⟩
/-- targets one after another, from a list of data -/
structure GDs (K : Fg) (g : TGs) (b : List PyData → Evn → Option Evn) (is : List Nat) : Prop where
  run : ∀ {π : Type} {R : Rc π} (W : Wd R) (M : Addr → Prop) (σ : L2.St) (env : Evn) (p : π) (H : Hp) (v : List V) (d : List PyData) (env' : Evn) (Q : L2.St → Hp → Prop), EnvR K W M σ env p H → DtAll K M H v d → b d env = some env' →
    (∀ σ', EnvR K W M σ' env' p H → (∀ vs : List Nat, (∀ i ∈ is, i ∈ vs) → L2.wipe σ' vs = L2.wipe σ vs) → Q σ' H) → g v σ H Q
def bNil : List PyData → Evn → Option Evn
  | [], env => some env
  | _ :: _, _ => none
def bCons (b : PyData → Evn → Option Evn) (bs : List PyData → Evn → Option Evn) : List PyData → Evn → Option Evn
  | [], _ => none
  | d :: ds, env => (b d env).bind (bs ds)
theorem gds_nil {K : Fg} : GDs K gNil bNil [] := ⟨fun W M σ env p H v d env' Q E h e q => by
  cases h with
  | nil =>
    cases e
    exact ⟨rfl, q σ E fun _ _ => rfl⟩
  | cons _ _ => cases e⟩
theorem gds_cons {K : Fg} {g : TG} {gs : TGs} {b : PyData → Evn → Option Evn} {bs : List PyData → Evn → Option Evn} {i1 i2 : List Nat} (h1 : GD K g b i1) (h2 : GDs K gs bs i2) : GDs K (gCons g gs) (bCons b bs) (i1 ++ i2) := ⟨fun W M σ env p H v d env' Q E h e q => by
  cases h with
  | nil => cases e
  | cons hd tl =>
    rename_i v0 vs d0 ds
    have e' : (b d0 env).bind (bs ds) = some env' := e
    cases eb : b d0 env with
    | none => rw [eb] at e'; cases e'
    | some env1 =>
      rw [eb] at e'
      refine ⟨v0, vs, rfl, h1.run W M σ env p H v0 d0 env1 _ E hd eb fun σ1 E1 w1 => ?_⟩
      refine h2.run W M σ1 env1 p H vs ds env' _ E1 tl e' fun σ2 E2 w2 => ?_
      exact q σ2 E2 fun us z => (w2 us fun i hi => z i (List.mem_append_right _ hi)).trans (w1 us fun i hi => z i (List.mem_append_left _ hi))⟩
def bTup (n : Nat) (bs : List PyData → Evn → Option Evn) : PyData → Evn → Option Evn
  | .tuple ds, env => if ds.length = n then bs ds env else none
  | _, _ => none
theorem gd_tup {K : Fg} {gs : TGs} {bs : List PyData → Evn → Option Evn} {n : Nat} {is : List Nat} (h1 : GDs K gs bs is) : GD K (gTup K n gs) (bTup n bs) is := ⟨fun W M σ env p H v d env' Q E h e q => by
  cases d with
  | tuple ds =>
    obtain ⟨a, xs, rfl, hp, dx⟩ := h.tuple_of
    have e' : (if ds.length = n then bs ds env else none) = some env' := e
    by_cases k : ds.length = n
    · rw [if_pos k] at e'
      exact ⟨a, xs, rfl, hp, dx.length.trans k, h1.run W M σ env p H xs ds env' Q E dx e' q⟩
    · rw [if_neg k] at e'
      cases e'
  | _ => cases e⟩
end Fw
set_option maxHeartbeats 4000000
namespace Fw
open PySem PySem.Spec PyProof.Rows L2

/-! ### what is walked -/
/-- the walk J gives the data ds, one a turn, as long as the facts gs stand -/
def IterOk (K : Fg) (J : It) (gs : List (V × PyData)) (ds : List PyData) : Prop :=
  ∀ (M : Addr → Prop) (H : Hp), (∀ a, M a → ∃ o, H a = some o) → (∀ q ∈ gs, Dt K M H q.1 q.2) → ∀ i : Nat,
    (i < ds.length → J.go i H ∧ ∀ x H', J.yld i H x H' → ∃ d, ds[i]? = some d ∧ Same H H' ∧ Dt K M H' x d) ∧ (ds.length ≤ i → J.stop i H)
abbrev SI (π : Type) := Evn → Ma π (List PyData)
def tW {π : Type} {R : Rc π} (K : Fg) (mg : Str → Option Value) (W : Wd R) (wx : WX) (f : SI π) : TI := fun σ H R =>
  ∃ M env p, EnvR K W M σ env p H ∧ postX K mg W M σ env H wx (fun ds _ H' => ∀ J gs, IterOk K J gs ds → (∀ q ∈ gs, Dt K M H' q.1 q.2) → R J H') (f env p)
abbrev II {π : Type} (R : Rc π) (X : Cx) (wx : WX) (tg iter : Expr) (f : SI π) : Prop := ∀ W : Wd R, PI X tg iter (tW X.K X.mg W wx f)
theorem _root_.L2.PI.imp {X : Cx} {tg e : Expr} {t t' : TI} (h : PI X tg e t) (i : ∀ σ H Q, t' σ H Q → t σ H Q) : PI X tg e t' := ⟨fun pins s σ H Q I q => h.run pins s σ H Q I (i σ H Q q)⟩
theorem _root_.L2.PI.or {X : Cx} {tg e : Expr} {t t' : TI} (h : PI X tg e t) (h' : PI X tg e t') : PI X tg e (fun σ H R => t σ H R ∨ t' σ H R) := ⟨fun pins s σ H Q I q => q.elim (h.run pins s σ H Q I) (h'.run pins s σ H Q I)⟩
theorem it_list {K : Fg} {a : Addr} {ds : List PyData} : IterOk K (Itl K a) [(.ref a, .list ds)] ds := by
  intro M H mt hg i
  obtain ⟨b, xs, eb, hp, dx⟩ := Dt.list_of (hg _ (List.mem_singleton.mpr rfl))
  cases eb
  refine ⟨fun hi => ?_, fun hi => ⟨xs, SqL.of hp, by rw [dx.length]; exact hi⟩⟩
  obtain ⟨v, e1, dv⟩ := dx.get (List.getElem?_eq_getElem hi)
  exact ⟨⟨xs, v, SqL.of hp, e1⟩, fun x H' ⟨eH, hx⟩ => by
    subst eH
    have z := hx xs (SqL.of hp)
    rw [e1] at z
    cases z
    exact ⟨_, List.getElem?_eq_getElem hi, Same.refl _, dv⟩⟩
theorem it_tup {K : Fg} {a : Addr} {ds : List PyData} : IterOk K (Itt K a) [(.ref a, .tuple ds)] ds := by
  intro M H mt hg i
  obtain ⟨b, xs, eb, hp, dx⟩ := Dt.tuple_of (hg _ (List.mem_singleton.mpr rfl))
  cases eb
  refine ⟨fun hi => ?_, fun hi => ⟨xs, hp, by rw [dx.length]; exact hi⟩⟩
  obtain ⟨v, e1, dv⟩ := dx.get (List.getElem?_eq_getElem hi)
  exact ⟨⟨xs, v, hp, e1⟩, fun x H' ⟨eH, hx⟩ => by
    subst eH
    have z := hx xs hp
    rw [e1] at z
    cases z
    exact ⟨_, List.getElem?_eq_getElem hi, Same.refl _, dv⟩⟩
def signs (z : Str) : List PyData := z.cps.toList.map fun c => .str ⟨#[c]⟩
theorem it_str {K : Fg} {z : Str} : IterOk K (Its z) [] (signs z) := by
  intro M H mt hg i
  have hl : (signs z).length = z.cps.size := by unfold signs; rw [List.length_map, Array.length_toList]
  refine ⟨fun hi => ⟨by rw [hl] at hi; exact hi, fun x H' ⟨eH, c, hc, ex⟩ => ?_⟩, fun hi => by rw [hl] at hi; exact hi⟩
  subst eH ex
  refine ⟨.str ⟨#[c]⟩, ?_, Same.refl _, .str _⟩
  unfold signs
  rw [List.getElem?_map, Array.getElem?_toList, hc]
  rfl
def rints (lo : Int) (n : Nat) : List PyData := (List.range n).map fun (k : Nat) => .int (lo + (k : Int))
theorem it_range {K : Fg} {lo : Int} {n : Nat} : IterOk K (Itr lo n) [] (rints lo n) := by
  intro M H mt hg i
  have hl : (rints lo n).length = n := by unfold rints; rw [List.length_map, List.length_range]
  refine ⟨fun hi => ⟨by rw [hl] at hi; exact hi, fun x H' ⟨eH, ex⟩ => ?_⟩, fun hi => by rw [hl] at hi; exact hi⟩
  subst eH ex
  rw [hl] at hi
  refine ⟨.int (lo + i), ?_, Same.refl _, .int _⟩
  unfold rints
  rw [List.getElem?_map, List.getElem?_range hi]
  rfl
def enums (ds : List PyData) : List PyData := (List.range ds.length).map fun (k : Nat) => .tuple [.int (k : Int), ds.getD k .none]
theorem it_enum {K : Fg} {a : Addr} {ds : List PyData} : IterOk K (Ite K a) [(.ref a, .list ds)] (enums ds) := by
  intro M H mt hg i
  obtain ⟨b, xs, eb, hp, dx⟩ := Dt.list_of (hg _ (List.mem_singleton.mpr rfl))
  cases eb
  have hl : (enums ds).length = ds.length := by unfold enums; rw [List.length_map, List.length_range]
  refine ⟨fun hi => ?_, fun hi => ⟨xs, SqL.of hp, by rw [dx.length]; rw [hl] at hi; exact hi⟩⟩
  rw [hl] at hi
  obtain ⟨v, e1, dv⟩ := dx.get (List.getElem?_eq_getElem hi)
  refine ⟨⟨xs, v, SqL.of hp, e1⟩, fun x H' ⟨T, y, ex, nT, eH, hx⟩ => ?_⟩
  subst ex eH
  have z := hx xs (SqL.of hp)
  rw [e1] at z
  cases z
  have s : Same H (upd H T (.tup [.int (i : Nat), v])) := same_new nT
  refine ⟨.tuple [.int (i : Int), ds.getD i .none], ?_, s, .tup (nomark_h mt nT) upd_same (.cons (.int _) (.cons ?_ .nil))⟩
  · unfold enums
    rw [List.getElem?_map, List.getElem?_range hi]
    rfl
  · have ed : ds.getD i .none = ds[i] := by rw [List.getD_eq_getElem?_getD, List.getElem?_eq_getElem hi]; rfl
    rw [ed]
    exact dv.go (Go.of_same s)

section
variable {π : Type} {R : Rc π} {X : Cx} {wx : WX} {tg a b : Expr} {fa fb : SE π} {p pos : Pos}
/-- a list, a tuple, a text -/
def itemsOf : PyData → Option (List PyData)
  | .list ds => some ds
  | .tuple ds => some ds
  | .str z => some (signs z)
  | _ => none
def sSeq (f : SE π) : SI π := fun env => bnd (f env) fun r => ofO (r.esc.bind itemsOf)
theorem ii_seq (h : IE R X wx a fa) : II R X wx tg a (sSeq fa) := fun W => ((pi_list (tg := tg) (h W)).or ((pi_tup (tg := tg) (h W)).or (pi_str (tg := tg) (h W)))).imp fun σ H R ⟨M, env, p, E, q⟩ => by
  cases e0 : fa env p with
  | no =>
    unfold sSeq bnd at q
    rw [e0] at q
    exact q.elim
  | ex x p1 =>
    refine .inl (tE_of E (post_X.mpr ?_))
    unfold sSeq bnd at q
    rw [e0] at q ⊢
    exact q
  | ok r p1 =>
    have q' : postX X.K X.mg W M σ env H wx (fun ds _ H' => ∀ J gs, IterOk X.K J gs ds → (∀ q ∈ gs, Dt X.K M H' q.1 q.2) → R J H') (ofO (r.esc.bind itemsOf) p1) := by
      unfold sSeq at q
      rw [show bnd (fa env) (fun r => ofO (r.esc.bind itemsOf)) p = ofO (r.esc.bind itemsOf) p1 by unfold bnd; rw [e0]] at q
      exact q
    cases ee : r.esc with
    | none => rw [ee] at q'; exact q'.elim
    | some d =>
      rw [ee] at q'
      cases d with
      | list ds =>
        refine .inl (tE_of E ?_)
        rw [e0]
        intro v H1 g1 at1 vr
        have dv := vr.esc ee
        obtain ⟨a, xs, rfl, hp, dx⟩ := dv.list_of
        exact ⟨a, rfl, ⟨xs, SqL.of hp⟩, q' H1 g1 at1 _ _ it_list fun z hz => by
          rw [List.mem_singleton.mp hz]
          exact dv⟩
      | tuple ds =>
        refine .inr (.inl (tE_of E ?_))
        rw [e0]
        intro v H1 g1 at1 vr
        have dv := vr.esc ee
        obtain ⟨a, xs, rfl, hp, dx⟩ := dv.tuple_of
        exact ⟨a, rfl, ⟨xs, hp⟩, q' H1 g1 at1 _ _ it_tup fun z hz => by
          rw [List.mem_singleton.mp hz]
          exact dv⟩
      | str z =>
        refine .inr (.inr (tE_of E ?_))
        rw [e0]
        intro v H1 g1 at1 vr
        have dv := vr.esc ee
        exact ⟨z, dv.str_of, q' H1 g1 at1 _ _ it_str fun z hz => absurd hz (by simp)⟩
      | _ => exact q'.elim
/-- range(n), range(a, b) -/
def small62 (i : Int) : Bool := decide (-(2 ^ 62) ≤ i) && decide (i < 2 ^ 62)
def rng1 : List Vd → Option (List PyData)
  | [a] => match a.d with
    | .int j => if small62 j then some (rints 0 j.toNat) else none
    | _ => none
  | _ => none
def rng2 : List Vd → Option (List PyData)
  | [a, b] => match a.d, b.d with
    | .int i, .int j => if small62 i && small62 j then some (rints i (j - i).toNat) else none
    | _, _ => none
  | _ => none
theorem small62_of {i : Int} (h : small62 i = true) : -(2 ^ 62) ≤ i ∧ i < 2 ^ 62 := by
  obtain ⟨h1, h2⟩ := Bool.and_eq_true_iff.mp h
  exact ⟨of_decide_eq_true h1, of_decide_eq_true h2⟩
def sRng1 (fs : SA π) : SI π := fun env => bnd (fs env) fun rs => ofO (rng1 rs)
def sRng2 (fs : SA π) : SI π := fun env => bnd (fs env) fun rs => ofO (rng2 rs)
theorem ii_rng1 {fs : SA π} (hg : Gl X "range") (hm : X.mg "range" = none) (h : IA R X wx [a] fs) (hs : starEach [a] X.env = [(false, eval a X.env)] := by rfl) : II R X wx tg (.Call (.Name "range" p) [a] [] pos) (sRng1 fs) := fun W =>
  (pi_range1 hg hm (h W) hs).imp fun σ H R ⟨M, env, p, E, q⟩ => by
    refine ⟨M, env, p, E, postA_X.mpr (postX_bnd E q fun rs p1 H1 g1 E1 q1 vs pr => ?_)⟩
    cases er : rng1 rs with
    | none => rw [er] at q1; exact q1.elim
    | some ds =>
      rw [er] at q1
      match rs, pr, er with
      | [r], pr, er =>
        obtain ⟨v, rfl, vr⟩ := pair1 pr
        have er' : (match r.d with | .int j => if small62 j then some (rints 0 j.toNat) else none | _ => none) = some ds := er
        cases ed : r.d with
        | int j =>
          rw [ed] at er'
          obtain ⟨k, rfl⟩ := if_some er'
          obtain ⟨k1, k2⟩ := small62_of k
          exact ⟨j, by rw [vr.isI ed], k1, k2, q1 H1 (Go.refl _ _) E1.at_ _ [] it_range fun _ z => absurd z (by simp)⟩
        | _ => rw [ed] at er'; cases er'
      | [], _, er => cases er
      | _ :: _ :: _, _, er => cases er
theorem ii_rng2 {fs : SA π} (hg : Gl X "range") (hm : X.mg "range" = none) (h : IA R X wx [a, b] fs) (hs : starEach [a, b] X.env = [(false, eval a X.env), (false, eval b X.env)] := by rfl) (hs2 : starEach [b] X.env = [(false, eval b X.env)] := by rfl) :
    II R X wx tg (.Call (.Name "range" p) [a, b] [] pos) (sRng2 fs) := fun W => (pi_range2 hg hm (h W) hs hs2).imp fun σ H R ⟨M, env, p, E, q⟩ => by
    refine ⟨M, env, p, E, postA_X.mpr (postX_bnd E q fun rs p1 H1 g1 E1 q1 vs pr => ?_)⟩
    cases er : rng2 rs with
    | none => rw [er] at q1; exact q1.elim
    | some ds =>
      rw [er] at q1
      match rs, pr, er with
      | [r, r2], pr, er =>
        obtain ⟨v, w, rfl, vr, wr⟩ := pair2 pr
        have er' : (match r.d, r2.d with | .int i, .int j => if small62 i && small62 j then some (rints i (j - i).toNat) else none | _, _ => none) = some ds := er
        cases ed : r.d with
        | int i =>
          cases ee : r2.d with
          | int j =>
            rw [ed, ee] at er'
            obtain ⟨k, rfl⟩ := if_some er'
            obtain ⟨k1, k2⟩ := Bool.and_eq_true_iff.mp k
            obtain ⟨k3, k4⟩ := small62_of k1
            obtain ⟨k5, k6⟩ := small62_of k2
            exact ⟨i, j, by rw [vr.isI ed, wr.isI ee], ⟨k3, k4, k5, k6⟩, q1 H1 (Go.refl _ _) E1.at_ _ [] it_range fun _ z => absurd z (by simp)⟩
          | _ => rw [ed, ee] at er'; cases er'
        | _ => rw [ed] at er'; cases er'
      | [], _, er => cases er
      | [_], _, er => cases er
      | _ :: _ :: _ :: _, _, er => cases er
/-- enumerate(xs) -/
def sEnum (f : SE π) : SI π := fun env => bnd (f env) fun r => ofO (r.esc.bind fun d => match d with | .list ds => some (enums ds) | _ => none)
theorem ii_enum {elts : List Expr} {kk : Nat} {tpos : Pos} (hg : Gl X "enumerate") (hm : X.mg "enumerate" = none) (h : IE R X wx a fa) (hs : starEach [a] X.env = [(false, eval a X.env)] := by rfl) (hs2 : starEach [a] X.env = (false, eval a X.env) :: starEach [] X.env := by rfl) :
    II R X wx (.Tuple elts kk tpos) (.Call (.Name "enumerate" p) [a] [] pos) (sEnum fa) := fun W => (pi_enum hg hm (pa_cons (h W) pa_nil hs2) hs).imp fun σ H R ⟨M, env, p, E, q⟩ => by
  refine tE_of E (post_X.mpr (postX_bnd E q fun r p1 H1 g1 E1 q1 v vr => ?_))
  cases ee : r.esc with
  | none => rw [ee] at q1; exact q1.elim
  | some d =>
    rw [ee] at q1
    cases d with
    | list ds =>
      have dv := vr.esc ee
      obtain ⟨a, xs, rfl, hp, dx⟩ := dv.list_of
      exact ⟨a, xs, rfl, SqL.of hp, q1 H1 (Go.refl _ _) E1.at_ _ _ it_enum fun z hz => by
        rw [List.mem_singleton.mp hz]
        exact dv⟩
    | _ => exact q1.elim
end
end Fw
set_option maxHeartbeats 4000000
namespace Fw
open PySem PySem.Spec PyProof.Rows L2

/-! ### list comprehensions -/
/-- no exception is wanted -/
abbrev noX : WX := fun _ _ _ _ => False
def sYes {π : Type} : ST π := fun _ => ret true
abbrev ITs {π : Type} (R : Rc π) (X : Cx) (wx : WX) (ifs : List Expr) (f : ST π) : Prop := ∀ W : Wd R, PTs X ifs (tT X.K X.mg W wx f)
section
variable {π : Type} {R : Rc π}
/-- the block's turns: bind the target, test, append -/
def lcGo (b : PyData → Evn → Option Evn) (t : ST π) (e : SE π) (env : Evn) : List PyData → List PyData → Ma π (List PyData)
  | [], acc => ret acc
  | d :: r, acc => bnd (ofO (b d env)) fun env1 => bnd (t env1) fun k => if k then bnd (e env1) fun v => bnd (ofO v.esc) fun x => if acc.length < line then lcGo b t e env r (acc ++ [x]) else fail else lcGo b t e env r acc
/-- what is raised is not meant -/
def quiet {α : Type} (m : Ma π α) : Ma π α := fun p => match m p with
  | .ok a q => .ok a q
  | _ => .no
def sLc (src : SI π) (b : PyData → Evn → Option Evn) (t : ST π) (e : SE π) (vs : List Nat) : SE π := fun env => bnd (src env) fun ds => bnd (quiet (lcGo b t e (wipeE env vs) ds [])) fun acc => ret (.fr (.list acc))
theorem bnd_ok {α β : Type} {m : Ma π α} {f : α → Ma π β} {p q : π} {b : β} (h : bnd m f p = .ok b q) : ∃ a p1, m p = .ok a p1 ∧ f a p1 = .ok b q := by
  unfold bnd at h
  cases e : m p with
  | ok a p1 => rw [e] at h; exact ⟨a, p1, rfl, h⟩
  | ex _ _ => rw [e] at h; cases h
  | no => rw [e] at h; cases h
theorem ofO_ok {α : Type} {o : Option α} {p q : π} {a : α} (h : (ofO o : Ma π α) p = .ok a q) : o = some a ∧ p = q := by
  cases o with
  | none => cases h
  | some x =>
    have h' : Oc.ok x p = Oc.ok a q := h
    cases h'
    exact ⟨rfl, rfl⟩
theorem ret_ok {α : Type} {x : α} {p q : π} {a : α} (h : (ret x : Ma π α) p = .ok a q) : x = a ∧ p = q := by
  have h' : Oc.ok x p = Oc.ok a q := h
  cases h'
  exact ⟨rfl, rfl⟩
theorem quiet_ok {α : Type} {m : Ma π α} {p q : π} {a : α} (h : quiet m p = .ok a q) : m p = .ok a q := by
  unfold quiet at h
  cases e : m p with
  | ok x p1 => rw [e] at h; exact h
  | ex _ _ => rw [e] at h; cases h
  | no => rw [e] at h; cases h
theorem quiet_cases {α : Type} (m : Ma π α) (p : π) : (∃ a q, quiet m p = .ok a q ∧ m p = .ok a q) ∨ quiet m p = .no := by
  unfold quiet
  cases m p with
  | ok x p1 => exact .inl ⟨x, p1, rfl, rfl⟩
  | ex _ _ => exact .inr rfl
  | no => exact .inr rfl

variable {X : Cx} {wx : WX} {elt tg iter : Expr} {ifs : List Expr} {scope : Scope} {own : List (Str × Nat)} {pos spos : Pos} {g : TG} {b : PyData → Evn → Option Evn} {is : List Nat} {src : SI π} {t : ST π} {e : SE π}
/-- an appended item, in a list that the frame does not know -/
theorem EnvR.app {K : Fg} {W : Wd R} {M : Addr → Prop} {σ : L2.St} {env : Evn} {p : π} {H : Hp} {D : Addr} {o o' : HO} (E : EnvR K W (fun a => M a ∨ a = D) σ env p H) (hM : ¬ M D) (hD : H D = some o) (h0 : W.H0 D = none) (ow : ∀ (j : Nat) (d : PyData), env[j]? = some (.own d) → σ[j]? ≠ some (some (.ref D)))
    (at' : W.At W.pa p (upd H D o')) : EnvR K W (fun a => M a ∨ a = D) σ env p (upd H D o') := by
  have g : Go (fun a => M a ∨ a = D) H (upd H D o') := fun a u e n => by
    rw [upd_ne (fun z => n (.inr z))]
    exact e
  refine ⟨E.len, fun a u e n => ?_, at', E.low, E.pam, fun a m => ?_, fun r hr => (E.gho r hr).go g, fun j d e => ?_, fun j d e => ?_, E.dj, E.pt⟩
  · have z : a ≠ D := fun q => by
      rw [q, h0] at e
      cases e
    rw [upd_ne z]
    exact E.ext a u e n
  · by_cases z : a = D
    · exact ⟨o', by rw [z]; exact upd_same⟩
    · obtain ⟨u, e⟩ := E.mtr a m
      exact ⟨u, by rw [upd_ne z]; exact e⟩
  · obtain ⟨v, e1, h⟩ := E.sl j d e
    exact ⟨v, e1, h.go g⟩
  · obtain ⟨a, e1, h, m, n, z⟩ := E.ow j d e
    have ne : a ≠ D := fun q => ow j d e (by rw [e1, q])
    exact ⟨a, e1, h.go g fun u r => by rw [upd_ne ne]; exact r, m, n, z⟩
theorem lc_imp {W : Wd R} (hb : GD X.K g b is) (hv : ∀ i ∈ is, i ∈ own.map (·.2)) : ∀ (σ : L2.St) (H : Hp) (Q : VK), tE X.K X.mg W wx (sLc src b t e (own.map (·.2))) σ H Q → L2.tLc (tW X.K X.mg W wx src) g (tT X.K X.mg W noX t) (tE X.K X.mg W noX e) (own.map (·.2)) σ H Q := fun σ H Q ⟨M, env, p, E, q⟩ => by
    refine ⟨M, env, p, E, postX_bnd E (post_X.mp q) fun ds p1 H1 g1 E1 q1 J gs iok hgs => ?_⟩
    intro D nD
    -- the block's turns come to their end
    rcases quiet_cases (lcGo b t e (wipeE env (own.map (·.2))) ds []) p1 with ⟨accf, pf, eq, el⟩ | en
    · have fin : ∀ H', GoP W H1 H' → W.At W.pa pf H' → ∀ v, VR X.K W M σ env pf H' v (.fr (.list accf)) → Q v H' := by
        have z : bnd (quiet (lcGo b t e (wipeE env (own.map (·.2))) ds [])) (fun acc => ret (Vd.fr (.list acc))) p1 = .ok (.fr (.list accf)) pf := by
          unfold bnd
          rw [eq]
          rfl
        rw [z] at q1
        exact q1
      have nM : ¬ M D := nomark_new E1 nD
      have n0 : W.H0 D = none := by
        cases z : W.H0 D with
        | none => rfl
        | some o =>
          by_cases y : D ∈ W.pa
          · exact absurd (E1.low D (E1.pam D y)) nM
          · rw [E1.ext D o z y] at nD
            cases nD
      have nP : D ∉ W.pa := fun y => nM (E1.low D (E1.pam D y))
      have own' : ∀ {σ' : L2.St} {env' : Evn} {p' : π} {H' : Hp}, EnvR X.K W M σ' env' p' H' → H' D = none → ∀ (j : Nat) (d : PyData), env'[j]? = some (.own d) → σ'[j]? ≠ some (some (.ref D)) := fun {σ' env' p' H'} E' n j d z y => by
        obtain ⟨a, e1, _, m, _⟩ := E'.ow j d z
        rw [e1] at y
        cases y
        exact nomark_new E' n m
      have ownD := own' E1 nD
      -- W: what is left
      refine ⟨fun i m H' => m = ds.length - i ∧ i ≤ ds.length ∧ ∃ (pi : π) (acc : List PyData) (xs : List V), EnvR X.K W (fun a => M a ∨ a = D) σ env pi H' ∧ (∀ z ∈ gs, Dt X.K (fun a => M a ∨ a = D) H' z.1 z.2) ∧
        H' D = some (.lst xs) ∧ DtAll X.K (fun a => M a ∨ a = D) H' xs acc ∧ GoP W H1 H' ∧ lcGo b t e (wipeE env (own.map (·.2))) (ds.drop i) acc pi = .ok accf pf, ⟨ds.length, rfl, Nat.zero_le _, p1, [], [], ?_, ?_, upd_same, .nil, Go.of_same (same_new nD), el⟩, ?_⟩
      · exact E1.mark nD
      · exact fun z hz => ((hgs z hz).more fun a y => y.elim .inl fun w => .inr (by rw [w]; exact nD)).go (Go.of_same (same_new nD))
      · rintro i m H' ⟨rfl, hle, pi, acc, xs, Ei, hgi, hD, hacc, gi, eli⟩
        have io := iok (fun a => M a ∨ a = D) H' Ei.mtr hgi i
        by_cases hlt : i < ds.length
        · refine .inr ⟨(io.1 hlt).1, fun H2 => ∃ m', m' = ds.length - (i + 1) ∧ i + 1 ≤ ds.length ∧ ∃ (pi : π) (acc : List PyData) (xs : List V), EnvR X.K W (fun a => M a ∨ a = D) σ env pi H2 ∧ (∀ z ∈ gs, Dt X.K (fun a => M a ∨ a = D) H2 z.1 z.2) ∧
            H2 D = some (.lst xs) ∧ DtAll X.K (fun a => M a ∨ a = D) H2 xs acc ∧ GoP W H1 H2 ∧ lcGo b t e (wipeE env (own.map (·.2))) (ds.drop (i + 1)) acc pi = .ok accf pf, fun H2 ⟨m', em, z⟩ => ⟨m', by omega, em, z⟩, fun x H2 y => ?_⟩
          obtain ⟨d, ed, sm, dx⟩ := (io.1 hlt).2 x H2 y
          have edd : ds.drop i = d :: ds.drop (i + 1) := by
            rw [List.drop_eq_getElem_cons hlt]
            rw [List.getElem?_eq_getElem hlt] at ed
            cases ed
            rfl
          rw [edd] at eli
          obtain ⟨env1, p2, e0, eli⟩ := bnd_ok (show bnd (ofO (b d (wipeE env (own.map (·.2))))) _ pi = _ from eli)
          obtain ⟨e1, rfl⟩ := ofO_ok e0
          obtain ⟨k, p3, et, eli⟩ := bnd_ok eli
          have E2 : EnvR X.K W (fun a => M a ∨ a = D) σ env pi H2 := Ei.same sm
          refine hb.run W _ _ _ pi H2 x d env1 _ (E2.wipe (own.map (·.2))) dx e1 fun σ2 E3 w2 => ?_
          refine ⟨?_, _, env1, pi, E3, ?_⟩
          · rw [w2 _ hv]
            apply List.ext_getElem?
            intro j
            rw [wipe_get, wipe_get]
            by_cases kk : j ∈ own.map (·.2)
            · rw [if_pos kk, if_pos kk]
              cases σ[j]? <;> rfl
            · rw [if_neg kk, if_neg kk]
          · rw [et]
            intro H3 g3 at3
            -- from here on: behind the test
            have gM3 : Go (fun a => M a ∨ a = D) H2 H3 := E2.goM g3
            have gall : GoP W H1 H3 := (gi.trans (Go.of_same sm)).trans g3
            cases k with
            | false =>
              exact ⟨_, rfl, hlt, p3, acc, xs, E2.go g3 at3, fun z hz => ((hgi z hz).go (Go.of_same sm)).go gM3, g3 _ _ (sm _ _ hD) nP, (hacc.go (Go.of_same sm)).go gM3, gall, eli⟩
            | true =>
              obtain ⟨v, p4, ee, eli⟩ := bnd_ok (show bnd (e env1) _ p3 = _ from eli)
              obtain ⟨x', p5, ex0, eli⟩ := bnd_ok eli
              obtain ⟨ex, rfl⟩ := ofO_ok ex0
              refine ⟨_, env1, p3, E3.go g3 at3, ?_⟩
              rw [ee]
              intro y H4 g4 at4 vr
              have E4 : EnvR X.K W (fun a => M a ∨ a = D) σ env p4 H4 := (E2.go g3 at3).go g4 at4
              have gM4 : Go (fun a => M a ∨ a = D) H3 H4 := (E2.go g3 at3).goM g4
              have dv := vr.esc ex
              have hD4 : H4 D = some (.lst xs) := g4 _ _ (g3 _ _ (sm _ _ hD) nP) nP
              have hacc4 : DtAll X.K (fun a => M a ∨ a = D) H4 xs acc := ((hacc.go (Go.of_same sm)).go gM3).go gM4
              by_cases kl : acc.length < line
              · rw [if_pos kl] at eli
                have gD : Go (fun a => M a ∨ a = D) H4 (upd H4 D (.lst (xs ++ [y]))) := fun a u z n => by
                  rw [upd_ne (fun w => n (.inr w))]
                  exact z
                have ownW : ∀ (j : Nat) (d : PyData), env[j]? = some (.own d) → σ[j]? ≠ some (some (.ref D)) := ownD
                refine ⟨xs, hD4, by rw [line_eq, hacc4.length]; exact kl, _, rfl, hlt, p4, acc ++ [x'], xs ++ [y], ?_, fun z hz => ((((hgi z hz).go (Go.of_same sm)).go gM3).go gM4).go gD, upd_same, (hacc4.go gD).append (.cons (dv.go gD) .nil), ?_, eli⟩
                · exact E4.app nM hD4 n0 ownW (W.updN nP E4.at_)
                · intro a u z n
                  have w : a ≠ D := ne_of_none z nD
                  rw [upd_ne w]
                  exact (gall.trans g4) a u z n
              · rw [if_neg kl] at eli
                cases eli
        · have ei : i = ds.length := by omega
          subst ei
          refine .inl ⟨io.2 (Nat.le_refl _), ?_⟩
          rw [List.drop_length] at eli
          obtain ⟨ea, ep⟩ := ret_ok eli
          subst ea ep
          refine fin H' gi Ei.at_ _ ⟨D, rfl, nM, n0, ⟨xs, hD, hacc.less fun a z => .inl z⟩, Ei, ⟨xs, hD, hacc⟩⟩
    · exfalso
      have z : bnd (quiet (lcGo b t e (wipeE env (own.map (·.2))) ds [])) (fun acc => ret (Vd.fr (.list acc))) p1 = .no := by
        unfold bnd
        rw [en]
      rw [z] at q1
      exact q1
theorem ie_lc (hc : X.calm = true) (hN : X.N.Nodup) (hi : II R X wx tg iter src) (ok : BlkOk X.N X.env.scope scope own)
    (hg : ∀ (s : Shared) (H : Hp) (C : Addr) (cl : List (Str × Addr)) (fp : List Addr), PG (X.blk s H scope (compEnvC scope cl C X.env) fp) tg g) (hb : GD X.K g b is) (hv : ∀ i ∈ is, i ∈ own.map (·.2))
    (ht : ∀ (s : Shared) (H : Hp) (C : Addr) (cl : List (Str × Addr)) (fp : List Addr), ITs R (X.blk s H scope (compEnvC scope cl C X.env) fp) noX ifs t)
    (he : ∀ (s : Shared) (H : Hp) (C : Addr) (cl : List (Str × Addr)) (fp : List Addr), IE R (X.blk s H scope (compEnvC scope cl C X.env) fp) noX elt e)
    (hs : ∀ x, foldedSetIterable iter X.env x = pure x := by intro _; rfl) : IE R X wx (.ListComp elt [⟨tg, iter, ifs, 0⟩] scope pos) (sLc src b t e (own.map (·.2))) := fun W =>
  (pe_lc (tt := tT X.K X.mg W noX t) (te := tE X.K X.mg W noX e) hc hN (hi W) ok hg (fun s H C cl fp => ht s H C cl fp W) (fun s H C cl fp => he s H C cl fp W) hs).imp (lc_imp hb hv)
/-- x = [.. for ..] as a statement: what it reads -/
theorem lc_set {i : Nat} {y : Str} {py : Pos} (hc : X.calm = true) (hN : X.N.Nodup) (hy : X.N[i]? = some y) (hyl : X.env.scope.names.lookup y = some .local) (hsw : swapsWith (.ListComp elt [⟨tg, iter, ifs, 0⟩] scope pos) (some (.Name y py)) spos.line X.env = pure true) (hi : II R X wx tg iter src) (ok : BlkOk X.N X.env.scope scope own)
    (hg : ∀ (s : Shared) (H : Hp) (C : Addr) (cl : List (Str × Addr)) (fp : List Addr), PG (X.blk s H scope (compEnvC scope cl C X.env) fp) tg g) (hb : GD X.K g b is) (hv : ∀ i ∈ is, i ∈ own.map (·.2))
    (ht : ∀ (s : Shared) (H : Hp) (C : Addr) (cl : List (Str × Addr)) (fp : List Addr), ITs R (X.blk s H scope (compEnvC scope cl C X.env) fp) noX ifs t)
    (he : ∀ (s : Shared) (H : Hp) (C : Addr) (cl : List (Str × Addr)) (fp : List Addr), IE R (X.blk s H scope (compEnvC scope cl C X.env) fp) noX elt e)
    (hs : ∀ x, foldedSetIterable iter X.env x = pure x := by intro _; rfl) (W : Wd R) : ∃ te : TE, PS X (.Assign [.Name y py] (.ListComp elt [⟨tg, iter, ifs, 0⟩] scope pos) spos) (tAsg te (gName i)) ∧ ∀ σ H Q, tE X.K X.mg W wx (sLc src b t e (own.map (·.2))) σ H Q → te σ H Q :=
  ⟨_, ps_setLc (tt := tT X.K X.mg W noX t) (te := tE X.K X.mg W noX e) hc hN hy hyl hsw (hi W) ok hg (fun s H C cl fp => ht s H C cl fp W) (fun s H C cl fp => he s H C cl fp W) hs, lc_imp hb hv⟩
end
end Fw
set_option maxHeartbeats 4000000
namespace Fw
open PySem PySem.Spec PyProof.Rows L2

/-! ### statements -/
inductive So (π : Type) where
  | nx (env : Evn) (p : π)
  | rt (d : PyData) (p : π)
  | bk (env : Evn) (p : π)
  | ct (env : Evn) (p : π)
  | ex (e : Ex) (env : Evn) (p : π)
  | no
abbrev SS (π : Type) := Evn → π → So π
def postS {π : Type} {R : Rc π} (K : Fg) (mg : Str → Option Value) (W : Wd R) (wx : WX) (D : Ends) : So π → Prop
  | .nx env p => ∀ M σ H, EnvR K W M σ env p H → D.nx σ H
  | .rt d p => ∀ v H, (∀ a o, W.H0 a = some o → a ∉ W.pa → H a = some o) → W.At W.pa p H → Dt K W.M0 H v d → D.rt v H
  | .bk env p => ∀ M σ H, EnvR K W M σ env p H → D.bk σ H
  | .ct env p => ∀ M σ H, EnvR K W M σ env p H → D.ct σ H
  | .ex e env p => ∀ M σ H cls dd, EnvR K W M σ env p H → ExR K mg M H cls dd e → wx cls dd σ H
  | .no => False
def tS {π : Type} {R : Rc π} (K : Fg) (mg : Str → Option Value) (W : Wd R) (wx : WX) (f : SS π) : TS := fun D σ H => ∃ M env p, EnvR K W M σ env p H ∧ postS K mg W wx D (f env p)
abbrev IS {π : Type} (R : Rc π) (X : Cx) (wx : WX) (st : Stmt) (f : SS π) : Prop := ∀ W : Wd R, PS X st (tS X.K X.mg W wx f)
abbrev ISs {π : Type} (R : Rc π) (X : Cx) (wx : WX) (st : List Stmt) (f : SS π) : Prop := ∀ W : Wd R, PSs X st (tS X.K X.mg W wx f)
section
variable {π : Type} {R : Rc π} {X : Cx} {wx : WX} {st : Stmt} {rest : List Stmt} {f g : SS π} {pos : Pos}
def sSeq2 (f g : SS π) : SS π := fun env p => match f env p with
  | .nx env' p' => g env' p'
  | o => o
def sSkip : SS π := fun env p => .nx env p
theorem iss_nil : ISs R X wx [] sSkip := fun W => pss_nil.imp fun D σ H ⟨M, env, p, E, q⟩ => q M σ H E
theorem iss_one (h : IS R X wx st f) : ISs R X wx [st] f := fun W => pss_one (h W)
theorem iss_cons (h1 : IS R X wx st f) (h2 : ISs R X wx rest g) : ISs R X wx (st :: rest) (sSeq2 f g) := fun W => (pss_cons (h1 W) (h2 W)).imp fun D σ H ⟨M, env, p, E, q⟩ => by
  refine ⟨M, env, p, E, ?_⟩
  unfold sSeq2 at q
  cases e : f env p with
  | nx env' p' =>
    rw [e] at q
    exact fun M' σ' H' E' => ⟨M', env', p', E', q⟩
  | rt d p' => rw [e] at q; exact q
  | bk env' p' => rw [e] at q; exact q
  | ct env' p' => rw [e] at q; exact q
  | ex x env' p' => rw [e] at q; exact q
  | no => rw [e] at q; exact q
theorem is_pass : IS R X wx (.Pass pos) sSkip := fun W => ps_pass.imp fun D σ H ⟨M, env, p, E, q⟩ => q M σ H E
def sBreak : SS π := fun env p => .bk env p
def sCont : SS π := fun env p => .ct env p
theorem is_break : IS R X wx (.Break pos) sBreak := fun W => ps_break.imp fun D σ H ⟨M, env, p, E, q⟩ => q M σ H E
theorem is_cont : IS R X wx (.Continue pos) sCont := fun W => ps_continue.imp fun D σ H ⟨M, env, p, E, q⟩ => q M σ H E
/-- an expression's outcome, then a statement's -/
def thenS {α : Type} (m : Ma π α) (env : Evn) (k : α → π → So π) : SS π := fun _ p => match m p with
  | .ok a p' => k a p'
  | .ex e p' => .ex e env p'
  | .no => .no
def sThen {α : Type} (m : Evn → Ma π α) (k : Evn → α → π → So π) : SS π := fun env p => thenS (m env) env (k env) env p
theorem postS_then {α : Type} {W : Wd R} {D : Ends} {M : Addr → Prop} {σ : L2.St} {env : Evn} {p : π} {H : Hp} {m : Ma π α} {k : α → π → So π} {Z : α → π → Hp → Prop} (E : EnvR X.K W M σ env p H) (h : postS X.K X.mg W wx D (thenS m env k env p))
    (next : ∀ a p1 H1, GoP W H H1 → EnvR X.K W M σ env p1 H1 → postS X.K X.mg W wx D (k a p1) → Z a p1 H1) : postX X.K X.mg W M σ env H wx Z (m p) := by
  unfold thenS at h
  cases e : m p with
  | ok a p1 =>
    rw [e] at h
    exact fun H1 g1 at1 => next a p1 H1 g1 (E.go g1 at1) h
  | ex x p1 =>
    rw [e] at h
    exact fun cls dd H' E' xr => h M σ H' cls dd E' xr
  | no =>
    rw [e] at h
    exact h
variable {e a b : Expr} {fe fa fb : SE π}
/-- return -/
theorem VR.out {K : Fg} {W : Wd R} {M : Addr → Prop} {σ : L2.St} {env : Evn} {p : π} {H : Hp} {v : V} {r : Vd} (E : EnvR K W M σ env p H) (h : VR K W M σ env p H v r) : Dt K W.M0 H v r.d := by
  cases r with
  | st d => exact Dt.less h E.low
  | tr d =>
    obtain ⟨a, rfl, n, o⟩ := h
    exact (o.less E.low).dt n
  | fr d =>
    obtain ⟨a, rfl, n, _, o, _⟩ := h
    exact (o.dt n).less E.low
def sRet (f : SE π) : SS π := sThen f fun _ r p => .rt r.d p
theorem is_ret (h : IE R X wx e fe) : IS R X wx (.Return (some e) pos) (sRet fe) := fun W => (ps_ret (h W)).imp fun D σ H ⟨M, env, p, E, q⟩ => by
  refine tE_of E (post_X.mpr (postS_then E q fun r p1 H1 g1 E1 q1 v vr => ?_))
  exact q1 v H1 E1.ext E1.at_ (vr.out E1)
def sRetN : SS π := fun _ p => .rt .none p
theorem is_retN : IS R X wx (.Return none pos) sRetN := fun W => ps_retN.imp fun D σ H ⟨M, env, p, E, q⟩ => q _ H E.ext E.at_ .non
/-- if -/
def sIfS (c : ST π) (f g : SS π) : SS π := sThen c fun env b p => if b then f env p else g env p
theorem is_if {c : Expr} {sa sb : List Stmt} {fc : ST π} (hc : IT R X wx c fc) (h1 : ISs R X wx sa f) (h2 : ISs R X wx sb g) : IS R X wx (.If c sa sb pos) (sIfS fc f g) := fun W => (ps_if (hc W) (h1 W) (h2 W)).imp fun D σ H ⟨M, env, p, E, q⟩ => by
  refine ⟨M, env, p, E, postT_X.mpr (postS_then E q fun k p1 H1 g1 E1 q1 => ?_)⟩
  cases k with
  | true => exact ⟨M, env, p1, E1, q1⟩
  | false => exact ⟨M, env, p1, E1, q1⟩
/-- x = e (mk: ps_set .., ps_setLc ..): the value is kept -/
def sSet (i : Nat) (f : SE π) : SS π := sThen f fun env r p => match r.esc with
  | some d => .nx (env.set i (.val d)) p
  | none => .no
theorem is_set {i : Nat} {st : Stmt} {fe : SE π} (mk : ∀ {te : TE}, PE X e te → PS X st (tAsg te (gName i))) (h : IE R X wx e fe) : IS R X wx st (sSet i fe) := fun W => (mk (h W)).imp fun D σ H ⟨M, env, p, E, q⟩ => by
  refine tE_of E (post_X.mpr (postS_then E q fun r p1 H1 g1 E1 q1 v vr => ?_))
  dsimp only at q1
  cases er : r.esc with
  | none => rw [er] at q1; exact q1.elim
  | some d =>
    rw [er] at q1
    exact q1 M _ H1 (E1.setV (vr.esc er))
/-- .. a new object becomes the slot's own -/
def sOwn (i : Nat) (f : SE π) : SS π := sThen f fun env r p => match r with
  | .fr d => .nx (env.set i (.own d)) p
  | _ => .no
theorem own_fr {K : Fg} {W : Wd R} {M : Addr → Prop} {σ : L2.St} {env : Evn} {p : π} {H : Hp} {v : V} {d : PyData} {i : Nat} (E : EnvR K W M σ env p H) (h : VR K W M σ env p H v (.fr d)) :
    ∃ a, v = .ref a ∧ EnvR K W (fun b => M b ∨ b = a) (σ.set i (some (.ref a))) (env.set i (.own d)) p H := by
  obtain ⟨a, rfl, n, h0, _, E', o'⟩ := h
  refine ⟨a, rfl, E'.setO o' (.inr rfl) (fun z => n (E.low a z)) h0 fun j e _ he hs => ?_⟩
  obtain ⟨b, e1, _, m, _⟩ := E.ow j e he
  rw [e1] at hs
  cases hs
  exact n m
theorem is_own {i : Nat} {st : Stmt} {fe : SE π} (mk : ∀ {te : TE}, PE X e te → PS X st (tAsg te (gName i))) (h : IE R X wx e fe) : IS R X wx st (sOwn i fe) := fun W => (mk (h W)).imp fun D σ H ⟨M, env, p, E, q⟩ => by
  refine tE_of E (post_X.mpr (postS_then E q fun r p1 H1 g1 E1 q1 v vr => ?_))
  cases r with
  | fr d =>
    obtain ⟨a, rfl, E2⟩ := own_fr (i := i) E1 vr
    exact q1 _ _ H1 E2
  | st d => exact q1.elim
  | tr d => exact q1.elim
/-- .. by a reading of its own (x = [.. for ..]) -/
theorem is_setR {i : Nat} {st : Stmt} {fe : SE π} (h : ∀ W : Wd R, ∃ te : TE, PS X st (tAsg te (gName i)) ∧ ∀ σ H Q, tE X.K X.mg W wx fe σ H Q → te σ H Q) : IS R X wx st (sSet i fe) := fun W => by
  obtain ⟨te, h1, h2⟩ := h W
  refine h1.imp fun D σ H ⟨M, env, p, E, q⟩ => h2 σ H _ ?_
  refine tE_of E (post_X.mpr (postS_then E q fun r p1 H1 g1 E1 q1 v vr => ?_))
  dsimp only at q1
  cases er : r.esc with
  | none => rw [er] at q1; exact q1.elim
  | some d =>
    rw [er] at q1
    exact q1 M _ H1 (E1.setV (vr.esc er))
theorem is_ownR {i : Nat} {st : Stmt} {fe : SE π} (h : ∀ W : Wd R, ∃ te : TE, PS X st (tAsg te (gName i)) ∧ ∀ σ H Q, tE X.K X.mg W wx fe σ H Q → te σ H Q) : IS R X wx st (sOwn i fe) := fun W => by
  obtain ⟨te, h1, h2⟩ := h W
  refine h1.imp fun D σ H ⟨M, env, p, E, q⟩ => h2 σ H _ ?_
  refine tE_of E (post_X.mpr (postS_then E q fun r p1 H1 g1 E1 q1 v vr => ?_))
  cases r with
  | fr d =>
    obtain ⟨a, rfl, E2⟩ := own_fr (i := i) E1 vr
    exact q1 _ _ H1 E2
  | st d => exact q1.elim
  | tr d => exact q1.elim
/-- a, b = e -/
def sAsg (b : PyData → Evn → Option Evn) (f : SE π) : SS π := sThen f fun env r p => match r.esc.bind fun d => b d env with
  | some env' => .nx env' p
  | none => .no
theorem is_asg {st : Stmt} {gt : TG} {bt : PyData → Evn → Option Evn} {is : List Nat} (mk : ∀ {te : TE}, PE X e te → PS X st (tAsg te gt)) (hg : GD X.K gt bt is) (h : IE R X wx e fe) : IS R X wx st (sAsg bt fe) := fun W => (mk (h W)).imp fun D σ H ⟨M, env, p, E, q⟩ => by
  refine tE_of E (post_X.mpr (postS_then E q fun r p1 H1 g1 E1 q1 v vr => ?_))
  dsimp only at q1
  cases er : r.esc with
  | none => rw [er] at q1; exact q1.elim
  | some d =>
    rw [er] at q1
    cases eb : bt d env with
    | none =>
      rw [show (some d).bind (fun d => bt d env) = none from eb] at q1
      exact q1.elim
    | some env' =>
      rw [show (some d).bind (fun d => bt d env) = some env' from eb] at q1
      exact hg.run W M σ env p1 H1 v d env' _ E1 (vr.esc er) eb fun σ' E2 _ => q1 M σ' H1 E2
/-! ### ghosts: facts that are carried along -/
def Wd.gho (W : Wd R) (l : List (V × PyData)) : Wd R := { W with gh := l ++ W.gh }
theorem EnvR.ghost {K : Fg} {W : Wd R} {M : Addr → Prop} {σ : L2.St} {env : Evn} {p : π} {H : Hp} {l : List (V × PyData)} (E : EnvR K W M σ env p H) (h : ∀ q ∈ l, Dt K M H q.1 q.2) : EnvR K (W.gho l) M σ env p H :=
  ⟨E.len, E.ext, E.at_, E.low, E.pam, E.mtr, fun q hq => (List.mem_append.mp hq).elim (h q) (E.gho q), E.sl, E.ow, E.dj, E.pt⟩
theorem EnvR.unghost {K : Fg} {W : Wd R} {M : Addr → Prop} {σ : L2.St} {env : Evn} {p : π} {H : Hp} {l : List (V × PyData)} (E : EnvR K (W.gho l) M σ env p H) : EnvR K W M σ env p H :=
  ⟨E.len, E.ext, E.at_, E.low, E.pam, E.mtr, fun q hq => E.gho q (List.mem_append_right _ hq), E.sl, E.ow, E.dj, E.pt⟩
theorem EnvR.ghosts {K : Fg} {W : Wd R} {M : Addr → Prop} {σ : L2.St} {env : Evn} {p : π} {H : Hp} {l : List (V × PyData)} (E : EnvR K (W.gho l) M σ env p H) : ∀ q ∈ l, Dt K M H q.1 q.2 := fun q hq => E.gho q (List.mem_append_left _ hq)
/-- any activation -/
def tEx (R : Rc π) (K : Fg) (mg : Str → Option Value) (wx : WX) (f : SE π) : TE := fun σ H Q => ∃ W : Wd R, tE K mg W wx f σ H Q
theorem IE.ex (h : IE R X wx e fe) : PE X e (tEx R X.K X.mg wx fe) := ⟨fun pins s σ H Q I ⟨W, q⟩ => (h W).run pins s σ H Q I q⟩
def tSx (R : Rc π) (K : Fg) (mg : Str → Option Value) (wx : WX) (f : SS π) : TS := fun D σ H => ∃ W : Wd R, tS K mg W wx f D σ H
theorem ISs.ex {sts : List Stmt} (h : ISs R X wx sts f) : PSs X sts (tSx R X.K X.mg wx f) := ⟨fun pins s σ H D I ⟨W, q⟩ => (h W).run pins s σ H D I q⟩
theorem zip_dt {K : Fg} {M : Addr → Prop} {H : Hp} : ∀ {vs : List V} {ds : List PyData}, DtAll K M H vs ds → ∀ q ∈ vs.zip ds, Dt K M H q.1 q.2
  | _, _, .nil, _, hq => absurd hq (by simp)
  | _, _, .cons h t, q, hq => by
    rw [List.zip_cons_cons] at hq
    rcases List.mem_cons.mp hq with z | z
    · rw [z]; exact h
    · exact zip_dt t q z
theorem dt_zip {K : Fg} {M : Addr → Prop} {H : Hp} : ∀ {vs : List V} {ds : List PyData}, vs.length = ds.length → (∀ q ∈ vs.zip ds, Dt K M H q.1 q.2) → DtAll K M H vs ds
  | [], [], _, _ => .nil
  | v :: vs, d :: ds, e, h => .cons (h (v, d) (by simp)) (dt_zip (by simpa using e) fun q hq => h q (by simp [hq]))
  | [], _ :: _, e, _ => by simp at e
  | _ :: _, [], e, _ => by simp at e
theorem kv_zip {K : Fg} {M : Addr → Prop} {H : Hp} : ∀ {kvs : List (Key × V)} {ps : List (PyData × PyData)}, DtKv K M H kvs ps → ∃ l : List (V × PyData), (∀ q ∈ l, Dt K M H q.1 q.2) ∧ ∀ M' H', (∀ q ∈ l, Dt K M' H' q.1 q.2) → DtKv K M' H' kvs ps
  | _, _, .nil => ⟨[], fun q hq => absurd hq (by simp), fun _ _ _ => .nil⟩
  | _, _, .cons (v := v) (d := d) h t => by
    obtain ⟨l, h1, h2⟩ := kv_zip t
    exact ⟨(v, d) :: l, fun q hq => (List.mem_cons.mp hq).elim (fun z => by rw [z]; exact h) (h1 q), fun M' H' z => .cons (z (v, d) (by simp)) (h2 M' H' fun q hq => z q (by simp [hq]))⟩
/-- an object's parts as facts -/
theorem OwnAt.facts {K : Fg} {M : Addr → Prop} {H : Hp} {a : Addr} {d : PyData} (h : OwnAt K M H a d) : ∃ l : List (V × PyData), (∀ q ∈ l, Dt K M H q.1 q.2) ∧ ∀ M' H', (∀ o, H a = some o → H' a = some o) → (∀ q ∈ l, Dt K M' H' q.1 q.2) → OwnAt K M' H' a d := by
  cases d with
  | list ds =>
    obtain ⟨vs, e, h⟩ := h
    exact ⟨vs.zip ds, zip_dt h, fun M' H' g z => ⟨vs, g _ e, dt_zip h.length z⟩⟩
  | dict ps =>
    obtain ⟨kvs, e, h⟩ := h
    obtain ⟨l, h1, h2⟩ := kv_zip h
    exact ⟨l, h1, fun M' H' g z => ⟨kvs, g _ e, h2 M' H' z⟩⟩
  | _ => exact h.elim
/-- a slot's new content; o: whether the slot gets a new object of its own -/
def slotS (o : Bool) (r : Vd) : Option Slot := match o, r with
  | true, .fr d => some (.own d)
  | true, _ => none
  | false, r => r.esc.map .val
/-- x, y = a, b with plain local names: side by side -/
def kPar (i j : Nat) (o2 : Bool) (env : Evn) (s1 : Option Slot) (r2 : Vd) (p2 : π) : So π := match s1 with
  | some s1 => match slotS o2 r2 with
    | some s2 => .nx ((env.set i s1).set j s2) p2
    | none => .no
  | none => .no
def sPar (i j : Nat) (o1 o2 : Bool) (f g : SE π) : SS π := sThen f fun env r1 p1 => thenS (g env) env (kPar i j o2 env (slotS o1 r1)) env p1
/-- the update of a slot, in a frame that has come from the value's -/
theorem upd_slot {K : Fg} {W : Wd R} {M : Addr → Prop} {σ : L2.St} {env : Evn} {p : π} {H : Hp} {v : V} {r : Vd} {o : Bool} {i : Nat} {s : Slot} (E : EnvR K W M σ env p H) (h : VR K W M σ env p H v r) (e : slotS o r = some s) :
    ∃ M', EnvR K W M' (σ.set i (some v)) (env.set i s) p H ∧ (∀ b, M b → M' b) ∧ ∀ d, s = .own d → ∃ b, v = .ref b ∧ ¬ M b := by
  cases o with
  | true =>
    cases r with
    | fr d =>
      cases e
      obtain ⟨a, rfl, n, _⟩ := id h
      obtain ⟨a', ea, E2⟩ := own_fr (i := i) E h
      cases ea
      exact ⟨_, E2, fun b z => .inl z, fun _ _ => ⟨a, rfl, n⟩⟩
    | st d => cases e
    | tr d => cases e
  | false =>
    have e' : r.esc.map .val = some s := e
    cases er : r.esc with
    | none => rw [er] at e'; cases e'
    | some d =>
      rw [er] at e'
      cases e'
      exact ⟨M, E.setV (h.esc er), fun _ z => z, fun _ z => by cases z⟩
theorem is_par {i j : Nat} {o1 o2 : Bool} {st : Stmt} (hij : i ≠ j) (mk : ∀ {ta : TA}, PA X [a, b] ta → PS X st (tPar i j ta)) (h1 : IE R X wx a fa) (h2 : IE R X wx b fb) (hs : starEach [a, b] X.env = (false, eval a X.env) :: starEach [b] X.env := by rfl)
    (hs2 : starEach [b] X.env = (false, eval b X.env) :: starEach [] X.env := by rfl) : IS R X wx st (sPar i j o1 o2 fa fb) := fun W => (mk (pa_cons (h1 W) (pa_cons (IE.ex h2) pa_nil hs2) hs)).imp fun D σ H ⟨M, env, p, E, q⟩ => by
  refine tE_of E (post_X.mpr (postS_then E q fun r1 p1 H1 g1 E1 q1 v vr => ?_))
  dsimp only at q1
  cases e1 : slotS o1 r1 with
  | none =>
    refine ⟨W, tE_of E1 (post_X.mpr (postS_then E1 q1 fun r2 p2 H2 g2 E2 q2 w wr => ?_))⟩
    rw [e1] at q2
    exact q2.elim
  | some s1 =>
    rw [e1] at q1
    -- what is known of the first value, as facts that are carried along
    have key : ∃ (M1 : Addr → Prop) (l : List (V × PyData)), EnvR X.K (W.gho l) M1 σ env p1 H1 ∧ ∀ (M' : Addr → Prop) (σ' : L2.St) (env' : Evn) (p' : π) (H2 : Hp), GoP W H1 H2 → (∀ b, M1 b → M' b) → EnvR X.K (W.gho l) M' σ' env' p' H2 →
        (∀ (k : Nat) (e : PyData) (c : Addr), env'[k]? = some (.own e) → σ'[k]? = some (some (.ref c)) → (env[k]? = some (.own e) ∧ σ[k]? = some (some (.ref c))) ∨ ¬ M1 c) → EnvR X.K W M' (σ'.set i (some v)) (env'.set i s1) p' H2 := by
      cases o1 with
      | true =>
        cases r1 with
        | fr d =>
          cases e1
          obtain ⟨c, rfl, nM, h0, _, E1', o'⟩ := vr
          have nP : c ∉ W.pa := fun z => nM (E1.low c (E1.pam c z))
          obtain ⟨l, hl, back⟩ := o'.facts
          refine ⟨_, l, E1'.ghost hl, fun M' σ' env' p' H2 g2 hm E' hk => ?_⟩
          refine E'.unghost.setO (back M' H2 (fun o z => g2 c o z nP) E'.ghosts) (hm c (.inr rfl)) (fun z => nM (E1.low c z)) h0 fun k e _ he hs => ?_
          rcases hk k e c he hs with ⟨h3, h4⟩ | h3
          · obtain ⟨b, h5, _, m, _⟩ := E1.ow k e h3
            rw [h4] at h5
            cases h5
            exact nM m
          · exact h3 (.inr rfl)
        | st d => cases e1
        | tr d => cases e1
      | false =>
        have e' : r1.esc.map .val = some s1 := e1
        cases er : r1.esc with
        | none => rw [er] at e'; cases e'
        | some d =>
          rw [er] at e'
          cases e'
          exact ⟨M, [(v, d)], E1.ghost fun q hq => by rw [List.mem_singleton.mp hq]; exact vr.esc er, fun M' σ' env' p' H2 g2 hm E' hk => E'.unghost.setV (E'.ghosts (v, d) (by simp))⟩
    obtain ⟨M1, l, E1', fin⟩ := key
    refine ⟨W.gho l, tE_of E1' (post_X.mpr ?_)⟩
    have q3 := postS_then (Z := fun r2 p2 H2 => ∀ w, VR X.K (W.gho l) M1 σ env p2 H2 w r2 → D.nx ((σ.set i (some v)).set j (some w)) H2) (m := fb env) (W := W.gho l) (D := D) (wx := wx) (k := kPar i j o2 env (some s1)) E1' ?_ fun r2 p2 H2 g2 E2 q2 w wr => ?_
    · revert q3
      cases fb env p1 with
      | ok r2 p2 => exact fun q3 H2 g2 at2 w wr => ⟨v, w, rfl, q3 H2 g2 at2 w wr⟩
      | ex x p2 => exact fun q3 => q3
      | no => exact fun q3 => q3
    · revert q1
      unfold thenS
      cases fb env p1 with
      | ok r2 p2 =>
        intro q1
        have q1' : postS X.K X.mg W wx D (kPar i j o2 env (some s1) r2 p2) := q1
        show postS X.K X.mg (W.gho l) wx D (kPar i j o2 env (some s1) r2 p2)
        unfold kPar at q1' ⊢
        dsimp only at q1' ⊢
        cases es : slotS o2 r2 with
        | none =>
          rw [es] at q1'
          exact q1'.elim
        | some s2 =>
          rw [es] at q1'
          exact fun M' σ' H' E' => q1' M' σ' H' E'.unghost
      | ex x p2 => exact fun q1 M' σ' H' cls dd E' xr => q1 M' σ' H' cls dd E'.unghost xr
      | no => exact fun q1 => q1
    · unfold kPar at q2
      dsimp only at q2
      cases es : slotS o2 r2 with
      | none => rw [es] at q2; exact q2.elim
      | some s2 =>
        rw [es] at q2
        obtain ⟨M2, E3, hm, ho⟩ := upd_slot (i := j) E2 wr es
        have E4 := fin M2 _ _ p2 H2 g2 hm E3 fun k e c he hs => by
          rcases set_val he with ⟨rfl, z⟩ | ⟨nk, z⟩
          · obtain ⟨b, eb, nb⟩ := ho e z.symm
            rcases set_val hs with ⟨_, y⟩ | ⟨y, _⟩
            · rw [eb] at y
              cases y
              exact .inr nb
            · exact absurd rfl y
          · rw [List.getElem?_set_ne nk] at hs
            exact .inl ⟨z, hs⟩
        rw [List.set_comm _ _ (Ne.symm hij)] at E4
        rw [List.set_comm (l := env) _ _ (Ne.symm hij)] at E4
        exact q2 M2 _ H2 (E4.ghost E3.ghosts)
end
end Fw
set_option maxHeartbeats 4000000
namespace Fw
open PySem PySem.Spec PyProof.Rows L2

section
variable {π : Type} {R : Rc π} {X : Cx} {wx : WX} {pos : Pos} {e : Expr} {fe : SE π}
theorem go_upd {M : Addr → Prop} {H : Hp} {a : Addr} {o : HO} (m : M a) : Go M H (upd H a o) := fun c u z k => by
  rw [upd_ne (fun y => k (by rw [y]; exact m))]
  exact z
/-! ### a slot's own object is changed -/
theorem EnvR.mutO {K : Fg} {W : Wd R} {M : Addr → Prop} {σ : L2.St} {env : Evn} {p : π} {H : Hp} {i : Nat} {a : Addr} {d d' : PyData} {o' : HO} (E : EnvR K W M σ env p H) (he : env[i]? = some (.own d)) (hs : σ[i]? = some (some (.ref a)))
    (h : OwnAt K M (upd H a o') a d') : EnvR K W M σ (env.set i (.own d')) p (upd H a o') := by
  obtain ⟨b, e1, _, m, n, h0⟩ := E.ow i d he
  rw [hs] at e1
  cases e1
  have np : a ∉ W.pa := fun z => n (E.pam a z)
  have g : Go M H (upd H a o') := go_upd m
  have hi : i < σ.length := (List.getElem?_eq_some_iff.mp hs).1
  refine ⟨by rw [List.length_set]; exact E.len, fun c u z k => ?_, W.updN np E.at_, E.low, E.pam, fun c k => ?_, fun r hr => (E.gho r hr).go g, fun j x z => ?_, fun j x z => ?_, fun j k d1 d2 c z1 z2 y1 y2 => ?_, fun j z => ?_⟩
  · have ne : c ≠ a := fun y => by
      rw [y, h0] at z
      cases z
    rw [upd_ne ne]
    exact E.ext c u z k
  · by_cases y : c = a
    · exact ⟨o', by rw [y]; exact upd_same⟩
    · obtain ⟨u, z⟩ := E.mtr c k
      exact ⟨u, by rw [upd_ne y]; exact z⟩
  · rcases set_val z with ⟨_, z⟩ | ⟨_, z⟩
    · cases z
    · obtain ⟨v, e1, hv⟩ := E.sl j x z
      exact ⟨v, e1, hv.go g⟩
  · rcases set_val z with ⟨ij, z⟩ | ⟨nj, z⟩
    · cases z
      exact ⟨a, by rw [← ij]; exact hs, h, m, n, h0⟩
    · obtain ⟨c, e1, hc, r⟩ := E.ow j x z
      have ne : c ≠ a := fun y => nj (E.dj i j d x a he z hs (by rw [e1, y]))
      exact ⟨c, e1, hc.go g fun u z => by rw [upd_ne ne]; exact z, r⟩
  · have back : ∀ {j : Nat} {d1 : PyData}, (env.set i (.own d'))[j]? = some (.own d1) → ∃ d2, env[j]? = some (.own d2) := fun {j d1} z => by
      rcases set_val z with ⟨ij, _⟩ | ⟨_, z⟩
      · exact ⟨d, by rw [← ij]; exact he⟩
      · exact ⟨_, z⟩
    obtain ⟨x1, w1⟩ := back z1
    obtain ⟨x2, w2⟩ := back z2
    exact E.dj j k x1 x2 c w1 w2 y1 y2
  · rcases set_val z with ⟨_, z⟩ | ⟨_, z⟩
    · cases z
    · exact E.pt j z
/-- x.append(e) -/
def kApp (i : Nat) (ds : List PyData) (env : Evn) (r : Vd) (p : π) : So π := match r.esc with
  | some d => if ds.length < line then .nx (env.set i (.own (.list (ds ++ [d])))) p else .no
  | none => .no
def sApp (i : Nat) (f : SE π) : SS π := fun env p => match env[i]? with
  | some (.own (.list ds)) => thenS (f env) env (kApp i ds env) env p
  | _ => .no
theorem own_case {i : Nat} {env : Evn} {p : π} {D : Ends} {W : Wd R} {k : List PyData → So π} (q : postS X.K X.mg W wx D (match env[i]? with | some (.own (.list ds)) => k ds | _ => .no)) : ∃ ds, env[i]? = some (.own (.list ds)) ∧ postS X.K X.mg W wx D (k ds) := by
  cases he : env[i]? with
  | none => rw [he] at q; exact q.elim
  | some s =>
    rw [he] at q
    cases s with
    | own d =>
      cases d with
      | list ds => exact ⟨ds, rfl, q⟩
      | _ => exact q.elim
    | _ => exact q.elim
theorem is_app {i : Nat} {st : Stmt} (mk : ∀ {te : TE}, PE X e te → PS X st (tDrop (tBM X.K "list" rAppend (tVar i) (tCons te tNil)))) (h : IE R X wx e fe) : IS R X wx st (sApp i fe) := fun W => (mk (h W)).imp fun D σ H ⟨M, env, p, E, q⟩ => by
  obtain ⟨ds, he, q⟩ := own_case (k := fun ds => thenS (fe env) env (kApp i ds env) env p) (p := p) q
  obtain ⟨a, hs, ⟨vs, ha, hd⟩, m, n, h0⟩ := E.ow i _ he
  have np : a ∉ W.pa := fun z => n (E.pam a z)
  refine ⟨.ref a, hs, .inl ⟨rfl, vs, SqL.of ha⟩, tE_of E (post_X.mpr (postS_then E q fun r p1 H1 g1 E1 q1 v vr => ?_))⟩
  unfold kApp at q1
  cases er : r.esc with
  | none => rw [er] at q1; exact q1.elim
  | some d =>
    rw [er] at q1
    dsimp only at q1
    by_cases kl : ds.length < line
    · rw [if_pos kl] at q1
      have ha1 := g1 a _ ha np
      refine ⟨a, vs, v, rfl, rfl, ha1, by rw [line_eq, hd.length]; exact kl, q1 M σ _ (E1.mutO he hs ⟨vs ++ [v], upd_same, ?_⟩)⟩
      have g : Go M H1 (upd H1 a (.lst (vs ++ [v]))) := go_upd m
      exact ((hd.go (E.goM g1)).go g).append (.cons ((vr.esc er).go g) .nil)
    · rw [if_neg kl] at q1
      exact q1.elim
/-- x.extend(e) -/
def kExt (i : Nat) (ds : List PyData) (env : Evn) (r : Vd) (p : π) : So π := match r.d with
  | .list es => if ds.length + es.length ≤ line then .nx (env.set i (.own (.list (ds ++ es)))) p else .no
  | _ => .no
def sExt (i : Nat) (f : SE π) : SS π := fun env p => match env[i]? with
  | some (.own (.list ds)) => thenS (f env) env (kExt i ds env) env p
  | _ => .no
theorem is_ext {i : Nat} {st : Stmt} (mk : ∀ {te : TE}, PE X e te → PS X st (tDrop (tBM X.K "list" rExtend (tVar i) (tCons te tNil)))) (h : IE R X wx e fe) : IS R X wx st (sExt i fe) := fun W => (mk (h W)).imp fun D σ H ⟨M, env, p, E, q⟩ => by
  obtain ⟨ds, he, q⟩ := own_case (k := fun ds => thenS (fe env) env (kExt i ds env) env p) (p := p) q
  obtain ⟨a, hs, ⟨vs, ha, hd⟩, m, n, h0⟩ := E.ow i _ he
  have np : a ∉ W.pa := fun z => n (E.pam a z)
  refine ⟨.ref a, hs, .inl ⟨rfl, vs, SqL.of ha⟩, tE_of E (post_X.mpr (postS_then E q fun r p1 H1 g1 E1 q1 v vr => ?_))⟩
  unfold kExt at q1
  cases er : r.d with
  | list es =>
    rw [er] at q1
    dsimp only at q1
    by_cases kl : ds.length + es.length ≤ line
    · rw [if_pos kl] at q1
      have ha1 := g1 a _ ha np
      obtain ⟨b, ws, rfl, hb, dw⟩ := vr.list er
      refine ⟨a, b, vs, ws, rfl, rfl, ha1, hb, by rw [line_eq, hd.length, dw.length]; exact kl, q1 M σ _ (E1.mutO he hs ⟨vs ++ ws, upd_same, ?_⟩)⟩
      have g : Go M H1 (upd H1 a (.lst (vs ++ ws))) := go_upd m
      exact ((hd.go (E.goM g1)).go g).append (dw.go g)
    · rw [if_neg kl] at q1
      exact q1.elim
  | _ => rw [er] at q1; exact q1.elim
/-- t = x.pop() -/
def sPop (i : Nat) (b : PyData → Evn → Option Evn) : SS π := fun env p => match env[i]? with
  | some (.own (.list ds)) => match ds.getLast? with
    | some d => match b d (env.set i (.own (.list ds.dropLast))) with
      | some env' => .nx env' p
      | none => .no
    | none => .no
  | _ => .no
theorem dropLast_dt {K : Fg} {M : Addr → Prop} {H : Hp} {vs : List V} {ds : List PyData} (h : DtAll K M H vs ds) : DtAll K M H vs.dropLast ds.dropLast := by
  rw [List.dropLast_eq_take, List.dropLast_eq_take, h.length]
  exact h.take _
theorem is_pop {i : Nat} {st : Stmt} {gt : TG} {bt : PyData → Evn → Option Evn} {is : List Nat} (mk : PS X st (tAsg (tBM0 X.K "list" rPop (tVar i)) gt)) (hg : GD X.K gt bt is) : IS R X wx st (sPop i bt) := fun W => mk.imp fun D σ H ⟨M, env, p, E, q⟩ => by
  obtain ⟨ds, he, q⟩ := own_case (p := p) (k := fun ds => match ds.getLast? with
    | some d => match bt d (env.set i (.own (.list ds.dropLast))) with
      | some env' => So.nx env' p
      | none => .no
    | none => .no) q
  obtain ⟨a, hs, ⟨vs, ha, hd⟩, m, n, h0⟩ := E.ow i _ he
  cases el : ds.getLast? with
  | none => rw [el] at q; exact q.elim
  | some d =>
    rw [el] at q
    dsimp only at q
    cases eb : bt d (env.set i (.own (.list ds.dropLast))) with
    | none => rw [eb] at q; exact q.elim
    | some env' =>
      rw [eb] at q
      have el' : ds[ds.length - 1]? = some d := by rw [← List.getLast?_eq_getElem?]; exact el
      obtain ⟨v, ev, dv⟩ := hd.get el'
      refine ⟨.ref a, hs, .inl ⟨rfl, vs, SqL.of ha⟩, a, vs, v, rfl, rfl, ha, by rw [hd.length]; exact ev, ?_⟩
      have g : Go M H (upd H a (.lst vs.dropLast)) := go_upd m
      have E1 := E.mutO he hs (o' := .lst vs.dropLast) (d' := .list ds.dropLast) ⟨vs.dropLast, upd_same, (dropLast_dt hd).go g⟩
      exact hg.run W M σ _ p _ v d env' _ E1 (dv.go g) eb fun σ' E2 _ => q M σ' _ E2
/-- x += e, ints -/
def kAug (i : Nat) (k : Int) (env : Evn) (r : Vd) (p : π) : So π := match r.d with
  | .int m => .nx (env.set i (.val (.int (k + m)))) p
  | _ => .no
def sAug (i : Nat) (f : SE π) : SS π := fun env p => match env[i]? with
  | some (.val (.int k)) => thenS (f env) env (kAug i k env) env p
  | _ => .no
theorem is_aug {i : Nat} {st : Stmt} (mk : ∀ {te : TE}, PE X e te → PS X st (tAug i te (ipI fun i j => i + j))) (h : IE R X wx e fe) : IS R X wx st (sAug i fe) := fun W => (mk (h W)).imp fun D σ H ⟨M, env, p, E, q⟩ => by
  unfold sAug at q
  cases he : env[i]? with
  | none => rw [he] at q; exact q.elim
  | some s =>
    rw [he] at q
    cases s with
    | val d =>
      cases d with
      | int k =>
        obtain ⟨v, hs, dv⟩ := E.sl i _ he
        have ev := dv.int_of
        subst ev
        refine ⟨_, hs, tE_of E (post_X.mpr (postS_then E q fun r p1 H1 g1 E1 q1 w wr => ?_))⟩
        unfold kAug at q1
        cases er : r.d with
        | int m =>
          rw [er] at q1
          exact ⟨k, m, rfl, wr.isI er, q1 M _ H1 (E1.setV (.int _))⟩
        | _ => rw [er] at q1; exact q1.elim
      | _ => exact q.elim
    | _ => exact q.elim

/-! ### while, for -/
def sWhile (c : ST π) (b : SS π) : Nat → SS π
  | 0 => fun _ _ => .no
  | n + 1 => fun env p => match c env p with
    | .ok true p1 => match b env p1 with
      | .nx env' p' => sWhile c b n env' p'
      | .ct env' p' => sWhile c b n env' p'
      | .bk env' p' => .nx env' p'
      | o => o
    | .ok false p1 => .nx env p1
    | .ex e p1 => .ex e env p1
    | .no => .no
theorem is_while {c : Expr} {body : List Stmt} {fc : ST π} {fb : SS π} (n : Nat) (hp : PassesOwn (model X.prog X.w) X.A X.env X.xe) (hc : IT R X wx c fc) (hb : ISs R X wx body fb) : IS R X wx (.While c body [] pos) (sWhile fc fb n) := fun W => (ps_while hp (hc W) (hb W)).imp fun D σ H ⟨M, env, p, E, q⟩ => by
  refine ⟨fun m σ H => ∃ M env p, EnvR X.K W M σ env p H ∧ postS X.K X.mg W wx D (sWhile fc fb m env p), ⟨n, M, env, p, E, q⟩, fun m σ H hW => ?_⟩
  obtain ⟨M, env, p, E, q⟩ := hW
  cases m with
  | zero => exact q.elim
  | succ m =>
    refine ⟨M, env, p, E, ?_⟩
    unfold sWhile at q
    cases ec : fc env p with
    | no => rw [ec] at q; exact q
    | ex x p1 =>
      rw [ec] at q
      exact fun cls dd H' E' xr => q M σ H' cls dd E' xr
    | ok k p1 =>
      rw [ec] at q
      intro H1 g1 at1
      have E1 := E.go g1 at1
      cases k with
      | false => exact q M σ H1 E1
      | true =>
        dsimp only at q
        refine ⟨fun σ' H' => ∃ M env p, EnvR X.K W M σ' env p H' ∧ postS X.K X.mg W wx D (sWhile fc fb m env p), fun σ' H' z => ⟨m, Nat.lt_succ_self m, z⟩, M, env, p1, E1, ?_⟩
        cases eb : fb env p1 with
        | nx env' p' => rw [eb] at q; exact fun M' σ' H' E' => ⟨M', env', p', E', q⟩
        | ct env' p' => rw [eb] at q; exact fun M' σ' H' E' => ⟨M', env', p', E', q⟩
        | bk env' p' => rw [eb] at q; exact q
        | rt d p' => rw [eb] at q; exact q
        | ex x env' p' => rw [eb] at q; exact q
        | no => rw [eb] at q; exact q
def sForL (bt : PyData → Evn → Option Evn) (b : SS π) : List PyData → SS π
  | [] => fun env p => .nx env p
  | d :: r => fun env p => match bt d env with
    | none => .no
    | some env1 => match b env1 p with
      | .nx env' p' => sForL bt b r env' p'
      | .ct env' p' => sForL bt b r env' p'
      | .bk env' p' => .nx env' p'
      | o => o
def sFor (src : SI π) (bt : PyData → Evn → Option Evn) (b : SS π) : SS π := sThen src fun env ds p => sForL bt b ds env p
theorem postS_gho {W : Wd R} {D : Ends} {l : List (V × PyData)} {o : So π} (h : postS X.K X.mg W wx D o) : postS X.K X.mg (W.gho l) wx D o := by
  cases o with
  | nx env p => exact fun M σ H E => h M σ H E.unghost
  | bk env p => exact fun M σ H E => h M σ H E.unghost
  | ct env p => exact fun M σ H E => h M σ H E.unghost
  | rt d p => exact h
  | ex x env p => exact fun M σ H cls dd E xr => h M σ H cls dd E.unghost xr
  | no => exact h
theorem is_for {tg iter : Expr} {body : List Stmt} {gt : TG} {bt : PyData → Evn → Option Evn} {is : List Nat} {src : SI π} {fb : SS π} (hp : PassesOwn (model X.prog X.w) X.A X.env X.xe) (hc : X.calm = true) (hi : II R X wx tg iter src) (hg : PG X tg gt) (gd : GD X.K gt bt is)
    (hb : ISs R X wx body fb) (hs : ∀ x, foldedSetIterable iter X.env x = pure x := by intro _; rfl) : IS R X wx (.For tg iter body [] pos) (sFor src bt fb) := fun W => (ps_for hp hc (hi W) hg (ISs.ex hb) hs).imp fun D σ H ⟨M, env, p, E, q⟩ => by
  refine ⟨M, env, p, E, postS_then E q fun ds p1 H1 g1 E1 q1 J gs iok hgs => ?_⟩
  refine ⟨fun i m σ H => m = ds.length - i ∧ i ≤ ds.length ∧ ∃ M env p, EnvR X.K (W.gho gs) M σ env p H ∧ postS X.K X.mg (W.gho gs) wx D (sForL bt fb (ds.drop i) env p), ⟨ds.length, rfl, Nat.zero_le _, M, env, p1, E1.ghost hgs, postS_gho q1⟩, ?_⟩
  rintro i m σ H ⟨rfl, hle, M, env, p, E, q⟩
  have io := iok M H E.mtr E.ghosts i
  by_cases hlt : i < ds.length
  · refine .inr ⟨(io.1 hlt).1, fun σ' H' => i + 1 ≤ ds.length ∧ ∃ M env p, EnvR X.K (W.gho gs) M σ' env p H' ∧ postS X.K X.mg (W.gho gs) wx D (sForL bt fb (ds.drop (i + 1)) env p), fun σ' H' z => ⟨ds.length - (i + 1), by omega, rfl, z⟩, fun x H' y => ?_⟩
    obtain ⟨d, ed, sm, dx⟩ := (io.1 hlt).2 x H' y
    have edd : ds.drop i = d :: ds.drop (i + 1) := by
      rw [List.drop_eq_getElem_cons hlt]
      rw [List.getElem?_eq_getElem hlt] at ed
      cases ed
      rfl
    rw [edd] at q
    unfold sForL at q
    cases eb : bt d env with
    | none => rw [eb] at q; exact q.elim
    | some env1 =>
      rw [eb] at q
      dsimp only at q
      refine gd.run (W.gho gs) M σ env p H' x d env1 _ (E.same sm) dx eb fun σ2 E2 _ => ⟨W.gho gs, M, env1, p, E2, ?_⟩
      cases ef : fb env1 p with
      | nx env' p' => rw [ef] at q; exact fun M' σ' H' E' => ⟨hlt, M', env', p', E', q⟩
      | ct env' p' => rw [ef] at q; exact fun M' σ' H' E' => ⟨hlt, M', env', p', E', q⟩
      | bk env' p' => rw [ef] at q; exact q
      | rt d p' => rw [ef] at q; exact q
      | ex x env' p' => rw [ef] at q; exact q
      | no => rw [ef] at q; exact q
  · have ei : i = ds.length := by omega
    subst ei
    rw [List.drop_length] at q
    exact .inl ⟨io.2 (Nat.le_refl _), q M σ H E⟩
end
end Fw
set_option maxHeartbeats 4000000
namespace Fw
open PySem PySem.Spec PyProof.Rows L2

/-! ### defs, called where no repr is under way -/
/-- as the layer's promise of a def, where nothing is guarded around -/
structure FnG (P : Program) (w : World) (K : Fg) (mg : Str → Option Value) (base : Heap) (k : Nat) (f : Addr) (fd : FuncData) (ps : List Str) (sp : Sp) : Prop where
  len : ∀ vs H Q E, sp vs H Q E → vs.length = ps.length
  run : ∀ (A : Around) (outer : List Env) (s : Shared) (H : Hp) (args : Args) (us : List Value) (vs : List V) (Q : VK) (E : XK), A.guards = some [] → Room k A → Env0 P w K mg base A outer s H → BindsTo s fd args (ps.zip us) → Vals vs us →
    sp vs H Q E → codeAny (model P w) A (.call (.ref f) args) (CR (L2.CX P w) outer P w H s Q E) s
theorem FnG.of {P : Program} {w : World} {K : Fg} {mg : Str → Option Value} {base : Heap} {k : Nat} {f : Addr} {fd : FuncData} {ps : List Str} {sp : Sp} (F : FnOk P w K mg base (L2.CX P w) k f fd ps sp) : FnG P w K mg base k f fd ps sp :=
  ⟨F.len, fun A outer s H args us vs Q E _ hr e0 hb hv hs => F.run A outer s H args us vs Q E hr e0 hb hv hs⟩
theorem FnG.mono {P : Program} {w : World} {K : Fg} {mg : Str → Option Value} {base : Heap} {j k : Nat} {f : Addr} {fd : FuncData} {ps : List Str} {sp : Sp} (F : FnG P w K mg base j f fd ps sp) (h : j ≤ k) : FnG P w K mg base k f fd ps sp :=
  ⟨F.len, fun A outer s H args us vs Q E hg hr => F.run A outer s H args us vs Q E hg (hr.mono h)⟩
theorem FnG.imp {P : Program} {w : World} {K : Fg} {mg : Str → Option Value} {base : Heap} {k : Nat} {f : Addr} {fd : FuncData} {ps : List Str} {sp sp' : Sp} (F : FnG P w K mg base k f fd ps sp) (h : ∀ vs H Q E, sp' vs H Q E → sp vs H Q E) : FnG P w K mg base k f fd ps sp' :=
  ⟨fun vs H Q E q => F.len vs H Q E (h vs H Q E q), fun A outer s H args us vs Q E hg hr e0 hb hv q => F.run A outer s H args us vs Q E hg hr e0 hb hv (h vs H Q E q)⟩

/-- a def of the text by its body -/
theorem fn_byG {P : Program} {w : World} {K : Fg} {mg : Str → Option Value} {base : Heap} {k : Nat} {x qual : Str} {st : Stmt} {f : Addr} {fd : FuncData} {N ps : List Str} {sp : Sp} (F : L2.Fun K x qual st f fd) (S : FnScope N ps (defScope st))
    (len : ∀ vs H Q E, sp vs H Q E → vs.length = ps.length)
    (hbody : ∀ (cdv : Value) (A : Around) (outer : List Env) (s : Shared) (H : Hp) (vs : List V) (Q : VK) (E : XK), A.guards = some [] → Room k (A.deeper (envOfC qual (defScope st) s.heap.objs.size f cdv)) → sp vs H Q E →
      ∃ t, PSs (cxOf (L2.CX P w) P w K mg base N qual (defScope st) f cdv A outer s H E) (defBody st) t ∧ t { nx := fun _ H' => Q .non H', rt := Q } (start N vs) H) : FnG P w K mg base (k + 1) f fd ps sp := by
  obtain ⟨oc, od, kV, doc, pm, an, cdv, ct, osl, rfl, lk, hcd⟩ := F.ex
  refine ⟨len, fun A fr s H args us vs Q E hg hr e0 hb rv q => ?_⟩
  have inK : K.In s.heap := e0.mod.kin.keeps fun b o z => (e0.bs b o z).1
  have nl : s.heap.NoLimit := e0.mod.nolimit.keeps fun b o z => (e0.bs b o z).1
  have kinds : ∀ y ∈ ps.zip us, (defScope st).names.lookup y.1 = some .local ∨ ((defScope st).names.lookup y.1 = some .cell ∧ ((cellsFrom (s.heap.objs.size + 1) (defScope st).names []).lookup y.1).isSome = true) := by
    intro ⟨n, v⟩ hy
    exact (S.par n (List.of_mem_zip hy).1).imp id fun z => ⟨z, PySem.W.cellsFrom_some _ _ _ (.inl z)⟩
  refine codeAny_call_function hr.depth (inK _ _ lk) rfl S.co S.gen rfl (PySem.W.codeRec_of inK hcd) (hb _ _ _ _ (wpAny_newFunctionEnv_cells S.kind kinds fun env he s1 z => ?_))
  subst he
  obtain ⟨t, ht, hq⟩ := hbody cdv A fr s H vs Q E hg (hr.deeper _) q
  have I0 : Inv (cxOf (L2.CX P w) P w K mg base N qual (defScope st) f cdv A fr s H E) [] (start N vs) H s1 := inv_start S hr.hd e0 (len vs H Q E q) rv z
  refine ⟨nl.keeps z.toInCall.keep, codeAny_func (wpAny_mono (ht.run [] s1 (start N vs) H _ I0 hq) (fun fl s2 hs => ?_) fun e s2 he => he)⟩
  cases fl with
  | brk => exact (let ⟨_, _, _, z⟩ := hs; z : False).elim
  | cont => exact (let ⟨_, _, _, z⟩ := hs; z : False).elim
  | next =>
    obtain ⟨σ2, H2, J, z⟩ := hs
    exact ⟨.non, H2, J.os, J.bare, J.base, J.hok, rfl, z⟩
  | ret u =>
    obtain ⟨v, σ2, H2, J, r2, z⟩ := hs
    exact ⟨v, H2, J.os, J.bare, J.base, J.hok, r2, z⟩

section
variable {X : Cx} {k : Nat} {f : Addr} {fd : FuncData} {ps : List Str} {sp : Sp} {dvs : List V} {ds : List Value} {E : L2.St → XK} {x : Str} {p pos : Pos} {e : Expr} {es : List Expr} {t : TA}
/-- the callee runs: us the values as they are bound -/
theorem run_g {pins : List (Addr × Obj)} {σ : L2.St} {H : Hp} {s : Shared} {Q : VK} {args : Args} {us : List Value} {vs : List V} (F : FnG X.prog X.w X.K X.mg X.base k f fd ps sp) (hg : X.A.guards = some []) (hr : Room k X.A) (hx : PassesAt (L2.CX X.prog X.w) X σ (E σ))
    (I : Inv X pins σ H s) (hb : BindsTo s fd args (ps.zip us)) (r : Vals vs us) (h : sp vs H Q (E σ)) : wpAny (model X.prog X.w) X.A (call (.ref f) args.pos args.kw) (EP X pins σ Q) X.xe s := by
  refine wpAny_call (codeAny_mono (F.run X.A X.stack s H args us vs Q (E σ) hg hr I.env0 hb r h) fun z s' hq => ?_)
  match z, hq with
  | .error er, hq => exact hx pins H s er s' I hq
  | .ok (.ret u), hq => exact I.after hq
  | .ok .next, hq => exact False.elim hq
  | .ok .brk, hq => exact False.elim hq
  | .ok .cont, hq => exact False.elim hq
def tCallG (sp : Sp) (dvs : List V) (E : L2.St → XK) (t : TA) : TE := fun σ H Q => t σ H fun vs H1 => sp (vs ++ dvs) H1 Q (E σ)
theorem pe_callG (F : FnG X.prog X.w X.K X.mg X.base k f fd ps sp) (hg : X.A.guards = some []) (hr : Room k X.A) (gl : Gl X x) (hm : X.mg x = some (.ref f)) (hk : PySem.W.keepIn X.K (.ref f) = true) (hb : Binds X.K fd ps ds) (hd : Vals dvs ds)
    (hx : ∀ σ, PassesAt (L2.CX X.prog X.w) X σ (E σ)) (ha : PA X (e :: es) t) (hdb : (x == ("__debug__" : Str)) = false := by decide) (he : starEach (e :: es) X.env = (false, eval e X.env) :: starEach es X.env := by rfl)
    (hpl : (backTo pos (starEach es X.env)).any (·.1) = false := by rfl) : PE X (.Call (.Name x p) (e :: es) [] pos) (tCallG sp dvs E t) := by
  refine ⟨fun pins s σ H Q I h => wpAny_Call_Name_kw (ld_glob I gl hm ?_ hdb)⟩
  refine PySem.W.callWith_K (h₀ := X.base) I.ok.mod.kin hk (thn (ha.run pos pins s σ H _ I h) fun us s1 ⟨vs, H1, I1, r, q⟩ => ⟨I1.kIn, ?_⟩) he hpl
  have r2 : Vals (vs ++ dvs) (us ++ ds) := r.append hd
  exact run_g (args := ⟨us, []⟩) F hg hr (hx σ) I1 (hb s1 us I1.kIn (by rw [← r2.length]; exact F.len _ _ _ _ q)) r2 q
theorem pe_callG0 (F : FnG X.prog X.w X.K X.mg X.base k f fd ps sp) (hg : X.A.guards = some []) (hr : Room k X.A) (gl : Gl X x) (hm : X.mg x = some (.ref f)) (hk : PySem.W.keepIn X.K (.ref f) = true) (hb : Binds X.K fd ps ds) (hd : Vals dvs ds)
    (hx : ∀ σ, PassesAt (L2.CX X.prog X.w) X σ (E σ)) (hdb : (x == ("__debug__" : Str)) = false := by decide) : PE X (.Call (.Name x p) [] [] pos) (tCallG sp dvs E tNil) := by
  refine ⟨fun pins s σ H Q I h => wpAny_Call_Name_kw (ld_glob I gl hm ?_ hdb)⟩
  have q : sp dvs H Q (E σ) := h
  exact PySem.W.callWith_K0 I.kIn hk (run_g (args := ⟨[], []⟩) F hg hr (hx σ) I (hb s [] I.kIn (by rw [List.nil_append, ← hd.length]; exact F.len _ _ _ _ q)) hd q)
-- f(e, .., k = v, ..)
variable {kws : List Keyword} {ks : List Str} {g : List Value → List Value → List Value} {gV : List V → List V → List V} {tk : TA}
def tCallGK (sp : Sp) (gV : List V → List V → List V) (E : L2.St → XK) (t tk : TA) : TE := fun σ H Q => t σ H fun vs H1 => tk σ H1 fun zs H2 => sp (gV vs zs) H2 Q (E σ)
theorem pe_callGK (F : FnG X.prog X.w X.K X.mg X.base k f fd ps sp) (hg : X.A.guards = some []) (hr : Room k X.A) (gl : Gl X x) (hm : X.mg x = some (.ref f)) (hk : PySem.W.keepIn X.K (.ref f) = true) (hb : KBinds X.K fd ps ks g gV)
    (hx : ∀ σ, PassesAt (L2.CX X.prog X.w) X σ (E σ)) (ha : PA X (e :: es) t) (hkw : PK X kws tk) (hall : (backToKw pos (keywordEach kws X.env)).all (·.1.isSome) = true := by rfl) (hks : (backToKw pos (keywordEach kws X.env)).filterMap (·.1) = ks := by rfl)
    (hdb : (x == ("__debug__" : Str)) = false := by decide) (he : starEach (e :: es) X.env = (false, eval e X.env) :: starEach es X.env := by rfl)
    (hpl : ((backTo pos (starEach (e :: es) X.env)).any (·.1) || (backToKw pos (keywordEach kws X.env)).any (·.1.isNone)) = false := by rfl) : PE X (.Call (.Name x p) (e :: es) kws pos) (tCallGK sp gV E t tk) := by
  refine ⟨fun pins s σ H Q I h => wpAny_Call_Name_kw (ld_glob I gl hm ?_ hdb)⟩
  refine PySem.W.callWith_KW (h₀ := X.base) I.ok.mod.kin hk hall (thn (ha.run pos pins s σ H _ I h) fun us s1 ⟨vs, H1, I1, r, q⟩ => thn (hkw.run pos pins s1 σ H1 _ I1 q) fun ws s2 ⟨zs, H2, I2, rz, q2⟩ => ⟨I2.kIn, ?_⟩) hpl he
  rw [hks]
  have r2 := hb.rel r rz
  exact run_g (args := ⟨us, ks.zip ws⟩) F hg hr (hx σ) I2 (hb.to s2 us ws I2.kIn (by rw [← r2.length]; exact F.len _ _ _ _ q2)) r2 q2
end
end Fw
set_option maxHeartbeats 4000000
namespace Fw
open PySem PySem.Spec PyProof.Rows L2

/-! ### an own list is given up: a datum from now on -/
def frzE (i : Nat) (env : Evn) : Evn := match env[i]? with
  | some (.own d) => env.set i (.val d)
  | _ => env
theorem EnvR.frz {π : Type} {R : Rc π} {K : Fg} {W : Wd R} {M : Addr → Prop} {σ : L2.St} {env : Evn} {p : π} {H : Hp} (E : EnvR K W M σ env p H) (i : Nat) : ∃ M', EnvR K W M' σ (frzE i env) p H := by
  unfold frzE
  cases e : env[i]? with
  | none => exact ⟨M, E⟩
  | some s =>
    cases s with
    | own d =>
      obtain ⟨a, es, oa, ma, n0, h0⟩ := E.ow i d e
      refine ⟨fun b => M b ∧ b ≠ a, ?_⟩
      have l : ∀ b, (M b ∧ b ≠ a) → M b := fun b z => z.1
      refine ⟨by rw [List.length_set]; exact E.len, E.ext, E.at_, fun b m => ⟨E.low b m, fun z => n0 (z ▸ m)⟩, E.pam, fun b z => E.mtr b z.1, fun r hr => (E.gho r hr).less l, fun j d' e' => ?_, fun j d' e' => ?_, fun j k d1 d2 b e1 e2 => ?_, fun j e' => ?_⟩
      · rcases set_val e' with ⟨z, y⟩ | ⟨z, y⟩
        · subst z
          cases y
          exact ⟨_, es, (oa.less l).dt fun z => z.2 rfl⟩
        · obtain ⟨v, e1, h⟩ := E.sl j d' y
          exact ⟨v, e1, h.less l⟩
      · rcases set_val e' with ⟨z, y⟩ | ⟨z, y⟩
        · cases y
        · obtain ⟨b, e1, h, m, n, hb⟩ := E.ow j d' y
          exact ⟨b, e1, h.less l, ⟨m, fun w => z (E.dj i j d d' a e y es (by rw [e1, w]))⟩, n, hb⟩
      · rcases set_val e1 with ⟨z, y⟩ | ⟨z, y⟩
        · cases y
        · rcases set_val e2 with ⟨z2, y2⟩ | ⟨z2, y2⟩
          · cases y2
          · exact E.dj j k d1 d2 b y y2
      · rcases set_val e' with ⟨z, y⟩ | ⟨z, y⟩
        · cases y
        · exact E.pt j y
    | val d => exact ⟨M, E⟩
    | emp => exact ⟨M, E⟩
    | pot => exact ⟨M, E⟩
def sFrz {π : Type} (i : Nat) (f : SS π) : SS π := fun env p => f (frzE i env) p
theorem iss_frz {π : Type} {R : Rc π} {X : Cx} {wx : WX} {sts : List Stmt} {f : SS π} (i : Nat) (h : ISs R X wx sts f) : ISs R X wx sts (sFrz i f) := fun W => (h W).imp fun D σ H ⟨M, env, p, E, q⟩ => by
  obtain ⟨M', E'⟩ := E.frz i
  exact ⟨M', _, p, E', q⟩

/-! ### promises -/
/-- no resource -/
def Rz : Rc Unit := { At := fun pa _ _ => pa = [], dep := fun _ _ _ _ _ h => h, trk := fun pa _ _ h a m => by subst h; cases m }
section
variable {π : Type}
def argsR (K : Fg) (M : Addr → Prop) (H : Hp) (pa : List Addr) : Bool → List V → List PyData → Prop
  | false, vs, ds => DtAll K M H vs ds
  | true, vs, ds => ∃ a ws, vs = .ref a :: ws ∧ pa.head? = some a ∧ DtAll K M H ws ds
def postR (R : Rc π) (K : Fg) (mg : Str → Option Value) (M : Addr → Prop) (pa : List Addr) (H : Hp) (Q : VK) (E : XK) : Oc π PyData → Prop
  | .ok d p' => ∀ v H', Go (fun a => a ∈ pa) H H' → R.At pa p' H' → Dt K M H' v d → Q v H'
  | .ex e p' => ∀ cls dd H', Go (fun a => a ∈ pa) H H' → R.At pa p' H' → ExR K mg M H' cls dd e → E cls dd H'
  | .no => False
def spR (R : Rc π) (K : Fg) (mg : Str → Option Value) (pot : Bool) (n : Nat) (g : List PyData → Ma π PyData) : Sp := fun vs H Q E => vs.length = n ∧ ∃ (pa : List Addr) (p : π) (M : Addr → Prop) (ds : List PyData),
  (∀ a, M a → ∃ o, H a = some o) ∧ (∀ a ∈ pa, M a) ∧ R.At pa p H ∧ argsR K M H pa pot vs ds ∧ postR R K mg M pa H Q E (g ds p)
def fin : So π → Oc π PyData
  | .nx _ p => .ok .none p
  | .rt d p => .ok d p
  | .ex e _ p => .ex e p
  | _ => .no
def startE (pot : Bool) (m : Nat) (ds : List PyData) : Evn := match pot with
  | true => .pot :: (ds.map .val ++ List.replicate (m - (ds.length + 1)) .emp)
  | false => ds.map .val ++ List.replicate (m - ds.length) .emp
/-- a def's meaning -/
def mDef (pot : Bool) (m : Nat) (f : SS π) (ds : List PyData) : Ma π PyData := fun p => fin (f (startE pot m ds) p)
theorem ExR.less {K : Fg} {mg : Str → Option Value} {M M' : Addr → Prop} {H : Hp} {cls : Value} {dd : Option Addr} {e : Ex} (h : ExR K mg M H cls dd e) (l : ∀ a, M' a → M a) : ExR K mg M' H cls dd e := by
  obtain ⟨C, d, fs, e1, e2, e3, e4, e5⟩ := h
  refine ⟨C, d, fs, e1, e2, e3, e4, fun f x hx => ?_⟩
  obtain ⟨v, h1, h2⟩ := e5 f x hx
  exact ⟨v, h1, h2.less l⟩
theorem start_val {m : Nat} {ds : List PyData} {i : Nat} {d : PyData} (h : (ds.map Slot.val ++ List.replicate m .emp)[i]? = some (.val d)) : ds[i]? = some d := by
  rw [List.getElem?_append] at h
  split at h
  · rw [List.getElem?_map] at h
    cases e : ds[i]? with
    | none => rw [e] at h; cases h
    | some x => rw [e] at h; cases h; rfl
  · rw [List.getElem?_replicate] at h
    split at h <;> cases h
theorem start_noOwn {m : Nat} {ds : List PyData} {i : Nat} {d : PyData} (h : (ds.map Slot.val ++ List.replicate m .emp)[i]? = some (.own d)) : False := by
  rw [List.getElem?_append] at h
  split at h
  · rw [List.getElem?_map] at h
    cases e : ds[i]? with
    | none => rw [e] at h; cases h
    | some x => rw [e] at h; cases h
  · rw [List.getElem?_replicate] at h
    split at h <;> cases h
theorem start_noPot {m : Nat} {ds : List PyData} {i : Nat} (h : (ds.map Slot.val ++ List.replicate m .emp)[i]? = some .pot) : False := by
  rw [List.getElem?_append] at h
  split at h
  · rw [List.getElem?_map] at h
    cases e : ds[i]? with
    | none => rw [e] at h; cases h
    | some x => rw [e] at h; cases h
  · rw [List.getElem?_replicate] at h
    split at h <;> cases h
theorem start_get {N : List Str} {vs : List V} {i : Nat} {v : V} (h : vs[i]? = some v) : (L2.start N vs)[i]? = some (some v) := by
  unfold L2.start
  have hl : i < (vs.map some).length := by
    rw [List.length_map]
    exact (List.getElem?_eq_some_iff.mp h).1
  rw [List.getElem?_append_left hl, List.getElem?_map, h]
  rfl
theorem start_env {R : Rc π} {K : Fg} {N : List Str} {H : Hp} {pa : List Addr} {p : π} {M : Addr → Prop} {pot : Bool} {vs : List V} {ds : List PyData} (hN : vs.length ≤ N.length) (tr : ∀ a, M a → ∃ o, H a = some o) (pm : ∀ a ∈ pa, M a) (at' : R.At pa p H) (h : argsR K M H pa pot vs ds) :
    EnvR K (⟨pa, M, H, []⟩ : Wd R) M (L2.start N vs) (startE pot N.length ds) p H := by
  have hl : (L2.start N vs).length = N.length := by
    unfold L2.start
    rw [List.length_append, List.length_map, List.length_replicate]
    omega
  cases pot with
  | false =>
    have h' : DtAll K M H vs ds := h
    have lv := h'.length
    refine ⟨?_, fun a o e _ => e, at', fun _ z => z, pm, tr, fun q hq => absurd hq (by simp), fun i d e => ?_, fun i d e => (start_noOwn e).elim, fun i j d e a e1 e2 => (start_noOwn e1).elim, fun i e => (start_noPot e).elim⟩
    · rw [hl]
      show _ = (ds.map Slot.val ++ List.replicate (N.length - ds.length) Slot.emp).length
      rw [List.length_append, List.length_map, List.length_replicate]
      omega
    · obtain ⟨v, e1, e2⟩ := h'.get (start_val e)
      exact ⟨v, start_get e1, e2⟩
  | true =>
    obtain ⟨a, ws, rfl, hp, h'⟩ := h
    have lv := h'.length
    have lN : ws.length + 1 ≤ N.length := hN
    refine ⟨?_, fun a o e _ => e, at', fun _ z => z, pm, tr, fun q hq => absurd hq (by simp), fun i d e => ?_, fun i d e => ?_, fun i j d e a e1 e2 => ?_, fun i e => ?_⟩
    · rw [hl]
      show _ = (Slot.pot :: (ds.map Slot.val ++ List.replicate (N.length - (ds.length + 1)) Slot.emp)).length
      rw [List.length_cons, List.length_append, List.length_map, List.length_replicate]
      omega
    · cases i with
      | zero => cases e
      | succ i =>
        obtain ⟨v, e1, e2⟩ := h'.get (start_val (i := i) e)
        exact ⟨v, start_get (by simpa using e1), e2⟩
    · cases i with
      | zero => cases e
      | succ i => exact (start_noOwn (i := i) e).elim
    · cases i with
      | zero => cases e1
      | succ i => exact (start_noOwn (i := i) e1).elim
    · cases i with
      | zero => exact ⟨a, hp, start_get rfl⟩
      | succ i => exact (start_noPot (i := i) e).elim

/-! ### a def by its body -/
theorem funD_g {P : Program} {w : World} {K : Fg} {mg : Str → Option Value} {base : Heap} {k : Nat} {x qual : Str} {params : Arguments} {body : List Stmt} {scope : Scope} {dvs : List V} {kws : List (Str × V)} {f : Addr} {fd : FuncData} {N ps : List Str} {sp : Sp}
    (F : FunD K x qual params body scope dvs kws f fd) (S : FnScope N ps scope) (len : ∀ vs H Q E, sp vs H Q E → vs.length = ps.length)
    (hbody : ∀ (cdv : Value) (A : Around) (outer : List Env) (s : Shared) (H : Hp) (vs : List V) (Q : VK) (E : XK), A.guards = some [] → Room k (A.deeper (envOfC qual scope s.heap.objs.size f cdv)) → sp vs H Q E →
      ∃ t, PSs (cxOf (L2.CX P w) P w K mg base N qual scope f cdv A outer s H E) body t ∧ t { nx := fun _ H' => Q .non H', rt := Q } (start N vs) H) : FnG P w K mg base (k + 1) f fd ps sp := by
  obtain ⟨oc, od, dV, kV, doc, pm, an, cdv, ct, osl, rfl, lk, hcd, _, _⟩ := F.ex
  refine ⟨len, fun A fr s H args us vs Q E hg hr e0 hb rv q => ?_⟩
  have inK : K.In s.heap := e0.mod.kin.keeps fun b o z => (e0.bs b o z).1
  have nl : s.heap.NoLimit := e0.mod.nolimit.keeps fun b o z => (e0.bs b o z).1
  have kinds : ∀ y ∈ ps.zip us, scope.names.lookup y.1 = some .local ∨ (scope.names.lookup y.1 = some .cell ∧ ((cellsFrom (s.heap.objs.size + 1) scope.names []).lookup y.1).isSome = true) := by
    intro ⟨n, v⟩ hy
    exact (S.par n (List.of_mem_zip hy).1).imp id fun z => ⟨z, PySem.W.cellsFrom_some _ _ _ (.inl z)⟩
  refine codeAny_call_function hr.depth (inK _ _ lk) rfl S.co S.gen rfl (PySem.W.codeRec_of inK hcd) (hb _ _ _ _ (wpAny_newFunctionEnv_cells S.kind kinds fun env he s1 z => ?_))
  subst he
  obtain ⟨t, ht, hq⟩ := hbody cdv A fr s H vs Q E hg (hr.deeper _) q
  have I0 : Inv (cxOf (L2.CX P w) P w K mg base N qual scope f cdv A fr s H E) [] (start N vs) H s1 := inv_start S hr.hd e0 (len vs H Q E q) rv z
  refine ⟨nl.keeps z.toInCall.keep, codeAny_func (wpAny_mono (ht.run [] s1 (start N vs) H _ I0 hq) (fun fl s2 hs => ?_) fun e s2 he => he)⟩
  cases fl with
  | brk => exact (let ⟨_, _, _, z⟩ := hs; z : False).elim
  | cont => exact (let ⟨_, _, _, z⟩ := hs; z : False).elim
  | next =>
    obtain ⟨σ2, H2, J, z⟩ := hs
    exact ⟨.non, H2, J.os, J.bare, J.base, J.hok, rfl, z⟩
  | ret u =>
    obtain ⟨v, σ2, H2, J, r2, z⟩ := hs
    exact ⟨v, H2, J.os, J.bare, J.base, J.hok, r2, z⟩
/-- the wish of a def's frame -/
abbrev wxD (E : XK) : WX := fun cls d _ H => E cls d H
theorem def_R {R : Rc π} {P : Program} {w : World} {K : Fg} {mg : Str → Option Value} {base : Heap} {k n : Nat} {x qual : Str} {params : Arguments} {body : List Stmt} {scope : Scope} {dvs : List V} {kws : List (Str × V)} {f : Addr} {fd : FuncData} {N ps : List Str} {pot : Bool} {fb : SS π}
    (F : FunD K x qual params body scope dvs kws f fd) (S : FnScope N ps scope) (hn : ps.length = n) (hN : n ≤ N.length)
    (hb : ∀ (cdv : Value) (A : Around) (outer : List Env) (s : Shared) (H : Hp) (E : XK), A.guards = some [] → Room k (A.deeper (envOfC qual scope s.heap.objs.size f cdv)) → ISs R (cxOf (L2.CX P w) P w K mg base N qual scope f cdv A outer s H E) (wxD E) body fb) :
    FnG P w K mg base (k + 1) f fd ps (spR R K mg pot n (mDef pot N.length fb)) := by
  refine funD_g F S (fun vs H Q E h => h.1.trans hn.symm) fun cdv A outer s H vs Q E hg hr ⟨hl, pa, p, M, ds, tr, pm, at', ha, hq⟩ => ?_
  refine ⟨_, hb cdv A outer s H E hg hr ⟨pa, M, H, []⟩, M, startE pot N.length ds, p, start_env (by omega) tr pm at' ha, ?_⟩
  have goE : ∀ {M' : Addr → Prop} {σ' : L2.St} {env' : Evn} {p' : π} {H' : Hp}, EnvR K (⟨pa, M, H, []⟩ : Wd R) M' σ' env' p' H' → Go (fun a => a ∈ pa) H H' := fun E' a o e n => E'.ext a o e n
  show postS K mg (⟨pa, M, H, []⟩ : Wd R) (wxD E) _ (fb (startE pot N.length ds) p)
  unfold mDef at hq
  cases e : fb (startE pot N.length ds) p with
  | nx env' p' =>
    rw [e] at hq
    exact fun M' σ' H' E' => hq _ H' (goE E') E'.at_ .non
  | rt d p' =>
    rw [e] at hq
    exact fun v H' ex at2 hd => hq v H' ex at2 hd
  | ex x env' p' =>
    rw [e] at hq
    exact fun M' σ' H' cls dd E' xr => hq cls dd H' (goE E') E'.at_ (xr.less E'.low)
  | bk env' p' => rw [e] at hq; exact hq.elim
  | ct env' p' => rw [e] at hq; exact hq.elim
  | no => rw [e] at hq; exact hq.elim

/-! ### calls of such defs -/
def sCallZ (n : Nat) (g : List PyData → Ma Unit PyData) (fs : SA π) : SE π := fun env => bnd (fs env) fun rs => match escs rs with
  | none => fail
  | some ds => if ds.length = n then (match g ds () with
    | .ok d _ => ret (.st d)
    | .ex e _ => fun p => .ex e p
    | .no => fail) else fail
variable {R : Rc π} {X : Cx} {wx : WX} {e : Expr} {es : List Expr} {fs : SA π} {n : Nat}
theorem callZ_sp {g : List PyData → Ma Unit PyData} {W : Wd R} {M : Addr → Prop} {σ : L2.St} {env : Evn} {p : π} {H : Hp} {Q : VK} {vs : List V} {rs : List Vd} (E : EnvR X.K W M σ env p H) (pr : Paired (fun v r => VR X.K W M σ env p H v r) vs rs)
    (q : postX X.K X.mg W M σ env H wx (fun r p' H' => ∀ v, VR X.K W M σ env p' H' v r → Q v H') ((match escs rs with
      | none => fail
      | some ds => if ds.length = n then (match g ds () with
        | .ok d _ => ret (.st d)
        | .ex e _ => fun p => .ex e p
        | .no => fail) else fail : Ma π Vd) p)) : spR Rz X.K X.mg false n g vs H Q (WE wx σ) := by
  cases e1 : escs rs with
  | none => rw [e1] at q; exact q.elim
  | some ds =>
    rw [e1] at q
    dsimp only at q
    have hd := escs_of pr e1
    by_cases hl : ds.length = n
    · rw [if_pos hl] at q
      refine ⟨hd.length.trans hl, [], (), M, ds, E.mtr, (fun a m => absurd m (by simp)), rfl, hd, ?_⟩
      have s_ : ∀ {H' : Hp}, Go (fun a => a ∈ ([] : List Addr)) H H' → Same H H' := fun g1 a o e2 => g1 a o e2 (by simp)
      cases eg : g ds () with
      | ok d p' =>
        rw [eg] at q
        exact fun v H' g1 _ h => q H' (Go.of_same (s_ g1)) (W.mono _ _ _ _ (s_ g1) E.at_) v h
      | ex x p' =>
        rw [eg] at q
        exact fun cls dd H' g1 _ xr => q cls dd H' (E.same (s_ g1)) xr
      | no => rw [eg] at q; exact q.elim
    · rw [if_neg hl] at q
      exact q.elim
theorem ie_callZ {g : List PyData → Ma Unit PyData} (mk : ∀ {t : TA}, PA X es t → PE X e (tCallG (spR Rz X.K X.mg false n g) [] (WE wx) t)) (h : IA R X wx es fs) : IE R X wx e (sCallZ n g fs) := fun W => (mk (h W)).imp fun σ H Q ⟨M, env, p, E, q⟩ => by
  refine ⟨M, env, p, E, postA_X.mpr (postX_bnd E (post_X.mp q) fun rs p1 H1 g1 E1 q1 vs pr => ?_)⟩
  show spR Rz X.K X.mg false n g (vs ++ []) H1 Q (WE wx σ)
  rw [List.append_nil]
  exact callZ_sp E1 pr q1
/-- without arguments -/
theorem ie_callZ0 {g : List PyData → Ma Unit PyData} (h : PE X e (tCallG (spR Rz X.K X.mg false 0 g) [] (WE wx) tNil)) : IE R X wx e (sCallZ 0 g sNil) := fun W => h.imp fun σ H Q ⟨M, env, p, E, q⟩ => by
  show spR Rz X.K X.mg false 0 g ([] ++ []) H Q (WE wx σ)
  exact callZ_sp (rs := []) E .nil (post_X.mp q)
/-- the pot's slot i goes first -/
def sCallQ (i n : Nat) (g : List PyData → Ma π PyData) (fs : SA π) : SE π := fun env => match env[i]? with
  | some .pot => bnd (fs env) fun rs => match escs rs with
    | none => fail
    | some ds => if ds.length + 1 = n then bnd (g ds) fun d => ret (.st d) else fail
  | _ => fail
theorem ie_callQ {g : List PyData → Ma π PyData} {i : Nat} {a : Expr} (mk : ∀ {t : TA}, PA X (a :: es) t → PE X e (tCallG (spR R X.K X.mg true n g) [] (WE wx) t)) (ha : PE X a (tVar i)) (h : IA R X wx es fs) (hs : starEach (a :: es) X.env = (false, eval a X.env) :: starEach es X.env := by rfl) : IE R X wx e (sCallQ i n g fs) := fun W => (mk (pa_cons ha (h W) hs)).imp fun σ H Q ⟨M, env, p, E, q⟩ => by
  unfold sCallQ at q
  cases ei : env[i]? with
  | none => rw [ei] at q; exact q.elim
  | some s =>
    rw [ei] at q
    cases s with
    | pot =>
      obtain ⟨b, hb, es'⟩ := E.pt i ei
      refine ⟨_, es', M, env, p, E, postA_X.mpr (postX_bnd E (post_X.mp q) fun rs p1 H1 g1 E1 q1 vs pr => ?_)⟩
      show spR R X.K X.mg true n g ((.ref b :: vs) ++ []) H1 Q (WE wx σ)
      rw [List.append_nil]
      cases e1 : escs rs with
      | none => rw [e1] at q1; exact q1.elim
      | some ds =>
        rw [e1] at q1
        dsimp only at q1
        have hd := escs_of pr e1
        by_cases hl : ds.length + 1 = n
        · rw [if_pos hl] at q1
          refine ⟨by rw [List.length_cons, hd.length]; exact hl, W.pa, p1, M, ds, E1.mtr, fun a m => E1.low a (E1.pam a m), E1.at_, ⟨b, vs, rfl, hb, hd⟩, ?_⟩
          unfold bnd at q1
          cases eg : g ds p1 with
          | ok d p' =>
            rw [eg] at q1
            exact fun v H' g1 at1 h => q1 H' g1 at1 v h
          | ex x p' =>
            rw [eg] at q1
            exact fun cls dd H' g1 at1 xr => q1 cls dd H' (E1.go g1 at1) xr
          | no => rw [eg] at q1; exact q1.elim
        · rw [if_neg hl] at q1
          exact q1.elim
    | emp => exact q.elim
    | val d => exact q.elim
    | own d => exact q.elim
end
end Fw
set_option maxHeartbeats 4000000

namespace Fw
open PySem PySem.Spec PySem.Calls PyProof.Rows L2
open PySem.W (findIn specialIn takesIn subIn mroIn hasDictIn clsIn findObj Looks)
/-! ### the class of a caught error, asked as an attribute; the error has its dict -/
section
variable {prog : Program} {w : World} {A : Around} {E : Value → Shared → Prop} {K : Fg} {C : Addr} {od : Option Obj}
theorem fo_cls (c : L2.ExcC K C) : findObj K C od "__class__" = some (.bind (.builtin "getset_descriptor.__get__") (.builtin "object.__class__")) := by
  obtain ⟨cd, hc, _⟩ := PySem.W.any_some c.hd
  unfold findObj
  rw [hc, Option.bind_some, c.ha, Option.bind_some]
  simp [c.hn, c.ht]
theorem ask_cls (c : L2.ExcC K C) {x : Addr} {ox : Obj} {Z : Option Value → Shared → Prop} : ∀ {s : Shared}, K.In s.heap → PySem.W.InstAt s.heap x ox C od → Z (some (.ref C)) { s with toks := s.toks + 1 } → wpAny (model prog w) A (getAttr? (.ref x) "__class__") Z E s := by
  rintro ⟨hh, gg, dd, tt, oo⟩ IK J zz
  have t0 := J.type (M := model prog w)
  have t1 := PySem.W.looks_findIn (M := model prog w) IK c.hg
  have t2 := PySem.W.looks_findIn (M := model prog w) IK c.hk
  have t3 := PySem.W.looks_find (M := model prog w) IK J (fo_cls c)
  have t4 : Looks (model prog w) hh (isInstance (.ref x) (.type "BaseException")) true := t0.andThen (PySem.W.looks_subIn IK c.hs)
  have n0 : (false && onTheHeap (Value.builtin "BaseException.__getattribute__")) = false := rfl
  have n1 : (onTheHeap (Value.ref C) && Value.builtin "BaseException.__getattribute__" == Value.builtin "object.__getattribute__") = false := by
    rw [show (Value.builtin "BaseException.__getattribute__" == Value.builtin "object.__getattribute__") = false from by decide +kernel]; rfl
  unfold getAttr? getAttrBy? getAttrBy
  refine wpAny_bind (wpAny_mkText ?_)
  refine wpAny_bind (wpAny_attempt ?_)
  refine wpAny_holding (wpAny_bind (t0.at (wpAny_bind (t1.at ?_))))
  show wpAny _ _ (if (onTheHeap (Value.ref C) && Value.builtin "BaseException.__getattribute__" == Value.builtin "object.__getattribute__") = true then _ else _) _ _ _
  rw [n1, if_neg (by decide)]
  unfold getAttrByItsOwn hookBefore
  refine wpAny_bind ?_
  rw [if_pos (show onTheHeap (.ref C) = true from rfl)]
  refine t2.at (wpAny_bind (wpAny_attempt (wpAny_holding ?_)))
  unfold callGetattribute
  rw [n0, if_neg (by decide)]
  unfold boundAndCalled
  rw [PySem.F.excAttr_ValueError.ga.bind (.ref x)]
  refine wpAny_bind (wpAny_pure (show wpAny _ _ (call (.builtin "BaseException.__getattribute__") [.ref x, .str "__class__" tt]) _ _ _ from ?_))
  refine wpAny_call (codeAny_call_builtin PySem.F.excAttr_ValueError.ga.plain PySem.F.entry_bexc_ga (@PySem.W.check_slot (model prog w) _ _ ⟨hh, gg, dd, tt + 1, oo⟩ "BaseException.__getattribute__" "BaseException" "__getattribute__" (.ref x) [.str "__class__" tt] [] _ (by decide +kernel) (by decide +kernel) t4 (PySem.F.args_bexc_ga (.ref x) (.str "__class__" tt)) ?_))
  unfold Builtin.«object.__getattribute__»
  refine wpAny_bind (wpAny_of_eq (a := ((.ref x : Value), [Value.str "__class__" tt])) (by first | rfl | (simp only [slotArgs]; rfl)) (wpAny_bind (wpAny_pure (wpAny_bind (t0.at (wpAny_bind (t3.at ?_)))))))
  show wpAny _ _ (holding [Value.builtin "object.__class__"] (call (.builtin "getset_descriptor.__get__") [.builtin "object.__class__", .ref x, .ref C]) >>= PySem.ret) _ _ _
  refine wpAny_bind (wpAny_holding (wpAny_call (PySem.W.class_get (s := ⟨hh, gg, dd, tt + 1, oo⟩) (ox := ox) (od := od) IK J c.hm (wpAny_pure ?_))))
  show wpAny _ _ (handedOut (.ref C)) _ _ _
  rw [PySem.W.handedOut_of (v := .ref C) rfl]
  first
    | exact wpAny_pure (wpAny_pure zz)
    | exact wpAny_pure zz
    | exact wpAny_pure (wpAny_bind (wpAny_pure (wpAny_pure zz)))
theorem kit_err (c : L2.ExcC K C) {x : Addr} {ox : Obj} : PySem.W.KitX K (.ref x) (.ref C) (fun h => PySem.W.InstAt h x ox C od) where
  ty := fun _ _ _ J => J.type
  it := fun _ _ IK _ => by
    obtain ⟨cd, hc, _⟩ := PySem.W.any_some c.hd
    unfold clsIn at hc
    split at hc
    · rename_i hl
      intro A1 Q1 E1 s1 k q
      unfold isType loadHead
      exact wpAny_bind (wpAny_loadPart (k _ _ (IK _ _ hl)) (wpAny_pure q))
    · cases hc
  ne := fun h tp dd its n sl IK htp => by
    obtain ⟨cd, hc, _⟩ := PySem.W.any_some c.hd
    refine Bool.eq_false_iff.mpr fun q => ?_
    obtain rfl : C = tp := Value.ref.inj (beq_iff_eq.mp q)
    unfold clsIn at hc
    split at hc
    · rename_i hl
      exact absurd ((IK _ _ hl).symm.trans htp) (by simp)
    · cases hc
  ca := fun IK J z => ask_cls c IK J z
end
/-! ### isinstance(e, c), e the caught error -/
def rIsX (K : Fg) (D a : Addr) (dx : Option Addr) : List V → Hp → VK → Prop := fun xs H Q => ∃ (B : Addr) (b : Bool), xs = [.ref a, .ref B] ∧ PySem.W.kitOne K (.ref D) (.ref B) = some b ∧ (∃ d fs, dx = some d ∧ H d = some (.xd fs)) ∧ Q (.bl b) H
theorem call_isX {X : Cx} {a D : Addr} {dx : Option Addr} {oe : Obj} {pn : List (Addr × Obj)} (c : L2.ExcC X.K D) (hz : Zc (.ref D) dx oe) (hf : ∃ vs, oe.data = .fields vs) : CallR (X.suite a ((a, oe) :: pn)) (.builtin "isinstance") (rIsX X.K D a dx) := by
  intro pins s σ H xs us Q I r h
  obtain ⟨B, b, rfl, e, ⟨d, fs, rfl, ed⟩, q⟩ := h
  match us, r with
  | [_, _], .cons rx (.cons rt .nil) =>
    cases rx
    cases rt
    have hget := (I.pin (a, oe) (List.mem_append.mpr (.inl List.mem_cons_self))).1
    obtain ⟨vs, hv⟩ := hf
    obtain ⟨mA, hns, hr⟩ := (I.hok d _ ed : ObjOk X.prog X.w H s.heap d (.xd fs))
    obtain ⟨o, ho, _⟩ := lookIn_ns hns
    have J : PySem.W.InstAt s.heap a oe D (some o) := by
      refine ⟨hget, hz.1, ?_, ?_⟩
      · unfold PySem.W.notCls
        rw [hv] <;> rfl
      · rw [hz.2]
        exact ho
    exact PySem.W.kia_one (kit_err c) I.kIn J e (fun z => nomatch z) fun tk => ⟨.bl b, H, I.kept (t' := tk) fun _ _ z => z, rfl, q⟩
end Fw
set_option maxHeartbeats 4000000
namespace Fw
open PySem PySem.Spec PyProof.Rows L2

/-! ### try with several clauses, each with a name of its own -/
/-- one clause: the class, the slot, what the suite means -/
structure Cl where
  c : Value
  i : Nat
  ts : Addr → Value → Option Addr → TS
def endsAs (D : Ends) (i : Nat) : Ends := { nx := fun τ h => D.nx (τ.set i none) h, rt := D.rt, bk := fun τ h => D.bk (τ.set i none) h, ct := fun τ h => D.ct (τ.set i none) h }
def wCl (K : Fg) (Wo : WX) (D : Ends) : List Cl → WX
  | [] => Wo
  | z :: r => fun cls d σ H => ∃ b, PySem.W.exmOne K cls z.c = some b ∧ (b = true → ∀ a, H a = none → z.ts a cls d (endsAs D z.i) (σ.set z.i (some (.ref a))) H) ∧ (b = false → wCl K Wo D r cls d σ H)
inductive ClsOk (X : Cx) : List ExceptHandler → List Cl → Prop
  | nil : ClsOk X [] []
  | cons {x n : Str} {z : Cl} {b₀ : Stmt} {suite : List Stmt} {np pos' : Pos} {hs : List ExceptHandler} {l : List Cl} (hi : X.N[z.i]? = some n) (hl : X.env.kindOf n = some .local) (hc : Names X x z.c)
      (su : ∀ (a : Addr) (oe : Obj) (cls : Value) (d : Option Addr) (pn : List (Addr × Obj)), Zc cls d oe → (∃ vs, oe.data = .fields vs) → PSs (X.suite a ((a, oe) :: pn)) (b₀ :: suite) (z.ts a cls d)) (r : ClsOk X hs l) :
      ClsOk X (.ExceptHandler (some (.Name x np)) (some n) (b₀ :: suite) pos' :: hs) (z :: l)
/-- the clauses, one after another, the error noted at the frame -/
theorem cls_run {X : Cx} {D : Ends} {Wo : WX} {pins : List (Addr × Obj)} {σ : L2.St} {H : Hp} {a : Addr} {B : Heap} {sI s' : Shared} {cls : Value} {d : Option Addr} {h3 : Heap} (hs : X.stack = X.env :: X.outer) (hf : X.env.frame = some X.env.locals) (hN : X.N.Nodup) (tk : Takes X Wo)
    (J : Inv X pins σ H sI) (nb : ∀ b o, sI.heap.get? b = some o → b ∉ frs X.stack → B.get? b = some o) (up : sI.heap.UpToSlots h3) (na : H a = none) (os : s'.os = sI.os) (ag : AllBare s'.gens) (fl : HandSPX.FlyingZ B (X.env :: X.outer) a (Zc cls d) h3)
    (nL : a ≠ X.env.locals) (nF : a ∉ X.fs) :
    ∀ {hds : List ExceptHandler} {l : List Cl}, ClsOk X hds l → wCl X.K Wo D l cls d σ H → wpAny (model X.prog X.w) X.A (handleBy (.ref a) X.env hds) (SP X pins D) X.xe { s' with heap := h3 } := by
  intro hds l hk
  have hfr : X.A.frames = some (X.env :: X.outer) := by rw [J.ok.frames, hs]
  have J3 : Inv X pins σ H { s' with heap := h3 } := J.landed nb fl.1 up os ag
  obtain ⟨oe, vs, he, hz, hd⟩ := fl.there
  have S3 := J3.suite he hd na nL nF
  induction hk with
  | nil =>
    intro w
    refine wpAny_handleBy_nil ?_
    obtain ⟨_, _, _, oe', vs', T, oT, ts', he', _, hd', h1', _⟩ := id fl
    unfold PySem.passOn
    refine wpAny_bind (wpAny_field he' hd' h1' ?_)
    rw [if_neg (show ¬ (((Value.ref T) == Value.none) = true) from by simp)]
    have last : wpAny (model X.prog X.w) X.A (setFlight (.ref a) X.env.frame) (fun _ s4 => wpAny (model X.prog X.w) X.A (throw (.ref a) : Sem Flow) (SP X pins D) X.xe s4) X.xe { s' with heap := h3 } := by
      rw [hf]
      exact HandSPX.setFlight_upZ fl fun h4 hh4 up4 => wpAny_throw (tk _ _ ⟨a, B, sI, pins, σ, H, cls, d, rfl, J, nb, up.trans up4, .inr (.inr (by rw [hs]; exact hh4)), na, os, ag, w⟩)
    first
      | exact wpAny_bind (wpAny_pure (wpAny_bind last))
      | exact wpAny_bind last
  | @cons x n z b₀ suite np pos' hs2 l2 hi hl hc su r ih =>
    rintro ⟨b, hb1, yes, no⟩
    refine wpAny_handleBy_cons (codeAny_handlers_test ?_) (by intro q; cases q)
    have LT : PySem.W.Looks (model X.prog X.w) h3 (typeOf (.ref a)) cls := fun A Q E s k q => wpAny_typeOf_ref (k _ _ he) (by rw [hz.1]; exact q)
    have named : ∀ {Q E : Value → Shared → Prop}, Q z.c { s' with heap := h3 } → wpAny (model X.prog X.w) (X.A.mark (some (.ref a))) (eval (.Name x np) X.env) Q E { s' with heap := h3 } := fun {Q E} q => by
      obtain ⟨g1, g2, m1 | ⟨m1, m2, m3⟩⟩ := hc
      · exact ld_glob (X := X.suite a ((a, oe) :: (X.pn ++ pins))) S3 g1 m1 q g2
      · exact ld_blt (X := X.suite a ((a, oe) :: (X.pn ++ pins))) S3 g1 m1 m2 q m3 g2
    refine named ((PySem.W.exm_one (M := model X.prog X.w) J3.kIn LT hb1).here ?_)
    cases b with
    | false => exact (show wpAny _ X.A (handleBy (.ref a) X.env hs2) _ _ _ from ih (no rfl))
    | true =>
      refine codeAny_handlers_suite_as (HandSPX.lands_againZ fl fun h4 fl4 up4 => ?_)
      have J4 : Inv X pins σ H { s' with heap := h4 } := J.landed nb fl4.1 (up.trans up4) os ag
      obtain ⟨oe4, vs4, he4, hz4, hd4⟩ := fl4.there
      refine store_ok (X := X.suite a ((a, oe4) :: (X.pn ++ pins))) (v := .ref a) (J4.suite he4 hd4 na nL nF) hN hi (.inl hl) rfl (fun s5 S5 => ?_) (.inr hl)
      have away : ∀ {s6 : Shared} {τ : L2.St} {H6 : Hp} {Z : Shared → Prop}, Inv (X.suite a ((a, oe4) :: (X.pn ++ pins))) [] τ H6 s6 → (∀ s7, Inv X pins (τ.set z.i none) H6 s7 → Z s7) →
          wpAny (model X.prog X.w) X.A (do bindName X.env n .none; unbindBehindTheSuite X.env n pos') (fun _ s7 => Z s7) X.xe s6 := fun S6 hq => gone_ok (S6.unsuite J.ok) hN hi hl hq
      refine wpAny_mono ((su a oe4 cls d (X.pn ++ pins) hz4 ⟨_, hd4⟩).run [] s5 _ H _ S5 (yes rfl a na)) (fun f s6 hsp => ?_) (fun _ _ z => False.elim z)
      match f, hsp with
      | .next, ⟨_, _, S6, q6⟩ => exact away S6 fun s7 J7 => ⟨_, _, J7, q6⟩
      | .brk, ⟨_, _, S6, q6⟩ => exact away S6 fun s7 J7 => ⟨_, _, J7, q6⟩
      | .cont, ⟨_, _, S6, q6⟩ => exact away S6 fun s7 J7 => ⟨_, _, J7, q6⟩
      | .ret u, ⟨_, _, _, S6, r6, q6⟩ => exact away S6 fun s7 J7 => ⟨_, _, _, J7, r6, q6⟩
theorem ps_tryAs {X : Cx} {body : List Stmt} {h₀ : ExceptHandler} {hds : List ExceptHandler} {l : List Cl} {pos : Pos} {tb : WX → TS} {Wo : WX} (hs : X.stack = X.env :: X.outer) (hf : X.env.frame = some X.env.locals) (hN : X.N.Nodup) (tk : Takes X Wo)
    (hb : ∀ (W : WX) (pn : List (Addr × Obj)) (xe : Value → Shared → Prop), Takes (X.tr pn xe) W → PassesOwn (model X.prog X.w) X.A X.env xe → PSs (X.tr pn xe) body (tb W)) (hh : ClsOk X (h₀ :: hds) l) :
    PS X (.Try body (h₀ :: hds) [] [] pos) (fun D σ H => tb (wCl X.K Wo D l) D σ H) := ⟨fun pins s σ H D I h => by
  have ok := I.ok
  have hfr : X.A.frames = some (X.env :: X.outer) := by rw [ok.frames, hs]
  let xc : Value → Shared → Prop := fun e s₁ => wpAny (model X.prog X.w) X.A (noteFrame e X.env) (fun _ s₂ => wpAny (model X.prog X.w) X.A (setFlight e none) (fun _ s₃ => wpAny (model X.prog X.w) X.A (handleBy e X.env (h₀ :: hds)) (SP X pins D) X.xe s₃) X.xe s₂) X.xe s₁
  have taken : Takes (X.tr (X.pn ++ pins) xc) (wCl X.K Wo D l) := by
    rintro u s' ⟨a, B, sI, pins', σ', H', cls, d, rfl, J', nb, up, sky, na, os, ag, w⟩
    have J : Inv X pins σ' H' sI := J'.ofTry ok
    have sky' : Sky B (X.env :: X.outer) a (Zc cls d) X.env.locals s'.heap := by rw [← hs]; exact sky
    show wpAny (model X.prog X.w) X.A (noteFrame (.ref a) X.env) _ _ _
    refine Sky.land Zc.steady hfr hf sky' fun h3 fl3 up3 => ?_
    obtain ⟨oe, vs, he, hz, hd⟩ := fl3.there
    have nfr : a ∉ frs (X.env :: X.outer) := fun hm => by
      obtain ⟨_, o', e', hnf⟩ := fl3.2.2.1.mem hm
      rw [he] at e'
      cases e'
      exact hnf _ hd
    have nL : a ≠ X.env.locals := fun z => nfr (List.mem_filterMap.mpr ⟨X.env, List.mem_cons_self, by rw [hf, z]⟩)
    have nF : a ∉ X.fs := fun hm => by
      obtain ⟨e, he, q⟩ := List.mem_filterMap.mp hm
      exact nfr (List.mem_filterMap.mpr ⟨e, List.mem_cons_of_mem _ he, q⟩)
    exact cls_run hs hf hN tk J nb (up.trans up3) na os ag fl3 nL nF hh w
  refine wpAny_Try_except (wpAny_mono ((hb _ _ xc taken PassesOwn.looking).run [] s σ H D (I.toTry _) h) (fun f s1 hsp => ?_) fun e s1 he => he)
  match f, hsp with
  | .next, ⟨_, _, J', q⟩ => exact wpAny_execs_nil ⟨_, _, J'.ofTry ok, q⟩
  | .brk, ⟨_, _, J', q⟩ => exact ⟨_, _, J'.ofTry ok, q⟩
  | .cont, ⟨_, _, J', q⟩ => exact ⟨_, _, J'.ofTry ok, q⟩
  | .ret u, ⟨_, _, _, J', r, q⟩ => exact ⟨_, _, _, J'.ofTry ok, r, q⟩⟩
end Fw
set_option maxHeartbeats 4000000
namespace Fw
open PySem PySem.Spec PyProof.Rows L2

/-! ### a slot of which nothing is said -/
theorem EnvR.setAny {π : Type} {R : Rc π} {K : Fg} {W : Wd R} {M : Addr → Prop} {σ : L2.St} {env : Evn} {p : π} {H : Hp} (E : EnvR K W M σ env p H) (i : Nat) (x : Option V) : EnvR K W M (σ.set i x) (env.set i .emp) p H := by
  have st : ∀ {j : Nat} {y : Option V}, j ≠ i → σ[j]? = some y → (σ.set i x)[j]? = some y := fun n e => by rw [List.getElem?_set_ne (Ne.symm n)]; exact e
  have un : ∀ {j : Nat} {y : Option V}, j ≠ i → (σ.set i x)[j]? = some y → σ[j]? = some y := fun n e => by rw [List.getElem?_set_ne (Ne.symm n)] at e; exact e
  have sl : ∀ {j : Nat} {y : Slot}, y ≠ .emp → (env.set i .emp)[j]? = some y → j ≠ i ∧ env[j]? = some y := fun {j y} n e => by
    rcases set_val e with ⟨h1, h2⟩ | ⟨h1, h2⟩
    · exact absurd h2 n
    · exact ⟨Ne.symm h1, h2⟩
  refine ⟨by rw [List.length_set, List.length_set]; exact E.len, E.ext, E.at_, E.low, E.pam, E.mtr, E.gho, fun j d e => ?_, fun j d e => ?_, fun j k d1 d2 b e1 e2 h1 h2 => ?_, fun j e => ?_⟩
  · obtain ⟨n, e⟩ := sl (by simp) e
    obtain ⟨v, h1, h2⟩ := E.sl j d e
    exact ⟨v, st n h1, h2⟩
  · obtain ⟨n, e⟩ := sl (by simp) e
    obtain ⟨b, h1, h2⟩ := E.ow j d e
    exact ⟨b, st n h1, h2⟩
  · obtain ⟨n1, e1⟩ := sl (by simp) e1
    obtain ⟨n2, e2⟩ := sl (by simp) e2
    exact E.dj j k d1 d2 b e1 e2 (un n1 h1) (un n2 h2)
  · obtain ⟨n, e⟩ := sl (by simp) e
    obtain ⟨b, h1, h2⟩ := E.pt j e
    exact ⟨b, h1, st n h2⟩

/-! ### try -/
section
variable {π : Type}
/-- a clause: does it take an error of the class x; its name's slot; its suite -/
structure SCl (π : Type) where
  sub : Str → Option Bool
  i : Nat
  f : Ex → SS π
def after (i : Nat) : So π → So π
  | .nx env p => .nx (env.set i .emp) p
  | .bk env p => .bk (env.set i .emp) p
  | .ct env p => .ct (env.set i .emp) p
  | .rt d p => .rt d p
  | _ => .no
def hand : List (SCl π) → Ex → Evn → π → So π
  | [], e, env, p => .ex e env p
  | c :: r, e, env, p => match c.sub e.cls with
    | some true => if c.i < env.length then after c.i (c.f e (env.set c.i .emp) p) else .no
    | some false => hand r e env p
    | none => .no
def sTry (fb : SS π) (cs : List (SCl π)) : SS π := fun env p => match fb env p with
  | .ex e env' p' => hand cs e env' p'
  | o => o
/-- a suite's reading: the error e lies at a, its class cls, its dict d -/
def tSu {R : Rc π} (K : Fg) (mg : Str → Option Value) (i : Nat) (f : Ex → SS π) : Addr → Value → Option Addr → TS := fun a cls d D σ H => ∃ (W : Wd R) (M : Addr → Prop) (env : Evn) (p : π) (e : Ex), EnvR K W M σ env p H ∧ σ[i]? = some (some (.ref a)) ∧ ExR K mg M H cls d e ∧ postS K mg W noX D (f e env p)
inductive Sus (R : Rc π) (K : Fg) (mg : Str → Option Value) : List (SCl π) → List Cl → Prop
  | nil : Sus R K mg [] []
  | cons {s : SCl π} {v : Value} {ss : List (SCl π)} {cs : List Cl} (h : ∀ x C b, mg x = some (.ref C) → s.sub x = some b → PySem.W.exmOne K (.ref C) v = some b) (r : Sus R K mg ss cs) : Sus R K mg (s :: ss) (⟨v, s.i, tSu (R := R) K mg s.i s.f⟩ :: cs)
variable {R : Rc π} {X : Cx} {wx : WX}
theorem hand_ok {K : Fg} {mg : Str → Option Value} {W : Wd R} {D : Ends} {e : Ex} : ∀ {ss : List (SCl π)} {cs : List Cl}, Sus R K mg ss cs → ∀ {env : Evn} {p : π}, postS K mg W wx D (hand ss e env p) →
    ∀ (M : Addr → Prop) (σ : L2.St) (H : Hp) (cls : Value) (dd : Option Addr), EnvR K W M σ env p H → ExR K mg M H cls dd e → wCl K wx D cs cls dd σ H
  | _, _, .nil, env, p, q => q
  | _, _, .cons (s := s) (v := v) h r, env, p, q => fun M σ H cls dd E xr => by
    unfold hand at q
    obtain ⟨C, d0, fs, m1, m2, m3, m4, m5⟩ := id xr
    cases es : s.sub e.cls with
    | none => rw [es] at q; exact q.elim
    | some b =>
      rw [es] at q
      refine ⟨b, by rw [m2]; exact h _ _ _ m1 es, fun hb a na => ?_, fun hb => ?_⟩
      · subst hb
        dsimp only at q
        by_cases hl : s.i < env.length
        · rw [if_pos hl] at q
          refine ⟨W, M, env.set s.i .emp, p, e, E.setAny s.i _, ?_, xr, ?_⟩
          · rw [List.getElem?_set_self (by rw [E.len]; exact hl)]
          · cases ef : s.f e (env.set s.i .emp) p with
            | nx env' p' => rw [ef] at q; exact fun M' σ' H' E' => q M' _ H' (E'.setAny s.i none)
            | bk env' p' => rw [ef] at q; exact fun M' σ' H' E' => q M' _ H' (E'.setAny s.i none)
            | ct env' p' => rw [ef] at q; exact fun M' σ' H' E' => q M' _ H' (E'.setAny s.i none)
            | rt x p' => rw [ef] at q; exact q
            | ex x env' p' => rw [ef] at q; exact q.elim
            | no => rw [ef] at q; exact q.elim
        · rw [if_neg hl] at q
          exact q.elim
      · subst hb
        exact hand_ok r q M σ H cls dd E xr
theorem is_try {body : List Stmt} {h₀ : ExceptHandler} {hds : List ExceptHandler} {pos : Pos} {fb : SS π} {ss : List (SCl π)} {cs : List Cl} (hs : X.stack = X.env :: X.outer) (hf : X.env.frame = some X.env.locals) (hN : X.N.Nodup) (tk : Takes X wx)
    (hb : ∀ (wx' : WX) (pn : List (Addr × Obj)) (xe : Value → Shared → Prop), Takes (X.tr pn xe) wx' → PassesOwn (model X.prog X.w) X.A X.env xe → ISs R (X.tr pn xe) wx' body fb) (hc : ClsOk X (h₀ :: hds) cs) (su : Sus R X.K X.mg ss cs) :
    IS R X wx (.Try body (h₀ :: hds) [] [] pos) (sTry fb ss) := fun W => (ps_tryAs (tb := fun wx' => tS X.K X.mg W wx' fb) hs hf hN tk (fun wx' pn xe t o => hb wx' pn xe t o W) hc).imp fun D σ H ⟨M, env, p, E, q⟩ => by
  refine ⟨M, env, p, E, ?_⟩
  unfold sTry at q
  cases ef : fb env p with
  | nx env' p' => rw [ef] at q; exact q
  | rt d p' => rw [ef] at q; exact q
  | bk env' p' => rw [ef] at q; exact q
  | ct env' p' => rw [ef] at q; exact q
  | no => rw [ef] at q; exact q
  | ex x env' p' => rw [ef] at q; exact fun M' σ' H' cls dd E' xr => hand_ok su q M' σ' H' cls dd E' xr

/-! ### a suite: one list of what the error tells -/
abbrev FI := Ex → Evn → Option PyData
abbrev FIs := Ex → Evn → Option (List PyData)
/-- what is known in a suite -/
structure InSu (R : Rc π) (K : Fg) (mg : Str → Option Value) (i : Nat) (a : Addr) (cls : Value) (d : Option Addr) (σ : L2.St) (H : Hp) (M : Addr → Prop) (env : Evn) (e : Ex) : Prop where
  en : ∃ (W : Wd R) (p : π), EnvR K W M σ env p H
  at_ : σ[i]? = some (some (.ref a))
  ex : ExR K mg M H cls d e
def tIx (R : Rc π) (K : Fg) (mg : Str → Option Value) (i : Nat) (a : Addr) (cls : Value) (d : Option Addr) (f : FI) : TE := fun σ H Q => ∃ M env e x, InSu R K mg i a cls d σ H M env e ∧ f e env = some x ∧ ∀ v, Dt K M H v x → Q v H
def tIxs (R : Rc π) (K : Fg) (mg : Str → Option Value) (i : Nat) (a : Addr) (cls : Value) (d : Option Addr) (f : FIs) : TA := fun σ H Q => ∃ M env e xs, InSu R K mg i a cls d σ H M env e ∧ f e env = some xs ∧ ∀ vs, DtAll K M H vs xs → Q vs H
def xNil : FIs := fun _ _ => some []
def xCons (f : FI) (g : FIs) : FIs := fun e env => match f e env, g e env with
  | some x, some xs => some (x :: xs)
  | _, _ => none
variable {i : Nat} {a : Addr} {cls : Value} {d : Option Addr} {Y : Cx} {e e1 e2 : Expr} {es : List Expr} {f : FI} {g : FIs}
theorem ixs_nil : PA Y [] (tIxs R Y.K Y.mg i a cls d xNil) := pa_nil.imp fun σ H Q ⟨M, env, x, xs, s, h, q⟩ => by
  cases h
  exact q [] .nil
theorem ixs_cons (h1 : PE Y e (tIx R Y.K Y.mg i a cls d f)) (h2 : PA Y es (tIxs R Y.K Y.mg i a cls d g)) (hs : starEach (e :: es) Y.env = (false, eval e Y.env) :: starEach es Y.env := by rfl) : PA Y (e :: es) (tIxs R Y.K Y.mg i a cls d (xCons f g)) := (pa_cons h1 h2 hs).imp fun σ H Q ⟨M, env, x, xs, s, h, q⟩ => by
  unfold xCons at h
  cases e1 : f x env with
  | none => rw [e1] at h; cases h
  | some y =>
    cases e2 : g x env with
    | none => rw [e1, e2] at h; cases h
    | some ys =>
      rw [e1, e2] at h
      cases h
      exact ⟨M, env, x, y, s, e1, fun v hv => ⟨M, env, x, ys, s, e2, fun vs hvs => q _ (.cons hv hvs)⟩⟩
def xC (c : PyData) : FI := fun _ _ => some c
theorem ix_c {v : V} {c : PyData} (h : PE Y e (tC v)) (k : ∀ M H, Dt Y.K M H v c) : PE Y e (tIx R Y.K Y.mg i a cls d (xC c)) := h.imp fun σ H Q ⟨M, env, x, y, s, h, q⟩ => by
  cases h
  exact q v (k M H)
theorem ix_str {x j pos} : PE Y (.Constant (.str x) j pos) (tIx R Y.K Y.mg i a cls d (xC (.str x))) := ix_c pe_str fun _ _ => .str x
theorem ix_int {x j pos} : PE Y (.Constant (.int x) j pos) (tIx R Y.K Y.mg i a cls d (xC (.int x))) := ix_c pe_int fun _ _ => .int x
theorem ix_bl {x j pos} : PE Y (.Constant (.bool x) j pos) (tIx R Y.K Y.mg i a cls d (xC (.bool x))) := ix_c pe_bl fun _ _ => .bl x
def xVar (j : Nat) : FI := fun _ env => match env[j]? with
  | some (.val x) => some x
  | _ => none
theorem ix_var {j : Nat} (h : PE Y e (tVar j)) : PE Y e (tIx R Y.K Y.mg i a cls d (xVar j)) := h.imp fun σ H Q ⟨M, env, x, y, ⟨⟨W, p, E⟩, s2, s3⟩, h, q⟩ => by
  unfold xVar at h
  cases ej : env[j]? with
  | none => rw [ej] at h; cases h
  | some z =>
    rw [ej] at h
    cases z with
    | val z =>
      cases h
      obtain ⟨v, h1, h2⟩ := E.sl j _ ej
      exact ⟨v, h1, q v h2⟩
    | _ => cases h
/-- e.f -/
def xFld (l : List Str) (n : Str) : FI := fun e _ => if l.contains e.cls then e.fields.lookup n else none
section
variable {oe : Obj} {pn : List (Addr × Obj)} {pos p : Pos} {n x : Str}
theorem ix_fld {l : List Str} (hk : ∀ c ∈ l, ∀ C, X.mg c = some (.ref C) → L2.XfC X.K C ∧ PySem.W.findIn X.K (.ref C) n = some none) (hz : Zc cls d oe) (hf : ∃ vs, oe.data = .fields vs) (he : PE (X.suite a ((a, oe) :: pn)) e (tVar i))
    (hb : attributeBase e n X.env (eval e X.env) = eval e X.env := by rfl) : PE (X.suite a ((a, oe) :: pn)) (.Attribute e n pos) (tIx R X.K X.mg i a cls d (xFld l n)) := ⟨fun pins s σ H Q I ⟨M, env, x, y, ⟨s1, s2, s3⟩, h, q⟩ => by
  obtain ⟨C, dd, fs, m1, m2, m3, m4, m5⟩ := s3
  unfold xFld at h
  by_cases kl : l.contains x.cls = true
  case neg => rw [if_neg kl] at h; cases h
  rw [if_pos kl] at h
  obtain ⟨k1, k2⟩ := hk x.cls (by simpa using kl) C m1
  obtain ⟨v, h1, h2⟩ := m5 n y h
  exact (L2.pe_xf k1 k2 hz hf he hb).run pins s σ H Q I ⟨.ref a, s2, rfl, m2, dd, fs, v, m3, m4, h1, q v h2⟩⟩
/-- isinstance(e, B) -/
def xIs (sub : Str → Option Bool) : FI := fun e _ => (sub e.cls).map .bool
theorem ix_is {sub : Str → Option Bool} {B : Addr} (hk : ∀ c C b, X.mg c = some (.ref C) → sub c = some b → L2.ExcC X.K C ∧ PySem.W.kitOne X.K (.ref C) (.ref B) = some b) (hz : Zc cls d oe) (hf : ∃ vs, oe.data = .fields vs)
    (mk : ∀ {r : List V → Hp → VK → Prop}, CallR (X.suite a ((a, oe) :: pn)) (.builtin "isinstance") r → PE (X.suite a ((a, oe) :: pn)) e (tCB r (tCons (tVar i) (tCons (tC (.ref B)) tNil)))) : PE (X.suite a ((a, oe) :: pn)) e (tIx R X.K X.mg i a cls d (xIs sub)) := ⟨fun pins s σ H Q I ⟨M, env, x, y, ⟨s1, s2, s3⟩, h, q⟩ => by
  obtain ⟨C, dd, fs, m1, m2, m3, m4, m5⟩ := s3
  unfold xIs at h
  cases es : sub x.cls with
  | none => rw [es] at h; cases h
  | some b =>
    rw [es] at h
    cases h
    obtain ⟨k1, k2⟩ := hk x.cls C b m1 es
    subst m2
    exact (mk (call_isX k1 hz hf)).run pins s σ H Q I ⟨.ref a, s2, B, b, rfl, k2, ⟨dd, fs, m3, m4⟩, q _ (.bl b)⟩⟩
end
/-- repr(..) -/
def xRepr (f : FI) : FI := fun e env => ((f e env).bind opShow).map .str
theorem ix_repr (h : PE Y e1 (tIx R Y.K Y.mg i a cls d f)) (mk : ∀ {t : TA}, PA Y [e1] t → PE Y e (tCB (rRepr Y.K) t)) (hs : starEach [e1] Y.env = (false, eval e1 Y.env) :: starEach [] Y.env := by rfl) : PE Y e (tIx R Y.K Y.mg i a cls d (xRepr f)) := (mk (pa_cons h pa_nil hs)).imp fun σ H Q ⟨M, env, x, y, s, hh, q⟩ => by
  unfold xRepr at hh
  cases e1 : f x env with
  | none => rw [e1] at hh; cases hh
  | some z =>
    rw [e1] at hh
    cases e2 : opShow z with
    | none => rw [show (some z).bind opShow = none from e2] at hh; cases hh
    | some t =>
      rw [show (some z).bind opShow = some t from e2] at hh
      cases hh
      exact ⟨M, env, x, z, s, e1, fun v hv => ⟨v, z, t, rfl, hv.less fun _ k => k.elim, e2, q _ (.str t)⟩⟩
/-- x = [..] in a suite -/
def fSu (j : Nat) (g : FIs) : Ex → SS π := fun e env p => match g e env with
  | some xs => if xs.length ≤ line then .nx (env.set j (.val (.list xs))) p else .no
  | none => .no
theorem su_set {j : Nat} {st : Stmt} {pos : Pos} (mk : ∀ {te : TE}, PE Y (.List es pos) te → PS Y st (tAsg te (gName j))) (h : PA Y es (tIxs R Y.K Y.mg i a cls d g)) : PSs Y [st] (tSu (R := R) Y.K Y.mg i (fSu j g) a cls d) := (pss_one (mk (pe_lst h))).imp fun D σ H ⟨W, M, env, p, e, E, s2, s3, q⟩ => by
  unfold fSu at q
  cases eg : g e env with
  | none => rw [eg] at q; exact q.elim
  | some xs =>
    rw [eg] at q
    dsimp only at q
    by_cases hl : xs.length ≤ line
    · rw [if_pos hl] at q
      refine ⟨M, env, e, xs, ⟨⟨W, p, E⟩, s2, s3⟩, eg, fun vs hvs => ⟨by rw [line_eq, hvs.length]; exact hl, fun b nb => ?_⟩⟩
      have s : Same H (upd H b (.lst vs)) := same_new nb
      exact q M _ _ ((E.same s).setV (.lst (nomark_new E nb) upd_same (hvs.go (Go.of_same s))))
    · rw [if_neg hl] at q
      exact q.elim
end

/-! ### raise -/
section
variable {π : Type} {R : Rc π} {X : Cx} {wx : WX} {es : List Expr} {fs : SA π} {st : Stmt}
def sRaise (c : Str) (ns : List Str) (fs : SA π) : SS π := sThen fs fun env rs p => match escs rs with
  | some ds => if ds.length = ns.length then .ex ⟨c, (ns.zip ds).reverse⟩ env p else .no
  | none => .no
/-- what an __init__ of one, of two fields promises -/
def spI1 (K : Fg) (f1 : Str) : Sp := fun vs H Q _ => ∃ a C x, vs = [.ref a, x] ∧ L2.OexC K C ∧ PySem.W.findIn K (.ref C) f1 = some none ∧ H a = some (exo a C none) ∧ ∀ d, H d = none → d ≠ a → Q .non (upd (upd H d (exd d [(f1, x)])) a (exo a C (some d)))
def spI2 (K : Fg) (f1 f2 : Str) : Sp := fun vs H Q _ => ∃ a C x y, vs = [.ref a, x, y] ∧ L2.OexC K C ∧ PySem.W.findIn K (.ref C) f1 = some none ∧ PySem.W.findIn K (.ref C) f2 = some none ∧ H a = some (exo a C none) ∧
  ∀ d, H d = none → d ≠ a → Q .non (upd (upd (upd H d (exd d [(f1, x)])) a (exo a C (some d))) d (exd d [(f2, y), (f1, x)]))
theorem made_same {H1 H2 : Hp} {a d : Addr} {o : HO} (ha : H1 a = none) (hd : H1 d = none) (k : ∀ b, b ≠ a → b ≠ d → H2 b = H1 b) : Same H1 (upd (del H2 a) d o) := fun b u e => by
  have na : b ≠ a := fun z => by rw [z, ha] at e; cases e
  have nd : b ≠ d := fun z => by rw [z, hd] at e; cases e
  rw [upd_ne nd, del_ne na, k b na nd]
  exact e
theorem is_raise1 {c f1 : Str} {C : Addr} (hm : X.mg c = some (.ref C)) (T : L2.OexC X.K C) (n1 : PySem.W.findIn X.K (.ref C) f1 = some none) (mk : ∀ {ta : TA}, PA X es ta → PS X st (fun _ σ H => tMkO C (spI1 X.K f1) [] ta σ H fun k d H' => wx k d σ H')) (h : IA R X wx es fs) : IS R X wx st (sRaise c [f1] fs) := fun W =>
  (mk (h W)).imp fun D σ H ⟨M, env, p, E, q⟩ => by
    refine ⟨M, env, p, E, postA_X.mpr (postS_then E q fun rs p1 H1 g1 E1 q1 vs pr => ?_)⟩
    dsimp only at q1
    cases er : escs rs with
    | none => rw [er] at q1; exact q1.elim
    | some ds =>
      rw [er] at q1
      dsimp only at q1
      have hd := escs_of pr er
      match ds, q1, hd with
      | [x], q1, .cons (v := v) hx .nil =>
        refine ⟨by simp, fun a na => ⟨a, C, v, rfl, T, n1, upd_same, fun d nd ne => ⟨rfl, d, [(f1, v)], upd_same, by rw [upd_ne ne, upd_same], ?_, ?_⟩⟩⟩
        · rw [upd_ne ne] at nd
          exact nd
        · rw [upd_ne ne] at nd
          have sm : Same H1 (upd (del (upd (upd (upd H1 a (exo a C none)) d (exd d [(f1, v)])) a (exo a C (some d))) a) d (.xd [(f1, v)])) := made_same na nd fun b n1 n2 => by rw [upd_ne n1, upd_ne n2, upd_ne n1]
          refine q1 M σ _ _ _ (E1.same sm) ⟨C, d, [(f1, v)], hm, rfl, rfl, upd_same, fun g z hg => ?_⟩
          have hg' : ((f1, x) :: ([] : List (Str × PyData))).lookup g = some z := hg
          by_cases k : g = f1
          · subst k
            simp only [List.lookup_cons, BEq.rfl] at hg' ⊢
            cases hg'
            exact ⟨v, rfl, hx.go (Go.of_same sm)⟩
          · have k' : (g == f1) = false := by simpa using k
            simp [List.lookup_cons, k'] at hg'
      | [], q1, _ => exact q1.elim
      | _ :: _ :: _, q1, _ => exact (show False from (by simpa [postS] using q1 : False)).elim
theorem is_raise2 {c f1 f2 : Str} {C : Addr} (hm : X.mg c = some (.ref C)) (T : L2.OexC X.K C) (n1 : PySem.W.findIn X.K (.ref C) f1 = some none) (n2 : PySem.W.findIn X.K (.ref C) f2 = some none)
    (mk : ∀ {ta : TA}, PA X es ta → PS X st (fun _ σ H => tMkO C (spI2 X.K f1 f2) [] ta σ H fun k d H' => wx k d σ H')) (h : IA R X wx es fs) : IS R X wx st (sRaise c [f1, f2] fs) := fun W =>
  (mk (h W)).imp fun D σ H ⟨M, env, p, E, q⟩ => by
    refine ⟨M, env, p, E, postA_X.mpr (postS_then E q fun rs p1 H1 g1 E1 q1 vs pr => ?_)⟩
    dsimp only at q1
    cases er : escs rs with
    | none => rw [er] at q1; exact q1.elim
    | some ds =>
      rw [er] at q1
      dsimp only at q1
      have hd := escs_of pr er
      match ds, q1, hd with
      | [x, y], q1, .cons (v := v) hx (.cons (v := u) hy .nil) =>
        refine ⟨by simp, fun a na => ⟨a, C, v, u, rfl, T, n1, n2, upd_same, fun d nd ne => ⟨rfl, d, [(f2, u), (f1, v)], by rw [upd_ne (Ne.symm ne), upd_same], upd_same, ?_, ?_⟩⟩⟩
        · rw [upd_ne ne] at nd
          exact nd
        · rw [upd_ne ne] at nd
          have sm : Same H1 (upd (del (upd (upd (upd (upd H1 a (exo a C none)) d (exd d [(f1, v)])) a (exo a C (some d))) d (exd d [(f2, u), (f1, v)])) a) d (.xd [(f2, u), (f1, v)])) := made_same na nd fun b n1 n2 => by rw [upd_ne n2, upd_ne n1, upd_ne n2, upd_ne n1]
          refine q1 M σ _ _ _ (E1.same sm) ⟨C, d, [(f2, u), (f1, v)], hm, rfl, rfl, upd_same, fun g z hg => ?_⟩
          have hg' : ((f2, y) :: (f1, x) :: ([] : List (Str × PyData))).lookup g = some z := hg
          by_cases k : g = f2
          · subst k
            simp only [List.lookup_cons, BEq.rfl] at hg' ⊢
            cases hg'
            exact ⟨u, rfl, hy.go (Go.of_same sm)⟩
          · have k' : (g == f2) = false := by simpa using k
            by_cases l : g = f1
            · subst l
              simp only [List.lookup_cons, BEq.rfl, k'] at hg' ⊢
              cases hg'
              exact ⟨v, rfl, hx.go (Go.of_same sm)⟩
            · have l' : (g == f1) = false := by simpa using l
              simp [List.lookup_cons, k', l'] at hg'
      | [], q1, _ => exact q1.elim
      | [_], q1, _ => exact (show False from (by simpa [postS] using q1 : False)).elim
      | _ :: _ :: _ :: _, q1, _ => exact (show False from (by simpa [postS] using q1 : False)).elim
/-- the __init__s -/
theorem ok_init1 {P : Program} {w : World} {K : Fg} {mg : Str → Option Value} {base : Heap} {k : Nat} {x qual f1 n1 n2 : Str} {params : Arguments} {body : List Stmt} {scope : Scope} {dvs : List V} {kws : List (Str × V)} {f : Addr} {fd : FuncData}
    (F : FunD K x qual params body scope dvs kws f fd) (S : FnScope [n1, n2] [n1, n2] scope)
    (hb : ∀ (cdv : Value) (A : Around) (outer : List Env) (s : Shared) (H : Hp) (E : XK), PSs (cxOf CX0 P w K mg base [n1, n2] qual scope f cdv A outer s H E) body (tOst K f1 (tVar 0) (tVar 1))) : FnOk P w K mg base CX0 (k + 1) f fd [n1, n2] (spI1 K f1) :=
  F.ok S (fun vs H Q E ⟨a, C, y, h, _⟩ => by rw [h]; rfl) fun cdv A outer s H vs Q E _ ⟨a, C, y, h, T, m1, ha, q⟩ => by
    subst h
    exact ⟨_, hb cdv A outer s H E, y, rfl, .ref a, rfl, a, C, rfl, T, m1, .inl ⟨ha, q⟩⟩
theorem ok_init2 {P : Program} {w : World} {K : Fg} {mg : Str → Option Value} {base : Heap} {k : Nat} {x qual f1 f2 n1 n2 n3 : Str} {params : Arguments} {body : List Stmt} {scope : Scope} {dvs : List V} {kws : List (Str × V)} {f : Addr} {fd : FuncData}
    (F : FunD K x qual params body scope dvs kws f fd) (S : FnScope [n1, n2, n3] [n1, n2, n3] scope)
    (hb : ∀ (cdv : Value) (A : Around) (outer : List Env) (s : Shared) (H : Hp) (E : XK), PSs (cxOf CX0 P w K mg base [n1, n2, n3] qual scope f cdv A outer s H E) body (tSeq (tOst K f1 (tVar 0) (tVar 1)) (tOst K f2 (tVar 0) (tVar 2)))) : FnOk P w K mg base CX0 (k + 1) f fd [n1, n2, n3] (spI2 K f1 f2) :=
  F.ok S (fun vs H Q E ⟨a, C, y, z, h, _⟩ => by rw [h]; rfl) fun cdv A outer s H vs Q E _ ⟨a, C, y, z, h, T, m1, m2, ha, q⟩ => by
    subst h
    exact ⟨_, hb cdv A outer s H E, y, rfl, .ref a, rfl, a, C, rfl, T, m1, .inl ⟨ha, fun d nd ne => ⟨z, rfl, .ref a, rfl, a, C, rfl, T, m2, .inr ⟨d, [(f1, y)], upd_same, by rw [upd_ne ne, upd_same], by simp, q d nd ne⟩⟩⟩⟩
end

/-! ### calls by keywords alone -/
def pick {α : Type} (ix : List Nat) (l : List α) : List α := ix.filterMap fun i => l[i]?
theorem pick_dt {K : Fg} {M : Addr → Prop} {H : Hp} {vs : List V} {ds : List PyData} (h : DtAll K M H vs ds) : ∀ ix : List Nat, DtAll K M H (pick ix vs) (pick ix ds)
  | [] => .nil
  | i :: ix => by
    have ih := pick_dt h ix
    unfold pick at ih ⊢
    rw [List.filterMap_cons, List.filterMap_cons]
    cases e : ds[i]? with
    | none =>
      have e2 : vs[i]? = none := by
        rw [List.getElem?_eq_none_iff] at e ⊢
        rw [h.length]
        exact e
      rw [e2]
      exact ih
    | some d =>
      obtain ⟨v, e2, hv⟩ := h.get e
      rw [e2]
      exact .cons hv ih
theorem pick_vals {vs : List V} {us : List Value} (h : Vals vs us) : ∀ ix : List Nat, Vals (pick ix vs) (pick ix us)
  | [] => .nil
  | i :: ix => by
    have ih := pick_vals h ix
    unfold pick at ih ⊢
    rw [List.filterMap_cons, List.filterMap_cons]
    cases e : vs[i]? with
    | none =>
      have e2 : us[i]? = none := by
        rw [List.getElem?_eq_none_iff] at e ⊢
        rw [← h.length]
        exact e
      rw [e2]
      exact ih
    | some d =>
      obtain ⟨v, e2, hv⟩ := h.get e
      rw [e2]
      exact .cons hv ih
section
variable {π : Type} {R : Rc π} {X : Cx} {wx : WX} {k n : Nat} {f : Addr} {fd : FuncData} {ps ks : List Str} {ix : List Nat} {x : Str} {p pos apos kpos : Pos} {kws : List Keyword} {tk : TA} {e : Expr} {fe : SE π} {fs : SA π} {nm : Option Str}
abbrev IK (R : Rc π) (X : Cx) (wx : WX) (ks : List Keyword) (f : SA π) : Prop := ∀ W : Wd R, PK X ks (tA X.K X.mg W wx f)
theorem _root_.L2.PK.imp {ks : List Keyword} {t t' : TA} (h : PK X ks t) (i : ∀ σ H Q, t' σ H Q → t σ H Q) : PK X ks t' := ⟨fun po pins s σ H Q I q => h.run po pins s σ H Q I (i σ H Q q)⟩
theorem ik_nil : IK R X wx [] sNil := fun W => pk_nil.imp fun σ H Q ⟨M, env, p, E, q⟩ => q [] H (Go.refl _ _) E.at_ .nil
theorem ik_cons (h1 : IE R X wx e fe) (h2 : IK R X wx kws fs) : IK R X wx (⟨nm, e, kpos⟩ :: kws) (sCons fe fs) := fun W => (pk_cons (h1 W) (h2 W)).imp fun σ H Q ⟨M, env, p, E, q⟩ => by
  refine tE_of E (post_X.mpr (postX_bnd E (postA_X.mp q) fun r p1 H1 g1 E1 q1 v vr => ?_))
  refine ⟨M, env, p1, E1, postA_X.mpr (postX_bnd E1 q1 fun rs p2 H2 g2 E2 q2 vs pr => ?_)⟩
  exact q2 H2 (Go.refl _ _) E2.at_ _ (.cons (vr.go E1 g2 E2.at_) pr)
/-- every parameter is told by a keyword; ix: which of them, in the parameters' order -/
def KwOnly (K : Fg) (fd : FuncData) (ps ks : List Str) (ix : List Nat) : Prop := ∀ (s : Shared) (ws : List Value), K.In s.heap → ws.length = ks.length → BindsTo s fd ⟨[], ks.zip ws⟩ (ps.zip (pick ix ws))
theorem kw_of {K : Fg} {qual : Str} {params : Arguments} {body : List Stmt} {scope : Scope} {kwd : List (Str × V)} (F : FunD K x qual params body scope [] kwd f fd)
    (h : ∀ (kV doc pm : Value) (an : Option Addr) (cdv ct : Value) (ws : List Value), ws.length = ks.length → bindArgs (PySem.W.fnOf x qual params body scope .none kV doc pm an cdv ct) ⟨[], ks.zip ws⟩ = pure (ps.zip (pick ix ws))) : KwOnly K fd ps ks ix := by
  obtain ⟨oc, od, dV, kV, doc, pm, an, cdv, ct, osl, rfl, lk, hcd, hD, hK⟩ := F.ex
  rcases hD with ⟨_, rfl⟩ | ⟨z, _⟩
  · exact fun s ws _ hl => .of_eq (h kV doc pm an cdv ct ws hl)
  · exact absurd rfl z
def tCallGN (m : Nat) (ix : List Nat) (sp : Sp) (E : L2.St → XK) (tk : TA) : TE := fun σ H Q => tk σ H fun zs H2 => zs.length = m ∧ sp (pick ix zs) H2 Q (E σ)
theorem pe_callGN {sp : Sp} {E : L2.St → XK} (F : FnG X.prog X.w X.K X.mg X.base k f fd ps sp) (hg : X.A.guards = some []) (hr : Room k X.A) (gl : Gl X x) (hm : X.mg x = some (.ref f)) (hk : PySem.W.keepIn X.K (.ref f) = true) (hb : KwOnly X.K fd ps ks ix)
    (hx : ∀ σ, PassesAt (L2.CX X.prog X.w) X σ (E σ)) (hkw : PK X kws tk) (hall : (backToKw pos (keywordEach kws X.env)).all (·.1.isSome) = true := by rfl) (hks : (backToKw pos (keywordEach kws X.env)).filterMap (·.1) = ks := by rfl)
    (hdb : (x == ("__debug__" : Str)) = false := by decide) (hpl : ((backTo pos (starEach [] X.env)).any (·.1) || (backToKw pos (keywordEach kws X.env)).any (·.1.isNone)) = false := by rfl) :
    PE X (.Call (.Name x p) [] kws pos) (tCallGN ks.length ix sp E tk) := ⟨fun pins s σ H Q I h => by
  refine wpAny_Call_Name_kw (ld_glob I gl hm ?_ hdb)
  refine PySem.W.callWith_KW0 (h₀ := X.base) I.ok.mod.kin hk hall (thn (hkw.run pos pins s σ H _ I h) fun ws s2 ⟨zs, H2, I2, rz, hl, q2⟩ => ⟨I2.kIn, ?_⟩) hpl
  rw [hks]
  exact run_g (args := ⟨[], ks.zip ws⟩) F hg hr (hx σ) I2 (hb s2 ws I2.kIn (rz.length.symm.trans hl)) (pick_vals rz ix) q2⟩
def sCallK (m n : Nat) (ix : List Nat) (g : List PyData → Ma Unit PyData) (fs : SA π) : SE π := fun env => bnd (fs env) fun rs => match escs rs with
  | none => fail
  | some ds => if ds.length = m ∧ (pick ix ds).length = n then (match g (pick ix ds) () with
    | .ok d _ => ret (.st d)
    | .ex e _ => fun p => .ex e p
    | .no => fail) else fail
theorem ie_callK {m : Nat} {g : List PyData → Ma Unit PyData} (mk : ∀ {t : TA}, PK X kws t → PE X e (tCallGN m ix (spR Rz X.K X.mg false n g) (WE wx) t)) (h : IK R X wx kws fs) : IE R X wx e (sCallK m n ix g fs) := fun W => (mk (h W)).imp fun σ H Q ⟨M, env, p, E, q⟩ => by
  refine ⟨M, env, p, E, postA_X.mpr (postX_bnd E (post_X.mp q) fun rs p1 H1 g1 E1 q vs pr => ?_)⟩
  cases e1 : escs rs with
  | none => rw [e1] at q; exact q.elim
  | some ds =>
    rw [e1] at q
    dsimp only at q
    have hd := escs_of pr e1
    by_cases hl : ds.length = m ∧ (pick ix ds).length = n
    · rw [if_pos hl] at q
      refine ⟨hd.length.trans hl.1, (pick_dt hd ix).length.trans hl.2, [], (), M, pick ix ds, E1.mtr, (fun a m => absurd m (by simp)), rfl, pick_dt hd ix, ?_⟩
      have s_ : ∀ {H' : Hp}, Go (fun a => a ∈ ([] : List Addr)) H1 H' → Same H1 H' := fun g1 a o e2 => g1 a o e2 (by simp)
      cases eg : g (pick ix ds) () with
      | ok d p' =>
        rw [eg] at q
        exact fun v H' g1 _ h => q H' (Go.of_same (s_ g1)) (W.mono _ _ _ _ (s_ g1) E1.at_) v h
      | ex x p' =>
        rw [eg] at q
        exact fun cls dd H' g1 _ xr => q cls dd H' (E1.same (s_ g1)) xr
      | no => rw [eg] at q; exact q.elim
    · rw [if_neg hl] at q
      exact q.elim
end
end Fw
set_option maxHeartbeats 4000000
namespace Fw
open PySem PySem.Spec PyProof.Rows L2

/-! ### the laws' pot: a list of ints, perhaps behind a first item, the list of the cells -/
structure Pt where
  cs : Option (List Int)
  ns : List Int
/-- its items, the cells untold -/
def Pt.o (p : Pt) : List (Option Int) := match p.cs with
  | none => p.ns.map some
  | some _ => none :: p.ns.map some
def Pt.put (p : Pt) (j : Nat) (n : Int) : Pt := match p.cs with
  | none => { p with ns := p.ns.set j n }
  | some _ => { p with ns := p.ns.set (j - 1) n }
def oV (c : Addr) : Option Int → V
  | some n => .int n
  | none => .ref c
def potAt (pa : List Addr) (p : Pt) (H : Hp) : Prop := ∃ a c, (match p.cs with
  | none => pa = [a]
  | some cs => pa = [a, c] ∧ H c = some (.lst (cs.map V.int))) ∧ H a = some (.lst (p.o.map (oV c)))
def Rq : Rc Pt where
  At := potAt
  dep := fun pa p H H' k ⟨a, c, h1, h2⟩ => by
    refine ⟨a, c, ?_⟩
    cases e : p.cs with
    | none =>
      rw [e] at h1
      exact ⟨h1, by rw [k a (by rw [h1]; simp)]; exact h2⟩
    | some cs =>
      rw [e] at h1
      exact ⟨⟨h1.1, by rw [k c (by rw [h1.1]; simp)]; exact h1.2⟩, by rw [k a (by rw [h1.1]; simp)]; exact h2⟩
  trk := fun pa p H ⟨a, c, h1, h2⟩ b hb => by
    cases e : p.cs with
    | none =>
      rw [e] at h1
      rw [h1] at hb
      simp at hb
      exact ⟨_, by rw [hb]; exact h2⟩
    | some cs =>
      rw [e] at h1
      rw [h1.1] at hb
      simp at hb
      rcases hb with hb | hb
      · exact ⟨_, by rw [hb]; exact h2⟩
      · exact ⟨_, by rw [hb]; exact h1.2⟩
/-- the pot's list itself changes at the place j, an int -/
theorem pot_put {pa : List Addr} {p : Pt} {H : Hp} {j : Nat} {m n : Int} (h : potAt pa p H) (hj : p.o[j]? = some (some m)) : ∃ a xs, pa.head? = some a ∧ a ∈ pa ∧ H a = some (.lst xs) ∧ xs.length = p.o.length ∧ xs[j]? = some (.int m) ∧ potAt pa (p.put j n) (upd H a (.lst (xs.set j (.int n)))) := by
  obtain ⟨a, c, h1, h2⟩ := h
  cases e : p.cs with
  | none =>
    rw [e] at h1
    have eo : p.o = p.ns.map some := by unfold Pt.o; rw [e]
    refine ⟨a, _, by rw [h1]; rfl, by rw [h1]; simp, h2, by rw [List.length_map], by rw [List.getElem?_map, hj]; rfl, a, c, ?_, ?_⟩
    · show (match (p.put j n).cs with | none => _ | some cs => _)
      have ec : (p.put j n).cs = none := by unfold Pt.put; rw [e]
      rw [ec]
      exact h1
    · rw [upd_same]
      have eo2 : (p.put j n).o = p.o.set j (some n) := by
        unfold Pt.put Pt.o
        rw [e]
        simp only
        rw [List.map_set]
      rw [eo2, List.map_set]
      rfl
  | some cs =>
    rw [e] at h1
    have eo : p.o = none :: p.ns.map some := by unfold Pt.o; rw [e]
    have jp : j ≠ 0 := fun z => by
      rw [z, eo] at hj
      simp at hj
    obtain ⟨j', rfl⟩ : ∃ j', j = j' + 1 := ⟨j - 1, by omega⟩
    have nac : a ≠ c := fun z => by
      have h3 := h1.2
      rw [← z, h2, eo] at h3
      cases cs with
      | nil => simp at h3
      | cons x xs => simp [oV] at h3
    refine ⟨a, _, by rw [h1.1]; rfl, by rw [h1.1]; simp, h2, by rw [List.length_map], by rw [List.getElem?_map, hj]; rfl, a, c, ?_, ?_⟩
    · have ec : (p.put (j' + 1) n).cs = some cs := by unfold Pt.put; rw [e]
      rw [ec]
      exact ⟨h1.1, by rw [upd_ne (Ne.symm nac)]; exact h1.2⟩
    · rw [upd_same]
      have eo2 : (p.put (j' + 1) n).o = p.o.set (j' + 1) (some n) := by
        unfold Pt.put Pt.o
        rw [e]
        simp [List.map_set]
      rw [eo2, List.map_set]
      rfl
theorem if_some' {α : Type} {c : Prop} [Decidable c] {x : Option α} {d : α} (h : (if c then x else none) = some d) : c ∧ x = some d := by
  by_cases k : c
  · rw [if_pos k] at h
    exact ⟨k, h⟩
  · rw [if_neg k] at h
    cases h
theorem ints_dp {K : Fg} {H : Hp} : ∀ l : List Int, DpAll K H (l.map V.int) (l.map PyData.int)
  | [] => .nil
  | i :: l => .cons (.int i) (ints_dp l)
theorem shaped_ints (l : List Int) : SeqAt.shaped (.list (l.map PyData.int)) = true := by
  have a : ∀ l : List Int, PyData.canLayAll0 (l.map PyData.int) = true := fun l => by
    induction l with
    | nil => rfl
    | cons i l ih => simp [PyData.canLayAll0, PyData.canLay0, ih]
  have b : ∀ l : List Int, PyData.depthAll (l.map PyData.int) = 0 := fun l => by
    induction l with
    | nil => rfl
    | cons i l ih => simp [PyData.depthAll, PyData.depth, ih]
  simp [SeqAt.shaped, PyData.canLay0, PyData.depth, a l, b l]
section
variable {X : Cx} {wx : WX} {W : Wd Rq} {M : Addr → Prop} {σ : L2.St} {env : Evn} {p : Pt} {H : Hp}
/-- the pot's slot -/
theorem EnvR.potS (E : EnvR X.K W M σ env p H) {i : Nat} (e : env[i]? = some .pot) : ∃ b, W.pa.head? = some b ∧ σ[i]? = some (some (.ref b)) ∧ potAt W.pa p H := by
  obtain ⟨b, h1, h2⟩ := E.pt i e
  exact ⟨b, h1, h2, E.at_⟩
/-- pot[k], an int -/
def sPix (i : Nat) (k : Int) : SE Pt := fun env p => match env[i]? with
  | some .pot => match atI p.o k with
    | some (some n) => .ok (.st (.int n)) p
    | _ => .no
  | _ => .no
theorem ixN_map {α β : Type} {f : α → β} {l : List α} {k : Int} {x : α} (h : atI l k = some x) : atI (l.map f) k = some (f x) := by
  unfold atI at h ⊢
  rw [List.length_map]
  cases e : ixN l.length k with
  | none => rw [e] at h; cases h
  | some j =>
    rw [e] at h
    have h' : l[j]? = some x := h
    show (l.map f)[j]? = some (f x)
    rw [List.getElem?_map, h']
    rfl
theorem ie_pix {i : Nat} {k : Int} {e : Expr} (h : PE X e (tOp (rIx X.K) (tVar i) (tC (.int k)))) : IE Rq X wx e (sPix i k) := fun W => h.imp fun σ H Q ⟨M, env, p, E, q⟩ => by
  unfold sPix at q
  cases ei : env[i]? with
  | none => rw [ei] at q; exact q.elim
  | some s =>
    rw [ei] at q
    cases s with
    | pot =>
      obtain ⟨b, hb, hs, a, c, h1, h2⟩ := E.potS ei
      have eb : b = a := by
        cases ec : p.cs with
        | none => rw [ec] at h1; rw [h1] at hb; exact (Option.some.inj hb).symm
        | some cs => rw [ec] at h1; rw [h1.1] at hb; exact (Option.some.inj hb).symm
      subst eb
      cases ea : atI p.o k with
      | none => rw [ea] at q; exact q.elim
      | some z =>
        rw [ea] at q
        cases z with
        | none => exact q.elim
        | some n => exact ⟨.ref b, hs, .inl ⟨b, _, k, .int n, rfl, rfl, SqL.of h2, ixN_map ea, q (.int n) H (Go.refl _ _) E.at_ (.int n)⟩⟩
    | emp => exact q.elim
    | val d => exact q.elim
    | own d => exact q.elim
/-- pot[k] = e -/
def pPut (i : Nat) (k : Int) (env : Evn) (n : Int) (p : Pt) : Option Pt := match env[i]? with
  | some .pot => (ixN p.o.length k).bind fun j => match p.o[j]? with
    | some (some _) => some (p.put j n)
    | _ => none
  | _ => none
def stI : Vd → Option Int
  | .st (.int n) => some n
  | _ => none
theorem stI_of {r : Vd} {n : Int} (h : stI r = some n) : r = .st (.int n) := by
  unfold stI at h
  split at h
  · cases h; rfl
  · cases h
def sPput (i : Nat) (k : Int) (f : SE Pt) : SS Pt := sThen f fun env r p => match (stI r).bind fun n => pPut i k env n p with
  | some p' => .nx env p'
  | none => .no
theorem pPut_ok {i : Nat} {k n : Int} {p' : Pt} (E : EnvR X.K W M σ env p H) (q : pPut i k env n p = some p') :
    ∃ b xs j, σ[i]? = some (some (.ref b)) ∧ H b = some (.lst xs) ∧ ixN xs.length k = some j ∧ EnvR X.K W M σ env p' (upd H b (.lst (xs.set j (.int n)))) := by
  unfold pPut at q
  split at q
  · rename_i ei
    obtain ⟨j, ej, q⟩ := Option.bind_eq_some_iff.mp q
    split at q
    · rename_i m eo
      cases q
      obtain ⟨b, hb, hs, hp⟩ := E.potS ei
      obtain ⟨a, xs, h1, h2, h3, h4, h5, h6⟩ := pot_put (n := n) hp eo
      have eb : b = a := Option.some.inj (hb.symm.trans h1)
      subst eb
      have g : GoP W H (upd H b (.lst (xs.set j (.int n)))) := fun c o z w => by
        rw [upd_ne (fun y => w (by rw [y]; exact h2))]
        exact z
      exact ⟨b, xs, j, hs, h3, by rw [h4]; exact ej, E.go g h6⟩
    · cases q
  · cases q
theorem is_pput {i : Nat} {k : Int} {st : Stmt} {e : Expr} {f : SE Pt} (mk : ∀ {te : TE}, PE X e te → PS X st (tAsg te (gSub (tVar i) (tC (.int k)) rSetL))) (h : IE Rq X wx e f) : IS Rq X wx st (sPput i k f) := fun W => (mk (h W)).imp fun D σ H ⟨M, env, p, E, q⟩ => by
  refine tE_of E (post_X.mpr (postS_then E q fun r p1 H1 g1 E1 q1 v vr => ?_))
  dsimp only at q1
  cases e1 : (stI r).bind fun n => pPut i k env n p1 with
  | none => rw [e1] at q1; exact q1.elim
  | some p2 =>
    rw [e1] at q1
    obtain ⟨n, en, ep⟩ := Option.bind_eq_some_iff.mp e1
    have er := stI_of en
    subst er
    have ev := Dt.int_of vr
    subst ev
    obtain ⟨b, xs, j, h1, h2, h3, h4⟩ := pPut_ok E1 ep
    exact ⟨.ref b, h1, b, xs, k, j, rfl, rfl, h2, h3, q1 M σ _ h4⟩
/-- pot[k], x = divmod(a, b) -/
def twoI : List Vd → Option (Int × Int)
  | [r, s] => (stI r).bind fun a => (stI s).map fun b => (a, b)
  | _ => none
theorem twoI_of {rs : List Vd} {z : Int × Int} (h : twoI rs = some z) : rs = [.st (.int z.1), .st (.int z.2)] := by
  unfold twoI at h
  split at h
  · obtain ⟨a, e1, h⟩ := Option.bind_eq_some_iff.mp h
    obtain ⟨b, e2, h⟩ := Option.map_eq_some_iff.mp h
    cases h
    rw [stI_of e1, stI_of e2]
  · cases h
def pDm (i : Nat) (k : Int) (env : Evn) (rs : List Vd) (p : Pt) : Option (Pt × Int) := (twoI rs).bind fun z => if 0 < z.2 ∧ z.2 < 1073741824 then (pPut i k env (z.1 / z.2) p).map fun p' => (p', z.1 % z.2) else none
def sPdm (i : Nat) (k : Int) (j : Nat) (fs : SA Pt) : SS Pt := sThen fs fun env rs p => match pDm i k env rs p with
  | some z => .nx (env.set j (.val (.int z.2))) z.1
  | none => .no
abbrev rDm : List V → Hp → VK → Prop := fun xs H Q => ∃ i j, xs = [.int i, .int j] ∧ CDiv i j ∧ ∀ p, H p = none → Q (.ref p) (upd H p (.tup [.int (i / j), .int (i % j)]))
theorem is_pdm {i j : Nat} {k : Int} {st : Stmt} {es : List Expr} {fs : SA Pt} (mk : ∀ {ta : TA}, PA X es ta → PS X st (tAsg (tCB rDm ta) (gTup X.K 2 (gCons (gSub (tVar i) (tC (.int k)) rSetL) (gCons (gName j) gNil))))) (h : IA Rq X wx es fs) : IS Rq X wx st (sPdm i k j fs) := fun W => (mk (h W)).imp fun D σ H ⟨M, env, p, E, q⟩ => by
  refine ⟨M, env, p, E, postA_X.mpr (postS_then E q fun rs p1 H1 g1 E1 q1 vs pr => ?_)⟩
  dsimp only at q1
  cases e1 : pDm i k env rs p1 with
  | none => rw [e1] at q1; exact q1.elim
  | some z =>
    rw [e1] at q1
    obtain ⟨⟨a, b⟩, et, e2⟩ := Option.bind_eq_some_iff.mp e1
    obtain ⟨hc, e3⟩ := if_some' e2
    obtain ⟨p2, ep, ez⟩ := Option.map_eq_some_iff.mp e3
    subst ez
    have er := twoI_of et
    subst er
    match vs, pr with
    | [_, _], .cons h1 (.cons h2 .nil) =>
      have v1 := Dt.int_of h1
      have v2 := Dt.int_of h2
      subst v1 v2
      refine ⟨a, b, rfl, hc, fun t nt => ?_⟩
      have sm : Same H1 (upd H1 t (.tup [.int (a / b), .int (a % b)])) := same_new nt
      obtain ⟨c, xs, jj, k1, k2, k3, k4⟩ := pPut_ok (E1.same sm) ep
      exact ⟨t, _, rfl, SqT.of upd_same, rfl, .int (a / b), _, rfl, .ref c, k1, c, xs, k, jj, rfl, rfl, k2, k3, .int (a % b), [], rfl, rfl, q1 M _ _ (k4.setV (.int _))⟩
/-- pot[k] = pot[0].pop(0) -/
def pPop (i : Nat) (k : Int) (env : Evn) (p : Pt) : Option Pt := match p.cs with
  | some (n :: cs) => pPut i k env n { p with cs := some cs }
  | _ => none
def sPpop (i : Nat) (k : Int) : SS Pt := fun env p => match pPop i k env p with
  | some p' => .nx env p'
  | none => .no
theorem is_ppop {i : Nat} {k : Int} {st : Stmt} (h : PS X st (tAsg (tBM X.K "list" rPopAt (tOp (rIx X.K) (tVar i) (tC (.int 0))) (tCons (tC (.int 0)) tNil)) (gSub (tVar i) (tC (.int k)) rSetL))) : IS Rq X wx st (sPpop i k) := fun W => h.imp fun D σ H ⟨M, env, p, E, q⟩ => by
  unfold sPpop pPop at q
  obtain ⟨pc, pn⟩ := p
  cases pc with
  | none => exact q.elim
  | some l =>
    cases l with
    | nil => exact q.elim
    | cons n cs =>
      dsimp only at q
      cases ep : pPut i k env n ⟨some cs, pn⟩ with
      | none => rw [ep] at q; exact q.elim
      | some p2 =>
        rw [ep] at q
        have ei : env[i]? = some .pot := by
          unfold pPut at ep
          split at ep
          · assumption
          · cases ep
        obtain ⟨b, hb, hs, a, c, ⟨h1, h3⟩, h2⟩ := E.potS ei
        have eb : b = a := by
          rw [h1] at hb
          exact (Option.some.inj hb).symm
        subst eb
        have nbc : b ≠ c := fun z => by
          rw [z, h3] at h2
          simp [Pt.o, oV] at h2
        have hl : H c = some (.lst (.int n :: cs.map V.int)) := h3
        -- behind the pop
        have at2 : W.At W.pa (⟨some cs, pn⟩ : Pt) (upd H c (.lst (cs.map V.int))) := (show potAt W.pa (⟨some cs, pn⟩ : Pt) (upd H c (.lst (cs.map V.int))) from ⟨b, c, ⟨h1, upd_same⟩, by rw [upd_ne nbc]; exact h2⟩)
        have g : GoP W H (upd H c (.lst (cs.map V.int))) := fun d o z w => by
          rw [upd_ne (fun y => w (by rw [y, h1]; simp))]
          exact z
        obtain ⟨b2, xs, j, k1, k2, k3, k4⟩ := pPut_ok (E.go (q := ⟨some cs, pn⟩) g at2) ep
        refine ⟨.ref b, hs, .inl ⟨b, _, 0, .ref c, rfl, rfl, SqL.of h2, ?_, .inl ⟨rfl, _, SqL.of hl⟩, c, _, 0, 0, .int n, rfl, rfl, hl, by decide, by decide, ?_, rfl, ?_⟩⟩
        · show atI (V.ref c :: _) 0 = some (V.ref c)
          unfold atI ixN
          simp
        · simp [seqIndex?]
        · exact ⟨.ref b2, k1, b2, xs, k, j, rfl, rfl, k2, k3, q M σ _ k4⟩
/-- pot[0] != [] -/
def sPany (i : Nat) : ST Pt := fun env p => match env[i]?, p.cs with
  | some .pot, some l => .ok (!l.isEmpty) p
  | _, _ => .no
theorem it_pany {i : Nat} {e : Expr} (h : PT X e (tTest (tOp (rNeD X.K) (tOp (rIx X.K) (tVar i) (tC (.int 0))) (tLst tNil)))) : IT Rq X wx e (sPany i) := fun W => h.imp fun σ H Q ⟨M, env, p, E, q⟩ => by
  unfold sPany at q
  split at q
  · rename_i l ei ec
    obtain ⟨pc, pn⟩ := p
    cases ec
    obtain ⟨b, hb, hs, a, c, ⟨h1, h3⟩, h2⟩ := E.potS ei
    have eb : b = a := by
      rw [h1] at hb
      exact (Option.some.inj hb).symm
    subst eb
    refine ⟨.ref b, hs, .inl ⟨b, _, 0, .ref c, rfl, rfl, SqL.of h2, by show atI (V.ref c :: _) 0 = some (V.ref c); unfold atI ixN; simp, by simp, fun t nt => ?_⟩⟩
    have nc : c ≠ t := fun z => by rw [← z, h3] at nt; cases nt
    have h3' : upd H t (.lst []) c = some (.lst (l.map V.int)) := by rw [upd_ne nc]; exact h3
    have dd : Dp X.K (upd H t (.lst [])) (.ref c) (.list (l.map PyData.int)) := .lst (SqL.of h3') (ints_dp l)
    have de : Dp X.K (upd H t (.lst [])) (.ref t) (.list []) := .lst (SqL.of upd_same) .nil
    refine ⟨_, _, dd, de, shaped_ints l, by decide, !l.isEmpty, ?_, q _ (Go.of_same (same_new nt)) (W.mono _ _ _ _ (same_new nt) E.at_)⟩
    cases l <;> simp [PyData.eqv, PyData.eqvAll]
  · exact q.elim
end
end Fw
set_option maxHeartbeats 4000000
namespace Fw
open PySem PySem.Spec PyProof.Rows L2

/-! ### a < b <= c -/
section
variable {π : Type} {R : Rc π} {X : Cx} {wx : WX} {a b c : Expr} {f1 f2 f3 : SE π} {r r' : R2} {g g' : PyData → PyData → Option PyData} {o o' : CmpOp} {pos : Pos}
theorem test_imp {W : Wd R} {f : SE π} {σ : L2.St} {H : Hp} {Q : Bool → Hp → Prop} (h : tT X.K X.mg W wx (sTest f) σ H Q) : tE X.K X.mg W wx f σ H (fun v H' => ∃ k, v = .bl k ∧ Q k H') := by
  obtain ⟨M, env, p, E, q⟩ := h
  refine tE_of E (post_X.mpr (postX_bnd E (postT_X.mp q) fun r p1 H1 g1 E1 q1 v vr => ?_))
  cases e : asB r with
  | none => rw [e] at q1; exact q1.elim
  | some b =>
    rw [e] at q1
    exact ⟨b, asB_of vr e, q1 H1 (Go.refl _ _) E1.at_⟩
def sChain (g g' : PyData → PyData → Option PyData) (f1 f2 f3 : SE π) : SE π := fun env => bnd (f1 env) fun a => bnd (f2 env) fun b => match g a.d b.d with
  | some (.bool true) => bnd (f3 env) fun c => ofO ((g' b.d c.d).map Vd.st)
  | some (.bool false) => ret (.st (.bool false))
  | _ => fail
theorem r2d_use {K : Fg} {W : Wd R} {M : Addr → Prop} {σ : L2.St} {env : Evn} {p : π} {H : Hp} {x y : V} {ra rb : Vd} {d : PyData} {Q : VK} (hr : R2D K r g) (E : EnvR K W M σ env p H) (v1 : VR K W M σ env p H x ra) (v2 : VR K W M σ env p H y rb) (e : g ra.d rb.d = some d)
    (q : ∀ v H', Same H H' → EnvR K W M σ env p H' → Dt K M H' v d → Q v H') : r x y H Q :=
  hr M H x y ra.d rb.d d Q E.mtr (fun ds z => v1.list z) (fun ds z => v2.list z) (fun ds z => v1.tuple z) (fun ds z => v2.tuple z) v1.now v2.now e fun v H' s h => q v H' s (E.same s) h
theorem chain_imp {W : Wd R} (hr : R2D X.K r g) (hr' : R2D X.K r' g') (σ : L2.St) (H : Hp) (Q : VK) (q : tE X.K X.mg W wx (sChain g g' f1 f2 f3) σ H Q) : L2.tChain r r' (tE X.K X.mg W wx f1) (tE X.K X.mg W wx f2) (tE X.K X.mg W wx f3) σ H Q := by
  obtain ⟨M, env, p, E, q⟩ := q
  refine tE_of E (post_bnd E q fun ra p1 x H1 g1 E1 v1 q1 => ?_)
  refine tE_of E1 (post_bnd E1 q1 fun rb p2 y H2 g2 E2 v2 q2 => ?_)
  have v1' := v1.go E1 g2 E2.at_
  have key : ∀ k : Bool, g ra.d rb.d = some (.bool k) → post X.K X.mg W M σ env H2 wx Q ((if k then bnd (f3 env) fun c => ofO ((g' rb.d c.d).map Vd.st) else ret (.st (.bool false)) : Ma π Vd) p2) →
      r x y H2 fun z H3 => ∃ k, z = .bl k ∧ (if k = true then tE X.K X.mg W wx f3 σ H3 fun w' H4 => r' y w' H4 Q else Q (.bl false) H3) := fun k ek q3 => by
    refine r2d_use hr E2 v1' v2 ek fun v H3 s3 E3 dv => ?_
    have ev := Dt.bl_of dv
    subst ev
    refine ⟨k, rfl, ?_⟩
    cases k with
    | false => exact q3 _ H3 (Go.of_same s3) E3.at_ (.bl false)
    | true =>
      have q4 : post X.K X.mg W M σ env H3 wx Q (bnd (f3 env) (fun c => ofO ((g' rb.d c.d).map Vd.st)) p2) := by
        have q3' : post X.K X.mg W M σ env H2 wx Q (bnd (f3 env) (fun c => ofO ((g' rb.d c.d).map Vd.st)) p2) := q3
        cases e : bnd (f3 env) (fun c => ofO ((g' rb.d c.d).map Vd.st)) p2 with
        | ok z p' => rw [e] at q3'; exact fun v H' g at' vr => q3' v H' ((Go.of_same s3).trans g) at' vr
        | ex z p' => rw [e] at q3'; exact q3'
        | no => rw [e] at q3'; exact q3'
      refine tE_of E3 (post_bnd E3 q4 fun rc p4 w' H4 g4 E4 v4 q5 => ?_)
      have v2' := (VR.go E2 v2 (Go.of_same s3) E3.at_).go E3 g4 E4.at_
      cases e : g' rb.d rc.d with
      | none => rw [e] at q5; exact q5.elim
      | some d =>
        rw [e] at q5
        exact r2d_use hr' E4 v2' v4 e fun v H' s E5 h => q5 v H' (Go.of_same s) E5.at_ h
  cases e : g ra.d rb.d with
  | none => rw [e] at q2; exact q2.elim
  | some d =>
    rw [e] at q2
    cases d with
    | bool k =>
      refine key k e ?_
      cases k <;> exact q2
    | _ => exact q2.elim
theorem ie_chain (ho : OpR X (compareOp o) r) (hr : R2D X.K r g) (ho' : OpR X (compareOp o') r') (hr' : R2D X.K r' g') (h1 : IE R X wx a f1) (h2 : IE R X wx b f2) (h3 : IE R X wx c f3) (hm : lastMarks [o, o'] [b, c] = false := by with_unfolding_all rfl) :
    IE R X wx (.Compare a [o, o'] [b, c] pos) (sChain g g' f1 f2 f3) := fun W => (L2.pe_chain ho ho' (h1 W) (h2 W) (h3 W) hm).imp (chain_imp hr hr')
theorem it_chain (ho : OpR X (compareOp o) r) (hr : R2D X.K r g) (ho' : OpR X (compareOp o') r') (hr' : R2D X.K r' g') (h1 : IE R X wx a f1) (h2 : IE R X wx b f2) (h3 : IE R X wx c f3) (hm : lastMarks [o, o'] [b, c] = false := by with_unfolding_all rfl) :
    IT R X wx (.Compare a [o, o'] [b, c] pos) (sTest (sChain g g' f1 f2 f3)) := fun W => (L2.pt_chain ho ho' (h1 W) (h2 W) (h3 W) hm).imp fun σ H Q q => chain_imp hr hr' σ H _ (test_imp q)
end
end Fw
set_option maxHeartbeats 4000000
/-! short words for the printed derivations -/
namespace Fw
open PySem PySem.Spec PyProof.Rows L2

/-- the built-ins that no module hides -/
def bNames : List Str := ["len", "abs", "int", "sum", "all", "list", "tuple", "max", "min", "repr", "isinstance", "str", "range", "enumerate", "divmod", "bool", "dict", "sorted", "set", "zip"]
/-- what stands around a def's body -/
structure Bt (mg : Str → Option Value) (A : Around) : Prop where
  fr : ∀ x ∈ bNames, mg x = none
  g : A.guards = some []
  u : A.units + 65 < cLine
theorem Bt.v {mg : Str → Option Value} {A : Around} (T : Bt mg A) : A.units + 64 < cLine := Nat.lt_of_succ_lt T.u
theorem _root_.L2.PTs.imp {X : Cx} {e : List Expr} {t t' : TT} (h : PTs X e t) (i : ∀ σ H Q, t' σ H Q → t σ H Q) : PTs X e t' := ⟨fun pins s σ H Q I q => h.run pins s σ H Q I (i σ H Q q)⟩
section
variable {π : Type} {R : Rc π} {X : Cx} {wx : WX} {a b c e : Expr} {es : List Expr} {fs : SA π} {fa fb fc fe : SE π} {p p2 pos apos : Pos}
theorem c_len (T : Bt X.mg X.A) (h : IA R X wx [a] fs) (gl : Gl X "len" := by rfl) (he : starEach [a] X.env = (false, eval a X.env) :: starEach [] X.env := by rfl) : IE R X wx (.Call (.Name "len" p) [a] [] pos) (sCall (g1 fLen) fs) :=
  ie_call (fun ha => pe_callB call_len gl (T.fr _ (by decide +kernel)) boot_len ha (he := he)) cd_len h
theorem c_abs (T : Bt X.mg X.A) (h : IA R X wx [a] fs) (gl : Gl X "abs" := by rfl) (he : starEach [a] X.env = (false, eval a X.env) :: starEach [] X.env := by rfl) : IE R X wx (.Call (.Name "abs" p) [a] [] pos) (sCall (g1 fAbs) fs) :=
  ie_call (fun ha => pe_callB call_abs gl (T.fr _ (by decide +kernel)) boot_abs ha (he := he)) cd_abs h
theorem c_int (T : Bt X.mg X.A) (h : IA R X wx [a] fs) (gl : Gl X "int" := by rfl) (he : starEach [a] X.env = (false, eval a X.env) :: starEach [] X.env := by rfl) : IE R X wx (.Call (.Name "int" p) [a] [] pos) (sCall (g1 fInt) fs) :=
  ie_call (fun ha => pe_callTy call_int1 gl (T.fr _ (by decide +kernel)) boot_int ha (he := he)) cd_int h
theorem c_list (T : Bt X.mg X.A) (h : IA R X wx [a] fs) (gl : Gl X "list" := by rfl) (he : starEach [a] X.env = (false, eval a X.env) :: starEach [] X.env := by rfl) : IE R X wx (.Call (.Name "list" p) [a] [] pos) (sCall (g1 fList) fs) :=
  ie_call (fun ha => pe_callTy call_list_of gl (T.fr _ (by decide +kernel)) boot_list ha (he := he)) cd_list h
theorem c_tuple (T : Bt X.mg X.A) (h : IA R X wx [a] fs) (gl : Gl X "tuple" := by rfl) (he : starEach [a] X.env = (false, eval a X.env) :: starEach [] X.env := by rfl) : IE R X wx (.Call (.Name "tuple" p) [a] [] pos) (sCall gTuple fs) :=
  ie_call (fun ha => pe_callTy call_tuple_of gl (T.fr _ (by decide +kernel)) boot_tuple ha (he := he)) cd_tuple h
theorem c_repr (T : Bt X.mg X.A) (h : IA R X wx [a] fs) (gl : Gl X "repr" := by rfl) (he : starEach [a] X.env = (false, eval a X.env) :: starEach [] X.env := by rfl) : IE R X wx (.Call (.Name "repr" p) [a] [] pos) (sCall (g1 fRepr) fs) :=
  ie_call (fun ha => pe_callB (call_repr T.g T.v) gl (T.fr _ (by decide +kernel)) boot_repr ha (he := he)) cd_repr h
/-- isinstance(x, T) -/
theorem c_isi (T : Bt X.mg X.A) {n : String} (hT : PE X b (tC (.ty n))) (hn : ∀ d : PyData, kitB (tyName d) n = some (isTy n d)) (h1 : IE R X wx a fa) (gl : Gl X "isinstance" := by rfl)
    (hs : starEach [a, b] X.env = (false, eval a X.env) :: starEach [b] X.env := by rfl) (hs2 : starEach [b] X.env = (false, eval b X.env) :: starEach [] X.env := by rfl) : IE R X wx (.Call (.Name "isinstance" p) [a, b] [] pos) (sIsi n fa) :=
  ie_isi (fun ha => pe_callB call_isi gl (T.fr _ (by decide +kernel)) boot_isinstance ha (he := hs) (hpl := by rw [hs2]; rfl)) hT hn h1 hs hs2
/-- operators -/
theorem c_add (h1 : IE R X wx a fa) (h2 : IE R X wx b fb) : IE R X wx (.BinOp a .Add b pos) (sBin opAdd fa fb) := ie_bin (fun ha hb => pe_op op_addA ha hb) d_add h1 h2
theorem c_sub (h1 : IE R X wx a fa) (h2 : IE R X wx b fb) : IE R X wx (.BinOp a .Sub b pos) (sBin opSub fa fb) := ie_bin (fun ha hb => pe_op op_sub ha hb) d_sub h1 h2
theorem c_mul (h1 : IE R X wx a fa) (h2 : IE R X wx b fb) : IE R X wx (.BinOp a .Mult b pos) (sBin opMul fa fb) := ie_bin (fun ha hb => pe_op op_mulA ha hb) d_mul h1 h2
theorem c_mod (h1 : IE R X wx a fa) (h2 : IE R X wx b fb) : IE R X wx (.BinOp a .Mod b pos) (sBin opMod fa fb) := ie_bin (fun ha hb => pe_op op_mod ha hb) d_mod h1 h2
theorem c_div (h1 : IE R X wx a fa) (h2 : IE R X wx b fb) : IE R X wx (.BinOp a .FloorDiv b pos) (sBin opDiv fa fb) := ie_bin (fun ha hb => pe_op op_fdiv ha hb) d_div h1 h2
theorem c_eq (T : Bt X.mg X.A) (h1 : IE R X wx a fa) (h2 : IE R X wx b fb) : IE R X wx (.Compare a [.Eq] [b] pos) (sBin opEq fa fb) := ie_bin (fun ha hb => pe_cmpR (op_eqD T.v) ha hb (nomark _)) d_eq h1 h2
theorem c_ne (T : Bt X.mg X.A) (h1 : IE R X wx a fa) (h2 : IE R X wx b fb) : IE R X wx (.Compare a [.NotEq] [b] pos) (sBin opNe fa fb) := ie_bin (fun ha hb => pe_cmpR (op_neD T.v) ha hb (nomark _)) d_ne h1 h2
theorem t_eq (T : Bt X.mg X.A) (h1 : IE R X wx a fa) (h2 : IE R X wx b fb) : IT R X wx (.Compare a [.Eq] [b] pos) (sTest (sBin opEq fa fb)) := it_cmp (fun ha hb => pt_cmpR (op_eqD T.v) ha hb (nomark _)) d_eq h1 h2
theorem t_ne (T : Bt X.mg X.A) (h1 : IE R X wx a fa) (h2 : IE R X wx b fb) : IT R X wx (.Compare a [.NotEq] [b] pos) (sTest (sBin opNe fa fb)) := it_cmp (fun ha hb => pt_cmpR (op_neD T.v) ha hb (nomark _)) d_ne h1 h2
theorem c_lt (h1 : IE R X wx a fa) (h2 : IE R X wx b fb) : IE R X wx (.Compare a [.Lt] [b] pos) (sBin opLt fa fb) := ie_bin (fun ha hb => pe_cmpR op_ltA ha hb (nomark _)) d_lt h1 h2
theorem t_lt (h1 : IE R X wx a fa) (h2 : IE R X wx b fb) : IT R X wx (.Compare a [.Lt] [b] pos) (sTest (sBin opLt fa fb)) := it_cmp (fun ha hb => pt_cmpR op_ltA ha hb (nomark _)) d_lt h1 h2
theorem c_le (h1 : IE R X wx a fa) (h2 : IE R X wx b fb) : IE R X wx (.Compare a [.LtE] [b] pos) (sBin opLe fa fb) := ie_bin (fun ha hb => pe_cmpR op_le ha hb (nomark _)) d_le h1 h2
theorem t_le (h1 : IE R X wx a fa) (h2 : IE R X wx b fb) : IT R X wx (.Compare a [.LtE] [b] pos) (sTest (sBin opLe fa fb)) := it_cmp (fun ha hb => pt_cmpR op_le ha hb (nomark _)) d_le h1 h2
theorem c_gt (h1 : IE R X wx a fa) (h2 : IE R X wx b fb) : IE R X wx (.Compare a [.Gt] [b] pos) (sBin opGt fa fb) := ie_bin (fun ha hb => pe_cmpR op_gt ha hb (nomark _)) d_gt h1 h2
theorem t_gt (h1 : IE R X wx a fa) (h2 : IE R X wx b fb) : IT R X wx (.Compare a [.Gt] [b] pos) (sTest (sBin opGt fa fb)) := it_cmp (fun ha hb => pt_cmpR op_gt ha hb (nomark _)) d_gt h1 h2
theorem c_ge (h1 : IE R X wx a fa) (h2 : IE R X wx b fb) : IE R X wx (.Compare a [.GtE] [b] pos) (sBin opGe fa fb) := ie_bin (fun ha hb => pe_cmpR op_ge ha hb (nomark _)) d_ge h1 h2
theorem t_ge (h1 : IE R X wx a fa) (h2 : IE R X wx b fb) : IT R X wx (.Compare a [.GtE] [b] pos) (sTest (sBin opGe fa fb)) := it_cmp (fun ha hb => pt_cmpR op_ge ha hb (nomark _)) d_ge h1 h2
theorem c_in (T : Bt X.mg X.A) (h1 : IE R X wx a fa) (h2 : IE R X wx b fb) (hm : behindInMarks .In b = false := by rfl) : IE R X wx (.Compare a [.In] [b] pos) (sBin opIn fa fb) := ie_bin (fun ha hb => pe_cmpR (op_inA T.u) ha hb hm) d_in h1 h2
theorem t_in (T : Bt X.mg X.A) (h1 : IE R X wx a fa) (h2 : IE R X wx b fb) (hm : behindInMarks .In b = false := by rfl) : IT R X wx (.Compare a [.In] [b] pos) (sTest (sBin opIn fa fb)) := it_cmp (fun ha hb => pt_cmpR (op_inA T.u) ha hb hm) d_in h1 h2
theorem c_ni (T : Bt X.mg X.A) (h1 : IE R X wx a fa) (h2 : IE R X wx b fb) (hm : behindInMarks .NotIn b = false := by rfl) : IE R X wx (.Compare a [.NotIn] [b] pos) (sBin opNotIn fa fb) := ie_bin (fun ha hb => pe_cmpR (op_notInA T.u) ha hb hm) d_notIn h1 h2
theorem t_ni (T : Bt X.mg X.A) (h1 : IE R X wx a fa) (h2 : IE R X wx b fb) (hm : behindInMarks .NotIn b = false := by rfl) : IT R X wx (.Compare a [.NotIn] [b] pos) (sTest (sBin opNotIn fa fb)) := it_cmp (fun ha hb => pt_cmpR (op_notInA T.u) ha hb hm) d_notIn h1 h2
/-- a <= b <= c -/
theorem c_lele (h1 : IE R X wx a fa) (h2 : IE R X wx b fb) (h3 : IE R X wx c fc) (hm : lastMarks [.LtE, .LtE] [b, c] = false := by with_unfolding_all rfl) : IE R X wx (.Compare a [.LtE, .LtE] [b, c] pos) (sChain opLe opLe fa fb fc) := ie_chain op_le d_le op_le d_le h1 h2 h3 hm
theorem t_lele (h1 : IE R X wx a fa) (h2 : IE R X wx b fb) (h3 : IE R X wx c fc) (hm : lastMarks [.LtE, .LtE] [b, c] = false := by with_unfolding_all rfl) : IT R X wx (.Compare a [.LtE, .LtE] [b, c] pos) (sTest (sChain opLe opLe fa fb fc)) := it_chain op_le d_le op_le d_le h1 h2 h3 hm
/-- built-ins where no error is handled -/
theorem c_sum (T : Bt X.mg X.A) (h : IA R X wx [a] fs) (hc : X.calm = true := by rfl) (gl : Gl X "sum" := by rfl) (he : starEach [a] X.env = (false, eval a X.env) :: starEach [] X.env := by rfl) : IE R X wx (.Call (.Name "sum" p) [a] [] pos) (sCall (g1 fSum) fs) :=
  ie_call (fun ha => pe_callB (cr_sum hc) gl (T.fr _ (by decide +kernel)) boot_sum ha (he := he)) cd_sum h
theorem c_all (T : Bt X.mg X.A) (h : IA R X wx [a] fs) (hc : X.calm = true := by rfl) (gl : Gl X "all" := by rfl) (he : starEach [a] X.env = (false, eval a X.env) :: starEach [] X.env := by rfl) : IE R X wx (.Call (.Name "all" p) [a] [] pos) (sCall (g1 fAll) fs) :=
  ie_call (fun ha => pe_callB (cr_all hc) gl (T.fr _ (by decide +kernel)) boot_all ha (he := he)) cd_all h
theorem c_max (T : Bt X.mg X.A) (h : IA R X wx [a, b] fs) (hc : X.calm = true := by rfl) (gl : Gl X "max" := by rfl) (he : starEach [a, b] X.env = (false, eval a X.env) :: starEach [b] X.env := by rfl) (hpl : (backTo pos (starEach [b] X.env)).any (·.1) = false := by rfl) : IE R X wx (.Call (.Name "max" p) [a, b] [] pos) (sCall gMax fs) :=
  ie_call (fun ha => pe_callB (call_max2 hc) gl (T.fr _ (by decide +kernel)) boot_max ha (he := he) (hpl := hpl)) cd_max h
theorem c_min (T : Bt X.mg X.A) (h : IA R X wx [a, b] fs) (hc : X.calm = true := by rfl) (gl : Gl X "min" := by rfl) (he : starEach [a, b] X.env = (false, eval a X.env) :: starEach [b] X.env := by rfl) (hpl : (backTo pos (starEach [b] X.env)).any (·.1) = false := by rfl) : IE R X wx (.Call (.Name "min" p) [a, b] [] pos) (sCall gMin fs) :=
  ie_call (fun ha => pe_callB (call_min2 hc) gl (T.fr _ (by decide +kernel)) boot_min ha (he := he) (hpl := hpl)) cd_min h
/-- a built-in type's name -/
theorem ty_str (T : Bt X.mg X.A) (gl : Gl X "str" := by rfl) : PE X (.Name "str" pos) (tC (.ty "str")) := ⟨fun pins s σ H Q I h => ld_blt I gl (T.fr _ (by decide +kernel)) boot_str ⟨.ty "str", H, I, rfl, h⟩ (by decide) (by decide)⟩
theorem ty_int (T : Bt X.mg X.A) (gl : Gl X "int" := by rfl) : PE X (.Name "int" pos) (tC (.ty "int")) := ⟨fun pins s σ H Q I h => ld_blt I gl (T.fr _ (by decide +kernel)) boot_int ⟨.ty "int", H, I, rfl, h⟩ (by decide) (by decide)⟩
theorem ty_bool (T : Bt X.mg X.A) (gl : Gl X "bool" := by rfl) : PE X (.Name "bool" pos) (tC (.ty "bool")) := ⟨fun pins s σ H Q I h => ld_blt I gl (T.fr _ (by decide +kernel)) boot_bool ⟨.ty "bool", H, I, rfl, h⟩ (by decide) (by decide)⟩
theorem ty_list (T : Bt X.mg X.A) (gl : Gl X "list" := by rfl) : PE X (.Name "list" pos) (tC (.ty "list")) := ⟨fun pins s σ H Q I h => ld_blt I gl (T.fr _ (by decide +kernel)) boot_list ⟨.ty "list", H, I, rfl, h⟩ (by decide) (by decide)⟩
theorem ty_tuple (T : Bt X.mg X.A) (gl : Gl X "tuple" := by rfl) : PE X (.Name "tuple" pos) (tC (.ty "tuple")) := ⟨fun pins s σ H Q I h => ld_blt I gl (T.fr _ (by decide +kernel)) boot_tuple ⟨.ty "tuple", H, I, rfl, h⟩ (by decide) (by decide)⟩
theorem ty_dict (T : Bt X.mg X.A) (gl : Gl X "dict" := by rfl) : PE X (.Name "dict" pos) (tC (.ty "dict")) := ⟨fun pins s σ H Q I h => ld_blt I gl (T.fr _ (by decide +kernel)) boot_dict ⟨.ty "dict", H, I, rfl, h⟩ (by decide) (by decide)⟩
/-- methods of texts -/
theorem c_split (h1 : IE R X wx a fa) (h2 : IE R X wx b fb) (hs : starEach [b] X.env = [(false, eval b X.env)] := by rfl) (hbase : attributeBase a "split" X.env (eval a X.env) = eval a X.env := by rfl) (hline : (apos.endLine == pos.line) = true := by rfl) : IE R X wx (.Call (.Attribute a "split" apos) [b] [] pos) (sM1 gSplit fa fb) :=
  ie_m1 (fun ho he => pe_split ho he hs hbase hline) md_split h1 h2
theorem c_join (h1 : IE R X wx a fa) (h2 : IE R X wx b fb) (hs : starEach [b] X.env = [(false, eval b X.env)] := by rfl) (hbase : attributeBase a "join" X.env (eval a X.env) = eval a X.env := by rfl) (hline : (apos.endLine == pos.line) = true := by rfl) : IE R X wx (.Call (.Attribute a "join" apos) [b] [] pos) (sM1 gJoin fa fb) :=
  ie_m1 (fun ho he => pe_join ho he hs hbase hline) md_join h1 h2
/-- a module's constant -/
def Con (K : Fg) (mg : Str → Option Value) (x : Str) (d : PyData) : Prop := ∃ u v, mg x = some u ∧ RelV v u ∧ ∀ M H, Dt K M H v d
theorem c_g {x : Str} {d : PyData} (h : Con X.K X.mg x d) (gl : Gl X x := by rfl) (hd : (x == ("__debug__" : Str)) = false := by decide) : IE R X wx (.Name x pos) (sC d) := by
  obtain ⟨u, v, h1, h2, h3⟩ := h
  exact ie_c (pe_glob gl h1 h2 hd) h3

/-! ### own defs -/
structure DefG (P : Program) (w : World) (K : Fg) (mg : Str → Option Value) (base : Heap) (k : Nat) (x : Str) (ps : List Str) (kwl : List (List Str × List Nat)) (sp : Sp) : Prop where
  ex : ∃ f fd, FnG P w K mg base k f fd ps sp ∧ mg x = some (.ref f) ∧ PySem.W.keepIn K (.ref f) = true ∧ Binds K fd ps [] ∧ ∀ q ∈ kwl, KwOnly K fd ps q.1 q.2
variable {k n : Nat} {x : Str} {ps : List Str} {kwl : List (List Str × List Nat)}
theorem c_call {g : List PyData → Ma Unit PyData} (D : DefG X.prog X.w X.K X.mg X.base k x ps kwl (spR Rz X.K X.mg false n g)) (T : Bt X.mg X.A) (hr : Room k X.A) (tk : Takes X wx) (h : IA R X wx (a :: es) fs) (gl : Gl X x := by rfl) (hdb : (x == ("__debug__" : Str)) = false := by decide)
    (he : starEach (a :: es) X.env = (false, eval a X.env) :: starEach es X.env := by rfl) (hpl : (backTo pos (starEach es X.env)).any (·.1) = false := by rfl) : IE R X wx (.Call (.Name x p) (a :: es) [] pos) (sCallZ n g fs) := by
  obtain ⟨f, fd, F, hm, hk, hb, _⟩ := D.ex
  exact ie_callZ (fun ha => pe_callG F T.g hr gl hm hk hb .nil (fun σ => passAt tk σ) ha hdb he hpl) h
theorem c_call0 {g : List PyData → Ma Unit PyData} (D : DefG X.prog X.w X.K X.mg X.base k x ps kwl (spR Rz X.K X.mg false 0 g)) (T : Bt X.mg X.A) (hr : Room k X.A) (tk : Takes X wx) (gl : Gl X x := by rfl) (hdb : (x == ("__debug__" : Str)) = false := by decide) : IE R X wx (.Call (.Name x p) [] [] pos) (sCallZ 0 g sNil) := by
  obtain ⟨f, fd, F, hm, hk, hb, _⟩ := D.ex
  exact ie_callZ0 (pe_callG0 F T.g hr gl hm hk hb .nil (fun σ => passAt tk σ) hdb)
theorem c_callQ {g : List PyData → Ma π PyData} {i : Nat} (D : DefG X.prog X.w X.K X.mg X.base k x ps kwl (spR R X.K X.mg true n g)) (T : Bt X.mg X.A) (hr : Room k X.A) (tk : Takes X wx) (hi : PE X a (tVar i)) (h : IA R X wx es fs) (gl : Gl X x := by rfl) (hdb : (x == ("__debug__" : Str)) = false := by decide)
    (he : starEach (a :: es) X.env = (false, eval a X.env) :: starEach es X.env := by rfl) (hpl : (backTo pos (starEach es X.env)).any (·.1) = false := by rfl) : IE R X wx (.Call (.Name x p) (a :: es) [] pos) (sCallQ i n g fs) := by
  obtain ⟨f, fd, F, hm, hk, hb, _⟩ := D.ex
  exact ie_callQ (fun ha => pe_callG F T.g hr gl hm hk hb .nil (fun σ => passAt tk σ) ha hdb he hpl) hi h he
theorem c_callK {g : List PyData → Ma Unit PyData} {ks : List Str} {ix : List Nat} {kws : List Keyword} (D : DefG X.prog X.w X.K X.mg X.base k x ps kwl (spR Rz X.K X.mg false n g)) (T : Bt X.mg X.A) (hr : Room k X.A) (tk : Takes X wx) (hq : (ks, ix) ∈ kwl) (h : IK R X wx kws fs) (gl : Gl X x := by rfl) (hdb : (x == ("__debug__" : Str)) = false := by decide)
    (hall : (backToKw pos (keywordEach kws X.env)).all (·.1.isSome) = true := by rfl) (hks : (backToKw pos (keywordEach kws X.env)).filterMap (·.1) = ks := by rfl) (hpl : ((backTo pos (starEach [] X.env)).any (·.1) || (backToKw pos (keywordEach kws X.env)).any (·.1.isNone)) = false := by rfl) :
    IE R X wx (.Call (.Name x p) [] kws pos) (sCallK ks.length n ix g fs) := by
  obtain ⟨f, fd, F, hm, hk, hb, hkw⟩ := D.ex
  exact ie_callK (fun ha => pe_callGN F T.g hr gl hm hk (hkw _ hq) (fun σ => passAt tk σ) ha hall hks hdb hpl) h

/-! ### statements -/
variable {st : Stmt} {body : List Stmt} {f fb2 : SS π} {i j : Nat} {px py : Pos}
theorem c_set (i : Nat) (hN : X.N.Nodup) (h : IE R X wx e fe) (hi : X.N[i]? = some x := by rfl) (hx : Loc X.env.scope x := by first | exact .inl rfl | exact .inr rfl) (hs : swapsWith e (some (.Name x px)) pos.line X.env = pure false := by rfl) (hf : X.fn x = true ∨ X.env.scope.names.lookup x = some .local := by first | exact .inl rfl | exact .inr rfl) :
    IS R X wx (.Assign [.Name x px] e pos) (sSet i fe) := is_set (fun he => ps_set hN hi hx he hs hf) h
theorem c_own (i : Nat) (hN : X.N.Nodup) (h : IE R X wx e fe) (hi : X.N[i]? = some x := by rfl) (hx : Loc X.env.scope x := by first | exact .inl rfl | exact .inr rfl) (hs : swapsWith e (some (.Name x px)) pos.line X.env = pure false := by rfl) (hf : X.fn x = true ∨ X.env.scope.names.lookup x = some .local := by first | exact .inl rfl | exact .inr rfl) :
    IS R X wx (.Assign [.Name x px] e pos) (sOwn i fe) := is_own (fun he => ps_set hN hi hx he hs hf) h
theorem c_asg {tg : Expr} {gt : TG} {bt : PyData → Evn → Option Evn} {is : List Nat} (hg : PG X tg gt) (gd : GD X.K gt bt is) (h : IE R X wx e fe) (hs : swapsWithSole [tg] e pos.line X.env = pure false := by rfl) (hw : swappedStores [tg] e X.env = pure none := by rfl) (h1 : (assignEach [tg] X.env).map (·.2) = [assign tg X.env] := by rfl) :
    IS R X wx (.Assign [tg] e pos) (sAsg bt fe) := is_asg (fun he => ps_asg he hg hs hw h1) gd h
theorem c_par (i j : Nat) (o1 o2 : Bool) {y : Str} {pt pt2 : Pos} {kt k2} (hN : X.N.Nodup) (h1 : IE R X wx a fa) (h2 : IE R X wx b fb) (hc : X.calm = true := by rfl) (hi : X.N[i]? = some x := by rfl) (hj : X.N[j]? = some y := by rfl) (hij : i ≠ j := by decide) (hx : X.env.scope.names.lookup x = some .local := by rfl) (hy : X.env.scope.names.lookup y = some .local := by rfl)
    (hw : swappedStores [.Tuple [.Name x px, .Name y py] kt pt] (.Tuple [a, b] k2 pt2) X.env = pure (some [x, y]) := by rfl) (hs : swapsWithSole [.Tuple [.Name x px, .Name y py] kt pt] (.Tuple [a, b] k2 pt2) pos.line X.env = pure false := by rfl)
    (hs1 : starEach [a, b] X.env = (false, eval a X.env) :: starEach [b] X.env := by rfl) (hs2 : starEach [b] X.env = (false, eval b X.env) :: starEach [] X.env := by rfl) : IS R X wx (.Assign [.Tuple [.Name x px, .Name y py] kt pt] (.Tuple [a, b] k2 pt2) pos) (sPar i j o1 o2 fa fb) :=
  is_par hij (fun ha => ps_par hc hN hi hj hij hx hy ha hw hs) h1 h2 hs1 hs2
theorem c_app {ap : Pos} (ho : PE X a (tVar i)) (h : IE R X wx b fb) (hbase : attributeBase a "append" X.env (eval a X.env) = eval a X.env := by rfl)
    (hfew : ((backTo p (starEach [b] X.env)).all (fun x => !x.1) && (backToKw p (keywordEach [] X.env)).all (fun x => x.1.isSome) && decide (([b] : List Expr).length + ([] : List Keyword).length + (if ([] : List Keyword).isEmpty then 0 else 1) < 30)) = true := by rfl) (hline : (ap.endLine == p.line) = true := by rfl)
    (hs : starEach [b] X.env = (false, eval b X.env) :: starEach [] X.env := by rfl) (hsw : swapsWith (.Call (.Attribute a "append" ap) [b] [] p) none pos.line X.env = pure false := by rfl) : IS R X wx (.Expr (.Call (.Attribute a "append" ap) [b] [] p) pos) (sApp i fb) :=
  is_app (fun he => ps_expr (pe_bm PySem.F.plainAttrs_list PySem.F.slot_list_append PySem.F.type_list_append mt_append ho (pa_cons he pa_nil hs) hbase hfew hline hs rfl) hsw) h
theorem c_ext {ap : Pos} (ho : PE X a (tVar i)) (h : IE R X wx b fb) (hbase : attributeBase a "extend" X.env (eval a X.env) = eval a X.env := by rfl)
    (hfew : ((backTo p (starEach [b] X.env)).all (fun x => !x.1) && (backToKw p (keywordEach [] X.env)).all (fun x => x.1.isSome) && decide (([b] : List Expr).length + ([] : List Keyword).length + (if ([] : List Keyword).isEmpty then 0 else 1) < 30)) = true := by rfl) (hline : (ap.endLine == p.line) = true := by rfl)
    (hs : starEach [b] X.env = (false, eval b X.env) :: starEach [] X.env := by rfl) (hsw : swapsWith (.Call (.Attribute a "extend" ap) [b] [] p) none pos.line X.env = pure false := by rfl) : IS R X wx (.Expr (.Call (.Attribute a "extend" ap) [b] [] p) pos) (sExt i fb) :=
  is_ext (fun he => ps_expr (pe_bm PySem.F.plainAttrs_list PySem.F.slot_list_extend PySem.F.type_list_extend mt_extend ho (pa_cons he pa_nil hs) hbase hfew hline hs rfl) hsw) h
theorem c_aug (i : Nat) (hN : X.N.Nodup) (h : IE R X wx e fe) (hi : X.N[i]? = some x := by rfl) (hx : Loc X.env.scope x := by first | exact .inl rfl | exact .inr rfl) (hf : X.fn x = true ∨ X.env.scope.names.lookup x = some .local := by first | exact .inl rfl | exact .inr rfl) :
    IS R X wx (.AugAssign (.Name x px) .Add e pos) (sAug i fe) := is_aug (fun he => ps_aug hN hi hx he ip_add hf) h
/-- {} -/
def sDict0 : SE π := fun _ p => .ok (.fr (.dict [])) p
theorem c_dict0 : IE R X wx (.Dict [] [] pos) sDict0 := fun W => L2.pe_dnewK.imp fun σ H Q ⟨M, env, p, E, q⟩ => fun b n => by
  have s : Same H (upd H b (.dK [])) := same_new n
  have nm := nomark_new E n
  have n0 : W.H0 b = none := by
    cases e : W.H0 b with
    | none => rfl
    | some o =>
      by_cases z : b ∈ W.pa
      · exact absurd (E.low b (E.pam b z)) nm
      · rw [E.ext b o e z] at n
        cases n
  exact q _ _ (Go.of_same s) (W.mono _ _ _ _ s E.at_) ⟨b, rfl, nm, n0, ⟨[], upd_same, .nil⟩, E.mark n, ⟨[], upd_same, .nil⟩⟩
def sDrop (f : SE π) : SS π := sThen f fun env _ p => .nx env p
theorem c_expr (h : IE R X wx e fe) (hs : swapsWith e none pos.line X.env = pure false := by rfl) : IS R X wx (.Expr e pos) (sDrop fe) := fun W => (ps_expr (h W) hs).imp fun D σ H ⟨M, env, p, E, q⟩ =>
  tE_of E (post_X.mpr (postS_then E q fun r p1 H1 g1 E1 q1 v vr => q1 M σ H1 E1))
theorem its_nil : ITs R X wx [] sYes := fun W => pts_nil.imp fun σ H Q ⟨M, env, p, E, q⟩ => q H (Go.refl _ _) E.at_
theorem its_one {t : ST π} (h : IT R X wx a t) : ITs R X wx [a] t := fun W => pts_one (h W)
end
end Fw
set_option maxHeartbeats 4000000
namespace Fw
open PySem PySem.Spec PyProof.Rows L2
open He (ga)

/-! ### what is asked of the heap behind the top, by kernel -/
/-- an own error class over ValueError, with own fields -/
def errB (K : Fg) (C : Addr) : Bool := (match K.lookup C with
  | some ⟨.type t, _, .cls cd, sl⟩ => t == "type" && (match cd.mro, sl.toList with
    | .ref C' :: bm, [_, _, _, _, some (.builtin n), _] => C' == C && (n == "ValueError.__new__" && (!cd.hasDel && (cd.hasDict && PySem.HandSPX.refsVE bm)))
    | _, _ => false)
  | _ => false) && (decide (PySem.W.findIn K (.ref C) "__setattr__" = some (some (.builtin "object.__setattr__"))) && (decide (PySem.W.subIn K (.ref C) (.type "BaseException") = some true) && (decide (PySem.W.typeIn K (.ref C) = some (.type "type")) && PySem.W.keepIn K (.ref C))))
theorem and2 {a b : Bool} (h : (a && b) = true) : a = true ∧ b = true := Bool.and_eq_true_iff.mp h
theorem errB_ok {K : Fg} {C : Addr} (h : errB K C = true) : L2.OexC K C := by
  obtain ⟨h0, h⟩ := and2 h
  obtain ⟨h1, h⟩ := and2 h
  obtain ⟨h2, h⟩ := and2 h
  obtain ⟨h3, h4⟩ := and2 h
  refine ⟨?_, of_decide_eq_true h1, of_decide_eq_true h2, of_decide_eq_true h3, h4⟩
  split at h0
  · rename_i t dd cd sl el
    obtain ⟨k0, k1⟩ := and2 h0
    split at k1
    · rename_i C' bm a0 a1 a2 a3 n a5 em es
      obtain ⟨c1, k1⟩ := and2 k1
      obtain ⟨c2, k1⟩ := and2 k1
      obtain ⟨c3, k1⟩ := and2 k1
      obtain ⟨c4, c5⟩ := and2 k1
      have e0 : t = "type" := eq_of_beq k0
      have e1 : C' = C := eq_of_beq c1
      have e2 : n = "ValueError.__new__" := eq_of_beq c2
      have e3 : cd.hasDel = false := by simpa using c3
      subst e0 e1 e2
      obtain ⟨nm, bs, mro, ns, qn, hd, sn, sb, ab, col, del⟩ := cd
      dsimp only at em e3 c4
      subst em e3 c4
      refine ⟨nm, qn, ns, bs, bm, sn, sb, ab, col, dd, a0, a1, a2, a3, a5, ?_, c5⟩
      rw [el]
      have : sl = #[a0, a1, a2, a3, some (.builtin "ValueError.__new__"), a5] := by
        apply Array.toList_inj.mp
        rw [es]
      rw [this]
    · cases k1
  · cases h0
def excB (K : Fg) (D : Addr) : Bool := decide (PySem.W.findIn K (.ref D) "__getattribute__" = some (some (.builtin "BaseException.__getattribute__"))) && (decide (PySem.W.findIn K (.ref D) "__getattr__" = some none) && (decide (PySem.W.subIn K (.ref D) (.type "BaseException") = some true) && (PySem.W.hasDictIn K D &&
  (decide (PySem.W.findIn K (.ref D) "__class__" = some (some (.builtin "object.__class__"))) && (decide (PySem.W.specialIn K (.builtin "object.__class__") "__get__" = some (some (.builtin "getset_descriptor.__get__"))) && (decide (PySem.W.takesIn K (.builtin "object.__class__") = some true) && decide (PySem.W.mroIn K D (.type "object") = some true)))))))
theorem excB_ok {K : Fg} {D : Addr} (h : excB K D = true) : L2.ExcC K D ∧ L2.XfC K D := by
  obtain ⟨h1, h⟩ := and2 h
  obtain ⟨h2, h⟩ := and2 h
  obtain ⟨h3, h⟩ := and2 h
  obtain ⟨h4, h⟩ := and2 h
  obtain ⟨h5, h⟩ := and2 h
  obtain ⟨h6, h⟩ := and2 h
  obtain ⟨h7, h8⟩ := and2 h
  exact ⟨⟨of_decide_eq_true h1, of_decide_eq_true h2, of_decide_eq_true h3, h4, of_decide_eq_true h5, of_decide_eq_true h6, of_decide_eq_true h7, of_decide_eq_true h8⟩, ⟨of_decide_eq_true h1, of_decide_eq_true h2, of_decide_eq_true h3, h4⟩⟩
/-- class c is raised with these fields -/
def raiB (K : Fg) (c : Str) (fs : List Str) : Bool := errB K (ga K c) && (fs.all (fun f => decide (PySem.W.findIn K (.ref (ga K c)) f = some none)) && (decide (PySem.W.findIn K (.ref (ga K c)) "__init__" = some (some (.ref (He.ma K (ga K c) "__init__")))) && decide (PySem.W.typeIn K (.ref (He.ma K (ga K c) "__init__")) = some (.type "function"))))
/-- instances of class c tell their fields and what they are -/
def telB (K : Fg) (c : Str) (fs : List Str) : Bool := excB K (ga K c) && fs.all fun f => decide (PySem.W.findIn K (.ref (ga K c)) f = some none)
def subB (K : Fg) (c d : Str) (b : Bool) : Bool := decide (PySem.W.exmOne K (.ref (ga K c)) (.ref (ga K d)) = some b) && decide (PySem.W.kitOne K (.ref (ga K c)) (.ref (ga K d)) = some b)
/-- a constant -/
def conB (K : Fg) (x : Str) (d : PyData) : Bool := match d with
  | .int i => (He.Fa.int x i).ok K
  | .str z => (He.Fa.str x z).ok K
  | .tuple ds => (match strsOf ds with
    | some ys => (He.Fa.glo x).ok K && He.tupB K x (ys.map He.Dv.str)
    | none => false)
  | _ => false
theorem conB_ok {K : Fg} {h : Heap} {mg : Str → Option Value} (X : K.In h) (G : h.Ns mainGlobals mg) {x : Str} {d : PyData} (c : conB K x d = true) : Con K mg x d := by
  cases d with
  | int i =>
    obtain ⟨t, e⟩ := He.int_ok X G c
    exact ⟨_, .int i, e, ⟨t, rfl⟩, fun M H => .int i⟩
  | str z =>
    obtain ⟨t, e⟩ := He.str_ok X G c
    exact ⟨_, .str z, e, ⟨t, rfl⟩, fun M H => .str z⟩
  | tuple ds =>
    unfold conB at c
    cases es : strsOf ds with
    | none => simp only [es] at c; cases c
    | some ys =>
      simp only [es] at c
      obtain ⟨c1, c2⟩ := and2 c
      have z := He.tupB_ok c2 H00
      rw [List.map_map] at z
      refine ⟨_, .ref (ga K x), He.glo_ok X G c1, rfl, fun M H => ?_⟩
      rw [strsOf_map es]
      exact .tupK z (strs_dt ys)
  | _ => cases c

/-! ### raised classes -/
structure Er1 (P : Program) (w : World) (K : Fg) (mg : Str → Option Value) (base : Heap) (c f1 : Str) : Prop where
  ex : ∃ C fI fd ps, mg c = some (.ref C) ∧ L2.OexC K C ∧ PySem.W.findIn K (.ref C) f1 = some none ∧ PySem.W.findIn K (.ref C) "__init__" = some (some (.ref fI)) ∧ PySem.W.typeIn K (.ref fI) = some (.type "function") ∧ FnOk P w K mg base CX0 1 fI fd ps (spI1 K f1) ∧ ∃ ds, Vals [] ds ∧ Binds K fd ps ds
structure Er2 (P : Program) (w : World) (K : Fg) (mg : Str → Option Value) (base : Heap) (c f1 f2 : Str) : Prop where
  ex : ∃ C fI fd ps, mg c = some (.ref C) ∧ L2.OexC K C ∧ (PySem.W.findIn K (.ref C) f1 = some none ∧ PySem.W.findIn K (.ref C) f2 = some none) ∧ PySem.W.findIn K (.ref C) "__init__" = some (some (.ref fI)) ∧ PySem.W.typeIn K (.ref fI) = some (.type "function") ∧ FnOk P w K mg base CX0 1 fI fd ps (spI2 K f1 f2) ∧ ∃ ds, Vals [] ds ∧ Binds K fd ps ds
section
variable {π : Type} {R : Rc π} {X : Cx} {wx : WX} {a : Expr} {es : List Expr} {fs : SA π} {c f1 f2 : Str} {p p2 pos : Pos}
theorem Er1.raise (E : Er1 X.prog X.w X.K X.mg X.base c f1) (hr : Room 2 X.A) (tk : Takes X wx) (h : IA R X wx (a :: es) fs) (hc : X.calm = true := by rfl) (gl : Gl X c := by rfl) (hdb : (c == ("__debug__" : Str)) = false := by decide) (he : starEach (a :: es) X.env = (false, eval a X.env) :: starEach es X.env := by rfl) (hpl : (backTo p2 (starEach es X.env)).any (·.1) = false := by rfl) :
    IS R X wx (.Raise (some (.Call (.Name c p) (a :: es) [] p2)) none pos) (sRaise c [f1] fs) := by
  obtain ⟨C, fI, fd, ps, m, T, n1, i1, t1, F, ds, d1, b1⟩ := E.ex
  exact is_raise1 m T n1 (fun ha => ps_raise hc tk (pmk_oex T i1 t1 F hr b1 d1 (fun _ _ _ _ _ _ _ z => z.elim) gl m ha hdb he hpl)) h
theorem Er2.raise (E : Er2 X.prog X.w X.K X.mg X.base c f1 f2) (hr : Room 2 X.A) (tk : Takes X wx) (h : IA R X wx (a :: es) fs) (hc : X.calm = true := by rfl) (gl : Gl X c := by rfl) (hdb : (c == ("__debug__" : Str)) = false := by decide) (he : starEach (a :: es) X.env = (false, eval a X.env) :: starEach es X.env := by rfl) (hpl : (backTo p2 (starEach es X.env)).any (·.1) = false := by rfl) :
    IS R X wx (.Raise (some (.Call (.Name c p) (a :: es) [] p2)) none pos) (sRaise c [f1, f2] fs) := by
  obtain ⟨C, fI, fd, ps, m, T, ⟨n1, n2⟩, i1, t1, F, ds, d1, b1⟩ := E.ex
  exact is_raise2 m T n1 n2 (fun ha => ps_raise hc tk (pmk_oex T i1 t1 F hr b1 d1 (fun _ _ _ _ _ _ _ z => z.elim) gl m ha hdb he hpl)) h
end
/-- what a clause, isinstance tells of the classes in the list -/
theorem sub_of {mg : Str → Option Value} {v : Value} {g : Value → Value → Option Bool} {l : List (Str × Bool)} (h : ∀ q ∈ l, ∃ C, mg q.1 = some (.ref C) ∧ g (.ref C) v = some q.2) : ∀ x C b, mg x = some (.ref C) → l.lookup x = some b → g (.ref C) v = some b := fun x C b hm hl => by
  have key : ∀ l : List (Str × Bool), l.lookup x = some b → (x, b) ∈ l := fun l => by
    induction l with
    | nil => intro e; cases e
    | cons q l ih =>
      intro e
      obtain ⟨y, z⟩ := q
      by_cases k : x = y
      · subst k
        simp at e
        rw [e]
        exact List.mem_cons_self
      · have k' : (x == y) = false := by simpa using k
        simp only [List.lookup_cons, k'] at e
        exact List.mem_cons_of_mem _ (ih e)
  obtain ⟨C', m, e⟩ := h (x, b) (key l hl)
  cases hm.symm.trans m
  exact e

theorem sub_of2 {mg : Str → Option Value} {g : Addr → Bool → Prop} {l : List (Str × Bool)} (h : ∀ q ∈ l, ∃ C, mg q.1 = some (.ref C) ∧ g C q.2) : ∀ x C b, mg x = some (.ref C) → l.lookup x = some b → g C b := fun x C b hm hl => by
  have key : ∀ l : List (Str × Bool), l.lookup x = some b → (x, b) ∈ l := fun l => by
    induction l with
    | nil => intro e; cases e
    | cons q l ih =>
      intro e
      obtain ⟨y, z⟩ := q
      by_cases k : x = y
      · subst k
        simp at e
        rw [e]
        exact List.mem_cons_self
      · have k' : (x == y) = false := by simpa using k
        simp only [List.lookup_cons, k'] at e
        exact List.mem_cons_of_mem _ (ih e)
  obtain ⟨C', m, e⟩ := h (x, b) (key l hl)
  cases hm.symm.trans m
  exact e
theorem all1 {α : Type} {P : α → Prop} {a : α} (ha : P a) : ∀ x ∈ [a], P x := fun x h => by
  rw [List.mem_singleton.mp h]
  exact ha
theorem all2 {α : Type} {P : α → Prop} {a b : α} (ha : P a) (hb : P b) : ∀ x ∈ [a, b], P x := fun x h => (List.mem_cons.mp h).elim (fun e => by rw [e]; exact ha) (all1 hb x)
theorem all3 {α : Type} {P : α → Prop} {a b c : α} (ha : P a) (hb : P b) (hc : P c) : ∀ x ∈ [a, b, c], P x := fun x h => (List.mem_cons.mp h).elim (fun e => by rw [e]; exact ha) (all2 hb hc x)
theorem all4 {α : Type} {P : α → Prop} {a b c d : α} (ha : P a) (hb : P b) (hc : P c) (hd : P d) : ∀ x ∈ [a, b, c, d], P x := fun x h => (List.mem_cons.mp h).elim (fun e => by rw [e]; exact ha) (all3 hb hc hd x)
theorem all_fact {fa : List He.Fa} {fn : List He.DefD} {K : Fg} (c : He.SaysD fa fn K) : ∀ f ∈ fa, f.ok K = true := fun f hf => by
  have c1 := (and2 (show ((fa.all fun f => f.ok K) && fn.all fun d => d.ok K) = true from congrArg (fun z : He.AlD => z.1) c)).1
  exact List.all_eq_true.mp c1 f hf

/-! ### the head's hook: He's, and one more test -/
abbrev AlB : Type := He.AlD × Bool
def SaysB (fa : List He.Fa) (fn : List He.DefD) (t : Fg → Bool) (K : Fg) : Prop := He.SaysD fa fn K ∧ t K = true
def obsB (n : Nat) (fa : List He.Fa) (fn : List He.DefD) (t : Fg → Bool) (g : Addr → Option Obj) : AlB := let K := He.frG g (He.asD g n); (He.obsD fa fn K, t K)
def hookB (n : Nat) (fa : List He.Fa) (fn : List He.DefD) (t : Fg → Bool) : PySem.W.Hook where
  α := AlB
  obs := fun s => obsB n fa fn t s.heap.get?
  val := fun _ => (He.valD fn, true)
  says := fun _ h => ∃ K : Fg, K.In h ∧ SaysB fa fn t K
  of := fun _ _ e => ⟨_, He.frG_in, congrArg (fun z : AlB => z.1) e, congrArg (fun z : AlB => z.2) e⟩
  keeps := fun _ _ _ ⟨K, hK, c⟩ k => ⟨K, PySem.W.Frag.In.keeps hK k, c⟩
theorem obsB_eq {n : Nat} {fa : List He.Fa} {fn : List He.DefD} {t : Fg → Bool} {g : Addr → Option Obj} {s : Shared} (h : ∀ a, g a = s.heap.get? a) : obsB n fa fn t g = (hookB n fa fn t).obs s := by
  rw [show g = s.heap.get? from funext h]
  rfl

/-! ### the law's end -/
theorem law_g {P : Program} {w : World} {K : Fg} {mg mb : Str → Option Value} {k : Nat} {fa a : Addr} {fd : FuncData} {x : Str} {sp : Sp} {z : Shared} {vs : List Value} {ns : List Int} (KX : K.In z.heap) (g0 : z.heap.Ns mainGlobals mg) (g1 : z.heap.Ns builtinsNs mb) (g2 : ∀ x : Str, x ≠ "__name__" → mb x = bootBuiltins x)
    (lim : z.heap.NoLimit) (gen : z.gens = #[]) (ha : z.heap.get? a = some { cls := .type "list", data := .seq vs.toArray }) (hi : IntsAre vs ns) (hl : ns.length ≤ sizeLine) (room : Room k callerA) (F : ∀ base : Heap, K.In base → base.Ns mainGlobals mg → FnG P w K mg base k fa fd [x] sp)
    (bind : ∀ (s : Shared) (u : Value), BindsTo s fd ⟨[u], []⟩ [(x, u)]) (says : ∀ H : Hp, Only H → SqL K H a (ns.map V.int) → sp [.ref a] H (fun v _ => v = .bl true) fun _ _ _ => False) :
    codeAny (model P w) callerA (.call (.ref fa) ⟨[.ref a], []⟩) (fun r t => r = .ok (.ret (.bool true)) ∧ OldK z.heap t.heap ∧ t.os = z.os ∧ AllBare t.gens) z := by
  have rv := vals_ints hi
  have go : ∀ H : Hp, Only H → SqL K H a (ns.map V.int) → HOk P w H z.heap → (∀ b, H b ≠ none → b = a) → (H a ≠ none → K.lookup a = none) → codeAny (model P w) callerA (.call (.ref fa) ⟨[.ref a], []⟩) (fun r t => r = .ok (.ret (.bool true)) ∧ OldK z.heap t.heap ∧ t.os = z.os ∧ AllBare t.gens) z := by
    intro H only sq hok one out
    have un : ∀ {b : Addr} {o : Obj} {es : Array DictEntry} {ep : Nat}, z.heap.get? b = some o → o.data = .dict es ep → H b = none := fun {b o es ep} e d => by
      by_cases q : H b = none
      · exact q
      · obtain rfl := one b q
        rw [ha] at e
        cases e
        exact absurd (show Data.seq vs.toArray _ = Data.dict es ep from d) (by simp)
    have ns' : ∀ {b : Addr} {m : Str → Option Value}, z.heap.Ns b m → (hidT z.heap H).Ns b m := fun {b m} ⟨o, es, ep, e, d, r⟩ => ⟨o, es, ep, hidT_get e (un e d), d, r⟩
    have kb : K.In (hidT z.heap H) := fun b o e => hidT_get (KX b o e) (by
      by_cases q : H b = none
      · exact q
      · obtain rfl := one b q
        rw [out q] at e
        cases e)
    have e0 : Env0 P w K mg (hidT z.heap H) callerA [] z H := ⟨rfl, ⟨kb, ns' g0, ⟨mb, ns' g1, g2⟩, let ⟨mc, h1, h2⟩ := lim; ⟨mc, ns' h1, h2⟩⟩, fun b o e => of_hidT e, Nat.le_of_eq (hidT_size _ _), trivial, (fun b hb => absurd hb (by simp [frs])), hok, .of_eq gen⟩
    refine codeAny_mono ((F _ kb (ns' g0)).run callerA [] z H ⟨[.ref a], []⟩ [.ref a] [.ref a] _ _ rfl room e0 (bind z (.ref a)) (.cons rfl .nil) (says H only sq)) fun r t h => ?_
    match r, h with
    | .error _, h => exact (show False from let ⟨_, _, _, _, _, _, _, _, _, _, _, _, q⟩ := h; q).elim
    | .ok .next, h => exact False.elim h
    | .ok .brk, h => exact False.elim h
    | .ok .cont, h => exact False.elim h
    | .ok (.ret u), ⟨v, H', os, bare, ch, hok', r', q⟩ =>
      have q' : v = .bl true := q
      subst q'
      obtain rfl : u = Value.bool true := r'
      refine ⟨rfl, OldK.of_keep fun b o e => ?_, os, bare⟩
      rcases only b with y | ⟨ob, xs, y⟩
      · exact ch.keep b o e y (by simp [frs]) (by simp)
      · have e2 := (hok' b _ (ch.frzs b ob _ y)).1
        have e1 := (hok b _ y).1
        rw [e] at e1
        cases e1
        exact e2
  cases hk : K.lookup a with
  | some o =>
    have e := KX a o hk
    rw [ha] at e
    cases e
    exact go (fun _ => none) (fun _ => .inl rfl) (.inr ⟨_, vs.toArray, _, hk, rfl, rfl, rfl, by rw [List.size_toArray, hi.length]; exact hl, by simpa using rv⟩) (fun b u y => absurd y (by simp)) (fun b y => absurd rfl y) fun y => absurd rfl y
  | none =>
    let H : Hp := fun b => if b = a then some (.frz { cls := .type "list", data := .seq vs.toArray } (.lst (ns.map V.int))) else none
    have Ha : H a = some (.frz { cls := .type "list", data := .seq vs.toArray } (.lst (ns.map V.int))) := if_pos rfl
    have Hn : ∀ {b}, b ≠ a → H b = none := fun h => if_neg h
    refine go H (fun b => ?_) (.inl (.inr ⟨_, Ha⟩)) (fun b u y => ?_) (fun b y => ?_) fun _ => hk
    · by_cases hb : b = a
      · exact .inr ⟨_, _, by rw [hb]; exact Ha⟩
      · exact .inl (Hn hb)
    · by_cases hb : b = a
      · subst hb
        rw [Ha] at y
        cases y
        exact ⟨ha, by rw [List.length_map]; exact hl, vs, _, rv, ha⟩
      · rw [Hn hb] at y
        cases y
    · by_cases hb : b = a
      · exact hb
      · exact absurd (Hn hb) y
theorem walk_g {l : PySem.W.OpenLaw} {n k : Nat} {q : Program} {loose : List Str} {XP : (Str → Option Value) → Heap → Prop} {YP : World → Heap → Prop} {d : DefRec} {x : Str} (hn : l.most = some n) (hn2 : n ≤ sizeLine) (hdf : d.params.defaults = []) (hr : Room k callerA)
    (F : ∀ (w : World) (mg : Str → Option Value) (fa : Addr) (h : Heap), YP w h → h.Ns mainGlobals mg → mg d.name = some (.ref fa) → ∃ (K : Fg) (fd : FuncData) (sp : Sp), K.In h ∧ (∀ (s : Shared) (u : Value), BindsTo s fd ⟨[u], []⟩ [(x, u)]) ∧
      (∀ (H : Hp) (a : Addr) (ns : List Int), ns.length ≤ n → Only H → SqL K H a (ns.map V.int) → sp [.ref a] H (fun v _ => v = .bl true) fun _ _ _ => False) ∧ ∀ base : Heap, K.In base → base.Ns mainGlobals mg → FnG l.prog w K mg base k fa fd [x] sp) :
    PySem.W.WalkO q loose XP YP l.row.toRowW d [] (fun f vs => PySem.call f vs) :=
  Att.attach_call hn hdf fun w s₀ s₁ mg mb fa o pm cd doc a vs ns G Y ho hd hcd hmg hobj hints hlen hg => by
    obtain ⟨K, fd, sp, KX, hb, hsp, hF⟩ := F w mg fa _ Y G.T.g hmg
    exact law_g KX G.T.g G.T.b G.T.builtins G.T.nolimit hg hobj hints (Nat.le_trans hlen hn2) hr hF hb fun H hO hS => hsp H a ns hlen hO hS
end Fw
set_option maxHeartbeats 4000000
/-! how the meanings are reckoned out -/
namespace Fw
open PySem PySem.Spec PyProof.Rows L2
open SX (S)
section
variable {π α β : Type} {p q : π} {env : Evn}
@[simp] theorem u_bnd (m : Ma π α) (f : α → Ma π β) : bnd m f p = (match m p with | .ok a q => f a q | .ex e q => .ex e q | .no => .no) := rfl
@[simp] theorem u_ret (a : α) : (Fw.ret a : Ma π α) p = .ok a p := rfl
@[simp] theorem u_fail : (Fw.fail : Ma π α) p = .no := rfl
@[simp] theorem u_st (d : PyData) : (Vd.st d).d = d := rfl
@[simp] theorem u_fr (d : PyData) : (Vd.fr d).d = d := rfl
@[simp] theorem u_tr (d : PyData) : (Vd.tr d).d = d := rfl
@[simp] theorem u_est (d : PyData) : (Vd.st d).esc = some d := rfl
@[simp] theorem u_efr (d : PyData) : (Vd.fr d).esc = some d := rfl
@[simp] theorem u_asB (b : Bool) : asB (.st (.bool b)) = some b := rfl
@[simp] theorem u_asI (i : Int) : asI (.int i) = some (some i) := rfl
@[simp] theorem u_asS (x : Str) : asStr (.str x) = some x := rfl
@[simp] theorem u_g1 (f : PyData → Option Vd) (r : Vd) : g1 f [r] = f r.d := rfl
@[simp] theorem u_var (i : Nat) : (sVar i env p : Oc π Vd) = (match env[i]? with | some (.val d) => .ok (.st d) p | some (.own d) => .ok (.tr d) p | _ => .no) := rfl
@[simp] theorem u_c (d : PyData) : (sC d env p : Oc π Vd) = .ok (.st d) p := rfl
@[simp] theorem u_bin (g : PyData → PyData → Option PyData) (f1 f2 : SE π) : sBin g f1 f2 env = bnd (f1 env) fun a => bnd (f2 env) fun b => ofO ((g a.d b.d).map Vd.st) := rfl
@[simp] theorem u_test (f : SE π) : sTest f env = bnd (f env) fun r => ofO (asB r) := rfl
@[simp] theorem u_and (f g : ST π) : sAnd f g env = bnd (f env) fun b => if b then g env else Fw.ret false := rfl
@[simp] theorem u_or (f g : ST π) : sOr f g env = bnd (f env) fun b => if b then Fw.ret true else g env := rfl
@[simp] theorem u_not (f : ST π) : sNot f env = bnd (f env) fun b => Fw.ret (!b) := rfl
@[simp] theorem u_andV (f g : SE π) : sAndV f g env = bnd (sTest f env) fun b => if b then g env else Fw.ret (.st (.bool false)) := rfl
@[simp] theorem u_orV (f g : SE π) : sOrV f g env = bnd (sTest f env) fun b => if b then Fw.ret (.st (.bool true)) else g env := rfl
@[simp] theorem u_notV (f : SE π) : sNotV f env = bnd (sTest f env) fun b => Fw.ret (.st (.bool (!b))) := rfl
@[simp] theorem u_if (c : ST π) (f g : SE π) : sIf c f g env = bnd (c env) fun b => if b then f env else g env := rfl
@[simp] theorem u_nil : (sNil env : Ma π (List Vd)) = Fw.ret [] := rfl
@[simp] theorem u_cons (f : SE π) (g : SA π) : sCons f g env = bnd (f env) fun a => bnd (g env) fun r => Fw.ret (a :: r) := rfl
@[simp] theorem u_call (g : List Vd → Option Vd) (fs : SA π) : sCall g fs env = bnd (fs env) fun rs => ofO (g rs) := rfl
@[simp] theorem u_tup (fs : SA π) : sTup fs env = bnd (fs env) fun rs => ofO ((escs rs).bind fun ds => if ds.length ≤ line then some (Vd.st (.tuple ds)) else none) := rfl
@[simp] theorem u_lst (fs : SA π) : sLst fs env = bnd (fs env) fun rs => ofO ((escs rs).bind fun ds => if ds.length ≤ line then some (Vd.fr (.list ds)) else none) := rfl
@[simp] theorem u_esc0 : escs [] = some [] := rfl
@[simp] theorem u_esc1 (r : Vd) (rs : List Vd) : escs (r :: rs) = (match r.esc, escs rs with | some d, some ds => some (d :: ds) | _, _ => none) := rfl
@[simp] theorem u_nop : (sNoPart env : Ma π (Option Int)) = Fw.ret none := rfl
@[simp] theorem u_part (f : SE π) : sPart f env = bnd (f env) fun r => ofO (asI r.d) := rfl
@[simp] theorem u_sl (f : SE π) (lo hi : SO π) : sSl f lo hi env = bnd (f env) fun r => bnd (lo env) fun l => bnd (hi env) fun u => ofO (opSl r.d l u) := rfl
@[simp] theorem u_m1 (g : Str → PyData → Option Vd) (fo fe : SE π) : sM1 g fo fe env = bnd (fo env) fun o => bnd (ofO (asStr o.d)) fun y => bnd (fe env) fun x => ofO (g y x.d) := rfl
@[simp] theorem u_isi (T : String) (f : SE π) : sIsi T f env = bnd (f env) fun r => Fw.ret (.st (.bool (isTy T r.d))) := rfl
@[simp] theorem u_neg (f : SE π) : sNeg f env = bnd (f env) fun r => ofO ((opNeg r.d).map Vd.st) := rfl
@[simp] theorem u_callZ (n : Nat) (g : List PyData → Ma Unit PyData) (fs : SA π) : sCallZ n g fs env = bnd (fs env) fun rs => match escs rs with
  | none => Fw.fail
  | some ds => if ds.length = n then (match g ds () with
    | .ok d _ => Fw.ret (.st d)
    | .ex e _ => fun p => .ex e p
    | .no => Fw.fail) else Fw.fail := rfl
@[simp] theorem u_callK (m n : Nat) (ix : List Nat) (g : List PyData → Ma Unit PyData) (fs : SA π) : sCallK m n ix g fs env = bnd (fs env) fun rs => match escs rs with
  | none => Fw.fail
  | some ds => if ds.length = m ∧ (pick ix ds).length = n then (match g (pick ix ds) () with
    | .ok d _ => Fw.ret (.st d)
    | .ex e _ => fun p => .ex e p
    | .no => Fw.fail) else Fw.fail := rfl
@[simp] theorem u_callQ (i n : Nat) (g : List PyData → Ma π PyData) (fs : SA π) : sCallQ i n g fs env = (match env[i]? with
  | some .pot => bnd (fs env) fun rs => match escs rs with
    | none => Fw.fail
    | some ds => if ds.length + 1 = n then bnd (g ds) fun d => Fw.ret (.st d) else Fw.fail
  | _ => Fw.fail) := rfl
@[simp] theorem u_lc (src : SI π) (b : PyData → Evn → Option Evn) (t : ST π) (e : SE π) (vs : List Nat) : sLc src b t e vs env = bnd (src env) fun ds => bnd (quiet (lcGo b t e (wipeE env vs) ds [])) fun acc => Fw.ret (.fr (.list acc)) := rfl
@[simp] theorem u_seq (f : SE π) : sSeq f env = bnd (f env) fun r => ofO (r.esc.bind itemsOf) := rfl
@[simp] theorem u_yes : (sYes env : Ma π Bool) = Fw.ret true := rfl
-- statements
@[simp] theorem u_then {α : Type} (m : Evn → Ma π α) (k : Evn → α → π → So π) : sThen m k env p = (match m env p with | .ok a p' => k env a p' | .ex e p' => .ex e env p' | .no => .no) := rfl
@[simp] theorem u_seq2 (f g : SS π) : sSeq2 f g env p = (match f env p with | .nx env' p' => g env' p' | o => o) := rfl
@[simp] theorem u_skip : (sSkip env p : So π) = .nx env p := rfl
@[simp] theorem u_retS (f : SE π) : sRet f env p = (match f env p with | .ok r p' => .rt r.d p' | .ex e p' => .ex e env p' | .no => .no) := by unfold sRet sThen thenS; cases f env p <;> rfl
@[simp] theorem u_ifS (c : ST π) (f g : SS π) : sIfS c f g env p = (match c env p with | .ok b p' => if b then f env p' else g env p' | .ex e p' => .ex e env p' | .no => .no) := by unfold sIfS sThen thenS; cases c env p <;> rfl
@[simp] theorem u_set (i : Nat) (f : SE π) : sSet i f env p = (match f env p with | .ok r p' => (match r.esc with | some d => .nx (env.set i (.val d)) p' | none => .no) | .ex e p' => .ex e env p' | .no => .no) := by unfold sSet sThen thenS; cases f env p <;> rfl
@[simp] theorem u_own (i : Nat) (f : SE π) : sOwn i f env p = (match f env p with | .ok r p' => (match r with | .fr d => .nx (env.set i (.own d)) p' | _ => .no) | .ex e p' => .ex e env p' | .no => .no) := by unfold sOwn sThen thenS; cases f env p <;> rfl
@[simp] theorem u_asg (b : PyData → Evn → Option Evn) (f : SE π) : sAsg b f env p = (match f env p with | .ok r p' => (match r.esc.bind fun d => b d env with | some env' => .nx env' p' | none => .no) | .ex e p' => .ex e env p' | .no => .no) := by unfold sAsg sThen thenS; cases f env p <;> rfl
@[simp] theorem u_drop (f : SE π) : sDrop f env p = (match f env p with | .ok _ p' => .nx env p' | .ex e p' => .ex e env p' | .no => .no) := by unfold sDrop sThen thenS; cases f env p <;> rfl
@[simp] theorem u_slotT (d : PyData) : slotS true (.fr d) = some (.own d) := rfl
@[simp] theorem u_slotF (r : Vd) : slotS false r = r.esc.map .val := rfl
@[simp] theorem u_par (i j : Nat) (o1 o2 : Bool) (f g : SE π) : sPar i j o1 o2 f g env p = (match f env p with
  | .ok r1 p1 => (match g env p1 with
    | .ok r2 p2 => (match slotS o1 r1 with | some s1 => (match slotS o2 r2 with | some s2 => .nx ((env.set i s1).set j s2) p2 | none => .no) | none => .no)
    | .ex e p' => .ex e env p'
    | .no => .no)
  | .ex e p' => .ex e env p'
  | .no => .no) := by
  unfold sPar sThen thenS
  cases f env p with
  | ok r1 p1 =>
    dsimp only
    cases g env p1 with
    | ok r2 p2 =>
      first
        | (dsimp only [kPar]; done)
        | (dsimp only [kPar]; cases slotS o1 r1 <;> rfl)
    | ex e p' => rfl
    | no => rfl
  | ex e p' => rfl
  | no => rfl
@[simp] theorem u_app (i : Nat) (f : SE π) : sApp i f env p = (match env[i]? with
  | some (.own (.list ds)) => (match f env p with
    | .ok r p' => (match r.esc with | some d => if ds.length < line then .nx (env.set i (.own (.list (ds ++ [d])))) p' else .no | none => .no)
    | .ex e p' => .ex e env p'
    | .no => .no)
  | _ => .no) := by
  unfold sApp
  cases env[i]? with
  | none => rfl
  | some z =>
    cases z with
    | own d =>
      cases d with
      | list ds => unfold thenS; cases f env p <;> rfl
      | _ => rfl
    | _ => rfl
@[simp] theorem u_ext (i : Nat) (f : SE π) : sExt i f env p = (match env[i]? with
  | some (.own (.list ds)) => (match f env p with
    | .ok r p' => (match r.d with | .list es => if ds.length + es.length ≤ line then .nx (env.set i (.own (.list (ds ++ es)))) p' else .no | _ => .no)
    | .ex e p' => .ex e env p'
    | .no => .no)
  | _ => .no) := by
  unfold sExt
  cases env[i]? with
  | none => rfl
  | some z =>
    cases z with
    | own d =>
      cases d with
      | list ds => unfold thenS; cases f env p <;> rfl
      | _ => rfl
    | _ => rfl
@[simp] theorem u_for (src : SI π) (b : PyData → Evn → Option Evn) (f : SS π) : sFor src b f env p = (match src env p with | .ok ds p' => sForL b f ds env p' | .ex e p' => .ex e env p' | .no => .no) := by unfold sFor sThen thenS; cases src env p <;> rfl
@[simp] theorem u_forN (b : PyData → Evn → Option Evn) (f : SS π) : sForL b f [] env p = .nx env p := rfl
theorem u_forC (b : PyData → Evn → Option Evn) (f : SS π) (d : PyData) (r : List PyData) : sForL b f (d :: r) env p = (match b d env with
  | none => .no
  | some env1 => match f env1 p with
    | .nx env' p' => sForL b f r env' p'
    | .ct env' p' => sForL b f r env' p'
    | .bk env' p' => .nx env' p'
    | o => o) := rfl
@[simp] theorem u_frz (i : Nat) (f : SS π) : sFrz i f env p = f (frzE i env) p := rfl
@[simp] theorem u_while0 (c : ST π) (b : SS π) : sWhile c b 0 env p = .no := rfl
end
@[simp] theorem u_lt (i j : Int) : opLt (.int i) (.int j) = some (.bool (decide (i < j))) := rfl
@[simp] theorem u_le (i j : Int) : opLe (.int i) (.int j) = some (.bool (decide (i ≤ j))) := rfl
@[simp] theorem u_gt (i j : Int) : opGt (.int i) (.int j) = some (.bool (decide (j < i))) := rfl
@[simp] theorem u_addI (i j : Int) : opAdd (.int i) (.int j) = some (.int (i + j)) := rfl
@[simp] theorem u_subI (i j : Int) : opSub (.int i) (.int j) = some (.int (i - j)) := rfl

/-! ### signs and texts -/
theorem eqv_str (x y : Str) : PyData.eqv (.str x) (.str y) = decide (x = y) := by
  simp only [PyData.eqv]
  by_cases h : x = y
  · subst h; simp
  · simp [h]
theorem S_eq {a b : List Nat} : (S a = S b) ↔ a = b := ⟨SX.S_inj, fun h => by rw [h]⟩
theorem atI_nat {α : Type} (l : List α) (k : Nat) : atI l (k : Int) = l[k]? := by
  unfold atI ixN
  by_cases h : k < l.length
  · simp [h]
  · have h' : l.length ≤ k := by omega
    simp [h, h', List.getElem?_eq_none]
theorem shaped_str {l : List Nat} (h : ∀ c ∈ l, c < 128) : SeqAt.shaped (.str (S l)) = true := by
  have a : PyData.canLay0 (.str (S l)) = true := by
    simp only [PyData.canLay0, PyData.strOk]
    rw [Array.all_eq_true]
    intro i hi
    have := h ((S l).cps[i]) (by simp)
    simp
    simp at this
    omega
  simp [SeqAt.shaped, a, PyData.depth]
theorem cps_S (l : List Nat) : (S l).cps.toList = l := by simp [S]
/-- l[k] as python has it -/
theorem ix_S {l : List Nat} {k x : Nat} (h : l.length ≤ line) (hx : l[k]? = some x) : opIx (.str (S l)) (.int (k : Int)) = some (.str (S [x])) := by
  unfold opIx
  simp only [SX.S_len, if_pos h, cps_S, atI_nat, hx, Option.map_some]
def inB (c : Nat) (z : Str) : Bool := decide (c ∈ z.cps.toList)
theorem in_S (c : Nat) (z : Str) : opIn (.str (S [c])) (.str z) = some (.bool (inB c z)) := by
  unfold opIn opInB
  simp only [cps_S]
  rfl
theorem ni_S (c : Nat) (z : Str) : opNotIn (.str (S [c])) (.str z) = some (.bool (!inB c z)) := by
  unfold opNotIn opInB
  simp only [cps_S]
  rfl
theorem eq_S {a b : List Nat} (ha : ∀ c ∈ a, c < 128) (hb : ∀ c ∈ b, c < 128) : opEq (.str (S a)) (.str (S b)) = some (.bool (decide (a = b))) := by
  unfold opEq
  rw [shaped_str ha, shaped_str hb, eqv_str]
  simp only [Bool.and_true, if_true, S_eq]
theorem ne_S {a b : List Nat} (ha : ∀ c ∈ a, c < 128) (hb : ∀ c ∈ b, c < 128) : opNe (.str (S a)) (.str (S b)) = some (.bool (!decide (a = b))) := by
  unfold opNe
  rw [shaped_str ha, shaped_str hb, eqv_str]
  simp only [Bool.and_true, if_true, S_eq]
theorem len_S {l : List Nat} (h : l.length ≤ line) : fLen (.str (S l)) = some (.st (.int (l.length : Int))) := by
  unfold fLen
  simp only [SX.S_len, if_pos h]
theorem cut_S {l : List Nat} {c k : Nat} (h : l.length ≤ line) (h1 : c ≤ k) (h2 : k ≤ l.length) : opSl (.str (S l)) (some (c : Int)) (some (k : Int)) = some (.st (.str (S ((l.drop c).take (k - c))))) := by
  unfold opSl
  simp only [SX.S_len, if_pos h, cutS, HT.sIx_nat, cps_S]
  rw [Nat.min_eq_left (Nat.le_trans h1 h2), Nat.min_eq_left h2]
theorem cut_S2 {l : List Nat} {c n : Nat} (h : l.length ≤ line) (h2 : c + n ≤ l.length) : opSl (.str (S l)) (some (c : Int)) (some ((c : Int) + (n : Int))) = some (.st (.str (S ((l.drop c).take n)))) := by
  have := cut_S h (Nat.le_add_right c n) h2
  rw [Nat.add_sub_cancel_left] at this
  simpa using this
theorem items_S (l : List Nat) : itemsOf (.str (S l)) = some (l.map fun c => .str (S [c])) := by
  simp [itemsOf, signs]
/-- a comprehension whose parts leave the state as it is -/
theorem lc_map {π : Type} {b : PyData → Evn → Option Evn} {t : ST π} {e : SE π} {env : Evn} {p : π} (P : PyData → Bool) (g : PyData → PyData) : ∀ (ds acc : List PyData), (∀ d ∈ ds, ∃ env1, b d env = some env1 ∧ t env1 p = .ok (P d) p ∧ (P d = true → ∃ v, e env1 p = .ok v p ∧ v.esc = some (g d))) → acc.length + ds.length ≤ line →
    lcGo b t e env ds acc p = .ok (acc ++ (ds.filter P).map g) p
  | [], acc, _, _ => by simp [lcGo]
  | d :: ds, acc, h, hl => by
    obtain ⟨env1, h1, h2, h3⟩ := h d List.mem_cons_self
    have rest : ∀ acc' : List PyData, acc'.length + ds.length ≤ line → lcGo b t e env ds acc' p = .ok (acc' ++ (ds.filter P).map g) p := fun acc' hl' => lc_map P g ds acc' (fun z hz => h z (List.mem_cons_of_mem _ hz)) hl'
    rw [List.length_cons] at hl
    cases hp : P d with
    | false =>
      rw [hp] at h2
      simp only [lcGo, u_bnd, h1, ofO_some, u_ret, h2]
      rw [if_neg Bool.false_ne_true, rest acc (by omega), List.filter_cons, hp]
      rfl
    | true =>
      obtain ⟨v, h4, h5⟩ := h3 hp
      rw [hp] at h2
      simp only [lcGo, u_bnd, h1, ofO_some, u_ret, h2, if_true, h4, h5, if_pos (show acc.length < line by omega)]
      rw [rest (acc ++ [g d]) (by simp; omega), List.filter_cons, hp]
      simp
@[simp] theorem u_quiet {π α : Type} (m : Ma π α) (p : π) : quiet m p = (match m p with | .ok a q => .ok a q | _ => .no) := rfl
@[simp] theorem u_wipe0 (env : Evn) : wipeE env [] = env := rfl
@[simp] theorem u_wipe1 (env : Evn) (v : Nat) (vs : List Nat) : wipeE env (v :: vs) = (wipeE env vs).set v .emp := rfl
@[simp] theorem u_bName (i : Nat) (d : PyData) (env : Evn) : bName i d env = some (env.set i (.val d)) := rfl
theorem boolsOf_mapS {α : Type} (f : α → Bool) : ∀ l : List α, boolsOf (l.map fun x => PyData.bool (f x)) = some (l.map f)
  | [] => rfl
  | x :: l => by
    simp only [List.map_cons, boolsOf, boolsOf_mapS f l, Option.map_some]
@[simp] theorem u_aug {π : Type} {p : π} {env : Evn} (i : Nat) (f : SE π) : sAug i f env p = (match env[i]? with
  | some (.val (.int k)) => (match f env p with
    | .ok r p' => kAug i k env r p'
    | .ex e p' => .ex e env p'
    | .no => .no)
  | _ => .no) := by
  unfold sAug
  cases env[i]? with
  | none => rfl
  | some z =>
    cases z with
    | val d =>
      cases d with
      | int k => unfold thenS; cases f env p <;> rfl
      | _ => rfl
    | _ => rfl
end Fw
set_option maxHeartbeats 4000000
/-! repr of data with short ints and ascii texts -/
namespace Fw
open PySem PySem.Spec PyProof.Rows L2
open SX (S)
def asc (x : Str) : Prop := ∀ c ∈ x.cps.toList, c < 128
theorem asc_app {x y : Str} (hx : asc x) (hy : asc y) : asc (x ++ y) := fun c hc => by
  have e : (x ++ y).cps.toList = x.cps.toList ++ y.cps.toList := TL.tl_append x y
  rw [e] at hc
  exact (List.mem_append.mp hc).elim (hx c) (hy c)
theorem asc_lit {x : Str} (h : x.cps.toList.all (· < 128) = true) : asc x := fun c hc => by simpa using List.all_eq_true.mp h c hc
theorem asc_S {l : List Nat} (h : ∀ c ∈ l, c < 128) : asc (S l) := fun c hc => h c (by rw [cps_S] at hc; exact hc)
theorem asc_shaped {x : Str} (h : asc x) : SeqAt.shaped (.str x) = true := by
  have := shaped_str (l := x.cps.toList) h
  rwa [SX.S_tl] at this
theorem asc_char : ∀ c < 128, ∀ q ∈ [34, 39], ∀ z ∈ Builtin.Str.reprChar q c, z < 128 := by decide +kernel
theorem fold_mem (f : Nat → List Nat) : ∀ (l : List Nat) (acc : Array Nat) (z : Nat), z ∈ (l.foldl (fun out c => out ++ (f c).toArray) acc) → z ∈ acc ∨ ∃ c ∈ l, z ∈ f c
  | [], acc, z, h => .inl h
  | c :: l, acc, z, h => by
    rcases fold_mem f l _ z h with h | ⟨d, hd, hz⟩
    · rcases Array.mem_append.mp h with h | h
      · exact .inl h
      · exact .inr ⟨c, List.mem_cons_self, by simpa using h⟩
    · exact .inr ⟨d, List.mem_cons_of_mem _ hd, hz⟩
theorem quote_mem (x : Str) : reprQuote x ∈ [34, 39] := by
  unfold reprQuote
  split <;> simp
theorem asc_repr {x : Str} (h : asc x) : asc (reprText x) := fun z hz => by
  unfold reprText at hz
  have hq := quote_mem x
  have hq128 : reprQuote x < 128 := by simp at hq; omega
  rw [Array.toList_push, List.mem_append, List.mem_singleton] at hz
  rcases hz with hz | hz
  · have hz' : z = reprQuote x ∨ ∃ l, (∃ a, a ∈ x.cps ∧ Builtin.Str.reprChar (reprQuote x) a = l) ∧ z ∈ l := by simpa using hz
    rcases hz' with h1 | ⟨l, ⟨c, hc, h1⟩, h2⟩
    · omega
    · subst h1
      exact asc_char c (h c (by simpa using hc)) _ hq z h2
  · omega
mutual
/-- short ints, ascii texts -/
def nice : PyData → Bool
  | .none | .bool _ => true
  | .int i => decide (0 ≤ i) && decide (i < 100000000)
  | .str x => x.cps.toList.all (· < 128)
  | .list xs | .tuple xs => niceAll xs
  | .dict _ => false
def niceAll : List PyData → Bool
  | [] => true
  | x :: xs => nice x && niceAll xs
end
theorem nice_str {l : List Nat} (h : ∀ c ∈ l, c < 128) : nice (.str (S l)) = true := by
  simp only [nice, cps_S]
  exact List.all_eq_true.mpr fun c hc => by simpa using h c hc
theorem asc_join {sep : Str} (hs : asc sep) : ∀ {ts : List Str}, (∀ t ∈ ts, asc t) → asc (Str.join sep ts)
  | [], _ => show asc Str.empty from asc_lit (by decide +kernel)
  | [x], h => h x (by simp)
  | x :: y :: r, h => asc_app (asc_app (h x (by simp)) hs) (asc_join hs fun t ht => h t (List.mem_cons_of_mem _ ht))
theorem asc_from : ∀ (ts : List Str) (k : Nat) (acc : Str), asc acc → (∀ t ∈ ts, asc t) → asc (textFrom k acc ts)
  | [], k, acc, ha, _ => ha
  | t :: r, k, acc, ha, h => by
    refine asc_from r (k + 1) _ (asc_app (asc_app ha ?_) (h t List.mem_cons_self)) fun t ht => h t (List.mem_cons_of_mem _ ht)
    split <;> exact asc_lit (by decide +kernel)
mutual
theorem nice_ok : ∀ d : PyData, nice d = true → d.canLay0 = true ∧ d.leavesShort 8 = true ∧ d.showable = true ∧ asc d.shown
  | .none, _ => ⟨rfl, rfl, rfl, asc_lit (by decide +kernel)⟩
  | .bool b, _ => ⟨rfl, rfl, rfl, by cases b <;> exact asc_lit (by decide +kernel)⟩
  | .int i, h => by
    simp only [nice, Bool.and_eq_true, decide_eq_true_eq] at h
    refine ⟨rfl, ?_, ?_, fun z hz => ?_⟩
    · simp only [PyData.leavesShort, decide_eq_true_eq]
      exact toString_length_le h.1 (by decide) (by omega)
    · simp only [PyData.showable, decide_eq_true_eq]
      have h1 : i.natAbs < 2 ^ 27 := by omega
      by_cases h0 : i.natAbs = 0
      · rw [h0]; decide
      · have := (Nat.log2_lt h0).mpr h1
        omega
    · rcases Nat.lt_or_ge z 128 with h1 | h1
      · exact h1
      · exact absurd hz (shown_int_free' ⟨by omega, .inr (by omega)⟩ i)
  | .str x, h => by
    have ha : asc x := asc_lit (by simpa only [nice] using h)
    refine ⟨(SeqAt.canLay_of_shaped (asc_shaped ha)), ?_, rfl, ?_⟩
    · simp only [PyData.leavesShort]
      exact List.all_eq_true.mpr fun c hc => by have := ha c hc; simp; omega
    · simp only [PyData.shown]
      exact asc_repr ha
  | .list xs, h => by
    obtain ⟨h1, h2, h3, h4⟩ := niceAll_ok xs (by simpa only [nice] using h)
    refine ⟨by simpa only [PyData.canLay0] using h1, by simpa only [PyData.leavesShort] using h2, by simpa only [PyData.showable] using h3, ?_⟩
    simp only [PyData.shown, listText]
    exact asc_app (asc_from _ _ _ (asc_lit (by decide +kernel)) h4) (asc_lit (by decide +kernel))
  | .tuple xs, h => by
    obtain ⟨h1, h2, h3, h4⟩ := niceAll_ok xs (by simpa only [nice] using h)
    refine ⟨by simpa only [PyData.canLay0] using h1, by simpa only [PyData.leavesShort] using h2, by simpa only [PyData.showable] using h3, ?_⟩
    simp only [PyData.shown, tupleText]
    refine asc_app (asc_app (asc_lit (by decide +kernel)) (asc_join (asc_lit (by decide +kernel)) h4)) ?_
    split <;> exact asc_lit (by decide +kernel)
  | .dict _, h => by simp [nice] at h
theorem niceAll_ok : ∀ ds : List PyData, niceAll ds = true → PyData.canLayAll0 ds = true ∧ PyData.leavesShortAll 8 ds = true ∧ PyData.showableAll ds = true ∧ ∀ t ∈ PyData.shownAll ds, asc t
  | [], _ => ⟨rfl, rfl, rfl, fun t ht => by simp [PyData.shownAll] at ht⟩
  | d :: ds, h => by
    simp only [niceAll, Bool.and_eq_true] at h
    obtain ⟨h1, h2, h3, h4⟩ := nice_ok d h.1
    obtain ⟨k1, k2, k3, k4⟩ := niceAll_ok ds h.2
    refine ⟨by simp only [PyData.canLayAll0, h1, k1, Bool.and_self], by simp only [PyData.leavesShortAll, h2, k2, Bool.and_self], by simp only [PyData.showableAll, h3, k3, Bool.and_self], fun t ht => ?_⟩
    simp only [PyData.shownAll] at ht
    rcases List.mem_cons.mp ht with e | e
    · rw [e]; exact h4
    · exact k4 t e
end
theorem nice_show {d : PyData} (h : nice d = true) (hd : d.depth ≤ 60) (hw : d.weight ≤ 1000000) : opShow d = some d.shown ∧ asc d.shown := by
  obtain ⟨h1, h2, h3, h4⟩ := nice_ok d h
  have hl := PyData.shown_le 8 (Nat.le_refl _) d h2
  have hl2 : d.shown.length ≤ line := by
    have : 10000008 ≤ line := by decide
    omega
  refine ⟨?_, h4⟩
  unfold opShow okShow
  rw [PyData.hasDict_of_canLay d h1, h3, decide_eq_true hd, decide_eq_true hl2]
  rfl
theorem eq_self {x : Str} (h : asc x) : opEq (.str x) (.str x) = some (.bool true) := by
  unfold opEq
  rw [asc_shaped h, eqv_str]
  simp
theorem ne_self {x : Str} (h : asc x) : opNe (.str x) (.str x) = some (.bool false) := by
  unfold opNe
  rw [asc_shaped h, eqv_str]
  simp
end Fw
set_option maxHeartbeats 4000000
namespace Lk18
open PySem PySem.Spec PyProof.Rows L2 Fw
def top (i : Nat) : Stmt := PySem.Challenge.pw_eachreader_k18_tokens.main.body.getD i (.Pass ⟨0, 0, 0, 0⟩)
def tell_line : List Str := ["BadText"]
def tell_column : List Str := ["BadText"]
def tell_value : List Str := ["InvalidText"]
def pairs_BadText : List (Str × Bool) := [("InvalidText", false), ("BadText", true)]
abbrev sub_BadText : Str → Option Bool := fun x => pairs_BadText.lookup x
def pairs_InvalidText : List (Str × Bool) := [("InvalidText", true), ("BadText", false)]
abbrev sub_InvalidText : Str → Option Bool := fun x => pairs_InvalidText.lookup x
def isp_ReaderError : List (Str × Bool) := [("InvalidText", true), ("BadText", true)]
abbrev is_ReaderError : Str → Option Bool := fun x => isp_ReaderError.lookup x
structure Gx (K : Fg) (mg : Str → Option Value) : Prop where
  c_SMALL : Con K mg "SMALL" (.str "abcdefghijklmnopqrstuvwxyz")
  c_FIGURES_words : Con K mg "FIGURES_words" (.str "0123456789")
  c_MOST_SIGNS : Con K mg "MOST_SIGNS" (.int 8)
  c_RESERVED : Con K mg "RESERVED" (.tuple [.str "all", .str "and", .str "below", .str "bool", .str "call", .str "cell", .str "channel", .str "do", .str "each", .str "else", .str "end", .str "false", .str "form", .str "fst", .str "function", .str "give", .str "if", .str "in", .str "input", .str "int", .str "many", .str "more", .str "none", .str "not", .str "or", .str "pick", .str "readers", .str "release", .str "sees", .str "snd", .str "tell", .str "times", .str "to", .str "true"])
  c_MOST_TEXT : Con K mg "MOST_TEXT" (.int 12000)
  c_REMARK : Con K mg "REMARK" (.str "#")
  c_DIGITS : Con K mg "DIGITS" (.str "0123456789")
  c_LETTERS : Con K mg "LETTERS" (.str "abcdefghijklmnopqrstuvwxyzABCDEFGHIJKLMNOPQRSTUVWXYZ")
  c_SINGLES : Con K mg "SINGLES" (.str "()[],:;=<+-*")
  c_NAME : Con K mg "NAME" (.str "name")
  c_WORD : Con K mg "WORD" (.str "word")
  c_FIGURES_tokens : Con K mg "FIGURES_tokens" (.str "figures")
  c_SIGN : Con K mg "SIGN" (.str "sign")
  c_END : Con K mg "END" (.str "end")
  c_NONE : Con K mg "NONE" (.str "none")
  g_BadText : mg "BadText" = some (.ref (He.ga K "BadText"))
  g_InvalidText : mg "InvalidText" = some (.ref (He.ga K "InvalidText"))
  g_ReaderError : mg "ReaderError" = some (.ref (He.ga K "ReaderError"))
  t_line : ∀ c ∈ tell_line, ∀ C, mg c = some (.ref C) → L2.XfC K C ∧ PySem.W.findIn K (.ref C) "line" = some none
  t_column : ∀ c ∈ tell_column, ∀ C, mg c = some (.ref C) → L2.XfC K C ∧ PySem.W.findIn K (.ref C) "column" = some none
  t_value : ∀ c ∈ tell_value, ∀ C, mg c = some (.ref C) → L2.XfC K C ∧ PySem.W.findIn K (.ref C) "value" = some none
  s_BadText : ∀ q ∈ pairs_BadText, ∃ C, mg q.1 = some (.ref C) ∧ PySem.W.exmOne K (.ref C) (.ref (He.ga K "BadText")) = some q.2
  s_InvalidText : ∀ q ∈ pairs_InvalidText, ∃ C, mg q.1 = some (.ref C) ∧ PySem.W.exmOne K (.ref C) (.ref (He.ga K "InvalidText")) = some q.2
  i_ReaderError : ∀ c C b, mg c = some (.ref C) → is_ReaderError c = some b → L2.ExcC K C ∧ PySem.W.kitOne K (.ref C) (.ref (He.ga K "ReaderError")) = some b
variable {P : Program} {w : World} {K : Fg} {mg : Str → Option Value} {base : Heap} {f : Addr} {fd : FuncData}
/-! is_name -/
abbrev s_is_name : Stmt := top 9
def b_is_name : SS Unit := (sSeq2 (sIfS (sOr (sNot (sTest (sIsi "str" (sVar 0)))) (sOr (sNot (sTest (sChain opLe opLe (sC (.int 1)) (sCall (g1 fLen) (sCons (sVar 0) sNil)) (sC (.int 8))))) (sTest (sBin opIn (sVar 0) (sC (.tuple [.str "all", .str "and", .str "below", .str "bool", .str "call", .str "cell", .str "channel", .str "do", .str "each", .str "else", .str "end", .str "false", .str "form", .str "fst", .str "function", .str "give", .str "if", .str "in", .str "input", .str "int", .str "many", .str "more", .str "none", .str "not", .str "or", .str "pick", .str "readers", .str "release", .str "sees", .str "snd", .str "tell", .str "times", .str "to", .str "true"]))))))
    (sRet (sC (.bool false)))
    sSkip)
    (sRet (sAndV (sBin opIn (sBin opIx (sVar 0) (sC (.int 0))) (sC (.str "abcdefghijklmnopqrstuvwxyz"))) (sCall (g1 fAll) (sCons (sLc (sSeq (sVar 0)) (bName 1) sYes (sBin opIn (sVar 1) (sBin opAdd (sBin opAdd (sC (.str "abcdefghijklmnopqrstuvwxyz")) (sC (.str "0123456789"))) (sC (.str "_")))) [1]) sNil)))))
def m_is_name : List PyData → Ma Unit PyData := mDef false 2 b_is_name
theorem n_is_name : FnScope ["value", "sign"] ["value"] (defScope s_is_name) := ⟨rfl, rfl, rfl, by decide +kernel, rfl, by decide +kernel, by decide +kernel⟩
theorem ok_is_name (T0 : ∀ x ∈ bNames, mg x = none) (G : Gx K mg) (F : FunD K "is_name" "is_name" (defArgs s_is_name) (defBody s_is_name) (defScope s_is_name) [] [] f fd)
    : FnG P w K mg base 1 f fd ["value"] (spR Rz K mg false 1 m_is_name) :=
  def_R F n_is_name rfl (by decide) fun cdv A outer s0 H0 E0 hg hr => by
    have T : Bt mg (A.deeper (envOfC "is_name" (defScope s_is_name) s0.heap.objs.size f cdv)) := ⟨T0, hg, by have := hr.un; omega⟩
    have nd := n_is_name.nd
    have tk : Takes (cxOf (L2.CX P w) P w K mg base ["value", "sign"] "is_name" (defScope s_is_name) f cdv A outer s0 H0 E0) (wxD E0) := takes_of rfl rfl rfl rfl
    exact (iss_cons (is_if (it_w (iw_or (it_not (it_val (c_isi T (ty_str T) kit_str (ie_var (pv 0))))) (iw_or (it_not (t_lele ie_int (c_len T (ia_cons (ie_var (pv 0)) ia_nil)) (c_g G.c_MOST_SIGNS))) (iw_or1 (t_in T (ie_var (pv 0)) (c_g G.c_RESERVED))))))
    (iss_one (is_ret ie_bl))
    iss_nil)
    (iss_one (is_ret (ie_and (c_in T (ie_ix (ie_var (pv 0)) ie_int) (c_g G.c_SMALL)) (ie_one (c_all T (ia_cons (ie_lc rfl nd (ii_seq (ie_var (pv 0))) (blkOk_by (own := [("sign", 1)]) (by rfl)) (fun s_ H_ C_ cl_ fp_ => (pg_name nd (i := 1) rfl (by first | exact .inl rfl | exact .inr rfl))) gd_name (by decide) (fun s_ H_ C_ cl_ fp_ => its_nil) (fun s_ H_ C_ cl_ fp_ => (c_in T (ie_var (pv 1)) (c_add (c_add (c_g G.c_SMALL) (c_g G.c_FIGURES_words)) ie_str)))) ia_nil)))))))
/-! run_from -/
abbrev s_run_from : Stmt := top 22
def c1_run_from : ST Unit := (sAnd (sTest (sBin opLt (sVar 2) (sCall (g1 fLen) (sCons (sVar 0) sNil)))) (sOr (sTest (sBin opIn (sBin opIx (sVar 0) (sVar 2)) (sC (.str "abcdefghijklmnopqrstuvwxyzABCDEFGHIJKLMNOPQRSTUVWXYZ")))) (sOr (sTest (sBin opIn (sBin opIx (sVar 0) (sVar 2)) (sC (.str "0123456789")))) (sTest (sBin opEq (sBin opIx (sVar 0) (sVar 2)) (sC (.str "_")))))))
def w2_run_from : SS Unit := (sAug 2 (sC (.int 1)))
def b_run_from : SS Unit := (sSeq2 (sSet 2 (sVar 1))
    (sSeq2 (sWhile c1_run_from w2_run_from line)
    (sRet (sSl (sVar 0) (sPart (sVar 1)) (sPart (sVar 2))))))
def m_run_from : List PyData → Ma Unit PyData := mDef false 3 b_run_from
theorem n_run_from : FnScope ["line", "column", "late"] ["line", "column"] (defScope s_run_from) := ⟨rfl, rfl, rfl, by decide +kernel, rfl, by decide +kernel, by decide +kernel⟩
theorem ok_run_from (T0 : ∀ x ∈ bNames, mg x = none) (G : Gx K mg) (F : FunD K "run_from" "run_from" (defArgs s_run_from) (defBody s_run_from) (defScope s_run_from) [] [] f fd)
    : FnG P w K mg base 1 f fd ["line", "column"] (spR Rz K mg false 2 m_run_from) :=
  def_R F n_run_from rfl (by decide) fun cdv A outer s0 H0 E0 hg hr => by
    have T : Bt mg (A.deeper (envOfC "run_from" (defScope s_run_from) s0.heap.objs.size f cdv)) := ⟨T0, hg, by have := hr.un; omega⟩
    have nd := n_run_from.nd
    have tk : Takes (cxOf (L2.CX P w) P w K mg base ["line", "column", "late"] "run_from" (defScope s_run_from) f cdv A outer s0 H0 E0) (wxD E0) := takes_of rfl rfl rfl rfl
    exact (iss_cons (c_set 2 nd (ie_var (pv 1)))
    (iss_cons (is_while line (passes_of rfl) (it_w (iw_and (t_lt (ie_var (pv 2)) (c_len T (ia_cons (ie_var (pv 0)) ia_nil))) (iw_and1 (it_w (iw_or (t_in T (ie_ix (ie_var (pv 0)) (ie_var (pv 2))) (c_g G.c_LETTERS)) (iw_or (t_in T (ie_ix (ie_var (pv 0)) (ie_var (pv 2))) (c_g G.c_DIGITS)) (iw_or1 (t_eq T (ie_ix (ie_var (pv 0)) (ie_var (pv 2))) ie_str))))))))
    (iss_one (c_aug 2 nd ie_int)))
    (iss_one (is_ret (ie_sl (ie_var (pv 0)) (io_some (ie_var (pv 1))) (io_some (ie_var (pv 2))))))))
/-! sort_of -/
abbrev s_sort_of : Stmt := top 23
def b_sort_of : SS Unit := (sSeq2 (sIfS (sTest (sCall (g1 fAll) (sCons (sLc (sSeq (sVar 0)) (bName 1) sYes (sBin opIn (sVar 1) (sC (.str "0123456789"))) [1]) sNil)))
    (sRet (sC (.str "figures")))
    sSkip)
    (sSeq2 (sIfS (sTest (sBin opIn (sVar 0) (sC (.tuple [.str "all", .str "and", .str "below", .str "bool", .str "call", .str "cell", .str "channel", .str "do", .str "each", .str "else", .str "end", .str "false", .str "form", .str "fst", .str "function", .str "give", .str "if", .str "in", .str "input", .str "int", .str "many", .str "more", .str "none", .str "not", .str "or", .str "pick", .str "readers", .str "release", .str "sees", .str "snd", .str "tell", .str "times", .str "to", .str "true"]))))
    (sRet (sC (.str "word")))
    sSkip)
    (sRet (sIf (sTest (sCallZ 1 m_is_name (sCons (sVar 0) sNil))) (sC (.str "name")) (sC (.str "none"))))))
def m_sort_of : List PyData → Ma Unit PyData := mDef false 2 b_sort_of
theorem n_sort_of : FnScope ["run", "sign"] ["run"] (defScope s_sort_of) := ⟨rfl, rfl, rfl, by decide +kernel, rfl, by decide +kernel, by decide +kernel⟩
theorem ok_sort_of (T0 : ∀ x ∈ bNames, mg x = none) (G : Gx K mg) (F : FunD K "sort_of" "sort_of" (defArgs s_sort_of) (defBody s_sort_of) (defScope s_sort_of) [] [] f fd)
    (D_is_name : DefG P w K mg base 1 "is_name" ["value"] [] (spR Rz K mg false 1 m_is_name))
    : FnG P w K mg base 2 f fd ["run"] (spR Rz K mg false 1 m_sort_of) :=
  def_R F n_sort_of rfl (by decide) fun cdv A outer s0 H0 E0 hg hr => by
    have T : Bt mg (A.deeper (envOfC "sort_of" (defScope s_sort_of) s0.heap.objs.size f cdv)) := ⟨T0, hg, by have := hr.un; omega⟩
    have nd := n_sort_of.nd
    have tk : Takes (cxOf (L2.CX P w) P w K mg base ["run", "sign"] "sort_of" (defScope s_sort_of) f cdv A outer s0 H0 E0) (wxD E0) := takes_of rfl rfl rfl rfl
    exact (iss_cons (is_if (it_val (c_all T (ia_cons (ie_lc rfl nd (ii_seq (ie_var (pv 0))) (blkOk_by (own := [("sign", 1)]) (by rfl)) (fun s_ H_ C_ cl_ fp_ => (pg_name nd (i := 1) rfl (by first | exact .inl rfl | exact .inr rfl))) gd_name (by decide) (fun s_ H_ C_ cl_ fp_ => its_nil) (fun s_ H_ C_ cl_ fp_ => (c_in T (ie_var (pv 1)) (c_g G.c_DIGITS)))) ia_nil)))
    (iss_one (is_ret (c_g G.c_FIGURES_tokens)))
    iss_nil)
    (iss_cons (is_if (t_in T (ie_var (pv 0)) (c_g G.c_RESERVED))
    (iss_one (is_ret (c_g G.c_WORD)))
    iss_nil)
    (iss_one (is_ret (ie_if (it_val (c_call D_is_name T (hr.mono (by decide)) tk (ia_cons (ie_var (pv 0)) ia_nil))) (c_g G.c_NAME) (c_g G.c_NONE))))))
/-! next_in -/
abbrev s_next_in : Stmt := top 24
def b_next_in : SS Unit := (sSeq2 (sSet 2 (sCallZ 2 m_run_from (sCons (sVar 0) (sCons (sVar 1) sNil))))
    (sSeq2 (sIfS (sTest (sBin opNe (sVar 2) (sC (.str ""))))
    (sRet (sTup (sCons (sCallZ 1 m_sort_of (sCons (sVar 2) sNil)) (sCons (sVar 2) sNil))))
    sSkip)
    (sRet (sTup (sCons (sIf (sTest (sBin opIn (sBin opIx (sVar 0) (sVar 1)) (sC (.str "()[],:;=<+-*")))) (sC (.str "sign")) (sC (.str "none"))) (sCons (sBin opIx (sVar 0) (sVar 1)) sNil))))))
def m_next_in : List PyData → Ma Unit PyData := mDef false 3 b_next_in
theorem n_next_in : FnScope ["line", "column", "run"] ["line", "column"] (defScope s_next_in) := ⟨rfl, rfl, rfl, by decide +kernel, rfl, by decide +kernel, by decide +kernel⟩
theorem ok_next_in (T0 : ∀ x ∈ bNames, mg x = none) (G : Gx K mg) (F : FunD K "next_in" "next_in" (defArgs s_next_in) (defBody s_next_in) (defScope s_next_in) [] [] f fd)
    (D_run_from : DefG P w K mg base 1 "run_from" ["line", "column"] [] (spR Rz K mg false 2 m_run_from))
    (D_sort_of : DefG P w K mg base 2 "sort_of" ["run"] [] (spR Rz K mg false 1 m_sort_of))
    : FnG P w K mg base 3 f fd ["line", "column"] (spR Rz K mg false 2 m_next_in) :=
  def_R F n_next_in rfl (by decide) fun cdv A outer s0 H0 E0 hg hr => by
    have T : Bt mg (A.deeper (envOfC "next_in" (defScope s_next_in) s0.heap.objs.size f cdv)) := ⟨T0, hg, by have := hr.un; omega⟩
    have nd := n_next_in.nd
    have tk : Takes (cxOf (L2.CX P w) P w K mg base ["line", "column", "run"] "next_in" (defScope s_next_in) f cdv A outer s0 H0 E0) (wxD E0) := takes_of rfl rfl rfl rfl
    exact (iss_cons (c_set 2 nd (c_call D_run_from T (hr.mono (by decide)) tk (ia_cons (ie_var (pv 0)) (ia_cons (ie_var (pv 1)) ia_nil))))
    (iss_cons (is_if (t_ne T (ie_var (pv 2)) ie_str)
    (iss_one (is_ret (ie_tup (ia_cons (c_call D_sort_of T (hr.mono (by decide)) tk (ia_cons (ie_var (pv 2)) ia_nil)) (ia_cons (ie_var (pv 2)) ia_nil)))))
    iss_nil)
    (iss_one (is_ret (ie_tup (ia_cons (ie_if (t_in T (ie_ix (ie_var (pv 0)) (ie_var (pv 1))) (c_g G.c_SINGLES)) (c_g G.c_SIGN) (c_g G.c_NONE)) (ia_cons (ie_ix (ie_var (pv 0)) (ie_var (pv 1))) ia_nil)))))))
/-! row_tokens -/
abbrev s_row_tokens : Stmt := top 25
def c1_row_tokens : ST Unit := (sAnd (sTest (sBin opLt (sVar 3) (sCall (g1 fLen) (sCons (sVar 1) sNil)))) (sTest (sBin opNe (sBin opIx (sVar 1) (sVar 3)) (sC (.str "#")))))
def w2_row_tokens : SS Unit := (sIfS (sTest (sBin opEq (sBin opIx (sVar 1) (sVar 3)) (sC (.str " "))))
    (sAug 3 (sC (.int 1)))
    (sSeq2 (sAsg (bTup 2 (bCons (bName 4) (bCons (bName 5) bNil))) (sCallZ 2 m_next_in (sCons (sVar 1) (sCons (sVar 3) sNil))))
    (sSeq2 (sApp 2 (sTup (sCons (sVar 4) (sCons (sVar 5) (sCons (sVar 0) (sCons (sVar 3) sNil))))))
    (sSet 3 (sIf (sTest (sBin opEq (sVar 4) (sC (.str "none")))) (sCall (g1 fLen) (sCons (sVar 1) sNil)) (sBin opAdd (sVar 3) (sCall (g1 fLen) (sCons (sVar 5) sNil))))))))
def b_row_tokens : SS Unit := (sSeq2 (sPar 2 3 true false (sLst sNil) (sC (.int 0)))
    (sSeq2 (sWhile c1_row_tokens w2_row_tokens line)
    (sRet (sVar 2))))
def m_row_tokens : List PyData → Ma Unit PyData := mDef false 6 b_row_tokens
theorem n_row_tokens : FnScope ["row", "line", "found", "column", "sort", "text"] ["row", "line"] (defScope s_row_tokens) := ⟨rfl, rfl, rfl, by decide +kernel, rfl, by decide +kernel, by decide +kernel⟩
theorem ok_row_tokens (T0 : ∀ x ∈ bNames, mg x = none) (G : Gx K mg) (F : FunD K "row_tokens" "row_tokens" (defArgs s_row_tokens) (defBody s_row_tokens) (defScope s_row_tokens) [] [] f fd)
    (D_next_in : DefG P w K mg base 3 "next_in" ["line", "column"] [] (spR Rz K mg false 2 m_next_in))
    : FnG P w K mg base 4 f fd ["row", "line"] (spR Rz K mg false 2 m_row_tokens) :=
  def_R F n_row_tokens rfl (by decide) fun cdv A outer s0 H0 E0 hg hr => by
    have T : Bt mg (A.deeper (envOfC "row_tokens" (defScope s_row_tokens) s0.heap.objs.size f cdv)) := ⟨T0, hg, by have := hr.un; omega⟩
    have nd := n_row_tokens.nd
    have tk : Takes (cxOf (L2.CX P w) P w K mg base ["row", "line", "found", "column", "sort", "text"] "row_tokens" (defScope s_row_tokens) f cdv A outer s0 H0 E0) (wxD E0) := takes_of rfl rfl rfl rfl
    exact (iss_cons (c_par 2 3 true false nd (ie_lst ia_nil) ie_int)
    (iss_cons (is_while line (passes_of rfl) (it_w (iw_and (t_lt (ie_var (pv 3)) (c_len T (ia_cons (ie_var (pv 1)) ia_nil))) (iw_and1 (t_ne T (ie_ix (ie_var (pv 1)) (ie_var (pv 3))) (c_g G.c_REMARK)))))
    (iss_one (is_if (t_eq T (ie_ix (ie_var (pv 1)) (ie_var (pv 3))) ie_str)
    (iss_one (c_aug 3 nd ie_int))
    (iss_cons (c_asg (pg_tup rfl (pgs_cons (pg_name nd (i := 4) rfl (by first | exact .inl rfl | exact .inr rfl)) (pgs_cons (pg_name nd (i := 5) rfl (by first | exact .inl rfl | exact .inr rfl)) pgs_nil))) (gd_tup (gds_cons gd_name (gds_cons gd_name gds_nil))) (c_call D_next_in T (hr.mono (by decide)) tk (ia_cons (ie_var (pv 1)) (ia_cons (ie_var (pv 3)) ia_nil))))
    (iss_cons (c_app (pv 2) (ie_tup (ia_cons (ie_var (pv 4)) (ia_cons (ie_var (pv 5)) (ia_cons (ie_var (pv 0)) (ia_cons (ie_var (pv 3)) ia_nil))))))
    (iss_one (c_set 3 nd (ie_if (t_eq T (ie_var (pv 4)) (c_g G.c_NONE)) (c_len T (ia_cons (ie_var (pv 1)) ia_nil)) (c_add (ie_var (pv 3)) (c_len T (ia_cons (ie_var (pv 5)) ia_nil)))))))))))
    (iss_one (is_ret (ie_var (pv 2))))))
/-! split_of -/
abbrev s_split_of : Stmt := top 26
def l1_split_of : SS Unit := (sSeq2 (sExt 2 (sCallZ 2 m_row_tokens (sCons (sVar 3) (sCons (sVar 4) sNil))))
    (sIfS (sAnd (sTest (sBin opNe (sVar 2) (sLst sNil))) (sTest (sBin opEq (sBin opIx (sBin opIx (sVar 2) (sNeg (sC (.int 1)))) (sC (.int 0))) (sC (.str "none")))))
    (sRet (sVar 2))
    sSkip))
def b_split_of : SS Unit := (sSeq2 (sPar 1 2 false true (sM1 gSplit (sVar 0) (sC (.str "\n"))) (sLst sNil))
    (sSeq2 (sFor (sEnum (sVar 1)) (bTup 2 (bCons (bName 3) (bCons (bName 4) bNil))) l1_split_of)
    (sRet (sBin opAdd (sVar 2) (sLst (sCons (sTup (sCons (sC (.str "end")) (sCons (sC (.str "")) (sCons (sBin opSub (sCall (g1 fLen) (sCons (sVar 1) sNil)) (sC (.int 1))) (sCons (sCall (g1 fLen) (sCons (sBin opIx (sVar 1) (sNeg (sC (.int 1)))) sNil)) sNil))))) sNil))))))
def m_split_of : List PyData → Ma Unit PyData := mDef false 5 b_split_of
theorem n_split_of : FnScope ["text", "lines", "found", "row", "line"] ["text"] (defScope s_split_of) := ⟨rfl, rfl, rfl, by decide +kernel, rfl, by decide +kernel, by decide +kernel⟩
theorem ok_split_of (T0 : ∀ x ∈ bNames, mg x = none) (G : Gx K mg) (F : FunD K "split_of" "split_of" (defArgs s_split_of) (defBody s_split_of) (defScope s_split_of) [] [] f fd)
    (D_row_tokens : DefG P w K mg base 4 "row_tokens" ["row", "line"] [] (spR Rz K mg false 2 m_row_tokens))
    : FnG P w K mg base 5 f fd ["text"] (spR Rz K mg false 1 m_split_of) :=
  def_R F n_split_of rfl (by decide) fun cdv A outer s0 H0 E0 hg hr => by
    have T : Bt mg (A.deeper (envOfC "split_of" (defScope s_split_of) s0.heap.objs.size f cdv)) := ⟨T0, hg, by have := hr.un; omega⟩
    have nd := n_split_of.nd
    have tk : Takes (cxOf (L2.CX P w) P w K mg base ["text", "lines", "found", "row", "line"] "split_of" (defScope s_split_of) f cdv A outer s0 H0 E0) (wxD E0) := takes_of rfl rfl rfl rfl
    exact (iss_cons (c_par 1 2 false true nd (c_split (ie_var (pv 0)) ie_str) (ie_lst ia_nil))
    (iss_cons (is_for (passes_of rfl) rfl (ii_enum (by rfl) (T.fr _ (by decide +kernel)) (ie_var (pv 1))) (pg_tup rfl (pgs_cons (pg_name nd (i := 3) rfl (by first | exact .inl rfl | exact .inr rfl)) (pgs_cons (pg_name nd (i := 4) rfl (by first | exact .inl rfl | exact .inr rfl)) pgs_nil))) (gd_tup (gds_cons gd_name (gds_cons gd_name gds_nil)))
    (iss_cons (c_ext (pv 2) (c_call D_row_tokens T (hr.mono (by decide)) tk (ia_cons (ie_var (pv 3)) (ia_cons (ie_var (pv 4)) ia_nil))))
    (iss_one (is_if (it_w (iw_and (t_ne T (ie_var (pv 2)) (ie_lst ia_nil)) (iw_and1 (t_eq T (ie_ix (ie_ix (ie_var (pv 2)) (ie_neg ie_int)) ie_int) (c_g G.c_NONE)))))
    (iss_one (is_ret (ie_var (pv 2))))
    iss_nil))))
    (iss_one (is_ret (c_add (ie_var (pv 2)) (ie_lst (ia_cons (ie_tup (ia_cons (c_g G.c_END) (ia_cons ie_str (ia_cons (c_sub (c_len T (ia_cons (ie_var (pv 1)) ia_nil)) ie_int) (ia_cons (c_len T (ia_cons (ie_ix (ie_var (pv 1)) (ie_neg ie_int)) ia_nil)) ia_nil))))) ia_nil)))))))
/-! want_text -/
abbrev s_want_text : Stmt := top 27
def b_want_text : SS Unit := (sSeq2 (sIfS (sOr (sNot (sTest (sIsi "str" (sVar 0)))) (sTest (sBin opGt (sCall (g1 fLen) (sCons (sVar 0) sNil)) (sC (.int 12000)))))
    (sRaise "InvalidText" ["value"] (sCons (sVar 0) sNil))
    sSkip)
    (sRet (sVar 0)))
def m_want_text : List PyData → Ma Unit PyData := mDef false 1 b_want_text
theorem n_want_text : FnScope ["value"] ["value"] (defScope s_want_text) := ⟨rfl, rfl, rfl, by decide +kernel, rfl, by decide +kernel, by decide +kernel⟩
theorem ok_want_text (T0 : ∀ x ∈ bNames, mg x = none) (G : Gx K mg) (F : FunD K "want_text" "want_text" (defArgs s_want_text) (defBody s_want_text) (defScope s_want_text) [] [] f fd)
    (E_InvalidText : Er1 P w K mg base "InvalidText" "value")
    : FnG P w K mg base 3 f fd ["value"] (spR Rz K mg false 1 m_want_text) :=
  def_R F n_want_text rfl (by decide) fun cdv A outer s0 H0 E0 hg hr => by
    have T : Bt mg (A.deeper (envOfC "want_text" (defScope s_want_text) s0.heap.objs.size f cdv)) := ⟨T0, hg, by have := hr.un; omega⟩
    have nd := n_want_text.nd
    have tk : Takes (cxOf (L2.CX P w) P w K mg base ["value"] "want_text" (defScope s_want_text) f cdv A outer s0 H0 E0) (wxD E0) := takes_of rfl rfl rfl rfl
    exact (iss_cons (is_if (it_w (iw_or (it_not (it_val (c_isi T (ty_str T) kit_str (ie_var (pv 0))))) (iw_or1 (t_gt (c_len T (ia_cons (ie_var (pv 0)) ia_nil)) (c_g G.c_MOST_TEXT)))))
    (iss_one (E_InvalidText.raise (hr.mono (by decide)) tk (ia_cons (ie_var (pv 0)) ia_nil)))
    iss_nil)
    (iss_one (is_ret (ie_var (pv 0)))))
/-! tokens -/
abbrev s_tokens : Stmt := top 28
def b_tokens : SS Unit := (sSeq2 (sSet 1 (sCallZ 1 m_split_of (sCons (sCallZ 1 m_want_text (sCons (sVar 0) sNil)) sNil)))
    (sSeq2 (sIfS (sTest (sBin opEq (sBin opIx (sBin opIx (sVar 1) (sNeg (sC (.int 1)))) (sC (.int 0))) (sC (.str "none"))))
    (sRaise "BadText" ["line", "column"] (sCons (sBin opIx (sBin opIx (sVar 1) (sNeg (sC (.int 1)))) (sC (.int 2))) (sCons (sBin opIx (sBin opIx (sVar 1) (sNeg (sC (.int 1)))) (sC (.int 3))) sNil)))
    sSkip)
    (sRet (sSl (sVar 1) sNoPart (sPart (sNeg (sC (.int 1))))))))
def m_tokens : List PyData → Ma Unit PyData := mDef false 2 b_tokens
theorem n_tokens : FnScope ["text", "found"] ["text"] (defScope s_tokens) := ⟨rfl, rfl, rfl, by decide +kernel, rfl, by decide +kernel, by decide +kernel⟩
theorem ok_tokens (T0 : ∀ x ∈ bNames, mg x = none) (G : Gx K mg) (F : FunD K "tokens" "tokens" (defArgs s_tokens) (defBody s_tokens) (defScope s_tokens) [] [] f fd)
    (D_split_of : DefG P w K mg base 5 "split_of" ["text"] [] (spR Rz K mg false 1 m_split_of))
    (D_want_text : DefG P w K mg base 3 "want_text" ["value"] [] (spR Rz K mg false 1 m_want_text))
    (E_BadText : Er2 P w K mg base "BadText" "line" "column")
    : FnG P w K mg base 6 f fd ["text"] (spR Rz K mg false 1 m_tokens) :=
  def_R F n_tokens rfl (by decide) fun cdv A outer s0 H0 E0 hg hr => by
    have T : Bt mg (A.deeper (envOfC "tokens" (defScope s_tokens) s0.heap.objs.size f cdv)) := ⟨T0, hg, by have := hr.un; omega⟩
    have nd := n_tokens.nd
    have tk : Takes (cxOf (L2.CX P w) P w K mg base ["text", "found"] "tokens" (defScope s_tokens) f cdv A outer s0 H0 E0) (wxD E0) := takes_of rfl rfl rfl rfl
    exact (iss_cons (c_set 1 nd (c_call D_split_of T (hr.mono (by decide)) tk (ia_cons (c_call D_want_text T (hr.mono (by decide)) tk (ia_cons (ie_var (pv 0)) ia_nil)) ia_nil)))
    (iss_cons (is_if (t_eq T (ie_ix (ie_ix (ie_var (pv 1)) (ie_neg ie_int)) ie_int) (c_g G.c_NONE))
    (iss_one (E_BadText.raise (hr.mono (by decide)) tk (ia_cons (ie_ix (ie_ix (ie_var (pv 1)) (ie_neg ie_int)) ie_int) (ia_cons (ie_ix (ie_ix (ie_var (pv 1)) (ie_neg ie_int)) ie_int) ia_nil))))
    iss_nil)
    (iss_one (is_ret (ie_sl (ie_var (pv 1)) io_none (io_some (ie_neg ie_int)))))))
/-! _law_draw -/
abbrev s__law_draw : Stmt := top 31
def b__law_draw : SS Pt := (sSeq2 (sIfS (sAnd (sTest (sBin opEq (sPix 0 1) (sC (.int 0)))) (sPany 0))
    (sPpop 0 1)
    sSkip)
    (sSeq2 (sIfS (sTest (sBin opGt (sPix 0 1) (sC (.int 0))))
    (sSeq2 (sPdm 0 1 2 (sCons (sPix 0 1) (sCons (sVar 1) sNil)))
    (sRet (sVar 2)))
    sSkip)
    (sSeq2 (sPput 0 2 (sBin opMod (sCall (g1 fInt) (sCons (sBin opAdd (sBin opMul (sPix 0 2) (sC (.int 40692))) (sC (.int 1949))) sNil)) (sC (.int 2147483563))))
    (sRet (sBin opMod (sCall (g1 fInt) (sCons (sBin opDiv (sBin opMod (sCall (g1 fInt) (sCons (sBin opMul (sPix 0 2) (sPix 0 2)) sNil)) (sC (.int 2147483549))) (sC (.int 19))) sNil)) (sVar 1))))))
def m__law_draw : List PyData → Ma Pt PyData := mDef true 3 b__law_draw
theorem n__law_draw : FnScope ["pot", "many", "digit"] ["pot", "many"] (defScope s__law_draw) := ⟨rfl, rfl, rfl, by decide +kernel, rfl, by decide +kernel, by decide +kernel⟩
theorem ok__law_draw (T0 : ∀ x ∈ bNames, mg x = none) (G : Gx K mg) (F : FunD K "_law_draw" "_law_draw" (defArgs s__law_draw) (defBody s__law_draw) (defScope s__law_draw) [] [] f fd)
    : FnG P w K mg base 1 f fd ["pot", "many"] (spR Rq K mg true 2 m__law_draw) :=
  def_R F n__law_draw rfl (by decide) fun cdv A outer s0 H0 E0 hg hr => by
    have T : Bt mg (A.deeper (envOfC "_law_draw" (defScope s__law_draw) s0.heap.objs.size f cdv)) := ⟨T0, hg, by have := hr.un; omega⟩
    have nd := n__law_draw.nd
    have tk : Takes (cxOf (L2.CX P w) P w K mg base ["pot", "many", "digit"] "_law_draw" (defScope s__law_draw) f cdv A outer s0 H0 E0) (wxD E0) := takes_of rfl rfl rfl rfl
    exact (iss_cons (is_if (it_w (iw_and (t_eq T (ie_pix (pe_ix ix_seq (pv 0) pe_int (by exact fun _ _ => rfl))) ie_int) (iw_and1 (it_pany (pt_cmpR (op_neD T.v) (pe_ix ix_seq (pv 0) pe_int (by exact fun _ _ => rfl)) (pe_lst pa_nil) (nomark _))))))
    (iss_one (is_ppop (ps_asg (pe_bm PySem.F.plainAttrs_list PySem.F.slot_list_pop PySem.F.type_list_pop mt_popAt (pe_ix ix_seq (pv 0) pe_int (by exact fun _ _ => rfl)) (pa_cons pe_int pa_nil)) (pg_sub (pv 0) pe_int set_list))))
    iss_nil)
    (iss_cons (is_if (t_gt (ie_pix (pe_ix ix_seq (pv 0) pe_int (by exact fun _ _ => rfl))) ie_int)
    (iss_cons (is_pdm (fun ha => ps_asg (pe_callB call_divmod (by rfl) (T.fr _ (by decide +kernel)) boot_divmod ha) (pg_tup rfl (pgs_cons (pg_sub (pv 0) pe_int set_list) (pgs_cons (pg_name nd (i := 2) rfl (by first | exact .inl rfl | exact .inr rfl)) pgs_nil)))) (ia_cons (ie_pix (pe_ix ix_seq (pv 0) pe_int (by exact fun _ _ => rfl))) (ia_cons (ie_var (pv 1)) ia_nil)))
    (iss_one (is_ret (ie_var (pv 2)))))
    iss_nil)
    (iss_cons (is_pput (fun he => ps_asg he (pg_sub (pv 0) pe_int set_list)) (c_mod (c_int T (ia_cons (c_add (c_mul (ie_pix (pe_ix ix_seq (pv 0) pe_int (by exact fun _ _ => rfl))) ie_int) ie_int) ia_nil)) ie_int))
    (iss_one (is_ret (c_mod (c_int T (ia_cons (c_div (c_mod (c_int T (ia_cons (c_mul (ie_pix (pe_ix ix_seq (pv 0) pe_int (by exact fun _ _ => rfl))) (ie_pix (pe_ix ix_seq (pv 0) pe_int (by exact fun _ _ => rfl)))) ia_nil)) ie_int) ie_int) ia_nil)) (ie_var (pv 1))))))))
/-! _law_pick -/
abbrev s__law_pick : Stmt := top 32
def b__law_pick : SS Pt := (sRet (sBin opIx (sVar 1) (sCallQ 0 2 m__law_draw (sCons (sCall (g1 fLen) (sCons (sVar 1) sNil)) sNil))))
def m__law_pick : List PyData → Ma Pt PyData := mDef true 2 b__law_pick
theorem n__law_pick : FnScope ["pot", "some"] ["pot", "some"] (defScope s__law_pick) := ⟨rfl, rfl, rfl, by decide +kernel, rfl, by decide +kernel, by decide +kernel⟩
theorem ok__law_pick (T0 : ∀ x ∈ bNames, mg x = none) (G : Gx K mg) (F : FunD K "_law_pick" "_law_pick" (defArgs s__law_pick) (defBody s__law_pick) (defScope s__law_pick) [] [] f fd)
    (D__law_draw : DefG P w K mg base 1 "_law_draw" ["pot", "many"] [] (spR Rq K mg true 2 m__law_draw))
    : FnG P w K mg base 2 f fd ["pot", "some"] (spR Rq K mg true 2 m__law_pick) :=
  def_R F n__law_pick rfl (by decide) fun cdv A outer s0 H0 E0 hg hr => by
    have T : Bt mg (A.deeper (envOfC "_law_pick" (defScope s__law_pick) s0.heap.objs.size f cdv)) := ⟨T0, hg, by have := hr.un; omega⟩
    have nd := n__law_pick.nd
    have tk : Takes (cxOf (L2.CX P w) P w K mg base ["pot", "some"] "_law_pick" (defScope s__law_pick) f cdv A outer s0 H0 E0) (wxD E0) := takes_of rfl rfl rfl rfl
    exact (iss_one (is_ret (ie_ix (ie_var (pv 1)) (c_callQ D__law_draw T (hr.mono (by decide)) tk (pv 0) (ia_cons (c_len T (ia_cons (ie_var (pv 1)) ia_nil)) ia_nil)))))
/-! _law_run_sort -/
abbrev s__law_run_sort : Stmt := top 34
def b__law_run_sort : SS Unit := (sSeq2 (sAsg (bTup 2 (bCons (bName 1) (bCons (bName 2) bNil))) (sTup (sCons (sC (.str "abcdefghijklmnopqrstuvwxyz")) (sCons (sC (.str "0123456789")) sNil))))
    (sSeq2 (sIfS (sTest (sBin opEq (sLc (sSeq (sVar 0)) (bName 4) (sTest (sBin opNotIn (sVar 4) (sVar 2))) (sVar 4) [4]) (sLst sNil)))
    (sRet (sC (.str "figures")))
    sSkip)
    (sSeq2 (sSet 3 (sLst (sCons (sC (.str "all")) (sCons (sC (.str "and")) (sCons (sC (.str "below")) (sCons (sC (.str "bool")) (sCons (sC (.str "call")) (sCons (sC (.str "cell")) (sCons (sC (.str "channel")) (sCons (sC (.str "do")) (sCons (sC (.str "each")) (sCons (sC (.str "else")) (sCons (sC (.str "end")) (sCons (sC (.str "false")) (sCons (sC (.str "form")) (sCons (sC (.str "fst")) (sCons (sC (.str "function")) (sCons (sC (.str "give")) (sCons (sC (.str "if")) (sCons (sC (.str "in")) (sCons (sC (.str "input")) sNil)))))))))))))))))))))
    (sSeq2 (sSet 3 (sBin opAdd (sVar 3) (sLst (sCons (sC (.str "int")) (sCons (sC (.str "many")) (sCons (sC (.str "more")) (sCons (sC (.str "none")) (sCons (sC (.str "not")) (sCons (sC (.str "or")) (sCons (sC (.str "pick")) (sCons (sC (.str "readers")) (sCons (sC (.str "release")) (sCons (sC (.str "sees")) (sCons (sC (.str "snd")) (sCons (sC (.str "tell")) (sCons (sC (.str "times")) (sCons (sC (.str "to")) (sCons (sC (.str "true")) sNil))))))))))))))))))
    (sSeq2 (sIfS (sTest (sBin opIn (sVar 0) (sVar 3)))
    (sRet (sC (.str "word")))
    sSkip)
    (sRet (sIf (sAnd (sTest (sBin opLe (sCall (g1 fLen) (sCons (sVar 0) sNil)) (sC (.int 8)))) (sAnd (sTest (sBin opIn (sBin opIx (sVar 0) (sC (.int 0))) (sVar 1))) (sTest (sBin opEq (sLc (sSeq (sVar 0)) (bName 4) (sTest (sBin opNotIn (sVar 4) (sBin opAdd (sBin opAdd (sVar 1) (sVar 2)) (sC (.str "_"))))) (sVar 4) [4]) (sLst sNil))))) (sC (.str "name")) (sC (.str "none")))))))))
def m__law_run_sort : List PyData → Ma Unit PyData := mDef false 5 b__law_run_sort
theorem n__law_run_sort : FnScope ["run", "small", "figures", "words", "sign"] ["run"] (defScope s__law_run_sort) := ⟨rfl, rfl, rfl, by decide +kernel, rfl, by decide +kernel, by decide +kernel⟩
theorem ok__law_run_sort (T0 : ∀ x ∈ bNames, mg x = none) (G : Gx K mg) (F : FunD K "_law_run_sort" "_law_run_sort" (defArgs s__law_run_sort) (defBody s__law_run_sort) (defScope s__law_run_sort) [] [] f fd)
    : FnG P w K mg base 1 f fd ["run"] (spR Rz K mg false 1 m__law_run_sort) :=
  def_R F n__law_run_sort rfl (by decide) fun cdv A outer s0 H0 E0 hg hr => by
    have T : Bt mg (A.deeper (envOfC "_law_run_sort" (defScope s__law_run_sort) s0.heap.objs.size f cdv)) := ⟨T0, hg, by have := hr.un; omega⟩
    have nd := n__law_run_sort.nd
    have tk : Takes (cxOf (L2.CX P w) P w K mg base ["run", "small", "figures", "words", "sign"] "_law_run_sort" (defScope s__law_run_sort) f cdv A outer s0 H0 E0) (wxD E0) := takes_of rfl rfl rfl rfl
    exact (iss_cons (c_asg (pg_tup rfl (pgs_cons (pg_name nd (i := 1) rfl (by first | exact .inl rfl | exact .inr rfl)) (pgs_cons (pg_name nd (i := 2) rfl (by first | exact .inl rfl | exact .inr rfl)) pgs_nil))) (gd_tup (gds_cons gd_name (gds_cons gd_name gds_nil))) (ie_tup (ia_cons ie_str (ia_cons ie_str ia_nil))))
    (iss_cons (is_if (t_eq T (ie_lc rfl nd (ii_seq (ie_var (pv 0))) (blkOk_by (own := [("sign", 4)]) (by rfl)) (fun s_ H_ C_ cl_ fp_ => (pg_name nd (i := 4) rfl (by first | exact .inl rfl | exact .inr rfl))) gd_name (by decide) (fun s_ H_ C_ cl_ fp_ => (its_one (t_ni T (ie_var (pv 4)) (ie_var (pv 2))))) (fun s_ H_ C_ cl_ fp_ => (ie_var (pv 4)))) (ie_lst ia_nil))
    (iss_one (is_ret ie_str))
    iss_nil)
    (iss_cons (c_set 3 nd (ie_lst (ia_cons ie_str (ia_cons ie_str (ia_cons ie_str (ia_cons ie_str (ia_cons ie_str (ia_cons ie_str (ia_cons ie_str (ia_cons ie_str (ia_cons ie_str (ia_cons ie_str (ia_cons ie_str (ia_cons ie_str (ia_cons ie_str (ia_cons ie_str (ia_cons ie_str (ia_cons ie_str (ia_cons ie_str (ia_cons ie_str (ia_cons ie_str ia_nil)))))))))))))))))))))
    (iss_cons (c_set 3 nd (c_add (ie_var (pv 3)) (ie_lst (ia_cons ie_str (ia_cons ie_str (ia_cons ie_str (ia_cons ie_str (ia_cons ie_str (ia_cons ie_str (ia_cons ie_str (ia_cons ie_str (ia_cons ie_str (ia_cons ie_str (ia_cons ie_str (ia_cons ie_str (ia_cons ie_str (ia_cons ie_str (ia_cons ie_str ia_nil))))))))))))))))))
    (iss_cons (is_if (t_in T (ie_var (pv 0)) (ie_var (pv 3)))
    (iss_one (is_ret ie_str))
    iss_nil)
    (iss_one (is_ret (ie_if (it_w (iw_and (t_le (c_len T (ia_cons (ie_var (pv 0)) ia_nil)) ie_int) (iw_and (t_in T (ie_ix (ie_var (pv 0)) ie_int) (ie_var (pv 1))) (iw_and1 (t_eq T (ie_lc rfl nd (ii_seq (ie_var (pv 0))) (blkOk_by (own := [("sign", 4)]) (by rfl)) (fun s_ H_ C_ cl_ fp_ => (pg_name nd (i := 4) rfl (by first | exact .inl rfl | exact .inr rfl))) gd_name (by decide) (fun s_ H_ C_ cl_ fp_ => (its_one (t_ni T (ie_var (pv 4)) (c_add (c_add (ie_var (pv 1)) (ie_var (pv 2))) ie_str)))) (fun s_ H_ C_ cl_ fp_ => (ie_var (pv 4)))) (ie_lst ia_nil)))))) ie_str ie_str))))))))
/-! _law_tokens -/
abbrev s__law_tokens : Stmt := top 35
def c1__law_tokens : ST Unit := (sAnd (sTest (sBin opLt (sVar 6) (sCall (g1 fLen) (sCons (sVar 4) sNil)))) (sTest (sBin opIn (sBin opIx (sVar 4) (sVar 6)) (sC (.str "abcdefghijklmnopqrstuvwxyzABCDEFGHIJKLMNOPQRSTUVWXYZ0123456789_")))))
def w2__law_tokens : SS Unit := (sSet 6 (sBin opAdd (sVar 6) (sC (.int 1))))
def c3__law_tokens : ST Unit := (sAnd (sTest (sBin opLt (sVar 5) (sCall (g1 fLen) (sCons (sVar 4) sNil)))) (sTest (sBin opNe (sBin opIx (sVar 4) (sVar 5)) (sC (.str "#")))))
def w4__law_tokens : SS Unit := (sSeq2 (sSet 6 (sVar 5))
    (sSeq2 (sWhile c1__law_tokens w2__law_tokens line)
    (sSeq2 (sIfS (sTest (sBin opEq (sBin opIx (sVar 4) (sVar 5)) (sC (.str " "))))
    (sSet 6 (sBin opAdd (sVar 5) (sC (.int 1))))
    (sIfS (sTest (sBin opGt (sVar 6) (sVar 5)))
    (sApp 1 (sTup (sCons (sCallZ 1 m__law_run_sort (sCons (sSl (sVar 4) (sPart (sVar 5)) (sPart (sVar 6))) sNil)) (sCons (sSl (sVar 4) (sPart (sVar 5)) (sPart (sVar 6))) (sCons (sVar 3) (sCons (sVar 5) sNil))))))
    (sSeq2 (sSet 6 (sBin opAdd (sVar 5) (sC (.int 1))))
    (sApp 1 (sTup (sCons (sIf (sTest (sBin opIn (sBin opIx (sVar 4) (sVar 5)) (sC (.str "()[],:;=<+-*")))) (sC (.str "sign")) (sC (.str "none"))) (sCons (sBin opIx (sVar 4) (sVar 5)) (sCons (sVar 3) (sCons (sVar 5) sNil)))))))))
    (sSeq2 (sIfS (sAnd (sTest (sBin opNe (sVar 1) (sLst sNil))) (sTest (sBin opEq (sBin opIx (sBin opIx (sVar 1) (sNeg (sC (.int 1)))) (sC (.int 0))) (sC (.str "none")))))
    (sRet (sVar 1))
    sSkip)
    (sSet 5 (sVar 6))))))
def l5__law_tokens : SS Unit := (sSeq2 (sSet 5 (sC (.int 0)))
    (sWhile c3__law_tokens w4__law_tokens line))
def b__law_tokens : SS Unit := (sSeq2 (sPar 1 2 true false (sLst sNil) (sM1 gSplit (sVar 0) (sC (.str "\n"))))
    (sSeq2 (sFor (sEnum (sVar 2)) (bTup 2 (bCons (bName 3) (bCons (bName 4) bNil))) l5__law_tokens)
    (sRet (sBin opAdd (sVar 1) (sLst (sCons (sTup (sCons (sC (.str "end")) (sCons (sC (.str "")) (sCons (sBin opSub (sCall (g1 fLen) (sCons (sVar 2) sNil)) (sC (.int 1))) (sCons (sCall (g1 fLen) (sCons (sBin opIx (sVar 2) (sNeg (sC (.int 1)))) sNil)) sNil))))) sNil))))))
def m__law_tokens : List PyData → Ma Unit PyData := mDef false 7 b__law_tokens
theorem n__law_tokens : FnScope ["text", "found", "lines", "row", "line", "column", "late"] ["text"] (defScope s__law_tokens) := ⟨rfl, rfl, rfl, by decide +kernel, rfl, by decide +kernel, by decide +kernel⟩
theorem ok__law_tokens (T0 : ∀ x ∈ bNames, mg x = none) (G : Gx K mg) (F : FunD K "_law_tokens" "_law_tokens" (defArgs s__law_tokens) (defBody s__law_tokens) (defScope s__law_tokens) [] [] f fd)
    (D__law_run_sort : DefG P w K mg base 1 "_law_run_sort" ["run"] [] (spR Rz K mg false 1 m__law_run_sort))
    : FnG P w K mg base 2 f fd ["text"] (spR Rz K mg false 1 m__law_tokens) :=
  def_R F n__law_tokens rfl (by decide) fun cdv A outer s0 H0 E0 hg hr => by
    have T : Bt mg (A.deeper (envOfC "_law_tokens" (defScope s__law_tokens) s0.heap.objs.size f cdv)) := ⟨T0, hg, by have := hr.un; omega⟩
    have nd := n__law_tokens.nd
    have tk : Takes (cxOf (L2.CX P w) P w K mg base ["text", "found", "lines", "row", "line", "column", "late"] "_law_tokens" (defScope s__law_tokens) f cdv A outer s0 H0 E0) (wxD E0) := takes_of rfl rfl rfl rfl
    exact (iss_cons (c_par 1 2 true false nd (ie_lst ia_nil) (c_split (ie_var (pv 0)) ie_str))
    (iss_cons (is_for (passes_of rfl) rfl (ii_enum (by rfl) (T.fr _ (by decide +kernel)) (ie_var (pv 2))) (pg_tup rfl (pgs_cons (pg_name nd (i := 3) rfl (by first | exact .inl rfl | exact .inr rfl)) (pgs_cons (pg_name nd (i := 4) rfl (by first | exact .inl rfl | exact .inr rfl)) pgs_nil))) (gd_tup (gds_cons gd_name (gds_cons gd_name gds_nil)))
    (iss_cons (c_set 5 nd ie_int)
    (iss_one (is_while line (passes_of rfl) (it_w (iw_and (t_lt (ie_var (pv 5)) (c_len T (ia_cons (ie_var (pv 4)) ia_nil))) (iw_and1 (t_ne T (ie_ix (ie_var (pv 4)) (ie_var (pv 5))) ie_str))))
    (iss_cons (c_set 6 nd (ie_var (pv 5)))
    (iss_cons (is_while line (passes_of rfl) (it_w (iw_and (t_lt (ie_var (pv 6)) (c_len T (ia_cons (ie_var (pv 4)) ia_nil))) (iw_and1 (t_in T (ie_ix (ie_var (pv 4)) (ie_var (pv 6))) ie_str))))
    (iss_one (c_set 6 nd (c_add (ie_var (pv 6)) ie_int))))
    (iss_cons (is_if (t_eq T (ie_ix (ie_var (pv 4)) (ie_var (pv 5))) ie_str)
    (iss_one (c_set 6 nd (c_add (ie_var (pv 5)) ie_int)))
    (iss_one (is_if (t_gt (ie_var (pv 6)) (ie_var (pv 5)))
    (iss_one (c_app (pv 1) (ie_tup (ia_cons (c_call D__law_run_sort T (hr.mono (by decide)) tk (ia_cons (ie_sl (ie_var (pv 4)) (io_some (ie_var (pv 5))) (io_some (ie_var (pv 6)))) ia_nil)) (ia_cons (ie_sl (ie_var (pv 4)) (io_some (ie_var (pv 5))) (io_some (ie_var (pv 6)))) (ia_cons (ie_var (pv 3)) (ia_cons (ie_var (pv 5)) ia_nil)))))))
    (iss_cons (c_set 6 nd (c_add (ie_var (pv 5)) ie_int))
    (iss_one (c_app (pv 1) (ie_tup (ia_cons (ie_if (t_in T (ie_ix (ie_var (pv 4)) (ie_var (pv 5))) ie_str) ie_str ie_str) (ia_cons (ie_ix (ie_var (pv 4)) (ie_var (pv 5))) (ia_cons (ie_var (pv 3)) (ia_cons (ie_var (pv 5)) ia_nil)))))))))))
    (iss_cons (is_if (it_w (iw_and (t_ne T (ie_var (pv 1)) (ie_lst ia_nil)) (iw_and1 (t_eq T (ie_ix (ie_ix (ie_var (pv 1)) (ie_neg ie_int)) ie_int) ie_str))))
    (iss_one (is_ret (ie_var (pv 1))))
    iss_nil)
    (iss_one (c_set 5 nd (ie_var (pv 6))))))))))))
    (iss_one (is_ret (c_add (ie_var (pv 1)) (ie_lst (ia_cons (ie_tup (ia_cons ie_str (ia_cons ie_str (ia_cons (c_sub (c_len T (ia_cons (ie_var (pv 2)) ia_nil)) ie_int) (ia_cons (c_len T (ia_cons (ie_ix (ie_var (pv 2)) (ie_neg ie_int)) ia_nil)) ia_nil))))) ia_nil)))))))
/-! _law_pieces -/
abbrev s__law_pieces : Stmt := top 36
def b__law_pieces : SS Unit := (sSeq2 (sSet 0 (sBin opAdd (sLc (sSeq (sLst (sCons (sC (.str "readers")) (sCons (sC (.str "all")) (sCons (sC (.str "to")) (sCons (sC (.str "give")) (sCons (sC (.str "below")) (sCons (sC (.str "fst")) (sCons (sC (.str "int")) (sCons (sC (.str "release")) sNil)))))))))) (bName 1) sYes (sTup (sCons (sC (.str "word")) (sCons (sVar 1) sNil))) [1]) (sLc (sSeq (sLst (sCons (sC (.str "a")) (sCons (sC (.str "alls")) (sCons (sC (.str "x_1")) (sCons (sC (.str "to2")) (sCons (sC (.str "abcdefgh")) (sCons (sC (.str "a9")) sNil)))))))) (bName 1) sYes (sTup (sCons (sC (.str "name")) (sCons (sVar 1) sNil))) [1])))
    (sSeq2 (sSet 0 (sBin opAdd (sVar 0) (sLc (sSeq (sLst (sCons (sC (.str "0")) (sCons (sC (.str "7")) (sCons (sC (.str "0042")) (sCons (sC (.str "99999999999")) sNil)))))) (bName 1) sYes (sTup (sCons (sC (.str "figures")) (sCons (sVar 1) sNil))) [1])))
    (sRet (sBin opAdd (sVar 0) (sLc (sSeq (sLst (sCons (sC (.str "(")) (sCons (sC (.str ")")) (sCons (sC (.str "[")) (sCons (sC (.str "]")) (sCons (sC (.str ",")) (sCons (sC (.str ":")) (sCons (sC (.str ";")) (sCons (sC (.str "=")) (sCons (sC (.str "<")) (sCons (sC (.str "+")) (sCons (sC (.str "-")) (sCons (sC (.str "*")) sNil)))))))))))))) (bName 1) sYes (sTup (sCons (sC (.str "sign")) (sCons (sVar 1) sNil))) [1])))))
def m__law_pieces : List PyData → Ma Unit PyData := mDef false 2 b__law_pieces
theorem n__law_pieces : FnScope ["found", "one"] [] (defScope s__law_pieces) := ⟨rfl, rfl, rfl, by decide +kernel, rfl, by decide +kernel, by decide +kernel⟩
theorem ok__law_pieces (T0 : ∀ x ∈ bNames, mg x = none) (G : Gx K mg) (F : FunD K "_law_pieces" "_law_pieces" (defArgs s__law_pieces) (defBody s__law_pieces) (defScope s__law_pieces) [] [] f fd)
    : FnG P w K mg base 1 f fd [] (spR Rz K mg false 0 m__law_pieces) :=
  def_R F n__law_pieces rfl (by decide) fun cdv A outer s0 H0 E0 hg hr => by
    have T : Bt mg (A.deeper (envOfC "_law_pieces" (defScope s__law_pieces) s0.heap.objs.size f cdv)) := ⟨T0, hg, by have := hr.un; omega⟩
    have nd := n__law_pieces.nd
    have tk : Takes (cxOf (L2.CX P w) P w K mg base ["found", "one"] "_law_pieces" (defScope s__law_pieces) f cdv A outer s0 H0 E0) (wxD E0) := takes_of rfl rfl rfl rfl
    exact (iss_cons (c_set 0 nd (c_add (ie_lc rfl nd (ii_seq (ie_lst (ia_cons ie_str (ia_cons ie_str (ia_cons ie_str (ia_cons ie_str (ia_cons ie_str (ia_cons ie_str (ia_cons ie_str (ia_cons ie_str ia_nil)))))))))) (blkOk_by (own := [("one", 1)]) (by rfl)) (fun s_ H_ C_ cl_ fp_ => (pg_name nd (i := 1) rfl (by first | exact .inl rfl | exact .inr rfl))) gd_name (by decide) (fun s_ H_ C_ cl_ fp_ => its_nil) (fun s_ H_ C_ cl_ fp_ => (ie_tup (ia_cons ie_str (ia_cons (ie_var (pv 1)) ia_nil))))) (ie_lc rfl nd (ii_seq (ie_lst (ia_cons ie_str (ia_cons ie_str (ia_cons ie_str (ia_cons ie_str (ia_cons ie_str (ia_cons ie_str ia_nil)))))))) (blkOk_by (own := [("one", 1)]) (by rfl)) (fun s_ H_ C_ cl_ fp_ => (pg_name nd (i := 1) rfl (by first | exact .inl rfl | exact .inr rfl))) gd_name (by decide) (fun s_ H_ C_ cl_ fp_ => its_nil) (fun s_ H_ C_ cl_ fp_ => (ie_tup (ia_cons ie_str (ia_cons (ie_var (pv 1)) ia_nil)))))))
    (iss_cons (c_set 0 nd (c_add (ie_var (pv 0)) (ie_lc rfl nd (ii_seq (ie_lst (ia_cons ie_str (ia_cons ie_str (ia_cons ie_str (ia_cons ie_str ia_nil)))))) (blkOk_by (own := [("one", 1)]) (by rfl)) (fun s_ H_ C_ cl_ fp_ => (pg_name nd (i := 1) rfl (by first | exact .inl rfl | exact .inr rfl))) gd_name (by decide) (fun s_ H_ C_ cl_ fp_ => its_nil) (fun s_ H_ C_ cl_ fp_ => (ie_tup (ia_cons ie_str (ia_cons (ie_var (pv 1)) ia_nil)))))))
    (iss_one (is_ret (c_add (ie_var (pv 0)) (ie_lc rfl nd (ii_seq (ie_lst (ia_cons ie_str (ia_cons ie_str (ia_cons ie_str (ia_cons ie_str (ia_cons ie_str (ia_cons ie_str (ia_cons ie_str (ia_cons ie_str (ia_cons ie_str (ia_cons ie_str (ia_cons ie_str (ia_cons ie_str ia_nil)))))))))))))) (blkOk_by (own := [("one", 1)]) (by rfl)) (fun s_ H_ C_ cl_ fp_ => (pg_name nd (i := 1) rfl (by first | exact .inl rfl | exact .inr rfl))) gd_name (by decide) (fun s_ H_ C_ cl_ fp_ => its_nil) (fun s_ H_ C_ cl_ fp_ => (ie_tup (ia_cons ie_str (ia_cons (ie_var (pv 1)) ia_nil))))))))))
/-! _law_laid -/
abbrev s__law_laid : Stmt := top 37
def l1__law_laid : SS Pt := (sSeq2 (sSet 2 (sBin opAdd (sVar 2) (sCallQ 0 2 m__law_pick (sCons (sLst (sCons (sC (.str " ")) (sCons (sC (.str "  ")) (sCons (sC (.str "\n")) (sCons (sC (.str "\n  ")) (sCons (sC (.str "#a ( 9x\n")) (sCons (sC (.str " # so\n\n")) sNil))))))) sNil))))
    (sSeq2 (sAsg (bTup 2 (bCons (bName 5) (bCons (bName 6) bNil))) (sCallQ 0 2 m__law_pick (sCons (sCallZ 0 m__law_pieces sNil) sNil)))
    (sSeq2 (sApp 3 (sTup (sCons (sVar 5) (sCons (sVar 6) (sCons (sBin opSub (sCall (g1 fLen) (sCons (sM1 gSplit (sVar 2) (sC (.str "\n"))) sNil)) (sC (.int 1))) (sCons (sCall (g1 fLen) (sCons (sBin opIx (sM1 gSplit (sVar 2) (sC (.str "\n"))) (sNeg (sC (.int 1)))) sNil)) sNil))))))
    (sSet 2 (sBin opAdd (sVar 2) (sVar 6))))))
def b__law_laid : SS Pt := (sSeq2 (sPar 2 3 false true (sC (.str "")) (sLst sNil))
    (sSeq2 (sFor (sRng1 (sCons (sVar 1) sNil)) (bName 4) l1__law_laid)
    (sFrz 3 (sRet (sTup (sCons (sVar 2) (sCons (sVar 3) sNil)))))))
def m__law_laid : List PyData → Ma Pt PyData := mDef true 7 b__law_laid
theorem n__law_laid : FnScope ["pot", "many", "text", "found", "turn", "sort", "piece"] ["pot", "many"] (defScope s__law_laid) := ⟨rfl, rfl, rfl, by decide +kernel, rfl, by decide +kernel, by decide +kernel⟩
theorem ok__law_laid (T0 : ∀ x ∈ bNames, mg x = none) (G : Gx K mg) (F : FunD K "_law_laid" "_law_laid" (defArgs s__law_laid) (defBody s__law_laid) (defScope s__law_laid) [] [] f fd)
    (D__law_pick : DefG P w K mg base 2 "_law_pick" ["pot", "some"] [] (spR Rq K mg true 2 m__law_pick))
    (D__law_pieces : DefG P w K mg base 1 "_law_pieces" [] [] (spR Rz K mg false 0 m__law_pieces))
    : FnG P w K mg base 3 f fd ["pot", "many"] (spR Rq K mg true 2 m__law_laid) :=
  def_R F n__law_laid rfl (by decide) fun cdv A outer s0 H0 E0 hg hr => by
    have T : Bt mg (A.deeper (envOfC "_law_laid" (defScope s__law_laid) s0.heap.objs.size f cdv)) := ⟨T0, hg, by have := hr.un; omega⟩
    have nd := n__law_laid.nd
    have tk : Takes (cxOf (L2.CX P w) P w K mg base ["pot", "many", "text", "found", "turn", "sort", "piece"] "_law_laid" (defScope s__law_laid) f cdv A outer s0 H0 E0) (wxD E0) := takes_of rfl rfl rfl rfl
    exact (iss_cons (c_par 2 3 false true nd ie_str (ie_lst ia_nil))
    (iss_cons (is_for (passes_of rfl) rfl (ii_rng1 (by rfl) (T.fr _ (by decide +kernel)) (ia_cons (ie_var (pv 1)) ia_nil)) (pg_name nd (i := 4) rfl (by first | exact .inl rfl | exact .inr rfl)) gd_name
    (iss_cons (c_set 2 nd (c_add (ie_var (pv 2)) (c_callQ D__law_pick T (hr.mono (by decide)) tk (pv 0) (ia_cons (ie_lst (ia_cons ie_str (ia_cons ie_str (ia_cons ie_str (ia_cons ie_str (ia_cons ie_str (ia_cons ie_str ia_nil))))))) ia_nil))))
    (iss_cons (c_asg (pg_tup rfl (pgs_cons (pg_name nd (i := 5) rfl (by first | exact .inl rfl | exact .inr rfl)) (pgs_cons (pg_name nd (i := 6) rfl (by first | exact .inl rfl | exact .inr rfl)) pgs_nil))) (gd_tup (gds_cons gd_name (gds_cons gd_name gds_nil))) (c_callQ D__law_pick T (hr.mono (by decide)) tk (pv 0) (ia_cons (c_call0 D__law_pieces T (hr.mono (by decide)) tk) ia_nil)))
    (iss_cons (c_app (pv 3) (ie_tup (ia_cons (ie_var (pv 5)) (ia_cons (ie_var (pv 6)) (ia_cons (c_sub (c_len T (ia_cons (c_split (ie_var (pv 2)) ie_str) ia_nil)) ie_int) (ia_cons (c_len T (ia_cons (ie_ix (c_split (ie_var (pv 2)) ie_str) (ie_neg ie_int)) ia_nil)) ia_nil))))))
    (iss_one (c_set 2 nd (c_add (ie_var (pv 2)) (ie_var (pv 6)))))))))
    (iss_frz 3 (iss_one (is_ret (ie_tup (ia_cons (ie_var (pv 2)) (ia_cons (ie_var (pv 3)) ia_nil))))))))
/-! _law_refused -/
abbrev s__law_refused : Stmt := top 38
def b__law_refused : SS Unit := (sSeq2 (sSet 1 (sC (.none)))
    (sSeq2 (sTry (sDrop (sCallZ 1 m_tokens (sCons (sVar 0) sNil))) [⟨sub_BadText, 2, fSu 1 (xCons (xFld tell_line "line") (xCons (xFld tell_column "column") (xCons (xIs is_ReaderError) xNil)))⟩, ⟨sub_InvalidText, 2, fSu 1 (xCons (xC (.str "text")) (xCons (xRepr (xFld tell_value "value")) (xCons (xIs is_ReaderError) xNil)))⟩])
    (sRet (sVar 1))))
def m__law_refused : List PyData → Ma Unit PyData := mDef false 3 b__law_refused
theorem n__law_refused : FnScope ["text", "told", "e"] ["text"] (defScope s__law_refused) := ⟨rfl, rfl, rfl, by decide +kernel, rfl, by decide +kernel, by decide +kernel⟩
theorem ok__law_refused (T0 : ∀ x ∈ bNames, mg x = none) (G : Gx K mg) (F : FunD K "_law_refused" "_law_refused" (defArgs s__law_refused) (defBody s__law_refused) (defScope s__law_refused) [] [] f fd)
    (D_tokens : DefG P w K mg base 6 "tokens" ["text"] [(["text"], [0])] (spR Rz K mg false 1 m_tokens))
    : FnG P w K mg base 7 f fd ["text"] (spR Rz K mg false 1 m__law_refused) :=
  def_R F n__law_refused rfl (by decide) fun cdv A outer s0 H0 E0 hg hr => by
    have T : Bt mg (A.deeper (envOfC "_law_refused" (defScope s__law_refused) s0.heap.objs.size f cdv)) := ⟨T0, hg, by have := hr.un; omega⟩
    have nd := n__law_refused.nd
    have tk : Takes (cxOf (L2.CX P w) P w K mg base ["text", "told", "e"] "_law_refused" (defScope s__law_refused) f cdv A outer s0 H0 E0) (wxD E0) := takes_of rfl rfl rfl rfl
    exact (iss_cons (c_set 1 nd ie_non)
    (iss_cons (is_try rfl rfl nd tk (fun wx1 pn1 xe1 tk1 po1 =>
    (iss_one (c_expr (c_call D_tokens T (hr.mono (by decide)) tk1 (ia_cons (ie_var (pv 0)) ia_nil)))))
    (ClsOk.cons (z := ⟨_, 2, _⟩) rfl rfl ⟨rfl, by decide, .inl G.g_BadText⟩ (fun a_ oe_ cls_ d_ pn_ hz_ hf_ => su_set (fun he => ps_set nd (i := 1) rfl (by first | exact .inl rfl | exact .inr rfl) he) (ixs_cons (ix_fld G.t_line hz_ hf_ (pv 2)) (ixs_cons (ix_fld G.t_column hz_ hf_ (pv 2)) (ixs_cons (ix_is (G.i_ReaderError) hz_ hf_ (fun hr_ => pe_callB hr_ (by rfl) (T0 _ (by decide +kernel)) boot_isinstance (pa_cons (pv 2) (pa_cons (pe_glob (by rfl) G.g_ReaderError rfl) pa_nil)))) ixs_nil)))) (ClsOk.cons (z := ⟨_, 2, _⟩) rfl rfl ⟨rfl, by decide, .inl G.g_InvalidText⟩ (fun a_ oe_ cls_ d_ pn_ hz_ hf_ => su_set (fun he => ps_set nd (i := 1) rfl (by first | exact .inl rfl | exact .inr rfl) he) (ixs_cons ix_str (ixs_cons (ix_repr (ix_fld G.t_value hz_ hf_ (pv 2)) (fun ha_ => pe_callB (call_repr (by exact T.g) (by exact T.v)) (by rfl) (T0 _ (by decide +kernel)) boot_repr ha_)) (ixs_cons (ix_is (G.i_ReaderError) hz_ hf_ (fun hr_ => pe_callB hr_ (by rfl) (T0 _ (by decide +kernel)) boot_isinstance (pa_cons (pv 2) (pa_cons (pe_glob (by rfl) G.g_ReaderError rfl) pa_nil)))) ixs_nil)))) ClsOk.nil))
    (Sus.cons (sub_of G.s_BadText) (Sus.cons (sub_of G.s_InvalidText) Sus.nil)))
    (iss_one (is_ret (ie_var (pv 1))))))
/-! _law_string_right -/
abbrev s__law_string_right : Stmt := top 39
def b__law_string_right : SS Unit := (sSeq2 (sSet 1 (sCallZ 1 m__law_tokens (sCons (sVar 0) sNil)))
    (sSeq2 (sIfS (sTest (sBin opEq (sBin opIx (sBin opIx (sVar 1) (sNeg (sC (.int 1)))) (sC (.int 0))) (sC (.str "none"))))
    (sRet (sBin opEq (sCall (g1 fRepr) (sCons (sCallZ 1 m__law_refused (sCons (sVar 0) sNil)) sNil)) (sCall (g1 fRepr) (sCons (sLst (sCons (sBin opIx (sBin opIx (sVar 1) (sNeg (sC (.int 1)))) (sC (.int 2))) (sCons (sBin opIx (sBin opIx (sVar 1) (sNeg (sC (.int 1)))) (sC (.int 3))) (sCons (sC (.bool true)) sNil)))) sNil))))
    sSkip)
    (sRet (sBin opEq (sCall (g1 fRepr) (sCons (sLst (sCons (sCallZ 1 m_tokens (sCons (sVar 0) sNil)) (sCons (sCallK 1 1 [0] m_tokens (sCons (sVar 0) sNil)) sNil))) sNil)) (sCall (g1 fRepr) (sCons (sBin opMul (sLst (sCons (sSl (sVar 1) sNoPart (sPart (sNeg (sC (.int 1))))) sNil)) (sC (.int 2))) sNil))))))
def m__law_string_right : List PyData → Ma Unit PyData := mDef false 2 b__law_string_right
theorem n__law_string_right : FnScope ["text", "due"] ["text"] (defScope s__law_string_right) := ⟨rfl, rfl, rfl, by decide +kernel, rfl, by decide +kernel, by decide +kernel⟩
theorem ok__law_string_right (T0 : ∀ x ∈ bNames, mg x = none) (G : Gx K mg) (F : FunD K "_law_string_right" "_law_string_right" (defArgs s__law_string_right) (defBody s__law_string_right) (defScope s__law_string_right) [] [] f fd)
    (D__law_tokens : DefG P w K mg base 2 "_law_tokens" ["text"] [] (spR Rz K mg false 1 m__law_tokens))
    (D__law_refused : DefG P w K mg base 7 "_law_refused" ["text"] [] (spR Rz K mg false 1 m__law_refused))
    (D_tokens : DefG P w K mg base 6 "tokens" ["text"] [(["text"], [0])] (spR Rz K mg false 1 m_tokens))
    : FnG P w K mg base 8 f fd ["text"] (spR Rz K mg false 1 m__law_string_right) :=
  def_R F n__law_string_right rfl (by decide) fun cdv A outer s0 H0 E0 hg hr => by
    have T : Bt mg (A.deeper (envOfC "_law_string_right" (defScope s__law_string_right) s0.heap.objs.size f cdv)) := ⟨T0, hg, by have := hr.un; omega⟩
    have nd := n__law_string_right.nd
    have tk : Takes (cxOf (L2.CX P w) P w K mg base ["text", "due"] "_law_string_right" (defScope s__law_string_right) f cdv A outer s0 H0 E0) (wxD E0) := takes_of rfl rfl rfl rfl
    exact (iss_cons (c_set 1 nd (c_call D__law_tokens T (hr.mono (by decide)) tk (ia_cons (ie_var (pv 0)) ia_nil)))
    (iss_cons (is_if (t_eq T (ie_ix (ie_ix (ie_var (pv 1)) (ie_neg ie_int)) ie_int) ie_str)
    (iss_one (is_ret (c_eq T (c_repr T (ia_cons (c_call D__law_refused T (hr.mono (by decide)) tk (ia_cons (ie_var (pv 0)) ia_nil)) ia_nil)) (c_repr T (ia_cons (ie_lst (ia_cons (ie_ix (ie_ix (ie_var (pv 1)) (ie_neg ie_int)) ie_int) (ia_cons (ie_ix (ie_ix (ie_var (pv 1)) (ie_neg ie_int)) ie_int) (ia_cons ie_bl ia_nil)))) ia_nil)))))
    iss_nil)
    (iss_one (is_ret (c_eq T (c_repr T (ia_cons (ie_lst (ia_cons (c_call D_tokens T (hr.mono (by decide)) tk (ia_cons (ie_var (pv 0)) ia_nil)) (ia_cons (c_callK (ks := ["text"]) (ix := [0]) D_tokens T (hr.mono (by decide)) tk (by decide) (ik_cons (ie_var (pv 0)) ik_nil)) ia_nil))) ia_nil)) (c_repr T (ia_cons (c_mul (ie_lst (ia_cons (ie_sl (ie_var (pv 1)) io_none (io_some (ie_neg ie_int))) ia_nil)) ie_int) ia_nil)))))))
/-! _law_right -/
abbrev s__law_right : Stmt := top 40
def b__law_right : SS Pt := (sSeq2 (sAsg (bTup 2 (bCons (bName 1) (bCons (bName 2) bNil))) (sCallQ 0 2 m__law_laid (sCons (sCallQ 0 2 m__law_draw (sCons (sC (.int 12)) sNil)) sNil)))
    (sSeq2 (sIfS (sTest (sBin opNe (sCall (g1 fRepr) (sCons (sLst (sCons (sCallZ 1 m_tokens (sCons (sVar 1) sNil)) (sCons (sCallZ 1 m_tokens (sCons (sBin opAdd (sVar 1) (sCallQ 0 2 m__law_pick (sCons (sLst (sCons (sC (.str "")) (sCons (sC (.str " ")) (sCons (sC (.str "\n")) (sCons (sC (.str "# $")) (sCons (sC (.str "\n\n#")) sNil)))))) sNil))) sNil)) sNil))) sNil)) (sCall (g1 fRepr) (sCons (sLst (sCons (sVar 2) (sCons (sVar 2) sNil))) sNil))))
    (sRet (sC (.bool false)))
    sSkip)
    (sSeq2 (sPar 3 4 false false (sBin opAdd (sVar 1) (sC (.str " "))) (sCallQ 0 2 m__law_pick (sCons (sLst (sCons (sC (.str "abcdefghi")) (sCons (sC (.str "aB")) (sCons (sC (.str "A")) (sCons (sC (.str "_a")) (sCons (sC (.str "9a")) (sCons (sC (.str "$")) (sCons (sC (.str ".")) (sCons (sC (.str ">")) (sCons (sC (.str "|")) (sCons (sC (.str "{")) (sCons (sC (.str "&")) (sCons (sC (.str "!")) (sCons (sC (.str "1_")) sNil)))))))))))))) sNil)))
    (sSeq2 (sIfS (sTest (sBin opNe (sCall (g1 fRepr) (sCons (sCallZ 1 m__law_refused (sCons (sBin opAdd (sBin opAdd (sVar 3) (sVar 4)) (sCallQ 0 2 m__law_pick (sCons (sLst (sCons (sC (.str "")) (sCons (sC (.str " (")) (sCons (sC (.str "\n9a")) sNil)))) sNil))) sNil)) sNil)) (sCall (g1 fRepr) (sCons (sLst (sCons (sBin opSub (sCall (g1 fLen) (sCons (sM1 gSplit (sVar 3) (sC (.str "\n"))) sNil)) (sC (.int 1))) (sCons (sCall (g1 fLen) (sCons (sBin opIx (sM1 gSplit (sVar 3) (sC (.str "\n"))) (sNeg (sC (.int 1)))) sNil)) (sCons (sC (.bool true)) sNil)))) sNil))))
    (sRet (sC (.bool false)))
    sSkip)
    (sSeq2 (sSet 5 (sLst (sCons (sC (.str "a")) (sCons (sC (.str "b")) (sCons (sC (.str "L")) (sCons (sC (.str "1")) (sCons (sC (.str "_")) (sCons (sC (.str " ")) (sCons (sC (.str "-")) (sCons (sC (.str ">")) (sCons (sC (.str "<")) (sCons (sC (.str "(")) (sCons (sC (.str "\n")) (sCons (sC (.str "#")) (sCons (sC (.str "do")) (sCons (sC (.str "$")) (sCons (sC (.str "=")) (sCons (sC (.str "to")) (sCons (sC (.str ";")) sNil)))))))))))))))))))
    (sSeq2 (sSet 6 (sBin opAdd (sLst (sCons (sC (.str "")) (sCons (sC (.str "\n")) (sCons (sC (.str "a<b")) (sCons (sC (.str "a=-1")) (sCons (sC (.str "(((")) (sCons (sC (.str "[a]*")) (sCons (sC (.str "#")) (sCons (sC (.str "all;none")) (sCons (sC (.str "1a")) (sCons (sC (.str "x1:y2")) sNil))))))))))) (sLc (sRng1 (sCons (sC (.int 6)) sNil)) (bName 8) sYes (sM1 gJoin (sC (.str "")) (sLc (sRng1 (sCons (sCallQ 0 2 m__law_draw (sCons (sC (.int 14)) sNil)) sNil)) (bName 9) sYes (sCallQ 0 2 m__law_pick (sCons (sVar 5) sNil)) [9])) [8])))
    (sSeq2 (sSet 7 (sCallQ 0 2 m__law_pick (sCons (sLst (sCons (sC (.none)) (sCons (sC (.int 5)) (sCons (sTup sNil) (sCons (sLst (sCons (sC (.str "a")) sNil)) (sCons (sTup (sCons (sC (.str "a")) (sCons (sC (.str "b")) sNil))) (sCons (sC (.bool true)) (sCons sDict0 (sCons (sBin opAdd (sC (.str "a")) (sBin opMul (sC (.str " ")) (sC (.int 12000)))) sNil))))))))) sNil)))
    (sSeq2 (sIfS (sOr (sTest (sBin opNe (sCallZ 1 m__law_refused (sCons (sVar 7) sNil)) (sLst (sCons (sC (.str "text")) (sCons (sCall (g1 fRepr) (sCons (sVar 7) sNil)) (sCons (sC (.bool true)) sNil)))))) (sTest (sBin opNe (sCallZ 1 m_tokens (sCons (sBin opAdd (sBin opMul (sC (.str " ")) (sC (.int 11999))) (sC (.str "a"))) sNil)) (sLst (sCons (sTup (sCons (sC (.str "name")) (sCons (sC (.str "a")) (sCons (sC (.int 0)) (sCons (sC (.int 11999)) sNil))))) sNil)))))
    (sRet (sC (.bool false)))
    sSkip)
    (sRet (sBin opEq (sLc (sSeq (sVar 6)) (bName 10) (sNot (sTest (sCallZ 1 m__law_string_right (sCons (sVar 10) sNil)))) (sVar 10) [10]) (sLst sNil)))))))))))
def m__law_right : List PyData → Ma Pt PyData := mDef true 11 b__law_right
theorem n__law_right : FnScope ["pot", "text", "due", "piece", "none", "some", "strings", "odd", "many", "turn", "one"] ["pot"] (defScope s__law_right) := ⟨rfl, rfl, rfl, by decide +kernel, rfl, by decide +kernel, by decide +kernel⟩
theorem ok__law_right (T0 : ∀ x ∈ bNames, mg x = none) (G : Gx K mg) (F : FunD K "_law_right" "_law_right" (defArgs s__law_right) (defBody s__law_right) (defScope s__law_right) [] [] f fd)
    (D__law_laid : DefG P w K mg base 3 "_law_laid" ["pot", "many"] [] (spR Rq K mg true 2 m__law_laid))
    (D__law_pick : DefG P w K mg base 2 "_law_pick" ["pot", "some"] [] (spR Rq K mg true 2 m__law_pick))
    (D__law_draw : DefG P w K mg base 1 "_law_draw" ["pot", "many"] [] (spR Rq K mg true 2 m__law_draw))
    (D__law_refused : DefG P w K mg base 7 "_law_refused" ["text"] [] (spR Rz K mg false 1 m__law_refused))
    (D_tokens : DefG P w K mg base 6 "tokens" ["text"] [(["text"], [0])] (spR Rz K mg false 1 m_tokens))
    (D__law_string_right : DefG P w K mg base 8 "_law_string_right" ["text"] [] (spR Rz K mg false 1 m__law_string_right))
    : FnG P w K mg base 9 f fd ["pot"] (spR Rq K mg true 1 m__law_right) :=
  def_R F n__law_right rfl (by decide) fun cdv A outer s0 H0 E0 hg hr => by
    have T : Bt mg (A.deeper (envOfC "_law_right" (defScope s__law_right) s0.heap.objs.size f cdv)) := ⟨T0, hg, by have := hr.un; omega⟩
    have nd := n__law_right.nd
    have tk : Takes (cxOf (L2.CX P w) P w K mg base ["pot", "text", "due", "piece", "none", "some", "strings", "odd", "many", "turn", "one"] "_law_right" (defScope s__law_right) f cdv A outer s0 H0 E0) (wxD E0) := takes_of rfl rfl rfl rfl
    exact (iss_cons (c_asg (pg_tup rfl (pgs_cons (pg_name nd (i := 1) rfl (by first | exact .inl rfl | exact .inr rfl)) (pgs_cons (pg_name nd (i := 2) rfl (by first | exact .inl rfl | exact .inr rfl)) pgs_nil))) (gd_tup (gds_cons gd_name (gds_cons gd_name gds_nil))) (c_callQ D__law_laid T (hr.mono (by decide)) tk (pv 0) (ia_cons (c_callQ D__law_draw T (hr.mono (by decide)) tk (pv 0) (ia_cons ie_int ia_nil)) ia_nil)))
    (iss_cons (is_if (t_ne T (c_repr T (ia_cons (ie_lst (ia_cons (c_call D_tokens T (hr.mono (by decide)) tk (ia_cons (ie_var (pv 1)) ia_nil)) (ia_cons (c_call D_tokens T (hr.mono (by decide)) tk (ia_cons (c_add (ie_var (pv 1)) (c_callQ D__law_pick T (hr.mono (by decide)) tk (pv 0) (ia_cons (ie_lst (ia_cons ie_str (ia_cons ie_str (ia_cons ie_str (ia_cons ie_str (ia_cons ie_str ia_nil)))))) ia_nil))) ia_nil)) ia_nil))) ia_nil)) (c_repr T (ia_cons (ie_lst (ia_cons (ie_var (pv 2)) (ia_cons (ie_var (pv 2)) ia_nil))) ia_nil)))
    (iss_one (is_ret ie_bl))
    iss_nil)
    (iss_cons (c_par 3 4 false false nd (c_add (ie_var (pv 1)) ie_str) (c_callQ D__law_pick T (hr.mono (by decide)) tk (pv 0) (ia_cons (ie_lst (ia_cons ie_str (ia_cons ie_str (ia_cons ie_str (ia_cons ie_str (ia_cons ie_str (ia_cons ie_str (ia_cons ie_str (ia_cons ie_str (ia_cons ie_str (ia_cons ie_str (ia_cons ie_str (ia_cons ie_str (ia_cons ie_str ia_nil)))))))))))))) ia_nil)))
    (iss_cons (is_if (t_ne T (c_repr T (ia_cons (c_call D__law_refused T (hr.mono (by decide)) tk (ia_cons (c_add (c_add (ie_var (pv 3)) (ie_var (pv 4))) (c_callQ D__law_pick T (hr.mono (by decide)) tk (pv 0) (ia_cons (ie_lst (ia_cons ie_str (ia_cons ie_str (ia_cons ie_str ia_nil)))) ia_nil))) ia_nil)) ia_nil)) (c_repr T (ia_cons (ie_lst (ia_cons (c_sub (c_len T (ia_cons (c_split (ie_var (pv 3)) ie_str) ia_nil)) ie_int) (ia_cons (c_len T (ia_cons (ie_ix (c_split (ie_var (pv 3)) ie_str) (ie_neg ie_int)) ia_nil)) (ia_cons ie_bl ia_nil)))) ia_nil)))
    (iss_one (is_ret ie_bl))
    iss_nil)
    (iss_cons (c_set 5 nd (ie_lst (ia_cons ie_str (ia_cons ie_str (ia_cons ie_str (ia_cons ie_str (ia_cons ie_str (ia_cons ie_str (ia_cons ie_str (ia_cons ie_str (ia_cons ie_str (ia_cons ie_str (ia_cons ie_str (ia_cons ie_str (ia_cons ie_str (ia_cons ie_str (ia_cons ie_str (ia_cons ie_str (ia_cons ie_str ia_nil)))))))))))))))))))
    (iss_cons (c_set 6 nd (c_add (ie_lst (ia_cons ie_str (ia_cons ie_str (ia_cons ie_str (ia_cons ie_str (ia_cons ie_str (ia_cons ie_str (ia_cons ie_str (ia_cons ie_str (ia_cons ie_str (ia_cons ie_str ia_nil))))))))))) (ie_lc rfl nd (ii_rng1 (by rfl) (T.fr _ (by decide +kernel)) (ia_cons ie_int ia_nil)) (blkOk_by (own := [("many", 8)]) (by rfl)) (fun s_ H_ C_ cl_ fp_ => (pg_name nd (i := 8) rfl (by first | exact .inl rfl | exact .inr rfl))) gd_name (by decide) (fun s_ H_ C_ cl_ fp_ => its_nil) (fun s_ H_ C_ cl_ fp_ => (c_join ie_str (ie_lc rfl nd (ii_rng1 (by rfl) (T.fr _ (by decide +kernel)) (ia_cons (c_callQ D__law_draw T (hr.mono (by decide)) takes0 (pv 0) (ia_cons ie_int ia_nil)) ia_nil)) (blkOk_by (own := [("turn", 9)]) (by rfl)) (fun s_ H_ C_ cl_ fp_ => (pg_name nd (i := 9) rfl (by first | exact .inl rfl | exact .inr rfl))) gd_name (by decide) (fun s_ H_ C_ cl_ fp_ => its_nil) (fun s_ H_ C_ cl_ fp_ => (c_callQ D__law_pick T (hr.mono (by decide)) takes0 (pv 0) (ia_cons (ie_var (pv 5)) ia_nil)))))))))
    (iss_cons (c_set 7 nd (c_callQ D__law_pick T (hr.mono (by decide)) tk (pv 0) (ia_cons (ie_lst (ia_cons ie_non (ia_cons ie_int (ia_cons (ie_tup ia_nil) (ia_cons (ie_lst (ia_cons ie_str ia_nil)) (ia_cons (ie_tup (ia_cons ie_str (ia_cons ie_str ia_nil))) (ia_cons ie_bl (ia_cons c_dict0 (ia_cons (c_add ie_str (c_mul ie_str ie_int)) ia_nil))))))))) ia_nil)))
    (iss_cons (is_if (it_w (iw_or (t_ne T (c_call D__law_refused T (hr.mono (by decide)) tk (ia_cons (ie_var (pv 7)) ia_nil)) (ie_lst (ia_cons ie_str (ia_cons (c_repr T (ia_cons (ie_var (pv 7)) ia_nil)) (ia_cons ie_bl ia_nil))))) (iw_or1 (t_ne T (c_call D_tokens T (hr.mono (by decide)) tk (ia_cons (c_add (c_mul ie_str ie_int) ie_str) ia_nil)) (ie_lst (ia_cons (ie_tup (ia_cons ie_str (ia_cons ie_str (ia_cons ie_int (ia_cons ie_int ia_nil))))) ia_nil))))))
    (iss_one (is_ret ie_bl))
    iss_nil)
    (iss_one (is_ret (c_eq T (ie_lc rfl nd (ii_seq (ie_var (pv 6))) (blkOk_by (own := [("one", 10)]) (by rfl)) (fun s_ H_ C_ cl_ fp_ => (pg_name nd (i := 10) rfl (by first | exact .inl rfl | exact .inr rfl))) gd_name (by decide) (fun s_ H_ C_ cl_ fp_ => (its_one (it_not (it_val (c_call D__law_string_right T (hr.mono (by decide)) takes0 (ia_cons (ie_var (pv 10)) ia_nil)))))) (fun s_ H_ C_ cl_ fp_ => (ie_var (pv 10)))) (ie_lst ia_nil))))))))))))
end Lk18
set_option maxHeartbeats 4000000
namespace Lk18
open PySem PySem.Spec PyProof.Rows L2 Fw
variable {P : Program} {w : World} {K : Fg} {mg : Str → Option Value} {base : Heap} {f : Addr} {fd : FuncData}
/-! ### the pot is made -/
theorem sqL_same {H H' : Hp} {a : Addr} {xs : List V} (h : SqL K H a xs) (s : Same H H') : SqL K H' a xs := by
  rcases h with (h | ⟨o, h⟩) | h
  · exact .inl (.inl (s a _ h))
  · exact .inl (.inr ⟨o, s a _ h⟩)
  · exact .inr h
def spPot (K : Fg) : Sp := fun vs H Q _ => ∃ (a : Addr) (ns : List Int), vs = [.ref a] ∧ ns.length ≤ 63 ∧ SqL K H a (ns.map V.int) ∧ ∀ (b c : Addr) (H' : Hp) (cs : List Int) (m : Int), H' b = some (.lst [.ref c, .int 0, .int m]) → H' c = some (.lst (cs.map V.int)) → Q (.ref b) H'
abbrev s__law_pot : Stmt := top 30
theorem n__law_pot : FnScope ["script", "cells", "cell"] ["script"] (defScope s__law_pot) := ⟨rfl, rfl, rfl, by decide +kernel, rfl, by decide +kernel, by decide +kernel⟩
theorem ok__law_pot (T0 : ∀ x ∈ bNames, mg x = none) (F : FunD K "_law_pot" "_law_pot" (defArgs s__law_pot) (defBody s__law_pot) (defScope s__law_pot) [] [] f fd) : FnG P w K mg base 1 f fd ["script"] (spPot K) := by
  refine funD_g F n__law_pot (fun vs H Q E ⟨a, ns, h, _⟩ => by rw [h]; rfl) fun cdv A outer s0 H0 vs Q E0 hg hr ⟨a, ns, ev, hl, sq, q⟩ => ?_
  subst ev
  have nd := n__law_pot.nd
  refine ⟨_, pss_cons (ps_setLc (i := 1) rfl nd rfl rfl (by rfl) (pi_list (pv 0)) (blkOk_by (own := [("cell", 2)]) (by rfl)) (fun s_ H_ C_ cl_ fp_ => pg_name nd (i := 2) rfl (by first | exact .inl rfl | exact .inr rfl)) (fun s_ H_ C_ cl_ fp_ => pts_nil)
      (fun s_ H_ C_ cl_ fp_ => pe_callB call_abs (by rfl) (T0 _ (by decide +kernel)) boot_abs (pa_cons (pv 2) pa_nil)))
    (pss_one (ps_ret (pe_lst (pa_cons (pv 1) (pa_cons pe_int (pa_cons (pe_op op_add (pe_op op_mod (pe_callTy call_int1 (by rfl) (T0 _ (by decide +kernel)) boot_int (pa_cons (pe_op op_add (pe_callB (cr_sum rfl) (by rfl) (T0 _ (by decide +kernel)) boot_sum (pa_cons (pv 1) pa_nil)) pe_int) pa_nil)) pe_int) pe_int) pa_nil)))))), ?_⟩
  refine ⟨.ref a, rfl, a, rfl, ⟨_, sq⟩, fun D nD => ⟨fun i m H' => m = ns.length - i ∧ i ≤ ns.length ∧ Same H0 H' ∧ ∃ cs : List Int, H' D = some (.lst (cs.map V.int)) ∧ cs.length ≤ i, ⟨ns.length, rfl, Nat.zero_le _, same_new nD, [], upd_same, Nat.zero_le _⟩, ?_⟩⟩
  rintro i m H' ⟨rfl, hle, sm, cs, hD, hc⟩
  have sq' := sqL_same sq sm
  by_cases hlt : i < ns.length
  · refine .inr ⟨⟨_, .int ns[i], sq', by rw [List.getElem?_map, List.getElem?_eq_getElem hlt]; rfl⟩, fun H2 => i + 1 ≤ ns.length ∧ Same H0 H2 ∧ ∃ cs : List Int, H2 D = some (.lst (cs.map V.int)) ∧ cs.length ≤ i + 1, fun H2 z => ⟨ns.length - (i + 1), by omega, rfl, z⟩, fun x H2 ⟨e2, hx⟩ => ?_⟩
    subst e2
    have z := hx _ sq'
    rw [List.getElem?_map, List.getElem?_eq_getElem hlt] at z
    cases z
    refine ⟨rfl, .int ns[i], rfl, ns[i], rfl, cs.map V.int, hD, by rw [List.length_map, line_eq]; unfold line; omega, hlt, ?_, cs ++ [if ns[i] < 0 then -ns[i] else ns[i]], ?_, by simp; omega⟩
    · intro b o e
      have nb : b ≠ D := fun y => by rw [y, nD] at e; cases e
      rw [upd_ne nb]
      exact sm b o e
    · rw [upd_same, List.map_append]
      rfl
  · refine .inl ⟨⟨_, sq', by rw [List.length_map]; omega⟩, ?_⟩
    refine ⟨.ref D, rfl, .ref D, rfl, D, cs, rfl, SqL.of hD, _, _, rfl, rfl, .inl ⟨_, rfl, _, _, rfl, rfl, (by show (0 : Int) < 2147483549; decide), _, _, rfl, rfl, (by rw [line_eq]; unfold line; simp), fun p np => ?_⟩⟩
    have ne : D ≠ p := fun y => by rw [← y, hD] at np; cases np
    exact q p D _ cs _ upd_same (by rw [upd_ne ne]; exact hD)
/-! ### the law -/
def spLaw (K : Fg) : Sp := fun vs H Q _ => ∃ (a : Addr) (ns : List Int), vs = [.ref a] ∧ ns.length ≤ 63 ∧ SqL K H a (ns.map V.int) ∧ ∀ H', Q (.bl true) H'
abbrev s_law : Stmt := top 41
theorem n_law : FnScope ["script"] ["script"] (defScope s_law) := ⟨rfl, rfl, rfl, by decide +kernel, rfl, by decide +kernel, by decide +kernel⟩
/-- what is left: every pot is answered by True -/
def Right : Prop := ∀ (cs : List Int) (m : Int), ∃ p, m__law_right [] ⟨some cs, [0, m]⟩ = .ok (.bool true) p
theorem ok_law (R0 : Right) (F : FunD K "law" "law" (defArgs s_law) (defBody s_law) (defScope s_law) [] [] f fd) (D2 : DefG P w K mg base 9 "_law_right" ["pot"] [] (spR Rq K mg true 1 m__law_right)) (D1 : DefG P w K mg base 1 "_law_pot" ["script"] [] (spPot K)) : FnG P w K mg base 10 f fd ["script"] (spLaw K) := by
  refine funD_g F n_law (fun vs H Q E ⟨a, ns, h, _⟩ => by rw [h]; rfl) fun cdv A outer s0 H0 vs Q E0 hg hr ⟨a, ns, ev, hl, sq, q⟩ => ?_
  subst ev
  have nd := n_law.nd
  obtain ⟨f1, d1, F1, m1, k1, b1, _⟩ := D1.ex
  obtain ⟨f2, d2, F2, m2, k2, b2, _⟩ := D2.ex
  have tk : Takes (cxOf (L2.CX P w) P w K mg base ["script"] "law" (defScope s_law) f cdv A outer s0 H0 E0) (wxD E0) := takes_of rfl rfl rfl rfl
  refine ⟨_, pss_one (ps_ret (pe_callG F2 hg (hr.mono (by decide)) (by rfl) m2 k2 b2 .nil (fun σ => passAt tk σ) (pa_cons (pe_callG F1 hg (hr.mono (by decide)) (by rfl) m1 k1 b1 .nil (fun σ => passAt tk σ) (pa_cons (pv 0) pa_nil)) pa_nil))), ?_⟩
  refine ⟨.ref a, rfl, a, ns, rfl, hl, sq, fun b c H' cs m hb hc => ⟨rfl, [b, c], ⟨some cs, [0, m]⟩, fun x => x ∈ [b, c], [], fun x hx => ?_, fun x hx => hx, ⟨b, c, ⟨rfl, hc⟩, hb⟩, ⟨b, [], rfl, rfl, .nil⟩, ?_⟩⟩
  · simp at hx
    rcases hx with hx | hx
    · exact ⟨_, by rw [hx]; exact hb⟩
    · exact ⟨_, by rw [hx]; exact hc⟩
  · obtain ⟨p, e⟩ := R0 cs m
    rw [e]
    intro v H2 _ _ h
    have ev := Dt.bl_of h
    subst ev
    exact q H2
end Lk18
set_option maxHeartbeats 4000000
namespace Lk18
open PySem PySem.Spec PyProof.Rows L2 Fw
open SX (S)
/-! ### signs -/
abbrev LET : Str := "abcdefghijklmnopqrstuvwxyzABCDEFGHIJKLMNOPQRSTUVWXYZ"
abbrev DIG : Str := "0123456789"
abbrev SMA : Str := "abcdefghijklmnopqrstuvwxyz"
/-- a sign of a word -/
def wch (c : Nat) : Bool := inB c LET || (inB c DIG || decide (c = 95))
theorem us_lit : ("_" : Str) = S [95] := by decide +kernel
theorem wch_lt {c : Nat} (h : wch c = true) : c < 128 := by
  have a : ∀ x ∈ LET.cps.toList, x < 128 := by decide +kernel
  have b : ∀ x ∈ DIG.cps.toList, x < 128 := by decide +kernel
  simp only [wch, inB, Bool.or_eq_true, decide_eq_true_eq] at h
  rcases h with h | h | h
  · exact a c h
  · exact b c h
  · omega
/-- how many of l are of a word, from its start -/
def wlen (l : List Nat) : Nat := (l.takeWhile wch).length
theorem wlen_nil : wlen [] = 0 := rfl
theorem wlen_yes {c : Nat} {l : List Nat} (h : wch c = true) : wlen (c :: l) = wlen l + 1 := by simp [wlen, h]
theorem wlen_no {c : Nat} {l : List Nat} (h : wch c = false) : wlen (c :: l) = 0 := by simp [wlen, h]
theorem wlen_le : ∀ l : List Nat, wlen l ≤ l.length
  | [] => by simp [wlen]
  | c :: l => by
    cases h : wch c with
    | true => rw [wlen_yes h, List.length_cons]; have := wlen_le l; omega
    | false => rw [wlen_no h]; omega
theorem take_wlen : ∀ l : List Nat, l.take (wlen l) = l.takeWhile wch
  | [] => rfl
  | c :: l => by
    cases h : wch c with
    | true => rw [wlen_yes h, List.take_succ_cons, take_wlen l, List.takeWhile_cons, h]; rfl
    | false => rw [wlen_no h, List.takeWhile_cons, h]; rfl
/-! ### run_from -/
abbrev Tx (l : List Nat) : Slot := .val (.str (S l))
abbrev Ix (k : Nat) : Slot := .val (.int (k : Int))
theorem c1_run (l : List Nat) (c k : Nat) (h : l.length ≤ line) (ok : ∀ c ∈ l, c < 128) : c1_run_from [Tx l, Ix c, Ix k] () = .ok (match l[k]? with | some x => wch x | none => false) () := by
  cases hx : l[k]? with
  | none =>
    have hk : ¬ (k < l.length) := by
      have := List.getElem?_eq_none_iff.mp hx
      omega
    simp [c1_run_from, len_S h, hk]
  | some x =>
    obtain ⟨hk, hxx⟩ := List.getElem?_eq_some_iff.mp hx
    have hx128 : x < 128 := ok x (by rw [← hxx]; exact List.getElem_mem hk)
    have e1 : opEq (.str (S [x])) (.str "_") = some (.bool (decide (x = 95))) := by
      rw [us_lit, eq_S (by simpa using hx128) (by simp)]
      simp
    unfold wch
    cases h1 : inB x LET <;> cases h2 : inB x DIG <;> simp [c1_run_from, len_S h, hk, ix_S h hx, in_S, e1, h1, h2]
theorem w2_run (l : List Nat) (c k : Nat) : w2_run_from [Tx l, Ix c, Ix k] () = .nx [Tx l, Ix c, Ix (k + 1)] () := by
  simp [w2_run_from, kAug]
theorem run_loop (l : List Nat) (c : Nat) (h : l.length ≤ line) (ok : ∀ c ∈ l, c < 128) : ∀ (n k : Nat), l.length < n + k → k ≤ l.length → sWhile c1_run_from w2_run_from n [Tx l, Ix c, Ix k] () = .nx [Tx l, Ix c, Ix (k + wlen (l.drop k))] ()
  | 0, k, hn, hk => by omega
  | n + 1, k, hn, hk => by
    unfold sWhile
    rw [c1_run l c k h ok]
    cases hx : l[k]? with
    | none =>
      have hd : l.drop k = [] := by
        have := List.getElem?_eq_none_iff.mp hx
        rw [List.drop_eq_nil_iff]
        omega
      simp [hd, wlen_nil]
    | some x =>
      obtain ⟨hk, hxx⟩ := List.getElem?_eq_some_iff.mp hx
      have hd : l.drop k = x :: l.drop (k + 1) := by rw [List.drop_eq_getElem_cons hk, hxx]
      cases hw : wch x with
      | false => simp [hw, hd, wlen_no hw]
      | true =>
        have ih := run_loop l c h ok n (k + 1) (by omega) hk
        simp only [hw, w2_run]
        rw [ih, hd, wlen_yes hw, show k + 1 + wlen (l.drop (k + 1)) = k + (wlen (l.drop (k + 1)) + 1) by omega]
/-- the run of a word at c -/
def runAt (l : List Nat) (c : Nat) : List Nat := (l.drop c).takeWhile wch
theorem m_run (l : List Nat) (c : Nat) (h : l.length < line) (ok : ∀ c ∈ l, c < 128) (hc : c ≤ l.length) : m_run_from [.str (S l), .int c] () = .ok (.str (S (runAt l c))) () := by
  have hl : wlen (l.drop c) ≤ l.length - c := by have := wlen_le (l.drop c); rw [List.length_drop] at this; exact this
  have loop := run_loop l c (Nat.le_of_lt h) ok line c (by omega) hc
  simp only [m_run_from, mDef, startE, b_run_from, List.map_cons, List.map_nil, List.length_cons, List.length_nil]
  simp [loop, cut_S2 (Nat.le_of_lt h) (show c + wlen (l.drop c) ≤ l.length by omega), take_wlen, fin, runAt]
/-! ### sorts -/
inductive Sr where
  | fig | word | name | no | sign | fin
  deriving DecidableEq
def Sr.s : Sr → Str
  | .fig => "figures"
  | .word => "word"
  | .name => "name"
  | .no => "none"
  | .sign => "sign"
  | .fin => "end"
def RES : List PyData := [.str "all", .str "and", .str "below", .str "bool", .str "call", .str "cell", .str "channel", .str "do", .str "each", .str "else", .str "end", .str "false", .str "form", .str "fst", .str "function", .str "give", .str "if", .str "in", .str "input", .str "int", .str "many", .str "more", .str "none", .str "not", .str "or", .str "pick", .str "readers", .str "release", .str "sees", .str "snd", .str "tell", .str "times", .str "to", .str "true"]
def resv (r : List Nat) : Bool := RES.any fun z => PyData.eqv z (.str (S r))
def figs (r : List Nat) : Bool := r.all fun c => inB c DIG
abbrev NCH : Str := "abcdefghijklmnopqrstuvwxyz0123456789_"
def nam (r : List Nat) : Bool := decide (r.length ≤ 8) && ((r.head?.any fun c => inB c SMA) && r.all fun c => inB c NCH)
def srt (r : List Nat) : Sr := if figs r then .fig else if resv r then .word else if nam r then .name else .no
theorem shaped_RES : SeqAt.shaped (.tuple RES) = true := by decide +kernel
theorem in_RES {r : List Nat} (h : ∀ c ∈ r, c < 128) : opIn (.str (S r)) (.tuple RES) = some (.bool (resv r)) := by
  show Option.map PyData.bool (if (SeqAt.shaped (.str (S r)) && SeqAt.shaped (.tuple RES)) = true then some (RES.any fun z => PyData.eqv z (.str (S r))) else none) = _
  rw [shaped_str h, shaped_RES]
  rfl
theorem all_in {π : Type} {env : Evn} {p : π} (r : List Nat) (z : Str) (i : Nat) (e : SE π) (he : ∀ c : Nat, e ((wipeE env [i]).set i (.val (.str (S [c])))) p = .ok (.st (.bool (inB c z))) p) (h : r.length ≤ line) :
    lcGo (bName i) sYes e (wipeE env [i]) (r.map fun c => .str (S [c])) [] p = .ok (r.map fun c => .bool (inB c z)) p := by
  rw [lc_map (fun _ => true) (fun d => match d with | .str x => .bool (match x.cps.toList with | [c] => inB c z | _ => false) | _ => .none) (r.map fun c => .str (S [c])) [] ?_ (by simpa using h)]
  · rw [List.filter_eq_self.mpr (fun _ _ => rfl)]
    simp [Function.comp_def]
  · intro d hd
    obtain ⟨c, _, rfl⟩ := List.mem_map.mp hd
    exact ⟨_, rfl, rfl, fun _ => ⟨_, he c, by simp⟩⟩
theorem lits : ("abcdefghijklmnopqrstuvwxyz" : Str).length + ("0123456789" : Str).length ≤ line ∧ (("abcdefghijklmnopqrstuvwxyz" : Str) ++ ("0123456789" : Str)).length + ("_" : Str).length ≤ line ∧ ("abcdefghijklmnopqrstuvwxyz" : Str) ++ ("0123456789" : Str) ++ ("_" : Str) = NCH := by decide +kernel
theorem add1 : opAdd (.str "abcdefghijklmnopqrstuvwxyz") (.str "0123456789") = some (.str (("abcdefghijklmnopqrstuvwxyz" : Str) ++ ("0123456789" : Str))) := by
  show (if ("abcdefghijklmnopqrstuvwxyz" : Str).length + ("0123456789" : Str).length ≤ line then some (PyData.str (("abcdefghijklmnopqrstuvwxyz" : Str) ++ ("0123456789" : Str))) else none) = _
  rw [if_pos lits.1]
theorem add2 : opAdd (.str (("abcdefghijklmnopqrstuvwxyz" : Str) ++ ("0123456789" : Str))) (.str "_") = some (.str NCH) := by
  show (if (("abcdefghijklmnopqrstuvwxyz" : Str) ++ ("0123456789" : Str)).length + ("_" : Str).length ≤ line then some (PyData.str (("abcdefghijklmnopqrstuvwxyz" : Str) ++ ("0123456789" : Str) ++ ("_" : Str))) else none) = _
  rw [if_pos lits.2.1, lits.2.2]
theorem alln (f : Nat → Bool) (r : List Nat) : fAll (.list (r.map fun c => .bool (f c))) = some (.st (.bool (r.all f))) := by
  unfold fAll
  simp only [boolsOf_mapS, Option.map_some]
  congr 3
  simp [List.all_map]
theorem m_name (r : List Nat) (h : r.length ≤ line) (ok : ∀ c ∈ r, c < 128) (h0 : r ≠ []) (hr : resv r = false) : m_is_name [.str (S r)] () = .ok (.bool (nam r)) () := by
  have hin := in_RES ok
  rw [hr] at hin
  unfold RES at hin
  have hlen := len_S h
  obtain ⟨c, hc0⟩ : ∃ c, r.head? = some c := by
    cases r with
    | nil => exact absurd rfl h0
    | cons c t => exact ⟨c, rfl⟩
  have hx : opIx (.str (S r)) (.int 0) = some (.str (S [c])) := ix_S (k := 0) h (by rw [← List.head?_eq_getElem?]; exact hc0)
  have hall := all_in (π := Unit) (env := [Tx r, .emp]) (p := ()) r NCH 1 (sBin opIn (sVar 1) (sBin opAdd (sBin opAdd (sC (.str "abcdefghijklmnopqrstuvwxyz")) (sC (.str "0123456789"))) (sC (.str "_")))) (fun c => by simp [add1, add2, in_S]) h
  simp only [u_wipe0, u_wipe1, List.set_cons_succ, List.set_cons_zero] at hall
  obtain ⟨n, hn⟩ : ∃ n, r.length = n := ⟨_, rfl⟩
  rw [hn] at hlen
  unfold nam
  have h1 : (1 : Int) ≤ (n : Int) := by
    have := List.length_pos_iff.mpr h0
    omega
  by_cases h8 : n ≤ 8
  · have h8' : (n : Int) ≤ 8 := by omega
    cases hc : inB c SMA with
    | false => simp [m_is_name, mDef, startE, b_is_name, fin, isTy, tyName, isTyN, sChain, hlen, h1, h8', h8, hin, hx, in_S, hc, hn, hc0]
    | true => simp [m_is_name, mDef, startE, b_is_name, fin, isTy, tyName, isTyN, sChain, hlen, h1, h8', h8, hin, hx, in_S, hc, hn, hall, items_S, alln, hc0]
  · have h8' : ¬ (n : Int) ≤ 8 := by omega
    simp [m_is_name, mDef, startE, b_is_name, fin, isTy, tyName, isTyN, sChain, hlen, h1, h8', h8, hn]
theorem m_sort (r : List Nat) (h : r.length ≤ line) (ok : ∀ c ∈ r, c < 128) (h0 : r ≠ []) : m_sort_of [.str (S r)] () = .ok (.str (srt r).s) () := by
  have hin := in_RES ok
  unfold RES at hin
  have hall := all_in (π := Unit) (env := [Tx r, .emp]) (p := ()) r DIG 1 (sBin opIn (sVar 1) (sC (.str "0123456789"))) (fun c => by simp [in_S]) h
  simp only [u_wipe0, u_wipe1, List.set_cons_succ, List.set_cons_zero] at hall
  unfold srt figs
  cases hf : r.all fun c => inB c DIG with
  | true => simp [m_sort_of, mDef, startE, b_sort_of, fin, hall, items_S, alln, hf, Sr.s]
  | false =>
    cases hr : resv r with
    | true =>
      rw [hr] at hin
      simp [m_sort_of, mDef, startE, b_sort_of, fin, hall, items_S, alln, hf, Sr.s, hin]
    | false =>
      rw [hr] at hin
      have hn := m_name r h ok h0 hr
      cases hm : nam r with
      | true => rw [hm] at hn; simp [m_sort_of, mDef, startE, b_sort_of, fin, hall, items_S, alln, hf, Sr.s, hin, hn]
      | false => rw [hm] at hn; simp [m_sort_of, mDef, startE, b_sort_of, fin, hall, items_S, alln, hf, Sr.s, hin, hn]
end Lk18
set_option maxHeartbeats 4000000
namespace Lk18
open PySem PySem.Spec PyProof.Rows L2 Fw
open SX (S)
abbrev SIN : Str := "()[],:;=<+-*"
theorem lit0 : ("" : Str) = S [] := by decide +kernel
theorem lit_sp : (" " : Str) = S [32] := by decide +kernel
theorem lit_ha : ("#" : Str) = S [35] := by decide +kernel
theorem lit_nl : ("\n" : Str) = S [10] := by decide +kernel
theorem shaped_str' {x : Str} (h : x.cps.toList.all (· < 128) = true) : SeqAt.shaped (.str x) = true := by
  have := shaped_str (l := x.cps.toList) (fun c hc => by simpa using List.all_eq_true.mp h c hc)
  rwa [SX.S_tl] at this
theorem eq_str {x y : Str} (hx : x.cps.toList.all (· < 128) = true) (hy : y.cps.toList.all (· < 128) = true) : opEq (.str x) (.str y) = some (.bool (decide (x = y))) := by
  unfold opEq
  rw [shaped_str' hx, shaped_str' hy, eqv_str]
  rfl
theorem eq_no (s : Sr) : opEq (.str s.s) (.str "none") = some (.bool (decide (s = .no))) := by
  rw [eq_str (by cases s <;> decide +kernel) (by decide +kernel)]
  have : decide (s.s = ("none" : Str)) = decide (s = .no) := by cases s <;> decide +kernel
  rw [this]
/-! ### next_in -/
/-- what stands at the start of a rest: its sort, its signs -/
def nxt (l : List Nat) : Sr × List Nat := if l.takeWhile wch ≠ [] then (srt (l.takeWhile wch), l.takeWhile wch) else match l with
  | x :: _ => (if inB x SIN then .sign else .no, [x])
  | [] => (.no, [])
theorem m_next (l : List Nat) (c x : Nat) (h : l.length < line) (ok : ∀ c ∈ l, c < 128) (hx : l[c]? = some x) : m_next_in [.str (S l), .int c] () = .ok (.tuple [.str (nxt (l.drop c)).1.s, .str (S (nxt (l.drop c)).2)]) () := by
  obtain ⟨hc, hxx⟩ := List.getElem?_eq_some_iff.mp hx
  have hd : l.drop c = x :: l.drop (c + 1) := by rw [List.drop_eq_getElem_cons hc, hxx]
  have hrun := m_run l c h ok (Nat.le_of_lt hc)
  have okr : ∀ z ∈ runAt l c, z < 128 := fun z hz => ok z (List.mem_of_mem_drop ((List.takeWhile_sublist _).subset hz))
  have hne : opNe (.str (S (runAt l c))) (.str "") = some (.bool (!decide (runAt l c = []))) := by rw [lit0]; exact ne_S okr (by simp)
  have hlr : (runAt l c).length ≤ line := by
    have h1 := (List.takeWhile_sublist (l := l.drop c) wch).length_le
    rw [List.length_drop] at h1
    unfold runAt
    omega
  have hix := ix_S (Nat.le_of_lt h) hx
  have h2 : (2 : Nat) ≤ line := by decide
  unfold nxt
  by_cases h0 : runAt l c = []
  · have h0' : (l.drop c).takeWhile wch = [] := h0
    rw [if_neg (by rw [h0']; simp), hd]
    rw [h0] at hne hrun
    simp only [decide_true, Bool.not_true] at hne
    cases hs : inB x SIN <;> simp [m_next_in, mDef, startE, b_next_in, hrun, hne, h0, fin, hix, in_S, hs, h2, Sr.s]
  · have h0' : ¬ (l.drop c).takeWhile wch = [] := h0
    have hso := m_sort (runAt l c) hlr okr h0
    rw [if_pos h0']
    simp [m_next_in, mDef, startE, b_next_in, hrun, hne, h0, fin, hso, h2]
    exact ⟨rfl, rfl⟩
/-! ### row_tokens -/
structure Tk where
  s : Sr
  x : List Nat
  r : Nat
  c : Nat
def Tk.d (t : Tk) : PyData := .tuple [.str t.s.s, .str (S t.x), .int t.r, .int t.c]
/-- the tokens of a line's rest, from the place c on (n: enough turns) -/
def scn (row : Nat) : Nat → Nat → List Nat → List Tk
  | 0, _, _ => []
  | _ + 1, _, [] => []
  | n + 1, c, x :: t => if x = 35 then [] else if x = 32 then scn row n (c + 1) t else
    ⟨(nxt (x :: t)).1, (nxt (x :: t)).2, row, c⟩ :: (if (nxt (x :: t)).1 = .no then [] else scn row n (c + (nxt (x :: t)).2.length) ((x :: t).drop (nxt (x :: t)).2.length))
theorem nxt_pos (x : Nat) (t : List Nat) : 1 ≤ (nxt (x :: t)).2.length ∧ (nxt (x :: t)).2.length ≤ (x :: t).length := by
  unfold nxt
  by_cases h : (x :: t).takeWhile wch = []
  · rw [if_neg (by rw [h]; simp)]
    simp
  · rw [if_pos h]
    exact ⟨List.length_pos_iff.mpr h, (List.takeWhile_sublist _).length_le⟩
abbrev Fx (l : List Tk) : Slot := .own (.list (l.map Tk.d))
theorem c1_row (row : Nat) (l : List Nat) (fd : List Tk) (c : Nat) (s4 s5 : Slot) (h : l.length ≤ line) (ok : ∀ c ∈ l, c < 128) :
    c1_row_tokens [Ix row, Tx l, Fx fd, Ix c, s4, s5] () = .ok (match l[c]? with | some x => !decide (x = 35) | none => false) () := by
  cases hx : l[c]? with
  | none =>
    have hk : ¬ (c < l.length) := by
      have := List.getElem?_eq_none_iff.mp hx
      omega
    simp [c1_row_tokens, len_S h, hk]
  | some x =>
    obtain ⟨hk, hxx⟩ := List.getElem?_eq_some_iff.mp hx
    have hx128 : x < 128 := ok x (by rw [← hxx]; exact List.getElem_mem hk)
    have e1 : opNe (.str (S [x])) (.str "#") = some (.bool (!decide (x = 35))) := by
      rw [lit_ha, ne_S (by simpa using hx128) (by simp)]
      simp
    simp [c1_row_tokens, len_S h, hk, ix_S h hx, e1]
theorem row_loop (row : Nat) (l : List Nat) (h : l.length < line) (ok : ∀ c ∈ l, c < 128) : ∀ (n m c : Nat) (fd : List Tk) (s4 s5 : Slot), l.length < n + c → c ≤ l.length → l.length ≤ m + c → fd.length ≤ c →
    ∃ c' s4' s5', sWhile c1_row_tokens w2_row_tokens n [Ix row, Tx l, Fx fd, Ix c, s4, s5] () = .nx [Ix row, Tx l, Fx (fd ++ scn row m c (l.drop c)), Ix c', s4', s5'] ()
  | 0, _, _, _, _, _, hn, hc, _, _ => by omega
  | n + 1, m, c, fd, s4, s5, hn, hc, hm, hf => by
    unfold sWhile
    rw [c1_row row l fd c s4 s5 (Nat.le_of_lt h) ok]
    cases hx : l[c]? with
    | none =>
      have hd : l.drop c = [] := by
        have := List.getElem?_eq_none_iff.mp hx
        rw [List.drop_eq_nil_iff]
        omega
      refine ⟨c, s4, s5, ?_⟩
      rw [hd]
      cases m <;> simp [scn]
    | some x =>
      obtain ⟨hk, hxx⟩ := List.getElem?_eq_some_iff.mp hx
      have hd : l.drop c = x :: l.drop (c + 1) := by rw [List.drop_eq_getElem_cons hk, hxx]
      obtain ⟨m', rfl⟩ : ∃ m', m = m' + 1 := ⟨m - 1, by omega⟩
      by_cases h35 : x = 35
      · refine ⟨c, s4, s5, ?_⟩
        simp [hd, scn, h35]
      · simp only [h35, decide_false, Bool.not_false]
        have hx128 : x < 128 := ok x (by rw [← hxx]; exact List.getElem_mem hk)
        have hix := ix_S (Nat.le_of_lt h) hx
        have e32 : opEq (.str (S [x])) (.str " ") = some (.bool (decide (x = 32))) := by
          rw [lit_sp, eq_S (by simpa using hx128) (by simp)]
          simp
        by_cases h32 : x = 32
        · have hb : w2_row_tokens [Ix row, Tx l, Fx fd, Ix c, s4, s5] () = .nx [Ix row, Tx l, Fx fd, Ix (c + 1), s4, s5] () := by
            rw [decide_eq_true h32] at e32
            simp [w2_row_tokens, hix, e32, kAug]
          obtain ⟨c', a, b, ih⟩ := row_loop row l h ok n m' (c + 1) fd s4 s5 (by omega) hk (by omega) (by omega)
          refine ⟨c', a, b, ?_⟩
          rw [hb]
          simp only [ih]
          rw [hd, scn, if_neg h35, if_pos h32]
        · rw [decide_eq_false h32] at e32
          have hnx := m_next l c x h ok hx
          rw [hd] at hnx
          obtain ⟨hp1, hp2⟩ := nxt_pos x (l.drop (c + 1))
          obtain ⟨⟨s, y⟩, hsy⟩ : ∃ z, nxt (x :: l.drop (c + 1)) = z := ⟨_, rfl⟩
          rw [hsy] at hnx hp1 hp2
          have hp3 : c + y.length ≤ l.length := by
            have e := congrArg List.length hd
            rw [List.length_drop] at e
            dsimp only at hp2
            omega
          have h4 : (4 : Nat) ≤ line := by decide
          have hfl : fd.length < line := by omega
          have hly : y.length ≤ line := by omega
          have esc : scn row (m' + 1) c (x :: l.drop (c + 1)) = ⟨s, y, row, c⟩ :: (if s = .no then [] else scn row m' (c + y.length) ((x :: l.drop (c + 1)).drop y.length)) := by rw [scn, if_neg h35, if_neg h32, hsy]
          by_cases hs : s = .no
          · have hb : w2_row_tokens [Ix row, Tx l, Fx fd, Ix c, s4, s5] () = .nx [Ix row, Tx l, Fx (fd ++ [⟨s, y, row, c⟩]), Ix l.length, .val (.str s.s), .val (.str (S y))] () := by
              simp [w2_row_tokens, hix, e32, hnx, bTup, bCons, bNil, h4, hfl, eq_no, hs, len_S (Nat.le_of_lt h), Tk.d]
            obtain ⟨c', a, b, ih⟩ := row_loop row l h ok n 0 l.length (fd ++ [⟨s, y, row, c⟩]) (.val (.str s.s)) (.val (.str (S y))) (by omega) (Nat.le_refl _) (by omega) (by simp; omega)
            refine ⟨c', a, b, ?_⟩
            rw [hb]
            simp only [ih]
            rw [hd, esc, if_pos hs, List.drop_length]
            simp [scn]
          · have hb : w2_row_tokens [Ix row, Tx l, Fx fd, Ix c, s4, s5] () = .nx [Ix row, Tx l, Fx (fd ++ [⟨s, y, row, c⟩]), Ix (c + y.length), .val (.str s.s), .val (.str (S y))] () := by
              simp [w2_row_tokens, hix, e32, hnx, bTup, bCons, bNil, h4, hfl, eq_no, hs, len_S hly, Tk.d]
            obtain ⟨c', a, b, ih⟩ := row_loop row l h ok n m' (c + y.length) (fd ++ [⟨s, y, row, c⟩]) (.val (.str s.s)) (.val (.str (S y))) (by dsimp only at hp1; omega) hp3 (by dsimp only at hp1; omega) (by simp; dsimp only at hp1; omega)
            refine ⟨c', a, b, ?_⟩
            rw [hb]
            simp only [ih]
            rw [hd, esc, if_neg hs, ← hd, List.drop_drop]
            simp
/-- the tokens of a line -/
def rowT (row : Nat) (l : List Nat) : List Tk := scn row l.length 0 l
theorem m_row (row : Nat) (l : List Nat) (h : l.length < line) (ok : ∀ c ∈ l, c < 128) : m_row_tokens [.int row, .str (S l)] () = .ok (.list ((rowT row l).map Tk.d)) () := by
  obtain ⟨c', a, b, loop⟩ := row_loop row l h ok line l.length 0 [] .emp .emp (by omega) (Nat.zero_le _) (by omega) (Nat.zero_le _)
  simp only [List.drop_zero, List.nil_append] at loop
  have h0 : (0 : Nat) ≤ line := by decide
  simp only [Tx, Ix, Fx, List.map_nil, Int.natCast_zero] at loop
  simp [m_row_tokens, mDef, startE, b_row_tokens, fin, loop, rowT]
end Lk18
set_option maxHeartbeats 4000000
namespace Lk18
open PySem PySem.Spec PyProof.Rows L2 Fw
open SX (S)
/-! ### lines -/
def lns (t : List Nat) : List (List Nat) := TL.spl [10] 0 [] t
/-- the lines, the first one begun -/
def lnF (acc : List Nat) : List Nat → List (List Nat)
  | [] => [acc]
  | c :: t => if c = 10 then acc :: lnF [] t else lnF (acc ++ [c]) t
theorem lnF_eq : ∀ (t acc : List Nat), TL.spl [10] 0 acc t = lnF acc t
  | [], acc => rfl
  | c :: t, acc => by
    by_cases h : c = 10
    · subst h
      rw [TL.spl_hit (by simp [TL.pre]), lnF, if_pos rfl, ← lnF_eq t []]
      rfl
    · rw [lnF, if_neg h, ← lnF_eq t (acc ++ [c])]
      have : TL.pre [10] (c :: t) = false := by simp [TL.pre, h]
      simp [TL.spl, this]
theorem lns_eq (t : List Nat) : lns t = lnF [] t := lnF_eq t []
theorem split_nl (t : List Nat) : Txt.split (S t) "\n" = (lns t).map S := by
  rw [lit_nl]
  exact SX.split_S (by simp) (by decide)
theorem lnF_ne (t acc : List Nat) : lnF acc t ≠ [] := by
  induction t generalizing acc with
  | nil => simp [lnF]
  | cons c t ih =>
    unfold lnF
    split
    · simp
    · exact ih _
theorem lnF_len : ∀ (t acc : List Nat), ((lnF acc t).map List.length).sum + (lnF acc t).length = acc.length + t.length + 1
  | [], acc => by simp [lnF]
  | c :: t, acc => by
    unfold lnF
    split
    · have := lnF_len t []
      simp at this ⊢
      omega
    · have := lnF_len t (acc ++ [c])
      simp at this ⊢
      omega
theorem lnF_mem : ∀ (t acc : List Nat) (P : Nat → Prop), (∀ c ∈ acc, P c) → (∀ c ∈ t, P c) → ∀ l ∈ lnF acc t, ∀ c ∈ l, P c
  | [], acc, P, ha, _, l, hl, c, hc => by
    simp [lnF] at hl
    subst hl
    exact ha c hc
  | x :: t, acc, P, ha, ht, l, hl, c, hc => by
    unfold lnF at hl
    have htx : ∀ c ∈ t, P c := fun c hc => ht c (List.mem_cons_of_mem _ hc)
    split at hl
    · rcases List.mem_cons.mp hl with h | h
      · subst h; exact ha c hc
      · exact lnF_mem t [] P (by simp) htx l h c hc
    · refine lnF_mem t (acc ++ [x]) P (fun c hc => ?_) htx l hl c hc
      rcases List.mem_append.mp hc with h | h
      · exact ha c h
      · rw [List.mem_singleton.mp h]; exact ht x List.mem_cons_self
theorem len_mem {ls : List (List Nat)} {l : List Nat} (h : l ∈ ls) : l.length ≤ (ls.map List.length).sum := by
  induction ls with
  | nil => cases h
  | cons a ls ih =>
    rcases List.mem_cons.mp h with e | e
    · subst e; simp
    · have := ih e
      simp
      omega
/-! ### tokens of lines -/
def bad (ts : List Tk) : Bool := match ts.getLast? with
  | some t => decide (t.s = .no)
  | none => false
theorem bad_app (a b : List Tk) (h : bad a = false) : bad (a ++ b) = bad b := by
  unfold bad at h ⊢
  rw [List.getLast?_append]
  cases hb : b.getLast? with
  | none =>
    simp
    cases ha : a.getLast? with
    | none => rfl
    | some t => rw [ha] at h; exact h
  | some t => simp
def rowsT : Nat → List (List Nat) → List Tk
  | _, [] => []
  | k, l :: r => rowT k l ++ (if bad (rowT k l) then [] else rowsT (k + 1) r)
def okT (ts : List Tk) : Prop := ∀ t ∈ ts, ∀ c ∈ t.x, c < 128
theorem nxt_sub (l : List Nat) : ∀ c ∈ (nxt l).2, c ∈ l := by
  intro c hc
  unfold nxt at hc
  split at hc
  · exact (List.takeWhile_sublist _).subset hc
  · split at hc
    · simp at hc
      subst hc
      exact List.mem_cons_self
    · cases hc
theorem scn_ok (row : Nat) : ∀ (n c : Nat) (l : List Nat), (∀ c ∈ l, c < 128) → okT (scn row n c l) ∧ (scn row n c l).length ≤ l.length
  | 0, _, _, _ => ⟨by intro t h; simp [scn] at h, by simp [scn]⟩
  | _ + 1, _, [], _ => ⟨by intro t h; simp [scn] at h, by simp [scn]⟩
  | n + 1, c, x :: t, ok => by
    have okt : ∀ c ∈ t, c < 128 := fun c hc => ok c (List.mem_cons_of_mem _ hc)
    by_cases h35 : x = 35
    · rw [scn, if_pos h35]
      exact ⟨(by intro t h; cases h), by simp⟩
    · by_cases h32 : x = 32
      · rw [scn, if_neg h35, if_pos h32]
        obtain ⟨h1, h2⟩ := scn_ok row n (c + 1) t okt
        exact ⟨h1, by simp; omega⟩
      · rw [scn, if_neg h35, if_neg h32]
        obtain ⟨p1, p2⟩ := nxt_pos x t
        have okx : ∀ z ∈ (nxt (x :: t)).2, z < 128 := fun z hz => ok z (nxt_sub _ z hz)
        split
        · refine ⟨fun t h => ?_, by simp⟩
          rw [List.mem_singleton.mp h]
          exact okx
        · obtain ⟨h1, h2⟩ := scn_ok row n (c + (nxt (x :: t)).2.length) ((x :: t).drop (nxt (x :: t)).2.length) (fun z hz => ok z (List.mem_of_mem_drop hz))
          refine ⟨fun t h => ?_, ?_⟩
          · rcases List.mem_cons.mp h with e | e
            · rw [e]; exact okx
            · exact h1 t e
          · rw [List.length_drop] at h2
            rw [List.length_cons]
            omega
theorem rowsT_ok : ∀ (k : Nat) (ls : List (List Nat)), (∀ l ∈ ls, ∀ c ∈ l, c < 128) → okT (rowsT k ls) ∧ (rowsT k ls).length ≤ (ls.map List.length).sum
  | _, [], _ => ⟨by intro t h; simp [rowsT] at h, by simp [rowsT]⟩
  | k, l :: r, ok => by
    obtain ⟨h1, h2⟩ := scn_ok k l.length 0 l (ok l List.mem_cons_self)
    obtain ⟨h3, h4⟩ := rowsT_ok (k + 1) r (fun l h => ok l (List.mem_cons_of_mem _ h))
    unfold rowsT rowT
    split
    · rw [List.append_nil]
      exact ⟨h1, by simp; omega⟩
    · refine ⟨fun t h => ?_, by simp; omega⟩
      rcases List.mem_append.mp h with e | e
      · exact h1 t e
      · exact h3 t e
theorem shaped_tks {ts : List Tk} (h : okT ts) : SeqAt.shaped (.list (ts.map Tk.d)) = true := by
  have a : PyData.canLayAll0 (ts.map Tk.d) = true ∧ PyData.depthAll (ts.map Tk.d) ≤ 1 := by
    induction ts with
    | nil => exact ⟨rfl, by simp [PyData.depthAll]⟩
    | cons t ts ih =>
      obtain ⟨i1, i2⟩ := ih (fun t ht => h t (List.mem_cons_of_mem _ ht))
      have hx := shaped_str (h t List.mem_cons_self)
      have hs : SeqAt.shaped (.str t.s.s) = true := shaped_str' (by cases t.s <;> decide +kernel)
      have hx' := SeqAt.canLay_of_shaped hx
      have hs' := SeqAt.canLay_of_shaped hs
      have e1 : PyData.canLay0 t.d = true := by
        unfold Tk.d
        simp only [PyData.canLay0, PyData.canLayAll0] at hx' hs' ⊢
        rw [hx', hs']
        rfl
      have e2 : PyData.depth t.d = 1 := by simp [Tk.d, PyData.depth, PyData.depthAll]
      simp only [List.map_cons, PyData.canLayAll0, PyData.depthAll, e1, e2, i1]
      exact ⟨rfl, by omega⟩
  have e1 : PyData.canLay0 (.list (ts.map Tk.d)) = true := by simp only [PyData.canLay0]; exact a.1
  have e2 : PyData.depth (.list (ts.map Tk.d)) ≤ 64 := by simp only [PyData.depth]; omega
  unfold SeqAt.shaped
  rw [e1, decide_eq_true e2]
  rfl
theorem ne_nil {ts : List Tk} (h : okT ts) : opNe (.list (ts.map Tk.d)) (.list []) = some (.bool (!ts.isEmpty)) := by
  unfold opNe
  rw [shaped_tks h, show SeqAt.shaped (.list []) = true by decide]
  cases ts <;> simp [PyData.eqv, PyData.eqvAll]
theorem last_ix {α : Type} (l : List α) : atI l (-1) = l.getLast? := by
  unfold atI ixN
  cases l with
  | nil => simp
  | cons a l =>
    rw [List.getLast?_eq_getElem?]
    have e : (-1 + ((l.length : Int) + 1)).toNat = l.length := by omega
    have e2 : (1 : Int) ≤ (l.length : Int) + 1 := by omega
    simp [e, e2]
theorem ix_last (ds : List PyData) : opIx (.list ds) (.int (-1)) = ds.getLast? := last_ix ds
theorem d_last (ts : List Tk) : (ts.map Tk.d).getLast? = ts.getLast?.map Tk.d := by rw [List.getLast?_map]
theorem d_ix0 (t : Tk) : opIx t.d (.int 0) = some (.str t.s.s) := by simp [opIx, Tk.d, atI, ixN]
theorem d_ix2 (t : Tk) : opIx t.d (.int 2) = some (.int t.r) := by simp [opIx, Tk.d, atI, ixN]
theorem d_ix3 (t : Tk) : opIx t.d (.int 3) = some (.int t.c) := by simp [opIx, Tk.d, atI, ixN]
@[simp] theorem neg1 : opNeg (.int 1) = some (.int (-1)) := rfl
/-! ### split_of -/
def enF (k : Nat) : List (List Nat) → List PyData
  | [] => []
  | l :: r => .tuple [.int (k : Int), .str (S l)] :: enF (k + 1) r
theorem enF_get : ∀ (ls : List (List Nat)) (k i : Nat), (enF k ls)[i]? = (ls[i]?).map fun l => .tuple [.int ((k + i : Nat) : Int), .str (S l)]
  | [], k, i => by simp [enF]
  | l :: r, k, 0 => by simp [enF]
  | l :: r, k, i + 1 => by
    simp only [enF, List.getElem?_cons_succ, enF_get r (k + 1) i]
    rw [show k + 1 + i = k + (i + 1) by omega]
theorem enums_F (ls : List (List Nat)) : enums (ls.map fun l => .str (S l)) = enF 0 ls := by
  apply List.ext_getElem?
  intro i
  rw [enF_get]
  unfold enums
  rw [List.getElem?_map, List.length_map]
  by_cases h : i < ls.length
  · rw [List.getElem?_range h, List.getElem?_eq_getElem h]
    simp [List.getD, h]
  · rw [List.getElem?_eq_none (by simpa using h), List.getElem?_eq_none (by simpa using h)]
    rfl
/-- found != [] and found[-1][0] == NONE -/
def tB (i : Nat) : ST Unit := sAnd (sTest (sBin opNe (sVar i) (sLst sNil))) (sTest (sBin opEq (sBin opIx (sBin opIx (sVar i) (sNeg (sC (.int 1)))) (sC (.int 0))) (sC (.str "none"))))
theorem tB_ok {env : Evn} {i : Nat} {ts : List Tk} (he : env[i]? = some (Fx ts)) (ok : okT ts) : tB i env () = .ok (bad ts) () := by
  have hne := ne_nil ok
  have h0 : (0 : Nat) ≤ line := by decide
  unfold bad
  cases hl : ts.getLast? with
  | none =>
    have e0 : ts = [] := List.getLast?_eq_none_iff.mp hl
    subst e0
    simp only [List.map_nil, List.isEmpty_nil, Bool.not_true] at hne
    simp [tB, he, hne]
  | some t =>
    have e0 : ts.isEmpty = false := by cases ts <;> simp_all
    rw [e0] at hne
    simp [tB, he, hne, ix_last, d_last, hl, d_ix0, eq_no]
theorem split_loop (e0 e1 : Slot) : ∀ (ls : List (List Nat)) (k : Nat) (fd : List Tk) (s3 s4 : Slot), (∀ l ∈ ls, l.length < line ∧ ∀ c ∈ l, c < 128) → okT fd → bad fd = false → fd.length + (rowsT k ls).length ≤ line →
    ∃ s3' s4', sForL (bTup 2 (bCons (bName 3) (bCons (bName 4) bNil))) l1_split_of (enF k ls) [e0, e1, Fx fd, s3, s4] () = if bad (rowsT k ls) then .rt (.list ((fd ++ rowsT k ls).map Tk.d)) () else .nx [e0, e1, Fx (fd ++ rowsT k ls), s3', s4'] ()
  | [], k, fd, s3, s4, _, _, _, _ => ⟨s3, s4, by simp [enF, rowsT, bad]⟩
  | l :: r, k, fd, s3, s4, ok, okf, hb, hl => by
    obtain ⟨hll, okl⟩ := ok l List.mem_cons_self
    have hrow := m_row k l hll okl
    obtain ⟨okr, hlr⟩ := scn_ok k l.length 0 l okl
    have okr' : okT (rowT k l) := okr
    have oka : okT (fd ++ rowT k l) := fun t ht => (List.mem_append.mp ht).elim (okf t) (okr' t)
    have hsz : fd.length + (rowT k l).length ≤ line := by
      unfold rowsT at hl
      rw [List.length_append] at hl
      omega
    have hba := bad_app fd (rowT k l) hb
    have hbt : bTup 2 (bCons (bName 3) (bCons (bName 4) bNil)) (.tuple [.int (k : Int), .str (S l)]) [e0, e1, Fx fd, s3, s4] = some [e0, e1, Fx fd, Ix k, Tx l] := by simp [bTup, bCons, bNil]
    have ht := tB_ok (env := [e0, e1, Fx (fd ++ rowT k l), Ix k, Tx l]) (i := 2) rfl oka
    rw [hba] at ht
    have hbody : l1_split_of [e0, e1, Fx fd, Ix k, Tx l] () = if bad (rowT k l) then .rt (.list ((fd ++ rowT k l).map Tk.d)) () else .nx [e0, e1, Fx (fd ++ rowT k l), Ix k, Tx l] () := by
      have q1 : l1_split_of = sSeq2 (sExt 2 (sCallZ 2 m_row_tokens (sCons (sVar 3) (sCons (sVar 4) sNil)))) (sIfS (tB 2) (sRet (sVar 2)) sSkip) := rfl
      have q2 : sExt 2 (sCallZ 2 m_row_tokens (sCons (sVar 3) (sCons (sVar 4) sNil))) [e0, e1, Fx fd, Ix k, Tx l] () = .nx [e0, e1, Fx (fd ++ rowT k l), Ix k, Tx l] () := by
        simp [hrow, hsz]
      rw [q1, u_seq2, q2]
      simp only [u_ifS, ht]
      cases bad (rowT k l) <;> simp
    unfold rowsT
    simp only [enF, u_forC, hbt, hbody]
    cases hbr : bad (rowT k l) with
    | true => exact ⟨s3, s4, by simp [hbr]⟩
    | false =>
      obtain ⟨a, b, ih⟩ := split_loop e0 e1 r (k + 1) (fd ++ rowT k l) (Ix k) (Tx l) (fun l h => ok l (List.mem_cons_of_mem _ h)) oka (by rw [hba, hbr]) (by
        unfold rowsT at hl
        rw [hbr] at hl
        simp at hl ⊢
        omega)
      refine ⟨a, b, ?_⟩
      have hb2 := bad_app (rowT k l) (rowsT (k + 1) r) hbr
      simp only [Bool.false_eq_true, if_false, ih, hb2, List.append_assoc]
end Lk18
set_option maxHeartbeats 4000000
namespace Lk18
open PySem PySem.Spec PyProof.Rows L2 Fw
open SX (S)
/-- the tokens of a text -/
def toks (t : List Nat) : List Tk := rowsT 0 (lns t)
def lastL (t : List Nat) : List Nat := (lns t).getLast (by rw [lns_eq]; exact lnF_ne t [])
def endT (t : List Nat) : Tk := ⟨.fin, [], (lns t).length - 1, (lastL t).length⟩
/-- with the end, where no sign begins none -/
def toksE (t : List Nat) : List Tk := if bad (toks t) then toks t else toks t ++ [endT t]
theorem lns_sum (t : List Nat) : ((lns t).map List.length).sum + (lns t).length = t.length + 1 := by
  have := lnF_len t []
  rw [lns_eq]
  simpa using this
theorem lns_pos (t : List Nat) : 1 ≤ (lns t).length := List.length_pos_iff.mpr (by rw [lns_eq]; exact lnF_ne t [])
theorem lns_ok {t : List Nat} (ht : t.length < line) (ok : ∀ c ∈ t, c < 128) : ∀ l ∈ lns t, l.length < line ∧ ∀ c ∈ l, c < 128 := fun l hl => by
  have h1 := len_mem hl
  have h2 := lns_sum t
  have h3 := lns_pos t
  refine ⟨by omega, fun c hc => ?_⟩
  rw [lns_eq] at hl
  exact lnF_mem t [] (fun c => c < 128) (by simp) ok l hl c hc
theorem toks_ok {t : List Nat} (ht : t.length < line) (ok : ∀ c ∈ t, c < 128) : okT (toks t) ∧ (toks t).length ≤ t.length := by
  obtain ⟨h1, h2⟩ := rowsT_ok 0 (lns t) fun l hl => (lns_ok ht ok l hl).2
  have h3 := lns_sum t
  have h4 := lns_pos t
  exact ⟨h1, by unfold toks; omega⟩
theorem split_m {t : List Nat} (ht : t.length + 2 ≤ line) : gSplit (S t) (.str "\n") = some (.fr (.list ((lns t).map fun l => .str (S l)))) := by
  unfold gSplit
  have e : (("\n" : Str).length == 0) = false := by decide +kernel
  simp only [e]
  rw [if_pos ⟨trivial, by rw [SX.S_len]; exact ht⟩, split_nl, List.map_map]
  rfl
theorem enum_m (t : List Nat) : enums ((lns t).map fun l => .str (S l)) = enF 0 (lns t) := enums_F (lns t)
theorem end_d (t : List Nat) : (endT t).d = .tuple [.str "end", .str "", .int (((lns t).length : Int) - 1), .int ((lastL t).length : Int)] := by
  have := lns_pos t
  unfold endT Tk.d
  rw [lit0]
  simp only [Sr.s]
  rw [show (((lns t).length - 1 : Nat) : Int) = ((lns t).length : Int) - 1 by omega]
theorem last_line (t : List Nat) : opIx (.list ((lns t).map fun l => .str (S l))) (.int (-1)) = some (.str (S (lastL t))) := by
  rw [ix_last, List.getLast?_map]
  unfold lastL
  rw [List.getLast?_eq_some_getLast (by rw [lns_eq]; exact lnF_ne t [])]
  rfl
theorem m_split (t : List Nat) (ht : t.length + 2 ≤ line) (ok : ∀ c ∈ t, c < 128) : m_split_of [.str (S t)] () = .ok (.list ((toksE t).map Tk.d)) () := by
  have ht' : t.length < line := by omega
  have lok := lns_ok ht' ok
  obtain ⟨okt, hlt⟩ := toks_ok ht' ok
  obtain ⟨a, b, loop⟩ := split_loop (Tx t) (.val (.list ((lns t).map fun l => .str (S l)))) (lns t) 0 [] .emp .emp lok (by intro t h; cases h) rfl (by simp; unfold toks at hlt; omega)
  have hll : (lastL t).length ≤ line := by
    have := (lok (lastL t) (List.getLast_mem _)).1
    omega
  have h0 : (0 : Nat) ≤ line := by decide
  have h1 : (1 : Nat) ≤ line := by decide
  have h4 : (4 : Nat) ≤ line := by decide
  have hsz : (toks t).length + 1 ≤ line := by omega
  have hlenl : fLen (.list ((lns t).map fun l => .str (S l))) = some (.st (.int ((lns t).length : Int))) := by simp [fLen]
  rw [List.nil_append] at loop
  have loop' : sForL (bTup 2 (bCons (bName 3) (bCons (bName 4) bNil))) l1_split_of (enF 0 (lns t)) [Slot.val (.str (S t)), .val (.list ((lns t).map fun l => .str (S l))), .own (.list []), .emp, .emp] () = _ := loop
  unfold toksE
  cases hb : bad (toks t) with
  | true =>
    rw [show bad (rowsT 0 (lns t)) = true from hb] at loop'
    simp [m_split_of, mDef, startE, b_split_of, fin, split_m ht, sEnum, enum_m, loop', toks]
  | false =>
    rw [show bad (rowsT 0 (lns t)) = false from hb] at loop'
    have hadd : opAdd (.list ((rowsT 0 (lns t)).map Tk.d)) (.list [(endT t).d]) = some (.list (((toks t) ++ [endT t]).map Tk.d)) := by
      show (if _ then _ else _) = _
      rw [if_pos (by simpa [toks] using hsz)]
      simp [toks]
    rw [end_d] at hadd
    simp [m_split_of, mDef, startE, b_split_of, fin, split_m ht, sEnum, enum_m, loop', hlenl, last_line, len_S hll, hadd, h1, h4]
/-! ### tokens -/
theorem m_want (t : List Nat) (ht : t.length ≤ 12000) : m_want_text [.str (S t)] () = .ok (.str (S t)) () := by
  have h1 : t.length ≤ line := by have : 12000 ≤ line := by decide
                                  omega
  have h2 : ¬ (12000 : Int) < (t.length : Int) := by omega
  simp [m_want_text, mDef, startE, b_want_text, fin, isTy, tyName, isTyN, len_S h1, h2]
theorem m_want_not (d : PyData) (h : isTy "str" d = false) : m_want_text [d] () = .ex ⟨"InvalidText", [("value", d)]⟩ () := by
  simp [m_want_text, mDef, startE, b_want_text, fin, h, sRaise]
theorem m_want_long (t : List Nat) (ht : 12000 < t.length) (h1 : t.length ≤ line) : m_want_text [.str (S t)] () = .ex ⟨"InvalidText", [("value", .str (S t))]⟩ () := by
  have h2 : (12000 : Int) < (t.length : Int) := by omega
  simp [m_want_text, mDef, startE, b_want_text, fin, isTy, tyName, isTyN, len_S h1, h2, sRaise]
/-- the first sign that begins none -/
def badL (t : List Nat) : Nat × Nat := match (toks t).getLast? with
  | some k => (k.r, k.c)
  | none => (0, 0)
theorem cut_last (ds : List PyData) (x : PyData) : opSl (.list (ds ++ [x])) none (some (-1)) = some (.fr (.list ds)) := by
  unfold opSl Fw.cutD
  simp only [HT.sIx, List.length_append, List.length_cons, List.length_nil]
  have e : ((-1 : Int) + ((ds.length : Int) + 1)).toNat = ds.length := by omega
  simp [e]
theorem m_tok (t : List Nat) (ht : t.length ≤ 12000) (ok : ∀ c ∈ t, c < 128) : m_tokens [.str (S t)] () = if bad (toks t) then .ex ⟨"BadText", [("column", .int (badL t).2), ("line", .int (badL t).1)]⟩ () else .ok (.list ((toks t).map Tk.d)) () := by
  have hl : t.length + 2 ≤ line := by have : 12002 ≤ line := by decide
                                      omega
  have hs := m_split t hl ok
  have hw := m_want t ht
  unfold toksE at hs
  cases hb : bad (toks t) with
  | true =>
    rw [hb] at hs
    simp only [if_true] at hs
    obtain ⟨k, hk⟩ : ∃ k, (toks t).getLast? = some k := by
      cases h : (toks t).getLast? with
      | none => simp [bad, h] at hb
      | some k => exact ⟨k, rfl⟩
    have hno : k.s = .no := by simpa [bad, hk] using hb
    simp [m_tokens, mDef, startE, b_tokens, fin, hw, hs, ix_last, hk, d_ix0, d_ix2, d_ix3, eq_no, hno, sRaise, badL]
  | false =>
    rw [hb] at hs
    simp only [Bool.false_eq_true, if_false, List.map_append, List.map_cons, List.map_nil] at hs
    have hne : ¬ (endT t).s = Sr.no := by show ¬ Sr.fin = Sr.no; decide
    have hcut := cut_last ((toks t).map Tk.d) (endT t).d
    simp [m_tokens, mDef, startE, b_tokens, fin, hw, hs, ix_last, d_ix0, eq_no, hne, hcut]
end Lk18
set_option maxHeartbeats 4000000
namespace Lk18
open PySem PySem.Spec PyProof.Rows L2 Fw
open SX (S)
/-! ### the law's own sorts -/
theorem shaped_strs {ls : List Nat} (h : ∀ c ∈ ls, c < 128) : SeqAt.shaped (.list (ls.map fun c => .str (S [c]))) = true := by
  have a : PyData.canLayAll0 (ls.map fun c => .str (S [c])) = true ∧ PyData.depthAll (ls.map fun c => .str (S [c])) = 0 := by
    induction ls with
    | nil => exact ⟨rfl, by simp [PyData.depthAll]⟩
    | cons t ts ih =>
      obtain ⟨i1, i2⟩ := ih (fun t ht => h t (List.mem_cons_of_mem _ ht))
      have hx := SeqAt.canLay_of_shaped (shaped_str (l := [t]) (by simpa using h t List.mem_cons_self))
      simp only [List.map_cons, PyData.canLayAll0, PyData.depthAll, i1, i2, hx, PyData.depth]
      exact ⟨rfl, rfl⟩
  have e1 : PyData.canLay0 (.list (ls.map fun c => .str (S [c]))) = true := by simp only [PyData.canLay0]; exact a.1
  have e2 : PyData.depth (.list (ls.map fun c => .str (S [c]))) ≤ 64 := by simp only [PyData.depth, a.2]; omega
  unfold SeqAt.shaped
  rw [e1, decide_eq_true e2]
  rfl
theorem eq_nil {ls : List Nat} (h : ∀ c ∈ ls, c < 128) : opEq (.list (ls.map fun c => .str (S [c]))) (.list []) = some (.bool ls.isEmpty) := by
  unfold opEq
  rw [shaped_strs h, show SeqAt.shaped (.list []) = true by decide]
  cases ls <;> simp [PyData.eqv, PyData.eqvAll]
theorem filter_empty (f : Nat → Bool) (r : List Nat) : (r.filter fun c => !f c).isEmpty = r.all f := by
  induction r with
  | nil => rfl
  | cons a r ih => cases h : f a <;> simp [h, ih]
theorem lc_not {env : Evn} (r : List Nat) (z : Str) (i : Nat) (t : ST Unit) (ht : ∀ c : Nat, t ((wipeE env [i]).set i (.val (.str (S [c])))) () = .ok (!inB c z) ()) (hi : i < env.length) (h : r.length ≤ line) :
    lcGo (bName i) t (sVar i) (wipeE env [i]) (r.map fun c => .str (S [c])) [] () = .ok ((r.filter fun c => !inB c z).map fun c => .str (S [c])) () := by
  rw [lc_map (fun d => match d with | .str x => (match x.cps.toList with | [c] => !inB c z | _ => false) | _ => false) id (r.map fun c => .str (S [c])) [] ?_ (by simpa using h)]
  · simp only [List.nil_append, List.map_id, List.filter_map, Function.comp_def, cps_S]
  · intro d hd
    obtain ⟨c, _, rfl⟩ := List.mem_map.mp hd
    refine ⟨_, rfl, by simpa using ht c, fun _ => ⟨.st (.str (S [c])), ?_, rfl⟩⟩
    simp [hi]
theorem in_RESl {r : List Nat} (h : ∀ c ∈ r, c < 128) : opIn (.str (S r)) (.list RES) = some (.bool (resv r)) := by
  show Option.map PyData.bool (if (SeqAt.shaped (.str (S r)) && SeqAt.shaped (.list RES)) = true then some (RES.any fun z => PyData.eqv z (.str (S r))) else none) = _
  rw [shaped_str h, show SeqAt.shaped (.list RES) = true by decide +kernel]
  rfl
theorem m_lsort (r : List Nat) (h : r.length ≤ line) (ok : ∀ c ∈ r, c < 128) (h0 : r ≠ []) : m__law_run_sort [.str (S r)] () = .ok (.str (srt r).s) () := by
  have hin := in_RESl ok
  unfold RES at hin
  have h2 : (2 : Nat) ≤ line := by decide
  have h0' : (0 : Nat) ≤ line := by decide
  have h19 : (19 : Nat) ≤ line := by decide
  have h15 : (15 : Nat) ≤ line := by decide
  have h34 : (34 : Nat) ≤ line := by decide
  have ha := lc_not (env := [Tx r, .val (.str SMA), .val (.str DIG), .emp, .emp]) r DIG 4 (sTest (sBin opNotIn (sVar 4) (sVar 2))) (fun c => by simp [ni_S]) (by simp) h
  have hb := lc_not (env := [Tx r, .val (.str SMA), .val (.str DIG), .val (.list RES), .emp]) r NCH 4 (sTest (sBin opNotIn (sVar 4) (sBin opAdd (sBin opAdd (sVar 1) (sVar 2)) (sC (.str "_"))))) (fun c => by simp [ni_S, add1, add2]) (by simp) h
  simp only [u_wipe0, u_wipe1, List.set_cons_succ, List.set_cons_zero] at ha hb
  have ea : opEq (.list ((r.filter fun c => !inB c DIG).map fun c => .str (S [c]))) (.list []) = some (.bool (figs r)) := by
    rw [eq_nil fun c hc => ok c (List.mem_filter.mp hc).1, filter_empty]
    rfl
  have eb : opEq (.list ((r.filter fun c => !inB c NCH).map fun c => .str (S [c]))) (.list []) = some (.bool (r.all fun c => inB c NCH)) := by
    rw [eq_nil fun c hc => ok c (List.mem_filter.mp hc).1, filter_empty]
  have hlen := len_S h
  obtain ⟨c, hc0⟩ : ∃ c, r.head? = some c := by
    cases r with
    | nil => exact absurd rfl h0
    | cons c t => exact ⟨c, rfl⟩
  have hx : opIx (.str (S r)) (.int 0) = some (.str (S [c])) := ix_S (k := 0) h (by rw [← List.head?_eq_getElem?]; exact hc0)
  have hadd : ∀ a b : List PyData, a.length + b.length ≤ line → opAdd (.list a) (.list b) = some (.list (a ++ b)) := fun a b hab => if_pos hab
  unfold srt
  cases hf : figs r with
  | true =>
    rw [hf] at ea
    simp [m__law_run_sort, mDef, startE, b__law_run_sort, fin, bTup, bCons, bNil, h2, items_S, ha, ea, h0', Sr.s]
  | false =>
    rw [hf] at ea
    cases hr : resv r with
    | true =>
      rw [hr] at hin
      simp [m__law_run_sort, mDef, startE, b__law_run_sort, fin, bTup, bCons, bNil, h2, items_S, ha, ea, h0', Sr.s, h19, h15, h34, hadd, hin]
    | false =>
      rw [hr] at hin
      simp only [RES] at hb
      unfold nam
      obtain ⟨n, hn⟩ : ∃ n, r.length = n := ⟨_, rfl⟩
      rw [hn] at hlen
      by_cases h8 : n ≤ 8
      · have h8' : (n : Int) ≤ 8 := by omega
        cases hc : inB c SMA with
        | false => simp [m__law_run_sort, mDef, startE, b__law_run_sort, fin, bTup, bCons, bNil, h2, items_S, ha, ea, h0', Sr.s, h19, h15, h34, hadd, hin, hn, hlen, h8, h8', hx, in_S, hc, hc0]
        | true =>
          cases hq : r.all fun c => inB c NCH with
          | true => rw [hq] at eb; simp [m__law_run_sort, mDef, startE, b__law_run_sort, fin, bTup, bCons, bNil, h2, items_S, ha, ea, h0', Sr.s, h19, h15, h34, hadd, hin, hn, hlen, h8, h8', hx, in_S, hc, hc0, hb, eb, hq]
          | false => rw [hq] at eb; simp [m__law_run_sort, mDef, startE, b__law_run_sort, fin, bTup, bCons, bNil, h2, items_S, ha, ea, h0', Sr.s, h19, h15, h34, hadd, hin, hn, hlen, h8, h8', hx, in_S, hc, hc0, hb, eb, hq]
      · have h8' : ¬ (n : Int) ≤ 8 := by omega
        simp [m__law_run_sort, mDef, startE, b__law_run_sort, fin, bTup, bCons, bNil, h2, items_S, ha, ea, h0', Sr.s, h19, h15, h34, hadd, hin, hn, hlen, h8, h8']
end Lk18
set_option maxHeartbeats 4000000
namespace Lk18
open PySem PySem.Spec PyProof.Rows L2 Fw
open SX (S)
/-! ### the law's own tokens -/
theorem wch_law (c : Nat) : inB c "abcdefghijklmnopqrstuvwxyzABCDEFGHIJKLMNOPQRSTUVWXYZ0123456789_" = wch c := by
  have e : ("abcdefghijklmnopqrstuvwxyzABCDEFGHIJKLMNOPQRSTUVWXYZ0123456789_" : Str).cps.toList = LET.cps.toList ++ (DIG.cps.toList ++ [95]) := by decide +kernel
  unfold wch inB
  rw [e]
  simp only [List.mem_append, List.mem_singleton, Bool.decide_or]
section
variable (e0 e1 e2 : Slot)
theorem c1_law (row : Nat) (l : List Nat) (c k : Nat) (h : l.length ≤ line) : c1__law_tokens [e0, e1, e2, Ix row, Tx l, Ix c, Ix k] () = .ok (match l[k]? with | some x => wch x | none => false) () := by
  cases hx : l[k]? with
  | none =>
    have hk : ¬ (k < l.length) := by
      have := List.getElem?_eq_none_iff.mp hx
      omega
    simp [c1__law_tokens, len_S h, hk]
  | some x =>
    obtain ⟨hk, hxx⟩ := List.getElem?_eq_some_iff.mp hx
    simp [c1__law_tokens, len_S h, hk, ix_S h hx, in_S, wch_law]
theorem w2_law (row : Nat) (l : List Nat) (c k : Nat) : w2__law_tokens [e0, e1, e2, Ix row, Tx l, Ix c, Ix k] () = .nx [e0, e1, e2, Ix row, Tx l, Ix c, Ix (k + 1)] () := by
  simp [w2__law_tokens]
theorem law_in (row : Nat) (l : List Nat) (c : Nat) (h : l.length ≤ line) : ∀ (n k : Nat), l.length < n + k → k ≤ l.length → sWhile c1__law_tokens w2__law_tokens n [e0, e1, e2, Ix row, Tx l, Ix c, Ix k] () = .nx [e0, e1, e2, Ix row, Tx l, Ix c, Ix (k + wlen (l.drop k))] ()
  | 0, k, hn, hk => by omega
  | n + 1, k, hn, hk => by
    unfold sWhile
    rw [c1_law e0 e1 e2 row l c k h]
    cases hx : l[k]? with
    | none =>
      have hd : l.drop k = [] := by
        have := List.getElem?_eq_none_iff.mp hx
        rw [List.drop_eq_nil_iff]
        omega
      simp [hd, wlen_nil]
    | some x =>
      obtain ⟨hk, hxx⟩ := List.getElem?_eq_some_iff.mp hx
      have hd : l.drop k = x :: l.drop (k + 1) := by rw [List.drop_eq_getElem_cons hk, hxx]
      cases hw : wch x with
      | false => simp [hw, hd, wlen_no hw]
      | true =>
        have ih := law_in row l c h n (k + 1) (by omega) hk
        simp only [hw, w2_law]
        rw [ih, hd, wlen_yes hw, show k + 1 + wlen (l.drop (k + 1)) = k + (wlen (l.drop (k + 1)) + 1) by omega]
theorem c3_law (row : Nat) (l : List Nat) (c : Nat) (s6 : Slot) (h : l.length ≤ line) (ok : ∀ c ∈ l, c < 128) : c3__law_tokens [e0, e1, e2, Ix row, Tx l, Ix c, s6] () = .ok (match l[c]? with | some x => !decide (x = 35) | none => false) () := by
  cases hx : l[c]? with
  | none =>
    have hk : ¬ (c < l.length) := by
      have := List.getElem?_eq_none_iff.mp hx
      omega
    simp [c3__law_tokens, len_S h, hk]
  | some x =>
    obtain ⟨hk, hxx⟩ := List.getElem?_eq_some_iff.mp hx
    have hx128 : x < 128 := ok x (by rw [← hxx]; exact List.getElem_mem hk)
    have e1 : opNe (.str (S [x])) (.str "#") = some (.bool (!decide (x = 35))) := by
      rw [lit_ha, ne_S (by simpa using hx128) (by simp)]
      simp
    simp [c3__law_tokens, len_S h, hk, ix_S h hx, e1]
end
/-- the end of a turn -/
theorem tail_ok (e0 e2 a b s5 : Slot) (d : PyData) {ts : List Tk} (ok : okT ts) : sSeq2 (sIfS (tB 1) (sRet (sVar 1)) sSkip) (sSet 5 (sVar 6)) [e0, Fx ts, e2, a, b, s5, .val d] () = if bad ts then .rt (.list (ts.map Tk.d)) () else .nx [e0, Fx ts, e2, a, b, .val d, .val d] () := by
  have ht := tB_ok (env := [e0, Fx ts, e2, a, b, s5, .val d]) (i := 1) rfl ok
  rw [u_seq2, u_ifS, ht]
  cases bad ts <;> simp
def midL : SS Unit := sIfS (sTest (sBin opEq (sBin opIx (sVar 4) (sVar 5)) (sC (.str " ")))) (sSet 6 (sBin opAdd (sVar 5) (sC (.int 1))))
      (sIfS (sTest (sBin opGt (sVar 6) (sVar 5))) (sApp 1 (sTup (sCons (sCallZ 1 m__law_run_sort (sCons (sSl (sVar 4) (sPart (sVar 5)) (sPart (sVar 6))) sNil)) (sCons (sSl (sVar 4) (sPart (sVar 5)) (sPart (sVar 6))) (sCons (sVar 3) (sCons (sVar 5) sNil))))))
      (sSeq2 (sSet 6 (sBin opAdd (sVar 5) (sC (.int 1)))) (sApp 1 (sTup (sCons (sIf (sTest (sBin opIn (sBin opIx (sVar 4) (sVar 5)) (sC (.str "()[],:;=<+-*")))) (sC (.str "sign")) (sC (.str "none"))) (sCons (sBin opIx (sVar 4) (sVar 5)) (sCons (sVar 3) (sCons (sVar 5) sNil))))))))
theorem mid_ok (e0 e2 : Slot) (row : Nat) (l : List Nat) (fd : List Tk) (c x : Nat) (h : l.length < line) (ok : ∀ c ∈ l, c < 128) (hx : l[c]? = some x) (hf : fd.length < line) :
    midL [e0, Fx fd, e2, Ix row, Tx l, Ix c, Ix (c + wlen (l.drop c))] () = if x = 32 then .nx [e0, Fx fd, e2, Ix row, Tx l, Ix c, Ix (c + 1)] () else
      .nx [e0, Fx (fd ++ [⟨(nxt (l.drop c)).1, (nxt (l.drop c)).2, row, c⟩]), e2, Ix row, Tx l, Ix c, Ix (c + (nxt (l.drop c)).2.length)] () := by
  obtain ⟨hc, hxx⟩ := List.getElem?_eq_some_iff.mp hx
  have hd : l.drop c = x :: l.drop (c + 1) := by rw [List.drop_eq_getElem_cons hc, hxx]
  have hx128 : x < 128 := ok x (by rw [← hxx]; exact List.getElem_mem hc)
  have hix := ix_S (Nat.le_of_lt h) hx
  have e32 : opEq (.str (S [x])) (.str " ") = some (.bool (decide (x = 32))) := by
    rw [lit_sp, eq_S (by simpa using hx128) (by simp)]
    simp
  have hw : wlen (l.drop c) ≤ l.length - c := by have := wlen_le (l.drop c); rw [List.length_drop] at this; exact this
  have h4 : (4 : Nat) ≤ line := by decide
  by_cases h32 : x = 32
  · rw [decide_eq_true h32] at e32
    rw [if_pos h32]
    simp [midL, hix, e32]
  · rw [decide_eq_false h32] at e32
    rw [if_neg h32]
    by_cases h0 : (l.drop c).takeWhile wch = []
    · have hn0 : wlen (l.drop c) = 0 := by unfold wlen; rw [h0]; rfl
      have hsy : nxt (l.drop c) = (if inB x SIN then .sign else .no, [x]) := by
        unfold nxt
        rw [if_neg (by rw [h0]; simp), hd]
      rw [hsy, hn0]
      have hgt : ¬ ((c : Int) < (c : Int)) := by omega
      cases hs : inB x SIN <;> simp [midL, hix, e32, in_S, hs, h4, hf, Tk.d, Sr.s]
    · have hsy : nxt (l.drop c) = (srt ((l.drop c).takeWhile wch), (l.drop c).takeWhile wch) := by
        unfold nxt
        rw [if_pos h0]
      have okr : ∀ z ∈ (l.drop c).takeWhile wch, z < 128 := fun z hz => ok z (List.mem_of_mem_drop ((List.takeWhile_sublist _).subset hz))
      have hlr : ((l.drop c).takeWhile wch).length ≤ line := by
        have h1 := (List.takeWhile_sublist (l := l.drop c) wch).length_le
        rw [List.length_drop] at h1
        omega
      have hso := m_lsort _ hlr okr h0
      have hwp : 0 < wlen (l.drop c) := List.length_pos_iff.mpr h0
      have hcut := cut_S2 (Nat.le_of_lt h) (show c + wlen (l.drop c) ≤ l.length by omega)
      rw [take_wlen] at hcut
      rw [hsy]
      have hgt : ((c : Int) < (c : Int) + (wlen (l.drop c) : Int)) := by omega
      have hwl : ((l.drop c).takeWhile wch).length = wlen (l.drop c) := rfl
      simp [midL, hix, e32, hcut, hso, hgt, h4, hf, Tk.d, hwl]
/-- one turn -/
theorem law_turn (e0 e2 : Slot) (row : Nat) (l : List Nat) (fd : List Tk) (c x : Nat) (s6 : Slot) (h : l.length < line) (ok : ∀ c ∈ l, c < 128) (hx : l[c]? = some x) (okf : okT fd) (hb : bad fd = false) (hf : fd.length < line) :
    w4__law_tokens [e0, Fx fd, e2, Ix row, Tx l, Ix c, s6] () = if x = 32 then .nx [e0, Fx fd, e2, Ix row, Tx l, Ix (c + 1), Ix (c + 1)] () else
      (if (nxt (l.drop c)).1 = .no then .rt (.list ((fd ++ [(⟨(nxt (l.drop c)).1, (nxt (l.drop c)).2, row, c⟩ : Tk)]).map Tk.d)) () else .nx [e0, Fx (fd ++ [⟨(nxt (l.drop c)).1, (nxt (l.drop c)).2, row, c⟩]), e2, Ix row, Tx l, Ix (c + (nxt (l.drop c)).2.length), Ix (c + (nxt (l.drop c)).2.length)] ()) := by
  obtain ⟨hc, hxx⟩ := List.getElem?_eq_some_iff.mp hx
  have loop := law_in e0 (Fx fd) e2 row l c (Nat.le_of_lt h) line c (by omega) (Nat.le_of_lt hc)
  have q : w4__law_tokens = sSeq2 (sSet 6 (sVar 5)) (sSeq2 (sWhile c1__law_tokens w2__law_tokens line) (sSeq2 midL (sSeq2 (sIfS (tB 1) (sRet (sVar 1)) sSkip) (sSet 5 (sVar 6))))) := rfl
  have s1 : sSet 6 (sVar 5) [e0, Fx fd, e2, Ix row, Tx l, Ix c, s6] () = .nx [e0, Fx fd, e2, Ix row, Tx l, Ix c, Ix c] () := by simp
  have hm := mid_ok e0 e2 row l fd c x h ok hx hf
  rw [q, u_seq2, s1]
  dsimp only
  rw [u_seq2, loop]
  dsimp only
  rw [u_seq2, hm]
  by_cases h32 : x = 32
  · rw [if_pos h32, if_pos h32]
    dsimp only
    rw [tail_ok _ _ _ _ _ _ okf, hb]
    rfl
  · rw [if_neg h32, if_neg h32]
    dsimp only
    have oky : ∀ z ∈ (nxt (l.drop c)).2, z < 128 := fun z hz => ok z (List.mem_of_mem_drop (nxt_sub (l.drop c) z hz))
    have okn : okT (fd ++ [⟨(nxt (l.drop c)).1, (nxt (l.drop c)).2, row, c⟩]) := fun t ht => (List.mem_append.mp ht).elim (okf t) fun ht => by
      rw [List.mem_singleton.mp ht]
      exact oky
    rw [tail_ok _ _ _ _ _ _ okn, bad_app _ _ hb]
    by_cases hs : (nxt (l.drop c)).1 = .no <;> simp [bad, hs]
end Lk18
set_option maxHeartbeats 4000000
namespace Lk18
open PySem PySem.Spec PyProof.Rows L2 Fw
open SX (S)
theorem bad_cons (t : Tk) (ts : List Tk) (h : t.s ≠ .no) : bad (t :: ts) = bad ts := bad_app [t] ts (by simp [bad, h])
theorem law_cols (e0 e2 : Slot) (row : Nat) (l : List Nat) (h : l.length < line) (ok : ∀ c ∈ l, c < 128) : ∀ (n m c : Nat) (fd : List Tk) (s6 : Slot), l.length < n + c → c ≤ l.length → l.length ≤ m + c → okT fd → bad fd = false → fd.length + (l.length - c) < line →
    ∃ c' s6', sWhile c3__law_tokens w4__law_tokens n [e0, Fx fd, e2, Ix row, Tx l, Ix c, s6] () = if bad (scn row m c (l.drop c)) then .rt (.list ((fd ++ scn row m c (l.drop c)).map Tk.d)) () else .nx [e0, Fx (fd ++ scn row m c (l.drop c)), e2, Ix row, Tx l, Ix c', s6'] ()
  | 0, _, _, _, _, hn, hc, _, _, _, _ => by omega
  | n + 1, m, c, fd, s6, hn, hc, hm, okf, hb, hl => by
    unfold sWhile
    rw [c3_law e0 (Fx fd) e2 row l c s6 (Nat.le_of_lt h) ok]
    cases hx : l[c]? with
    | none =>
      have hd : l.drop c = [] := by
        have := List.getElem?_eq_none_iff.mp hx
        rw [List.drop_eq_nil_iff]
        omega
      refine ⟨c, s6, ?_⟩
      rw [hd]
      cases m <;> simp [scn, bad]
    | some x =>
      obtain ⟨hk, hxx⟩ := List.getElem?_eq_some_iff.mp hx
      have hd : l.drop c = x :: l.drop (c + 1) := by rw [List.drop_eq_getElem_cons hk, hxx]
      obtain ⟨m', rfl⟩ : ∃ m', m = m' + 1 := ⟨m - 1, by omega⟩
      by_cases h35 : x = 35
      · refine ⟨c, s6, ?_⟩
        simp [hd, scn, h35, bad]
      · simp only [h35, decide_false, Bool.not_false]
        rw [law_turn e0 e2 row l fd c x s6 h ok hx okf hb (by omega)]
        by_cases h32 : x = 32
        · have esc : scn row (m' + 1) c (x :: l.drop (c + 1)) = scn row m' (c + 1) (l.drop (c + 1)) := by rw [scn, if_neg h35, if_pos h32]
          rw [if_pos h32]
          obtain ⟨c', a, ih⟩ := law_cols e0 e2 row l h ok n m' (c + 1) fd (Ix (c + 1)) (by omega) hk (by omega) okf hb (by omega)
          refine ⟨c', a, ?_⟩
          simp only [ih]
          rw [hd, esc]
        · rw [if_neg h32]
          obtain ⟨hp1, hp2⟩ := nxt_pos x (l.drop (c + 1))
          rw [← hd] at hp1 hp2
          rw [List.length_drop] at hp2
          have esc : scn row (m' + 1) c (l.drop c) = ⟨(nxt (l.drop c)).1, (nxt (l.drop c)).2, row, c⟩ :: (if (nxt (l.drop c)).1 = .no then [] else scn row m' (c + (nxt (l.drop c)).2.length) (l.drop (c + (nxt (l.drop c)).2.length))) := by
            rw [← List.drop_drop, hd, scn, if_neg h35, if_neg h32]
          rw [esc]
          by_cases hs : (nxt (l.drop c)).1 = .no
          · refine ⟨c, s6, ?_⟩
            simp [hs, bad]
          · have oky : ∀ z ∈ (nxt (l.drop c)).2, z < 128 := fun z hz => ok z (List.mem_of_mem_drop (nxt_sub (l.drop c) z hz))
            have okn : okT (fd ++ [⟨(nxt (l.drop c)).1, (nxt (l.drop c)).2, row, c⟩]) := fun t ht => (List.mem_append.mp ht).elim (okf t) fun ht => by
              rw [List.mem_singleton.mp ht]
              exact oky
            obtain ⟨c', a, ih⟩ := law_cols e0 e2 row l h ok n m' (c + (nxt (l.drop c)).2.length) (fd ++ [⟨(nxt (l.drop c)).1, (nxt (l.drop c)).2, row, c⟩]) (Ix (c + (nxt (l.drop c)).2.length)) (by omega) (by omega) (by omega) okn (by rw [bad_app _ _ hb]; simp [bad, hs]) (by simp; omega)
            refine ⟨c', a, ?_⟩
            simp only [if_neg hs, ih]
            rw [bad_cons ⟨(nxt (l.drop c)).1, (nxt (l.drop c)).2, row, c⟩ _ hs]
            simp
theorem law_rows (e0 e2 : Slot) : ∀ (ls : List (List Nat)) (k : Nat) (fd : List Tk) (s3 s4 s5 s6 : Slot), (∀ l ∈ ls, l.length < line ∧ ∀ c ∈ l, c < 128) → okT fd → bad fd = false → fd.length + (ls.map List.length).sum < line →
    ∃ s3' s4' s5' s6', sForL (bTup 2 (bCons (bName 3) (bCons (bName 4) bNil))) l5__law_tokens (enF k ls) [e0, Fx fd, e2, s3, s4, s5, s6] () = if bad (rowsT k ls) then .rt (.list ((fd ++ rowsT k ls).map Tk.d)) () else .nx [e0, Fx (fd ++ rowsT k ls), e2, s3', s4', s5', s6'] ()
  | [], k, fd, s3, s4, s5, s6, _, _, _, _ => ⟨s3, s4, s5, s6, by simp [enF, rowsT, bad]⟩
  | l :: r, k, fd, s3, s4, s5, s6, ok, okf, hb, hl => by
    obtain ⟨hll, okl⟩ := ok l List.mem_cons_self
    rw [List.map_cons, List.sum_cons] at hl
    obtain ⟨okr, hlr⟩ := scn_ok k l.length 0 l okl
    have okr' : okT (rowT k l) := okr
    have oka : okT (fd ++ rowT k l) := fun t ht => (List.mem_append.mp ht).elim (okf t) (okr' t)
    have hba := bad_app fd (rowT k l) hb
    have hbt : bTup 2 (bCons (bName 3) (bCons (bName 4) bNil)) (.tuple [.int (k : Int), .str (S l)]) [e0, Fx fd, e2, s3, s4, s5, s6] = some [e0, Fx fd, e2, Ix k, Tx l, s5, s6] := by simp [bTup, bCons, bNil]
    obtain ⟨c', a, loop⟩ := law_cols e0 e2 k l hll okl line l.length 0 fd s6 (by omega) (Nat.zero_le _) (by omega) okf hb (by omega)
    rw [List.drop_zero] at loop
    have q : l5__law_tokens = sSeq2 (sSet 5 (sC (.int 0))) (sWhile c3__law_tokens w4__law_tokens line) := rfl
    have s1 : sSet 5 (sC (.int 0)) [e0, Fx fd, e2, Ix k, Tx l, s5, s6] () = .nx [e0, Fx fd, e2, Ix k, Tx l, Ix 0, s6] () := by simp
    have body : l5__law_tokens [e0, Fx fd, e2, Ix k, Tx l, s5, s6] () = if bad (rowT k l) then .rt (.list ((fd ++ rowT k l).map Tk.d)) () else .nx [e0, Fx (fd ++ rowT k l), e2, Ix k, Tx l, Ix c', a] () := by
      rw [q, u_seq2, s1]
      exact loop
    unfold rowsT
    simp only [enF, u_forC, hbt, body]
    cases hbr : bad (rowT k l) with
    | true => exact ⟨s3, s4, s5, s6, by simp [hbr]⟩
    | false =>
      have hrl : (rowT k l).length ≤ l.length := hlr
      obtain ⟨a3, a4, a5, a6, ih⟩ := law_rows e0 e2 r (k + 1) (fd ++ rowT k l) (Ix k) (Tx l) (Ix c') a (fun l h => ok l (List.mem_cons_of_mem _ h)) oka (by rw [hba, hbr]) (by rw [List.length_append]; omega)
      refine ⟨a3, a4, a5, a6, ?_⟩
      have hb2 := bad_app (rowT k l) (rowsT (k + 1) r) hbr
      simp only [Bool.false_eq_true, if_false, ih, hb2, List.append_assoc]
theorem m_ltok (t : List Nat) (ht : t.length + 2 ≤ line) (ok : ∀ c ∈ t, c < 128) : m__law_tokens [.str (S t)] () = .ok (.list ((toksE t).map Tk.d)) () := by
  have ht' : t.length < line := by omega
  have lok := lns_ok ht' ok
  obtain ⟨okt, hlt⟩ := toks_ok ht' ok
  have hls := lns_sum t
  have hlp := lns_pos t
  obtain ⟨a3, a4, a5, a6, loop⟩ := law_rows (Tx t) (.val (.list ((lns t).map fun l => .str (S l)))) (lns t) 0 [] .emp .emp .emp .emp lok (by intro t h; cases h) rfl (by simp; omega)
  have hll : (lastL t).length ≤ line := by
    have := (lok (lastL t) (List.getLast_mem _)).1
    omega
  have h0 : (0 : Nat) ≤ line := by decide
  have h1 : (1 : Nat) ≤ line := by decide
  have h4 : (4 : Nat) ≤ line := by decide
  have hsz : (toks t).length + 1 ≤ line := by omega
  have hlenl : fLen (.list ((lns t).map fun l => .str (S l))) = some (.st (.int ((lns t).length : Int))) := by simp [fLen]
  rw [List.nil_append] at loop
  have loop' : sForL (bTup 2 (bCons (bName 3) (bCons (bName 4) bNil))) l5__law_tokens (enF 0 (lns t)) [Slot.val (.str (S t)), .own (.list []), .val (.list ((lns t).map fun l => .str (S l))), .emp, .emp, .emp, .emp] () = _ := loop
  unfold toksE
  cases hb : bad (toks t) with
  | true =>
    rw [show bad (rowsT 0 (lns t)) = true from hb] at loop'
    simp [m__law_tokens, mDef, startE, b__law_tokens, fin, split_m ht, sEnum, enum_m, loop', toks]
  | false =>
    rw [show bad (rowsT 0 (lns t)) = false from hb] at loop'
    have hadd : opAdd (.list ((rowsT 0 (lns t)).map Tk.d)) (.list [(endT t).d]) = some (.list (((toks t) ++ [endT t]).map Tk.d)) := by
      show (if _ then _ else _) = _
      rw [if_pos (by simpa [toks] using hsz)]
      simp [toks]
    rw [end_d] at hadd
    simp [m__law_tokens, mDef, startE, b__law_tokens, fin, split_m ht, sEnum, enum_m, loop', hlenl, last_line, len_S hll, hadd, h1, h4]
end Lk18
set_option maxHeartbeats 4000000
namespace Lk18
open PySem PySem.Spec PyProof.Rows L2 Fw
open SX (S)
/-! ### refused -/
theorem ref_bad (d : PyData) (r c : Int) (h : m_tokens [d] () = .ex ⟨"BadText", [("column", .int c), ("line", .int r)]⟩ ()) : m__law_refused [d] () = .ok (.list [.int r, .int c, .bool true]) () := by
  have e1 : sub_BadText "BadText" = some true := by decide +kernel
  have e2 : is_ReaderError "BadText" = some true := by decide +kernel
  have e3 : ("BadText" : Str) ∈ tell_line := by decide +kernel
  have e4 : ("BadText" : Str) ∈ tell_column := by decide +kernel
  have e5 : List.lookup ("line" : Str) [(("column" : Str), PyData.int c), ("line", .int r)] = some (.int r) := by
    rw [List.lookup_cons, show (("line" : Str) == ("column" : Str)) = false by decide +kernel]
    simp
  have e6 : List.lookup ("column" : Str) [(("column" : Str), PyData.int c), ("line", .int r)] = some (.int c) := by simp
  have h3 : (3 : Nat) ≤ line := by decide
  simp [m__law_refused, mDef, startE, b__law_refused, fin, h, sTry, hand, e1, after, fSu, xCons, xNil, xFld, xIs, e2, e3, e4, e5, e6, h3]
theorem ref_text (d v : PyData) (s : Str) (h : m_tokens [d] () = .ex ⟨"InvalidText", [("value", v)]⟩ ()) (hs : opShow v = some s) : m__law_refused [d] () = .ok (.list [.str "text", .str s, .bool true]) () := by
  have e0 : sub_BadText "InvalidText" = some false := by decide +kernel
  have e1 : sub_InvalidText "InvalidText" = some true := by decide +kernel
  have e2 : is_ReaderError "InvalidText" = some true := by decide +kernel
  have e3 : ("InvalidText" : Str) ∈ tell_value := by decide +kernel
  have h3 : (3 : Nat) ≤ line := by decide
  simp [m__law_refused, mDef, startE, b__law_refused, fin, h, sTry, hand, e0, e1, after, fSu, xCons, xNil, xFld, xIs, xRepr, xC, e2, e3, hs, h3, Function.comp]
theorem tok_invalid (d : PyData) (h : m_want_text [d] () = .ex ⟨"InvalidText", [("value", d)]⟩ ()) : m_tokens [d] () = .ex ⟨"InvalidText", [("value", d)]⟩ () := by
  simp [m_tokens, mDef, startE, b_tokens, fin, h]
/-! ### sizes -/
theorem w_tk (t : Tk) (hr : t.r ≤ 20000) (hc : t.c ≤ 20000) : t.d.weight ≤ 45 + t.x.length := by
  have h : ∀ n : Nat, n ≤ 20000 → PyData.weight (.int n) ≤ 16 := fun n hn => by
    simp only [PyData.weight]
    split
    · omega
    · rename_i h0
      have h1 : n ≠ 0 := fun z => h0 (by rw [z]; rfl)
      have := (Nat.log2_lt h1 (k := 15)).mpr (by omega)
      simp
      omega
  have h1 := h t.r hr
  have h2 := h t.c hc
  have h3 : PyData.weight (.str t.s.s) ≤ 7 := by cases t.s <;> decide +kernel
  have h4 : PyData.weight (.str (S t.x)) = t.x.length := by simp [PyData.weight]
  unfold Tk.d
  simp only [PyData.weight, PyData.weightAll] at h1 h2 h3 h4 ⊢
  omega
def okN (ts : List Tk) : Prop := okT ts ∧ ts.length ≤ 400 ∧ ∀ t ∈ ts, t.x.length ≤ 400 ∧ t.r ≤ 20000 ∧ t.c ≤ 20000
theorem nice_tk (t : Tk) (h : ∀ c ∈ t.x, c < 128) (hr : t.r ≤ 20000) (hc : t.c ≤ 20000) : nice t.d = true := by
  have h3 : nice (.str t.s.s) = true := by cases t.s <;> decide +kernel
  have h4 := nice_str h
  have h1 : nice (.int (t.r : Int)) = true := by simp only [nice, Bool.and_eq_true, decide_eq_true_eq]; omega
  have h2 : nice (.int (t.c : Int)) = true := by simp only [nice, Bool.and_eq_true, decide_eq_true_eq]; omega
  unfold Tk.d
  simp only [nice, niceAll] at h1 h2 h3 h4 ⊢
  simp only [h3, h4, h1, h2]
  rfl
theorem tks_ok (ts : List Tk) (h : okN ts) : nice (.list (ts.map Tk.d)) = true ∧ PyData.depth (.list (ts.map Tk.d)) ≤ 2 ∧ PyData.weight (.list (ts.map Tk.d)) ≤ ts.length * 446 := by
  obtain ⟨h1, h2, h3⟩ := h
  have key : niceAll (ts.map Tk.d) = true ∧ PyData.depthAll (ts.map Tk.d) ≤ 1 ∧ PyData.weightAll (ts.map Tk.d) ≤ ts.length * 446 := by
    clear h2
    induction ts with
    | nil => exact ⟨rfl, by simp [PyData.depthAll], by simp [PyData.weightAll]⟩
    | cons t ts ih =>
      obtain ⟨i1, i2, i3⟩ := ih (fun t ht => h1 t (List.mem_cons_of_mem _ ht)) (fun t ht => h3 t (List.mem_cons_of_mem _ ht))
      obtain ⟨a1, a2, a3⟩ := h3 t List.mem_cons_self
      have e2 : PyData.depth t.d = 1 := by simp [Tk.d, PyData.depth, PyData.depthAll]
      have e3 := w_tk t a2 a3
      refine ⟨by simp only [List.map_cons, niceAll, nice_tk t (h1 t List.mem_cons_self) a2 a3, i1]; rfl, by simp only [List.map_cons, PyData.depthAll, e2]; omega, ?_⟩
      simp only [List.map_cons, PyData.weightAll, List.length_cons]
      omega
  refine ⟨by simp only [nice]; exact key.1, by simp only [PyData.depth]; omega, by simp only [PyData.weight]; exact key.2.2⟩
/-! ### places of tokens -/
theorem scn_pl (row : Nat) : ∀ (n c : Nat) (l : List Nat), ∀ t ∈ scn row n c l, t.r = row ∧ t.c ≤ c + l.length ∧ t.x.length ≤ l.length
  | 0, _, _ => by intro t h; simp [scn] at h
  | _ + 1, _, [] => by intro t h; simp [scn] at h
  | n + 1, c, x :: l => by
    intro t h
    rw [scn] at h
    split at h
    · cases h
    · split at h
      · obtain ⟨h1, h2, h3⟩ := scn_pl row n (c + 1) l t h
        rw [List.length_cons]
        exact ⟨h1, by omega, by omega⟩
      · obtain ⟨p1, p2⟩ := nxt_pos x l
        rcases List.mem_cons.mp h with e | e
        · rw [e]
          exact ⟨rfl, by dsimp only; omega, p2⟩
        · split at e
          · cases e
          · obtain ⟨h1, h2, h3⟩ := scn_pl row n _ _ t e
            rw [List.length_drop] at h2 h3
            exact ⟨h1, by omega, by omega⟩
theorem rowsT_pl : ∀ (k : Nat) (ls : List (List Nat)), ∀ t ∈ rowsT k ls, t.r < k + ls.length ∧ t.c ≤ (ls.map List.length).sum ∧ t.x.length ≤ (ls.map List.length).sum
  | _, [] => by intro t h; simp [rowsT] at h
  | k, l :: r => by
    intro t h
    unfold rowsT rowT at h
    rw [List.length_cons, List.map_cons, List.sum_cons]
    rcases List.mem_append.mp h with e | e
    · obtain ⟨h1, h2, h3⟩ := scn_pl k l.length 0 l t e
      exact ⟨by omega, by omega, by omega⟩
    · split at e
      · cases e
      · obtain ⟨h1, h2, h3⟩ := rowsT_pl (k + 1) r t e
        exact ⟨by omega, by omega, by omega⟩
theorem toks_N {t : List Nat} (ht : t.length ≤ 400) (ok : ∀ c ∈ t, c < 128) : okN (toks t) := by
  have h1 : t.length < line := by have : 400 < line := by decide
                                  omega
  obtain ⟨a, b⟩ := toks_ok h1 ok
  have hs := lns_sum t
  refine ⟨a, by omega, fun k hk => ?_⟩
  obtain ⟨p1, p2, p3⟩ := rowsT_pl 0 (lns t) k hk
  exact ⟨by omega, by omega, by omega⟩
/-- repr of what tokens tells, twice -/
theorem show2 (ts : List Tk) (h : okN ts) : ∃ x, opShow (.list [.list (ts.map Tk.d), .list (ts.map Tk.d)]) = some x ∧ asc x := by
  obtain ⟨h1, h2, h3⟩ := tks_ok ts h
  have hl := h.2.1
  obtain ⟨a, b⟩ := nice_show (d := .list [.list (ts.map Tk.d), .list (ts.map Tk.d)]) (by simp only [nice, niceAll] at h1 ⊢; rw [h1]; rfl) (by simp only [PyData.depth, PyData.depthAll] at h2 ⊢; omega) (by simp only [PyData.weight, PyData.weightAll] at h3 ⊢; omega)
  exact ⟨_, a, b⟩
theorem show3 (r c : Nat) (hr : r ≤ 20000) (hc : c ≤ 20000) : ∃ x, opShow (.list [.int r, .int c, .bool true]) = some x ∧ asc x := by
  have h : ∀ n : Nat, n ≤ 20000 → PyData.weight (.int n) ≤ 16 := fun n hn => by
    simp only [PyData.weight]
    split
    · omega
    · rename_i h0
      have h1 : n ≠ 0 := fun z => h0 (by rw [z]; rfl)
      have := (Nat.log2_lt h1 (k := 15)).mpr (by omega)
      simp
      omega
  have h1 := h r hr
  have h2 := h c hc
  obtain ⟨a, b⟩ := nice_show (d := .list [.int r, .int c, .bool true]) (by simp only [nice, niceAll, Bool.and_eq_true, decide_eq_true_eq, Bool.and_true]; omega) (by simp [PyData.depth, PyData.depthAll]) (by simp only [PyData.weight, PyData.weightAll] at h1 h2 ⊢; omega)
  exact ⟨_, a, b⟩
theorem badL_le {t : List Nat} (ht : t.length ≤ 400) (ok : ∀ c ∈ t, c < 128) : (badL t).1 ≤ 20000 ∧ (badL t).2 ≤ 20000 := by
  unfold badL
  cases h : (toks t).getLast? with
  | none => simp
  | some k =>
    have := (toks_N ht ok).2.2 k (List.mem_of_getLast? h)
    exact ⟨this.2.1, this.2.2⟩
/-- any text is split as the law splits it -/
theorem m_sright (t : List Nat) (ht : t.length ≤ 400) (ok : ∀ c ∈ t, c < 128) : m__law_string_right [.str (S t)] () = .ok (.bool true) () := by
  have h12 : t.length ≤ 12000 := by omega
  have hl : t.length + 2 ≤ line := by have : 402 ≤ line := by decide
                                      omega
  have hlt := m_ltok t hl ok
  have htk := m_tok t h12 ok
  unfold toksE at hlt
  cases hb : bad (toks t) with
  | true =>
    rw [hb] at hlt htk
    simp only [if_true] at hlt htk
    obtain ⟨k, hk⟩ : ∃ k, (toks t).getLast? = some k := by
      cases h : (toks t).getLast? with
      | none => simp [bad, h] at hb
      | some k => exact ⟨k, rfl⟩
    have hno : k.s = .no := by simpa [bad, hk] using hb
    have hbl : badL t = (k.r, k.c) := by simp [badL, hk]
    have hrf := ref_bad _ _ _ htk
    obtain ⟨x, hx, hax⟩ := show3 _ _ (badL_le ht ok).1 (badL_le ht ok).2
    rw [hbl] at hrf hx
    have h3 : (3 : Nat) ≤ line := by decide
    have he := Fw.eq_self hax
    simp only at hrf hx
    simp [m__law_string_right, mDef, startE, b__law_string_right, fin, hlt, ix_last, hk, d_ix0, d_ix2, d_ix3, eq_no, hno, hrf, fRepr, hx, h3, he]
  | false =>
    rw [hb] at hlt htk
    simp only [Bool.false_eq_true, if_false, List.map_append, List.map_cons, List.map_nil] at hlt htk
    have hne : ¬ (endT t).s = Sr.no := by show ¬ Sr.fin = Sr.no; decide
    have hcut := cut_last ((toks t).map Tk.d) (endT t).d
    obtain ⟨x, hx, hax⟩ := show2 (toks t) (toks_N ht ok)
    have he := Fw.eq_self hax
    have h2 : (2 : Nat) ≤ line := by decide
    have h1 : (1 : Nat) ≤ line := by decide
    have hmul : opMul (.list [.list ((toks t).map Tk.d)]) (.int 2) = some (.list [.list ((toks t).map Tk.d), .list ((toks t).map Tk.d)]) := by
      unfold opMul
      simp only []
      rw [if_pos ⟨by decide, by decide, show 1 * 2 ≤ line by decide⟩]
      rfl
    simp [m__law_string_right, mDef, startE, b__law_string_right, fin, hlt, ix_last, d_ix0, eq_no, hne, htk, fRepr, hx, h2, h1, he, hcut, hmul, pick]
end Lk18
set_option maxHeartbeats 4000000
namespace Lk18
open PySem PySem.Spec PyProof.Rows L2 Fw
open SX (S)
/-! ### tokens by one going through the text -/
inductive Mo where
  | pl (k : Nat)
  | rem
/-- k signs of a token are still to be passed; rem: within a remark -/
def T : Mo → Nat → Nat → List Nat → List Tk
  | _, _, _, [] => []
  | .rem, r, c, x :: t => if x = 10 then T (.pl 0) (r + 1) 0 t else T .rem r (c + 1) t
  | .pl (k + 1), r, c, _ :: t => T (.pl k) r (c + 1) t
  | .pl 0, r, c, x :: t => if x = 10 then T (.pl 0) (r + 1) 0 t else if x = 35 then T .rem r (c + 1) t else if x = 32 then T (.pl 0) r (c + 1) t else
    ⟨(nxt (x :: t)).1, (nxt (x :: t)).2, r, c⟩ :: (if (nxt (x :: t)).1 = .no then [] else T (.pl ((nxt (x :: t)).2.length - 1)) r (c + 1) t)
/-- what follows behind a line -/
def tl (r : Nat) : List Nat → List Tk
  | [] => []
  | _ :: u => T (.pl 0) (r + 1) 0 u
def isE (R : List Nat) : Prop := R = [] ∨ ∃ u, R = 10 :: u
theorem w10 : wch 10 = false := by decide +kernel
theorem T_rem (r : Nat) (R : List Nat) (hR : isE R) : ∀ (l : List Nat) (c : Nat), 10 ∉ l → T .rem r c (l ++ R) = tl r R
  | [], c, _ => by
    rcases hR with rfl | ⟨u, rfl⟩
    · simp [T, tl]
    · simp [T, tl]
  | x :: l, c, h => by
    have hx : x ≠ 10 := fun e => h (by rw [e]; exact List.mem_cons_self)
    rw [List.cons_append, T, if_neg hx]
    exact T_rem r R hR l (c + 1) fun z => h (List.mem_cons_of_mem _ z)
theorem T_skip (r : Nat) : ∀ (k : Nat) (l : List Nat) (c : Nat) (R : List Nat), k ≤ l.length → T (.pl k) r c (l ++ R) = T (.pl 0) r (c + k) (l.drop k ++ R)
  | 0, l, c, R, _ => rfl
  | k + 1, [], c, R, h => by simp at h
  | k + 1, x :: l, c, R, h => by
    rw [List.cons_append, T, T_skip r k l (c + 1) R (by simpa using h), List.drop_succ_cons, show c + 1 + k = c + (k + 1) by omega]
theorem nxt_app (x : Nat) (l R : List Nat) (hR : R = [] ∨ ∃ y u, R = y :: u ∧ wch y = false) : nxt (x :: l ++ R) = nxt (x :: l) := by
  have h : (x :: l ++ R).takeWhile wch = (x :: l).takeWhile wch := by
    rcases hR with rfl | ⟨y, u, rfl, hy⟩
    · simp
    · rw [List.takeWhile_append]
      split
      · rename_i h
        rw [List.takeWhile_cons, hy]
        have := (List.takeWhile_sublist (l := x :: l) wch).eq_of_length (by simpa using h)
        simp [this]
      · rfl
  unfold nxt
  rw [h]
  rfl
theorem isE_w {R : List Nat} (h : isE R) : R = [] ∨ ∃ y u, R = y :: u ∧ wch y = false := by
  rcases h with h | ⟨u, h⟩
  · exact .inl h
  · exact .inr ⟨10, u, h, w10⟩
theorem scn_T (r : Nat) (R : List Nat) (hR : isE R) : ∀ (n c : Nat) (l : List Nat), l.length ≤ n → 10 ∉ l → T (.pl 0) r c (l ++ R) = scn r n c l ++ (if bad (scn r n c l) then [] else tl r R)
  | n, c, [], _, _ => by
    have e : scn r n c [] = [] := by cases n <;> rfl
    rw [e]
    rcases hR with rfl | ⟨u, rfl⟩
    · simp [T, tl]
    · simp [T, tl, bad]
  | 0, c, x :: l, h, _ => by simp at h
  | n + 1, c, x :: l, h, h10 => by
    have hx : x ≠ 10 := fun e => h10 (by rw [e]; exact List.mem_cons_self)
    have hl10 : 10 ∉ l := fun z => h10 (List.mem_cons_of_mem _ z)
    have hl : l.length ≤ n := by simpa using h
    rw [List.cons_append, T, if_neg hx, scn]
    by_cases h35 : x = 35
    · rw [if_pos h35, if_pos h35, T_rem r R hR l _ hl10]
      simp [bad]
    · rw [if_neg h35, if_neg h35]
      by_cases h32 : x = 32
      · rw [if_pos h32, if_pos h32]
        exact scn_T r R hR n (c + 1) l hl hl10
      · rw [if_neg h32, if_neg h32]
        have en : nxt (x :: (l ++ R)) = nxt (x :: l) := nxt_app x l R (isE_w hR)
        rw [en]
        obtain ⟨p1, p2⟩ := nxt_pos x l
        by_cases hs : (nxt (x :: l)).1 = .no
        · simp [hs, bad]
        · rw [if_neg hs, if_neg hs, T_skip r _ l _ R (by simp at p2; omega)]
          have hd : (x :: l).drop (nxt (x :: l)).2.length = l.drop ((nxt (x :: l)).2.length - 1) := by
            obtain ⟨m, hm⟩ : ∃ m, (nxt (x :: l)).2.length = m + 1 := ⟨_, (Nat.sub_add_cancel p1).symm⟩
            rw [hm]
            rfl
          have ih := scn_T r R hR n (c + (nxt (x :: l)).2.length) ((x :: l).drop (nxt (x :: l)).2.length) (by rw [List.length_drop]; omega) (fun z => h10 (List.mem_of_mem_drop z))
          rw [hd] at ih
          rw [show c + 1 + ((nxt (x :: l)).2.length - 1) = c + (nxt (x :: l)).2.length by omega, ih, hd, bad_cons _ _ hs]
          rfl
theorem rows_T : ∀ (t acc : List Nat) (k : Nat), 10 ∉ acc → rowsT k (lnF acc t) = T (.pl 0) k 0 (acc ++ t)
  | [], acc, k, h => by
    have := scn_T k [] (.inl rfl) acc.length 0 acc (Nat.le_refl _) h
    rw [this]
    rfl
  | x :: t, acc, k, h => by
    unfold lnF
    by_cases hx : x = 10
    · rw [if_pos hx, hx]
      have := scn_T k (10 :: t) (.inr ⟨t, rfl⟩) acc.length 0 acc (Nat.le_refl _) h
      rw [this]
      have ih := rows_T t [] (k + 1) (by simp)
      rw [List.nil_append] at ih
      unfold rowsT
      rw [ih]
      rfl
    · rw [if_neg hx, rows_T t (acc ++ [x]) k (by simp [h, Ne.symm hx])]
      simp
theorem toks_T (t : List Nat) : toks t = T (.pl 0) 0 0 t := by
  unfold toks
  rw [lns_eq, rows_T t [] 0 (by simp)]
  rfl
/-- the place behind a text -/
def adv : Nat × Nat → List Nat → Nat × Nat
  | z, [] => z
  | z, x :: t => adv (if x = 10 then (z.1 + 1, 0) else (z.1, z.2 + 1)) t
theorem adv_app : ∀ (a b : List Nat) (z : Nat × Nat), adv z (a ++ b) = adv (adv z a) b
  | [], b, z => rfl
  | x :: a, b, z => adv_app a b _
theorem adv_lnF : ∀ (t acc : List Nat) (k : Nat), adv (k, acc.length) t = (k + (lnF acc t).length - 1, ((lnF acc t).getLast (lnF_ne t acc)).length)
  | [], acc, k => by simp [adv, lnF]
  | x :: t, acc, k => by
    by_cases hx : x = 10
    · have e : lnF acc (x :: t) = acc :: lnF [] t := by rw [lnF, if_pos hx]
      have ih := adv_lnF t [] (k + 1)
      simp only [adv, if_pos hx, e]
      rw [show ((k, acc.length).1 + 1, 0) = (k + 1, ([] : List Nat).length) from rfl, ih, List.getLast_cons (lnF_ne t [])]
      have := List.length_pos_iff.mpr (lnF_ne t [])
      simp only [List.length_cons]
      rw [show k + 1 + (lnF [] t).length - 1 = k + ((lnF [] t).length + 1) - 1 by omega]
    · have e : lnF acc (x :: t) = lnF (acc ++ [x]) t := by rw [lnF, if_neg hx]
      have ih := adv_lnF t (acc ++ [x]) k
      simp only [adv, if_neg hx, e]
      rw [show ((k, acc.length).1, (k, acc.length).2 + 1) = (k, (acc ++ [x]).length) by simp, ih]
theorem adv_lns (t : List Nat) : adv (0, 0) t = ((lns t).length - 1, (lastL t).length) := by
  have := adv_lnF t [] 0
  rw [show (0, ([] : List Nat).length) = (0, 0) from rfl] at this
  rw [this]
  unfold lastL
  simp only [lns_eq, Nat.zero_add]
end Lk18
set_option maxHeartbeats 4000000
namespace Lk18
open PySem PySem.Spec PyProof.Rows L2 Fw
open SX (S)
/-! ### draws -/
def good (p : Pt) : Prop := ∃ cs a b, p = ⟨some cs, [a, b]⟩
theorem eqI (i j : Int) : opEq (.int i) (.int j) = some (.bool (decide (i = j))) := by
  unfold opEq
  rw [show SeqAt.shaped (.int i) = true by simp [SeqAt.shaped, PyData.canLay0, PyData.depth], show SeqAt.shaped (.int j) = true by simp [SeqAt.shaped, PyData.canLay0, PyData.depth]]
  simp only [PyData.eqv, Bool.and_self, if_true]
  by_cases h : i = j <;> simp [h]
theorem mod_pos (i j : Int) (h : 0 < j) : opMod (.int i) (.int j) = some (.int (i % j)) := by
  unfold opMod
  simp only []
  rw [if_pos h]
theorem div19 (i : Int) : opDiv (.int i) (.int 19) = some (.int (i / 19)) := by
  unfold opDiv
  simp only []
  rw [if_pos (by decide)]
theorem mul_k (i : Int) : opMul (.int i) (.int 40692) = some (.int (i * 40692)) := by
  unfold opMul
  simp only []
  rw [if_pos (by rw [show Fw.small64 40692 = true by decide, Bool.or_true])]
theorem mul_s (i : Int) (h0 : 0 ≤ i) (h : i < 2147483563) : opMul (.int i) (.int i) = some (.int (i * i)) := by
  unfold opMul
  simp only []
  rw [if_pos]
  have h1 : -(2 ^ 64) < i := by omega
  have h2 : i < 2 ^ 64 := by omega
  simp only [Fw.small64, decide_eq_true h1, decide_eq_true h2]
  rfl
theorem pix1 (cs : List Int) (a b : Int) (e1 e2 : Slot) : sPix 0 1 [.pot, e1, e2] ⟨some cs, [a, b]⟩ = .ok (.st (.int a)) ⟨some cs, [a, b]⟩ := by
  simp [sPix, Pt.o, atI, ixN]
theorem pix2 (cs : List Int) (a b : Int) (e1 e2 : Slot) : sPix 0 2 [.pot, e1, e2] ⟨some cs, [a, b]⟩ = .ok (.st (.int b)) ⟨some cs, [a, b]⟩ := by
  simp [sPix, Pt.o, atI, ixN]
theorem put1 (cs : List Int) (a b n : Int) (e1 e2 : Slot) : pPut 0 1 [.pot, e1, e2] n ⟨some cs, [a, b]⟩ = some ⟨some cs, [n, b]⟩ := by
  simp [pPut, Pt.o, ixN, Pt.put]
theorem put2 (cs : List Int) (a b n : Int) (e1 e2 : Slot) : pPut 0 2 [.pot, e1, e2] n ⟨some cs, [a, b]⟩ = some ⟨some cs, [a, n]⟩ := by
  simp [pPut, Pt.o, ixN, Pt.put]
def drawB : SS Pt := sSeq2 (sIfS (sTest (sBin opGt (sPix 0 1) (sC (.int 0)))) (sSeq2 (sPdm 0 1 2 (sCons (sPix 0 1) (sCons (sVar 1) sNil))) (sRet (sVar 2))) sSkip)
    (sSeq2 (sPput 0 2 (sBin opMod (sCall (g1 fInt) (sCons (sBin opAdd (sBin opMul (sPix 0 2) (sC (.int 40692))) (sC (.int 1949))) sNil)) (sC (.int 2147483563))))
    (sRet (sBin opMod (sCall (g1 fInt) (sCons (sBin opDiv (sBin opMod (sCall (g1 fInt) (sCons (sBin opMul (sPix 0 2) (sPix 0 2)) sNil)) (sC (.int 2147483549))) (sC (.int 19))) sNil)) (sVar 1))))
theorem draw_b (cs : List Int) (a b n : Int) (h1 : 0 < n) (h2 : n < 1073741824) : ∃ d p', drawB [.pot, .val (.int n), .emp] ⟨some cs, [a, b]⟩ = .rt (.int d) p' ∧ 0 ≤ d ∧ d < n ∧ good p' := by
  by_cases ha : 0 < a
  · refine ⟨a % n, ⟨some cs, [a / n, b]⟩, ?_, Int.emod_nonneg _ (by omega), Int.emod_lt_of_pos _ h1, cs, _, _, rfl⟩
    simp [drawB, pix1, ha, sPdm, pDm, twoI, Fw.stI, h1, h2, put1]
  · have m1 : 0 ≤ (b * 40692 + 1949) % 2147483563 := Int.emod_nonneg _ (by decide)
    have m2 : (b * 40692 + 1949) % 2147483563 < 2147483563 := Int.emod_lt_of_pos _ (by decide)
    refine ⟨_, ⟨some cs, [a, (b * 40692 + 1949) % 2147483563]⟩, ?_, Int.emod_nonneg ((((b * 40692 + 1949) % 2147483563) * ((b * 40692 + 1949) % 2147483563)) % 2147483549 / 19) (b := n) (by omega), Int.emod_lt_of_pos _ h1, cs, _, _, rfl⟩
    simp [drawB, pix1, pix2, ha, sPput, Fw.stI, mul_k, fInt, mod_pos, put2, mul_s _ m1 m2, div19, h1]
theorem m_draw (n : Int) (h1 : 0 < n) (h2 : n < 1073741824) (p : Pt) (hp : good p) : ∃ d p', m__law_draw [.int n] p = .ok (.int d) p' ∧ 0 ≤ d ∧ d < n ∧ good p' := by
  obtain ⟨cs, a, b, rfl⟩ := hp
  have q : b__law_draw = sSeq2 (sIfS (sAnd (sTest (sBin opEq (sPix 0 1) (sC (.int 0)))) (sPany 0)) (sPpop 0 1) sSkip) drawB := rfl
  have key : ∃ cs' a', sIfS (sAnd (sTest (sBin opEq (sPix 0 1) (sC (.int 0)))) (sPany 0)) (sPpop 0 1) sSkip [.pot, .val (.int n), .emp] ⟨some cs, [a, b]⟩ = .nx [.pot, .val (.int n), .emp] ⟨some cs', [a', b]⟩ := by
    by_cases ha : a = 0
    · cases cs with
      | nil => exact ⟨[], a, by simp [pix1, eqI, ha, sPany]⟩
      | cons x cs => exact ⟨cs, x, by simp [pix1, eqI, ha, sPany, sPpop, pPop, put1]⟩
    · exact ⟨cs, a, by simp [pix1, eqI, ha]⟩
  obtain ⟨cs', a', key⟩ := key
  obtain ⟨d, p', h3, h4, h5, h6⟩ := draw_b cs' a' b n h1 h2
  refine ⟨d, p', ?_, h4, h5, h6⟩
  unfold m__law_draw mDef
  rw [q]
  show fin (sSeq2 _ drawB [.pot, .val (.int n), .emp] ⟨some cs, [a, b]⟩) = _
  rw [u_seq2, key]
  dsimp only
  rw [h3]
  rfl
theorem m_pick (ds : List PyData) (h1 : ds ≠ []) (h2 : ds.length < 1073741824) (p : Pt) (hp : good p) : ∃ d p', m__law_pick [.list ds] p = .ok d p' ∧ d ∈ ds ∧ good p' := by
  have hl := List.length_pos_iff.mpr h1
  obtain ⟨d, p', e, h3, h4, h5⟩ := m_draw (ds.length : Int) (by omega) (by omega) p hp
  obtain ⟨k, rfl⟩ : ∃ k : Nat, d = (k : Int) := ⟨d.toNat, by omega⟩
  have hk : k < ds.length := by omega
  refine ⟨ds[k], p', ?_, List.getElem_mem hk, h5⟩
  have hix : opIx (.list ds) (.int (k : Int)) = some ds[k] := by
    show atI ds (k : Int) = _
    rw [Fw.atI_nat, List.getElem?_eq_getElem hk]
  simp [m__law_pick, mDef, startE, b__law_pick, fin, fLen, e, hix]
end Lk18
set_option maxHeartbeats 4000000
namespace Lk18
open PySem PySem.Spec PyProof.Rows L2 Fw
open SX (S)
/-! ### pieces -/
def pcs : List (Sr × Str) := [(.word, "readers"), (.word, "all"), (.word, "to"), (.word, "give"), (.word, "below"), (.word, "fst"), (.word, "int"), (.word, "release"),
  (.name, "a"), (.name, "alls"), (.name, "x_1"), (.name, "to2"), (.name, "abcdefgh"), (.name, "a9"), (.fig, "0"), (.fig, "7"), (.fig, "0042"), (.fig, "99999999999"),
  (.sign, "("), (.sign, ")"), (.sign, "["), (.sign, "]"), (.sign, ","), (.sign, ":"), (.sign, ";"), (.sign, "="), (.sign, "<"), (.sign, "+"), (.sign, "-"), (.sign, "*")]
def pD (q : Sr × Str) : PyData := .tuple [.str q.1.s, .str q.2]
theorem m_pieces : m__law_pieces [] () = .ok (.list (pcs.map pD)) () := by rfl
/-- what a piece is: all of a word, or one sign -/
def pcOk (q : Sr × Str) : Bool := decide (q.2.cps.toList.length ≤ 11) && (q.2.cps.toList.all (· < 128) && (if q.1 = .sign then (match q.2.cps.toList with
  | [c] => inB c SIN && (!wch c && (c != 10 && (c != 32 && c != 35)))
  | _ => false) else !q.2.cps.toList.isEmpty && (q.2.cps.toList.all wch && (decide (srt q.2.cps.toList = q.1) && decide (q.1 ≠ .no)))))
theorem pcs_ok : pcs.all pcOk = true := by decide +kernel
/-- no sign of a word stands first -/
def okR (R : List Nat) : Prop := R = [] ∨ ∃ y u, R = y :: u ∧ wch y = false
theorem w_ne {c : Nat} (h : wch c = true) : c ≠ 10 ∧ c ≠ 32 ∧ c ≠ 35 := by
  have a : wch 10 = false ∧ wch 32 = false ∧ wch 35 = false := by decide +kernel
  refine ⟨?_, ?_, ?_⟩ <;> (intro e; subst e; simp [a] at h)
theorem T_piece {q : Sr × Str} (h : pcOk q = true) (r c : Nat) {R : List Nat} (hR : okR R) : T (.pl 0) r c (q.2.cps.toList ++ R) = ⟨q.1, q.2.cps.toList, r, c⟩ :: T (.pl 0) r (c + q.2.cps.toList.length) R := by
  obtain ⟨s, x⟩ := q
  unfold pcOk at h
  simp only [Bool.and_eq_true] at h
  obtain ⟨_, _, h⟩ := h
  generalize x.cps.toList = l at h ⊢
  by_cases hs : s = .sign
  · subst hs
    simp only [if_true] at h
    match l, h with
    | [y], h =>
      simp only [Bool.and_eq_true, bne_iff_ne, Bool.not_eq_true'] at h
      obtain ⟨h1, h2, h3, h4, h5⟩ := h
      have hn : nxt (y :: R) = (.sign, [y]) := by
        unfold nxt
        rw [if_neg (by simp [List.takeWhile_cons, h2])]
        simp [h1]
      show T (.pl 0) r c (y :: R) = _
      rw [T, if_neg h3, if_neg h5, if_neg h4, hn]
      rfl
    | [], h => cases h
    | _ :: _ :: _, h => cases h
  · rw [if_neg hs] at h
    simp only [Bool.and_eq_true, Bool.not_eq_true', decide_eq_true_eq] at h
    obtain ⟨h1, h2, h3, h4⟩ := h
    match l, h1, h2, h3 with
    | y :: l, _, h2, h3 =>
      have hw : ∀ z ∈ y :: l, wch z = true := fun z hz => List.all_eq_true.mp h2 z hz
      obtain ⟨n1, n2, n3⟩ := w_ne (hw y List.mem_cons_self)
      have ht : (y :: l ++ R).takeWhile wch = y :: l := by
        rw [List.takeWhile_append_of_pos (fun z hz => hw z hz)]
        rcases hR with rfl | ⟨z, u, rfl, hz⟩
        · simp
        · simp [List.takeWhile_cons, hz]
      have hn : nxt (y :: (l ++ R)) = (s, y :: l) := by
        unfold nxt
        have ht' : (y :: (l ++ R)).takeWhile wch = y :: l := ht
        rw [ht', if_pos (by simp), h3]
      show T (.pl 0) r c (y :: (l ++ R)) = _
      rw [T, if_neg n1, if_neg n3, if_neg n2, hn]
      simp only [if_neg h4]
      rw [show (y :: l).length - 1 = l.length by simp, T_skip r l.length l (c + 1) R (Nat.le_refl _), List.drop_length]
      simp only [List.nil_append, List.length_cons]
      rw [show c + 1 + l.length = c + (l.length + 1) by omega]
/-! ### gaps -/
def gaps : List Str := [" ", "  ", "\n", "\n  ", "#a ( 9x\n", " # so\n\n"]
theorem gaps_ok : gaps.all (fun g => decide (g.cps.toList.length ≤ 8) && (g.cps.toList.all (· < 128) && (match g.cps.toList with | c :: _ => !wch c | [] => false))) = true := by decide +kernel
theorem T_gap {g : Str} (h : g ∈ gaps) (r c : Nat) (R : List Nat) : T (.pl 0) r c (g.cps.toList ++ R) = T (.pl 0) (adv (r, c) g.cps.toList).1 (adv (r, c) g.cps.toList).2 R := by
  have e1 : (" " : Str).cps.toList = [32] := by decide +kernel
  have e2 : ("  " : Str).cps.toList = [32, 32] := by decide +kernel
  have e3 : ("\n" : Str).cps.toList = [10] := by decide +kernel
  have e4 : ("\n  " : Str).cps.toList = [10, 32, 32] := by decide +kernel
  have e5 : ("#a ( 9x\n" : Str).cps.toList = [35, 97, 32, 40, 32, 57, 120, 10] := by decide +kernel
  have e6 : (" # so\n\n" : Str).cps.toList = [32, 35, 32, 115, 111, 10, 10] := by decide +kernel
  simp only [gaps, List.mem_cons, List.not_mem_nil, or_false] at h
  rcases h with rfl | rfl | rfl | rfl | rfl | rfl
  · rw [e1]; simp [T, adv]
  · rw [e2]; simp [T, adv]
  · rw [e3]; simp [T, adv]
  · rw [e4]; simp [T, adv]
  · rw [e5]; simp [T, adv]
  · rw [e6]; simp [T, adv]
end Lk18
set_option maxHeartbeats 4000000
namespace Lk18
open PySem PySem.Spec PyProof.Rows L2 Fw
open SX (S)
/-! ### laid texts -/
structure Laid (t : List Nat) (due : List Tk) : Prop where
  asc : ∀ c ∈ t, c < 128
  ok : okT due
  nb : bad due = false
  run : ∀ R, okR R → T (.pl 0) 0 0 (t ++ R) = due ++ T (.pl 0) (adv (0, 0) t).1 (adv (0, 0) t).2 R
theorem laid0 : Laid [] [] := ⟨by simp, (by intro t h; cases h), rfl, fun R _ => rfl⟩
theorem adv_x : ∀ (x : List Nat) (r c : Nat), (∀ z ∈ x, z ≠ 10) → adv (r, c) x = (r, c + x.length)
  | [], r, c, _ => rfl
  | z :: x, r, c, h => by
    have hz := h z List.mem_cons_self
    simp only [adv, if_neg hz]
    rw [adv_x x r (c + 1) fun z hz => h z (List.mem_cons_of_mem _ hz), List.length_cons]
    congr 1
    omega
theorem pc_10 {q : Sr × Str} (h : pcOk q = true) : ∀ z ∈ q.2.cps.toList, z ≠ 10 := by
  unfold pcOk at h
  simp only [Bool.and_eq_true] at h
  obtain ⟨_, _, h⟩ := h
  split at h
  · split at h
    · rename_i y hy
      simp only [Bool.and_eq_true, bne_iff_ne] at h
      rw [hy]
      intro z hz
      rw [List.mem_singleton.mp hz]
      exact h.2.2.1
    · cases h
  · simp only [Bool.and_eq_true] at h
    intro z hz
    exact (w_ne (List.all_eq_true.mp h.2.1 z hz)).1
theorem pc_no {q : Sr × Str} (h : pcOk q = true) : q.1 ≠ .no := by
  unfold pcOk at h
  simp only [Bool.and_eq_true] at h
  obtain ⟨_, _, h⟩ := h
  split at h
  · rename_i e; rw [e]; decide
  · simp only [Bool.and_eq_true, decide_eq_true_eq] at h; exact h.2.2.2
theorem pc_asc {q : Sr × Str} (h : pcOk q = true) : (∀ c ∈ q.2.cps.toList, c < 128) ∧ q.2.cps.toList.length ≤ 11 := by
  unfold pcOk at h
  simp only [Bool.and_eq_true] at h
  exact ⟨fun c hc => by simpa using List.all_eq_true.mp h.2.1 c hc, by simpa using h.1⟩
theorem gap_f {g : Str} (h : g ∈ gaps) : g.cps.toList.length ≤ 8 ∧ (∀ c ∈ g.cps.toList, c < 128) ∧ ∃ y u, g.cps.toList = y :: u ∧ wch y = false := by
  have := List.all_eq_true.mp gaps_ok g h
  simp only [Bool.and_eq_true, decide_eq_true_eq] at this
  obtain ⟨h1, h2, h3⟩ := this
  refine ⟨h1, fun c hc => by simpa using List.all_eq_true.mp h2 c hc, ?_⟩
  split at h3
  · rename_i y u e
    exact ⟨y, u, e, by simpa using h3⟩
  · cases h3
theorem laid_step {t : List Nat} {due : List Tk} (h : Laid t due) {g : Str} (hg : g ∈ gaps) {q : Sr × Str} (hq : q ∈ pcs) :
    Laid (t ++ g.cps.toList ++ q.2.cps.toList) (due ++ [⟨q.1, q.2.cps.toList, (adv (0, 0) (t ++ g.cps.toList)).1, (adv (0, 0) (t ++ g.cps.toList)).2⟩]) := by
  have hp := List.all_eq_true.mp pcs_ok q hq
  obtain ⟨g1, g2, y, u, g3, g4⟩ := gap_f hg
  obtain ⟨a1, a2⟩ := pc_asc hp
  refine ⟨fun c hc => ?_, fun k hk => ?_, ?_, fun R hR => ?_⟩
  · rcases List.mem_append.mp hc with hc | hc
    · rcases List.mem_append.mp hc with hc | hc
      · exact h.asc c hc
      · exact g2 c hc
    · exact a1 c hc
  · rcases List.mem_append.mp hk with hk | hk
    · exact h.ok k hk
    · rw [List.mem_singleton.mp hk]
      exact a1
  · rw [bad_app _ _ h.nb]
    simp [bad, pc_no hp]
  · have e : t ++ g.cps.toList ++ q.2.cps.toList ++ R = t ++ (g.cps.toList ++ (q.2.cps.toList ++ R)) := by simp [List.append_assoc]
    rw [e, h.run _ (.inr ⟨y, u ++ (q.2.cps.toList ++ R), by rw [g3]; rfl, g4⟩), T_gap hg, T_piece hp _ _ hR]
    have e2 : adv (0, 0) (t ++ g.cps.toList) = adv (adv (0, 0) t) g.cps.toList := adv_app _ _ _
    have e3 : adv (0, 0) (t ++ g.cps.toList ++ q.2.cps.toList) = ((adv (0, 0) (t ++ g.cps.toList)).1, (adv (0, 0) (t ++ g.cps.toList)).2 + q.2.cps.toList.length) := by
      rw [adv_app]
      exact adv_x _ _ _ (pc_10 hp)
    rw [e3, e2]
    simp
theorem add_S {a b : List Nat} (h : a.length + b.length ≤ line) : opAdd (.str (S a)) (.str (S b)) = some (.str (S (a ++ b))) := by
  unfold opAdd
  simp only [SX.S_len]
  rw [if_pos h, SX.S_cat]
theorem pcs_one : pcs.all (fun q => decide (1 ≤ q.2.cps.toList.length)) = true := by decide +kernel
theorem laid_loop : ∀ (ds : List PyData) (t : List Nat) (due : List Tk) (p : Pt) (m s4 s5 s6 : Slot), good p → Laid t due → due.length ≤ t.length → t.length + 19 * ds.length ≤ 300 →
    ∃ t' due' p' s4' s5' s6', sForL (bName 4) l1__law_laid ds [.pot, m, Tx t, Fx due, s4, s5, s6] p = .nx [.pot, m, Tx t', Fx due', s4', s5', s6'] p' ∧ good p' ∧ Laid t' due' ∧ due'.length ≤ t'.length ∧ t'.length ≤ 300
  | [], t, due, p, m, s4, s5, s6, hp, hl, hd, hb => ⟨t, due, p, s4, s5, s6, rfl, hp, hl, hd, by omega⟩
  | d :: ds, t, due, p, m, s4, s5, s6, hp, hl, hd, hb => by
    rw [List.length_cons] at hb
    obtain ⟨x, p1, e1, hx, hp1⟩ := m_pick (gaps.map .str) (by decide) (by decide) p hp
    obtain ⟨g, hg, rfl⟩ := List.mem_map.mp hx
    obtain ⟨y, p2, e2, hy, hp2⟩ := m_pick (pcs.map pD) (by decide) (by decide) p1 hp1
    obtain ⟨q, hq, rfl⟩ := List.mem_map.mp hy
    obtain ⟨g1, g2, _⟩ := gap_f hg
    obtain ⟨a1, a2⟩ := pc_asc (List.all_eq_true.mp pcs_ok q hq)
    have hline : 1000 ≤ line := by decide
    have hls := laid_step hl hg hq
    generalize hgl : g.cps.toList = gl at g1 g2 hls
    generalize hql : q.2.cps.toList = ql at a1 a2 hls
    have eg : g = S gl := by rw [← hgl, SX.S_tl]
    have eq : q.2 = S ql := by rw [← hql, SX.S_tl]
    have ht1 : (t ++ gl).length + 2 ≤ line := by rw [List.length_append]; omega
    have hlast : (lastL (t ++ gl)).length ≤ line := by
      have := (lns_ok (t := t ++ gl) (by omega) (fun c hc => (List.mem_append.mp hc).elim (hl.asc c) (g2 c)) (lastL (t ++ gl)) (List.getLast_mem _)).1
      omega
    have h4 : (4 : Nat) ≤ line := by decide
    have h6 : (6 : Nat) ≤ line := by decide
    have hadv := adv_lns (t ++ gl)
    have hpos := lns_pos (t ++ gl)
    have hdl : due.length < line := by omega
    have hlenl : fLen (.list ((lns (t ++ gl)).map fun l => .str (S l))) = some (.st (.int ((lns (t ++ gl)).length : Int))) := by simp [fLen]
    have ha1 := add_S (a := t) (b := gl) (by omega)
    have ha2 := add_S (a := t ++ gl) (b := ql) (by rw [List.length_append]; omega)
    rw [hadv] at hls
    have tk : (⟨q.1, ql, (lns (t ++ gl)).length - 1, (lastL (t ++ gl)).length⟩ : Tk).d = .tuple [.str q.1.s, .str (S ql), .int (((lns (t ++ gl)).length : Int) - 1), .int ((lastL (t ++ gl)).length : Int)] := by
      unfold Tk.d
      simp only []
      rw [show (((lns (t ++ gl)).length - 1 : Nat) : Int) = ((lns (t ++ gl)).length : Int) - 1 by omega]
    simp only [gaps, List.map_cons, List.map_nil] at e1
    have body : l1__law_laid [.pot, m, Tx t, Fx due, .val d, s5, s6] p = .nx [.pot, m, Tx (t ++ gl ++ ql), Fx (due ++ [⟨q.1, ql, (lns (t ++ gl)).length - 1, (lastL (t ++ gl)).length⟩]), .val d, .val (.str q.1.s), .val (.str (S ql))] p2 := by
      rw [eg] at e1
      simp [l1__law_laid, e1, ha1, m_pieces, e2, pD, eq, bTup, bCons, bNil, split_m ht1, hlenl, last_line, len_S hlast, h4, h6, hdl, ha2, tk]
    obtain ⟨t', due', p', b4, b5, b6, ih, r1, r2, r3, r4⟩ := laid_loop ds (t ++ gl ++ ql) _ p2 m (.val d) (.val (.str q.1.s)) (.val (.str (S ql))) hp2 hls (by
      have hq1 : 1 ≤ ql.length := by
        rw [← hql]
        simpa using List.all_eq_true.mp pcs_one q hq
      simp only [List.length_append, List.length_cons, List.length_nil]
      omega) (by simp only [List.length_append]; omega)
    refine ⟨t', due', p', b4, b5, b6, ?_, r1, r2, r3, r4⟩
    rw [u_forC]
    simp only [u_bName, List.set_cons_succ, List.set_cons_zero, body]
    exact ih
theorem m_laid (n : Int) (h0 : 0 ≤ n) (h1 : n < 12) (p : Pt) (hp : good p) : ∃ t due p', m__law_laid [.int n] p = .ok (.tuple [.str (S t), .list (due.map Tk.d)]) p' ∧ good p' ∧ Laid t due ∧ due.length ≤ t.length ∧ t.length ≤ 300 := by
  have hr : rng1 [.st (.int n)] = some (rints 0 n.toNat) := by
    unfold rng1
    simp only [u_st]
    rw [if_pos (by
      have a : -(2 ^ 62) ≤ n := by omega
      have b : n < 2 ^ 62 := by omega
      simp only [small62, decide_eq_true a, decide_eq_true b]
      rfl)]
  obtain ⟨t, due, p', b4, b5, b6, loop, r1, r2, r3, r4⟩ := laid_loop (rints 0 n.toNat) [] [] p (.val (.int n)) .emp .emp .emp hp laid0 (by simp) (by simp [rints]; omega)
  refine ⟨t, due, p', ?_, r1, r2, r3, r4⟩
  have e0 : (S [] : Str) = "" := lit0.symm
  simp only [Tx, Fx, e0, List.map_nil] at loop
  have h2 : (2 : Nat) ≤ line := by decide
  have h00 : (0 : Nat) ≤ line := by decide
  simp [m__law_laid, mDef, startE, b__law_laid, fin, sRng1, hr, loop, frzE, h2]
end Lk18
set_option maxHeartbeats 4000000
namespace Lk18
open PySem PySem.Spec PyProof.Rows L2 Fw
open SX (S)
def a1 : SS Pt := (sAsg (bTup 2 (bCons (bName 1) (bCons (bName 2) bNil))) (sCallQ 0 2 m__law_laid (sCons (sCallQ 0 2 m__law_draw (sCons (sC (.int 12)) sNil)) sNil)))
def a2 : SS Pt := (sIfS (sTest (sBin opNe (sCall (g1 fRepr) (sCons (sLst (sCons (sCallZ 1 m_tokens (sCons (sVar 1) sNil)) (sCons (sCallZ 1 m_tokens (sCons (sBin opAdd (sVar 1) (sCallQ 0 2 m__law_pick (sCons (sLst (sCons (sC (.str "")) (sCons (sC (.str " ")) (sCons (sC (.str "\n")) (sCons (sC (.str "# $")) (sCons (sC (.str "\n\n#")) sNil)))))) sNil))) sNil)) sNil))) sNil)) (sCall (g1 fRepr) (sCons (sLst (sCons (sVar 2) (sCons (sVar 2) sNil))) sNil))))
    (sRet (sC (.bool false)))
    sSkip)
def a3 : SS Pt := (sPar 3 4 false false (sBin opAdd (sVar 1) (sC (.str " "))) (sCallQ 0 2 m__law_pick (sCons (sLst (sCons (sC (.str "abcdefghi")) (sCons (sC (.str "aB")) (sCons (sC (.str "A")) (sCons (sC (.str "_a")) (sCons (sC (.str "9a")) (sCons (sC (.str "$")) (sCons (sC (.str ".")) (sCons (sC (.str ">")) (sCons (sC (.str "|")) (sCons (sC (.str "{")) (sCons (sC (.str "&")) (sCons (sC (.str "!")) (sCons (sC (.str "1_")) sNil)))))))))))))) sNil)))
def a4 : SS Pt := (sIfS (sTest (sBin opNe (sCall (g1 fRepr) (sCons (sCallZ 1 m__law_refused (sCons (sBin opAdd (sBin opAdd (sVar 3) (sVar 4)) (sCallQ 0 2 m__law_pick (sCons (sLst (sCons (sC (.str "")) (sCons (sC (.str " (")) (sCons (sC (.str "\n9a")) sNil)))) sNil))) sNil)) sNil)) (sCall (g1 fRepr) (sCons (sLst (sCons (sBin opSub (sCall (g1 fLen) (sCons (sM1 gSplit (sVar 3) (sC (.str "\n"))) sNil)) (sC (.int 1))) (sCons (sCall (g1 fLen) (sCons (sBin opIx (sM1 gSplit (sVar 3) (sC (.str "\n"))) (sNeg (sC (.int 1)))) sNil)) (sCons (sC (.bool true)) sNil)))) sNil))))
    (sRet (sC (.bool false)))
    sSkip)
def a5 : SS Pt := (sSet 5 (sLst (sCons (sC (.str "a")) (sCons (sC (.str "b")) (sCons (sC (.str "L")) (sCons (sC (.str "1")) (sCons (sC (.str "_")) (sCons (sC (.str " ")) (sCons (sC (.str "-")) (sCons (sC (.str ">")) (sCons (sC (.str "<")) (sCons (sC (.str "(")) (sCons (sC (.str "\n")) (sCons (sC (.str "#")) (sCons (sC (.str "do")) (sCons (sC (.str "$")) (sCons (sC (.str "=")) (sCons (sC (.str "to")) (sCons (sC (.str ";")) sNil)))))))))))))))))))
def a6 : SS Pt := (sSet 6 (sBin opAdd (sLst (sCons (sC (.str "")) (sCons (sC (.str "\n")) (sCons (sC (.str "a<b")) (sCons (sC (.str "a=-1")) (sCons (sC (.str "(((")) (sCons (sC (.str "[a]*")) (sCons (sC (.str "#")) (sCons (sC (.str "all;none")) (sCons (sC (.str "1a")) (sCons (sC (.str "x1:y2")) sNil))))))))))) (sLc (sRng1 (sCons (sC (.int 6)) sNil)) (bName 8) sYes (sM1 gJoin (sC (.str "")) (sLc (sRng1 (sCons (sCallQ 0 2 m__law_draw (sCons (sC (.int 14)) sNil)) sNil)) (bName 9) sYes (sCallQ 0 2 m__law_pick (sCons (sVar 5) sNil)) [9])) [8])))
def a7 : SS Pt := (sSet 7 (sCallQ 0 2 m__law_pick (sCons (sLst (sCons (sC (.none)) (sCons (sC (.int 5)) (sCons (sTup sNil) (sCons (sLst (sCons (sC (.str "a")) sNil)) (sCons (sTup (sCons (sC (.str "a")) (sCons (sC (.str "b")) sNil))) (sCons (sC (.bool true)) (sCons sDict0 (sCons (sBin opAdd (sC (.str "a")) (sBin opMul (sC (.str " ")) (sC (.int 12000)))) sNil))))))))) sNil)))
def a8 : SS Pt := (sIfS (sOr (sTest (sBin opNe (sCallZ 1 m__law_refused (sCons (sVar 7) sNil)) (sLst (sCons (sC (.str "text")) (sCons (sCall (g1 fRepr) (sCons (sVar 7) sNil)) (sCons (sC (.bool true)) sNil)))))) (sTest (sBin opNe (sCallZ 1 m_tokens (sCons (sBin opAdd (sBin opMul (sC (.str " ")) (sC (.int 11999))) (sC (.str "a"))) sNil)) (sLst (sCons (sTup (sCons (sC (.str "name")) (sCons (sC (.str "a")) (sCons (sC (.int 0)) (sCons (sC (.int 11999)) sNil))))) sNil)))))
    (sRet (sC (.bool false)))
    sSkip)
def a9 : SS Pt := (sRet (sBin opEq (sLc (sSeq (sVar 6)) (bName 10) (sNot (sTest (sCallZ 1 m__law_string_right (sCons (sVar 10) sNil)))) (sVar 10) [10]) (sLst sNil)))
theorem a_eq : b__law_right = (sSeq2 a1 (sSeq2 a2 (sSeq2 a3 (sSeq2 a4 (sSeq2 a5 (sSeq2 a6 (sSeq2 a7 (sSeq2 a8 a9)))))))) := rfl
/-! ### extras, bad pieces -/
def exts : List Str := ["", " ", "\n", "# $", "\n\n#"]
theorem T_ext {g : Str} (h : g ∈ exts) : (∀ r c, T (.pl 0) r c g.cps.toList = []) ∧ okR g.cps.toList ∧ g.cps.toList.length ≤ 3 ∧ ∀ c ∈ g.cps.toList, c < 128 := by
  have e0 : ("" : Str).cps.toList = [] := by decide +kernel
  have e1 : (" " : Str).cps.toList = [32] := by decide +kernel
  have e3 : ("\n" : Str).cps.toList = [10] := by decide +kernel
  have e4 : ("# $" : Str).cps.toList = [35, 32, 36] := by decide +kernel
  have e5 : ("\n\n#" : Str).cps.toList = [10, 10, 35] := by decide +kernel
  have w : wch 32 = false ∧ wch 10 = false ∧ wch 35 = false := by decide +kernel
  simp only [exts, List.mem_cons, List.not_mem_nil, or_false] at h
  rcases h with rfl | rfl | rfl | rfl | rfl
  · rw [e0]; exact ⟨fun r c => by simp [T], .inl rfl, by simp, by simp⟩
  · rw [e1]; exact ⟨fun r c => by simp [T], .inr ⟨_, _, rfl, w.1⟩, by simp, by simp⟩
  · rw [e3]; exact ⟨fun r c => by simp [T], .inr ⟨_, _, rfl, w.2.1⟩, by simp, by simp⟩
  · rw [e4]; exact ⟨fun r c => by simp [T], .inr ⟨_, _, rfl, w.2.2⟩, by simp, by simp⟩
  · rw [e5]; exact ⟨fun r c => by simp [T], .inr ⟨_, _, rfl, w.2.1⟩, by simp, by simp⟩
def bads : List Str := ["abcdefghi", "aB", "A", "_a", "9a", "$", ".", ">", "|", "{", "&", "!", "1_"]
def bdOk (x : Str) : Bool := decide (x.cps.toList.length ≤ 9) && (x.cps.toList.all (· < 128) && ((!x.cps.toList.isEmpty && (x.cps.toList.all wch && decide (srt x.cps.toList = .no))) || (match x.cps.toList with
  | [c] => !inB c SIN && (!wch c && (c != 10 && (c != 32 && c != 35)))
  | _ => false)))
theorem bads_ok : bads.all bdOk = true := by decide +kernel
theorem T_bad {x : Str} (h : bdOk x = true) (r c : Nat) {R : List Nat} (hR : okR R) : T (.pl 0) r c (x.cps.toList ++ R) = [⟨.no, x.cps.toList, r, c⟩] := by
  unfold bdOk at h
  simp only [Bool.and_eq_true, Bool.or_eq_true] at h
  obtain ⟨_, _, h⟩ := h
  generalize x.cps.toList = l at h ⊢
  rcases h with ⟨h1, h2, h3⟩ | h
  · match l, h1, h2, h3 with
    | y :: l, _, h2, h3 =>
      have hw : ∀ z ∈ y :: l, wch z = true := fun z hz => List.all_eq_true.mp h2 z hz
      obtain ⟨n1, n2, n3⟩ := w_ne (hw y List.mem_cons_self)
      have ht : (y :: (l ++ R)).takeWhile wch = y :: l := by
        show (y :: l ++ R).takeWhile wch = y :: l
        rw [List.takeWhile_append_of_pos (fun z hz => hw z hz)]
        rcases hR with rfl | ⟨z, u, rfl, hz⟩
        · simp
        · simp [List.takeWhile_cons, hz]
      have hn : nxt (y :: (l ++ R)) = (.no, y :: l) := by
        unfold nxt
        rw [ht, if_pos (by simp), of_decide_eq_true h3]
      show T (.pl 0) r c (y :: (l ++ R)) = _
      rw [T, if_neg n1, if_neg n3, if_neg n2, hn]
      rfl
  · match l, h with
    | [y], h =>
      simp only [Bool.and_eq_true, bne_iff_ne, Bool.not_eq_true'] at h
      obtain ⟨h1, h2, h3, h4, h5⟩ := h
      have hn : nxt (y :: R) = (.no, [y]) := by
        unfold nxt
        rw [if_neg (by simp [List.takeWhile_cons, h2])]
        simp [h1]
      show T (.pl 0) r c (y :: R) = _
      rw [T, if_neg h3, if_neg h5, if_neg h4, hn]
      rfl
    | [], h => cases h
    | _ :: _ :: _, h => cases h
def tails : List Str := ["", " (", "\n9a"]
theorem tails_ok {g : Str} (h : g ∈ tails) : okR g.cps.toList ∧ g.cps.toList.length ≤ 3 ∧ ∀ c ∈ g.cps.toList, c < 128 := by
  have e0 : ("" : Str).cps.toList = [] := by decide +kernel
  have e1 : (" (" : Str).cps.toList = [32, 40] := by decide +kernel
  have e3 : ("\n9a" : Str).cps.toList = [10, 57, 97] := by decide +kernel
  have w : wch 32 = false ∧ wch 10 = false := by decide +kernel
  simp only [tails, List.mem_cons, List.not_mem_nil, or_false] at h
  rcases h with rfl | rfl | rfl
  · rw [e0]; exact ⟨.inl rfl, by simp, by simp⟩
  · rw [e1]; exact ⟨.inr ⟨_, _, rfl, w.1⟩, by simp, by simp⟩
  · rw [e3]; exact ⟨.inr ⟨_, _, rfl, w.2⟩, by simp, by simp⟩
/-! ### the law's turns -/
abbrev E8 : List Slot := [.emp, .emp, .emp, .emp, .emp, .emp, .emp, .emp]
theorem s1_ok (p : Pt) (hp : good p) : ∃ t due p', a1 (.pot :: .emp :: .emp :: E8) p = .nx (.pot :: Tx t :: .val (.list (due.map Tk.d)) :: E8) p' ∧ good p' ∧ Laid t due ∧ due.length ≤ t.length ∧ t.length ≤ 300 := by
  obtain ⟨n, p1, e1, h0, h1, hp1⟩ := m_draw 12 (by decide) (by decide) p hp
  obtain ⟨t, due, p2, e2, hp2, hl, hd, ht⟩ := m_laid n h0 h1 p1 hp1
  refine ⟨t, due, p2, ?_, hp2, hl, hd, ht⟩
  simp [a1, e1, e2, bTup, bCons, bNil, E8]
theorem s2_ok (t : List Nat) (due : List Tk) (p : Pt) (hp : good p) (hl : Laid t due) (hd : due.length ≤ t.length) (ht : t.length ≤ 300) : ∃ p', a2 (.pot :: Tx t :: .val (.list (due.map Tk.d)) :: E8) p = .nx (.pot :: Tx t :: .val (.list (due.map Tk.d)) :: E8) p' ∧ good p' := by
  obtain ⟨x, p1, e1, hx, hp1⟩ := m_pick (exts.map .str) (by decide) (by decide) p hp
  obtain ⟨g, hg, rfl⟩ := List.mem_map.mp hx
  obtain ⟨g1, g2, g3, g4⟩ := T_ext hg
  generalize hgl : g.cps.toList = gl at g1 g2 g3 g4
  have eg : g = S gl := by rw [← hgl, SX.S_tl]
  have hline : 1000 ≤ line := by decide
  have k1 : toks t = due := by
    have := hl.run [] (.inl rfl)
    rw [List.append_nil] at this
    rw [toks_T, this]
    simp [T]
  have k2 : toks (t ++ gl) = due := by rw [toks_T, hl.run gl g2, g1]; simp
  have asc2 : ∀ c ∈ t ++ gl, c < 128 := fun c hc => (List.mem_append.mp hc).elim (hl.asc c) (g4 c)
  have m1 := m_tok t (by omega) hl.asc
  have m2 := m_tok (t ++ gl) (by rw [List.length_append]; omega) asc2
  rw [k1, hl.nb] at m1
  rw [k2, hl.nb] at m2
  have ha := add_S (a := t) (b := gl) (by omega)
  have hN : okN due := by rw [← k1]; exact toks_N (by omega) hl.asc
  obtain ⟨y, hy, hay⟩ := show2 due hN
  have hne := Fw.ne_self hay
  have h2 : (2 : Nat) ≤ line := by decide
  have h5 : (5 : Nat) ≤ line := by decide
  simp only [exts, List.map_cons, List.map_nil] at e1
  rw [eg] at e1
  simp only [Bool.false_eq_true, if_false] at m1 m2
  refine ⟨p1, ?_, hp1⟩
  simp [a2, e1, E8, m1, m2, ha, h5, h2, fRepr, hy, hne]
end Lk18
set_option maxHeartbeats 4000000
namespace Lk18
open PySem PySem.Spec PyProof.Rows L2 Fw
open SX (S)
abbrev E6 : List Slot := [.emp, .emp, .emp, .emp, .emp, .emp]
theorem s3_ok (t : List Nat) (d2 : Slot) (p : Pt) (hp : good p) (ht : t.length ≤ 300) : ∃ x p', a3 (.pot :: Tx t :: d2 :: E8) p = .nx (.pot :: Tx t :: d2 :: Tx (t ++ [32]) :: .val (.str x) :: E6) p' ∧ good p' ∧ x ∈ bads := by
  obtain ⟨x, p1, e1, hx, hp1⟩ := m_pick (bads.map .str) (by decide) (by decide) p hp
  obtain ⟨g, hg, rfl⟩ := List.mem_map.mp hx
  have hline : 1000 ≤ line := by decide
  have h13 : (13 : Nat) ≤ line := by decide
  have ha := add_S (a := t) (b := [32]) (by simp; omega)
  rw [← lit_sp] at ha
  simp only [bads, List.map_cons, List.map_nil] at e1
  refine ⟨g, p1, ?_, hp1, hg⟩
  simp [a3, E8, E6, ha, e1, h13]
theorem s4_ok (t : List Nat) (due : List Tk) (d2 : Slot) (x : Str) (hx : x ∈ bads) (p : Pt) (hp : good p) (hl : Laid t due) (ht : t.length ≤ 300) : ∃ p', a4 (.pot :: Tx t :: d2 :: Tx (t ++ [32]) :: .val (.str x) :: E6) p = .nx (.pot :: Tx t :: d2 :: Tx (t ++ [32]) :: .val (.str x) :: E6) p' ∧ good p' := by
  obtain ⟨z, p1, e1, hz, hp1⟩ := m_pick (tails.map .str) (by decide) (by decide) p hp
  obtain ⟨g, hg, rfl⟩ := List.mem_map.mp hz
  obtain ⟨g2, g3, g4⟩ := tails_ok hg
  have hb := List.all_eq_true.mp bads_ok x hx
  have hT := fun r c => T_bad hb r c g2
  have hxl : x.cps.toList.length ≤ 9 ∧ ∀ c ∈ x.cps.toList, c < 128 := by
    unfold bdOk at hb
    simp only [Bool.and_eq_true, decide_eq_true_eq] at hb
    exact ⟨hb.1, fun c hc => by simpa using List.all_eq_true.mp hb.2.1 c hc⟩
  obtain ⟨x1, x2⟩ := hxl
  have ex : x = S x.cps.toList := (SX.S_tl x).symm
  have eg : g = S g.cps.toList := (SX.S_tl g).symm
  generalize x.cps.toList = xl at hT x1 x2 ex
  generalize g.cps.toList = gl at hT g2 g3 g4 eg
  have hline : 1000 ≤ line := by decide
  have asc1 : ∀ c ∈ t ++ [32], c < 128 := fun c hc => (List.mem_append.mp hc).elim (hl.asc c) fun h => by rw [List.mem_singleton.mp h]; decide
  have asc2 : ∀ c ∈ t ++ [32] ++ xl ++ gl, c < 128 := fun c hc => (List.mem_append.mp hc).elim (fun h => (List.mem_append.mp h).elim (asc1 c) (x2 c)) (g4 c)
  have w32 : wch 32 = false := by decide +kernel
  have hadv : adv (0, 0) (t ++ [32]) = ((adv (0, 0) t).1, (adv (0, 0) t).2 + 1) := by
    rw [adv_app]
    simp [adv]
  have k2 : toks (t ++ [32] ++ xl ++ gl) = due ++ [⟨.no, xl, (adv (0, 0) (t ++ [32])).1, (adv (0, 0) (t ++ [32])).2⟩] := by
    have e : t ++ [32] ++ xl ++ gl = t ++ (32 :: (xl ++ gl)) := by simp
    rw [toks_T, e, hl.run _ (.inr ⟨32, _, rfl, w32⟩), hadv]
    rw [T, if_neg (by decide), if_neg (by decide), if_pos rfl, hT]
  have hbad : bad (toks (t ++ [32] ++ xl ++ gl)) = true := by rw [k2, bad_app _ _ hl.nb]; simp [bad]
  have hbl : badL (t ++ [32] ++ xl ++ gl) = ((lns (t ++ [32])).length - 1, (lastL (t ++ [32])).length) := by
    unfold badL
    rw [k2]
    simp only [List.getLast?_append, List.getLast?_singleton, Option.some_or]
    rw [adv_lns]
  have hlen2 : (t ++ [32] ++ xl ++ gl).length ≤ 400 := by simp; omega
  have m2 := m_tok (t ++ [32] ++ xl ++ gl) (by omega) asc2
  rw [hbad] at m2
  simp only [if_true] at m2
  have hrf := ref_bad _ _ _ m2
  obtain ⟨y, hy, hay⟩ := show3 _ _ (badL_le hlen2 asc2).1 (badL_le hlen2 asc2).2
  rw [hbl] at hrf hy
  simp only at hrf hy
  have hpos := lns_pos (t ++ [32])
  rw [show (((lns (t ++ [32])).length - 1 : Nat) : Int) = ((lns (t ++ [32])).length : Int) - 1 by omega] at hrf hy
  have hne := Fw.ne_self hay
  have ha1 := add_S (a := t ++ [32]) (b := xl) (by simp; omega)
  have ha2 := add_S (a := t ++ [32] ++ xl) (b := gl) (by simp; omega)
  have hs := split_m (t := t ++ [32]) (by simp; omega)
  have hlenl : fLen (.list ((lns (t ++ [32])).map fun l => .str (S l))) = some (.st (.int ((lns (t ++ [32])).length : Int))) := by simp [fLen]
  have hlast : (lastL (t ++ [32])).length ≤ line := by
    have := (lns_ok (t := t ++ [32]) (by simp; omega) asc1 (lastL (t ++ [32])) (List.getLast_mem _)).1
    omega
  have h3 : (3 : Nat) ≤ line := by decide
  have hll := last_line (t ++ [32])
  have hfl := len_S hlast
  simp only [tails, List.map_cons, List.map_nil] at e1
  rw [eg] at e1
  refine ⟨p1, ?_, hp1⟩
  rw [ex]
  generalize t ++ [32] = u at *
  rw [List.append_assoc] at hrf ha2
  simp [a4, E6, e1, h3, ha1, ha2, hrf, fRepr, hy, hs, hlenl, hll, hfl, hne]
/-! ### the strings -/
def somes : List Str := ["a", "b", "L", "1", "_", " ", "-", ">", "<", "(", "\n", "#", "do", "$", "=", "to", ";"]
theorem somes_ok : somes.all (fun x => decide (x.cps.toList.length ≤ 2) && x.cps.toList.all (· < 128)) = true := by decide +kernel
def fixd : List Str := ["", "\n", "a<b", "a=-1", "(((", "[a]*", "#", "all;none", "1a", "x1:y2"]
theorem fixd_ok : fixd.all (fun x => decide (x.cps.toList.length ≤ 100) && x.cps.toList.all (· < 128)) = true := by decide +kernel
theorem s5_ok (e1 e2 e3 e4 : Slot) (p : Pt) : a5 (.pot :: e1 :: e2 :: e3 :: e4 :: E6) p = .nx [.pot, e1, e2, e3, e4, .val (.list (somes.map .str)), .emp, .emp, .emp, .emp, .emp] p := by
  have h17 : (17 : Nat) ≤ line := by decide
  simp [a5, E6, h17, somes]
/-- a comprehension over draws: of each item P is told -/
theorem lc_pot {b : PyData → Evn → Option Evn} {e : SE Pt} {env : Evn} (P : PyData → Prop) : ∀ (ds acc : List PyData) (p : Pt), good p → (∀ d ∈ acc, P d) → (∀ d ∈ ds, ∀ p, good p → ∃ env1 v p' x, b d env = some env1 ∧ e env1 p = .ok v p' ∧ v.esc = some x ∧ P x ∧ good p') → acc.length + ds.length ≤ line →
    ∃ out p', lcGo b sYes e env ds acc p = .ok out p' ∧ good p' ∧ (∀ d ∈ out, P d) ∧ out.length = acc.length + ds.length
  | [], acc, p, hp, ha, _, _ => ⟨acc, p, rfl, hp, ha, by simp⟩
  | d :: ds, acc, p, hp, ha, h, hl => by
    rw [List.length_cons] at hl
    obtain ⟨env1, v, p1, x, h1, h2, h3, h4, h5⟩ := h d List.mem_cons_self p hp
    obtain ⟨out, p2, q1, q2, q3, q4⟩ := lc_pot P ds (acc ++ [x]) p1 h5 (fun z hz => (List.mem_append.mp hz).elim (ha z) fun hz => by rw [List.mem_singleton.mp hz]; exact h4) (fun z hz => h z (List.mem_cons_of_mem _ hz)) (by simp; omega)
    refine ⟨out, p2, ?_, q2, q3, by rw [q4]; simp; omega⟩
    simp only [lcGo, u_bnd, h1, ofO_some, u_ret, u_yes, if_true, h2, h3, if_pos (show acc.length < line by omega)]
    exact q1
def isStr (n : Nat) (d : PyData) : Prop := ∃ x : Str, d = .str x ∧ x.cps.toList.length ≤ n ∧ ∀ c ∈ x.cps.toList, c < 128
theorem strs_of {n : Nat} : ∀ ds : List PyData, (∀ d ∈ ds, isStr n d) → ∃ ys : List Str, ds = ys.map .str ∧ strsOf ds = some ys ∧ ∀ y ∈ ys, y.cps.toList.length ≤ n ∧ ∀ c ∈ y.cps.toList, c < 128
  | [], _ => ⟨[], rfl, rfl, by simp⟩
  | d :: ds, h => by
    obtain ⟨x, rfl, h1, h2⟩ := h d List.mem_cons_self
    obtain ⟨ys, e1, e2, h3⟩ := strs_of ds fun z hz => h z (List.mem_cons_of_mem _ hz)
    refine ⟨x :: ys, by rw [e1]; rfl, by simp only [strsOf, e2, Option.map_some], fun y hy => ?_⟩
    rcases List.mem_cons.mp hy with e | e
    · rw [e]; exact ⟨h1, h2⟩
    · exact h3 y e
theorem join_S : ∀ ys : List Str, (Str.join "" ys).cps.toList = (ys.map fun y => y.cps.toList).flatten
  | [] => by decide +kernel
  | [x] => by simp [Str.join]
  | x :: y :: r => by
    have ih := join_S (y :: r)
    have e : (Str.join "" (x :: y :: r)).cps.toList = x.cps.toList ++ ("" : Str).cps.toList ++ (Str.join "" (y :: r)).cps.toList := by
      show (x ++ "" ++ Str.join "" (y :: r)).cps.toList = _
      rw [show (x ++ "" ++ Str.join "" (y :: r)).cps.toList = (x ++ "").cps.toList ++ (Str.join "" (y :: r)).cps.toList from TL.tl_append _ _, show (x ++ "").cps.toList = x.cps.toList ++ ("" : Str).cps.toList from TL.tl_append _ _]
    have e0 : ("" : Str).cps.toList = [] := by decide +kernel
    rw [e, ih, e0]
    simp
end Lk18
set_option maxHeartbeats 4000000
namespace Lk18
open PySem PySem.Spec PyProof.Rows L2 Fw
open SX (S)
theorem rng_ok (n : Int) (h0 : 0 ≤ n) (h1 : n < 1000) : rng1 [.st (.int n)] = some (rints 0 n.toNat) := by
  unfold rng1
  simp only [u_st]
  rw [if_pos (by
    have a : -(2 ^ 62) ≤ n := by omega
    have b : n < 2 ^ 62 := by omega
    simp only [small62, decide_eq_true a, decide_eq_true b]
    rfl)]
theorem somes_f {x : Str} (h : x ∈ somes) : isStr 2 (.str x) := by
  have := List.all_eq_true.mp somes_ok x h
  simp only [Bool.and_eq_true, decide_eq_true_eq] at this
  exact ⟨x, rfl, this.1, fun c hc => by simpa using List.all_eq_true.mp this.2 c hc⟩
theorem fixd_f {x : Str} (h : x ∈ fixd) : isStr 100 (.str x) := by
  have := List.all_eq_true.mp fixd_ok x h
  simp only [Bool.and_eq_true, decide_eq_true_eq] at this
  exact ⟨x, rfl, this.1, fun c hc => by simpa using List.all_eq_true.mp this.2 c hc⟩
theorem flat_le {n : Nat} : ∀ ys : List Str, (∀ y ∈ ys, y.cps.toList.length ≤ n) → (ys.map fun y => y.cps.toList).flatten.length ≤ n * ys.length
  | [], _ => by simp
  | y :: ys, h => by
    have h1 := h y List.mem_cons_self
    have h2 := flat_le ys fun z hz => h z (List.mem_cons_of_mem _ hz)
    simp only [List.map_cons, List.flatten_cons, List.length_append, List.length_cons]
    rw [Nat.mul_add, Nat.mul_one]
    omega
theorem sum_le {n : Nat} : ∀ ys : List Str, (∀ y ∈ ys, y.cps.toList.length ≤ n) → (ys.map (·.length)).sum ≤ n * ys.length
  | [], _ => by simp
  | y :: ys, h => by
    have h1 := h y List.mem_cons_self
    have h2 := sum_le ys fun z hz => h z (List.mem_cons_of_mem _ hz)
    have e : y.length = y.cps.toList.length := by simp [Str.length]
    simp only [List.map_cons, List.sum_cons, List.length_cons]
    rw [Nat.mul_add, Nat.mul_one]
    omega
def innE : SE Pt := sM1 gJoin (sC (.str "")) (sLc (sRng1 (sCons (sCallQ 0 2 m__law_draw (sCons (sC (.int 14)) sNil)) sNil)) (bName 9) sYes (sCallQ 0 2 m__law_pick (sCons (sVar 5) sNil)) [9])
theorem inner_ok (e1 e2 e3 e4 e6 e7 e8 e9 e10 : Slot) (p : Pt) (hp : good p) : ∃ v p' x, innE [.pot, e1, e2, e3, e4, .val (.list (somes.map .str)), e6, e7, e8, e9, e10] p = .ok v p' ∧ v.esc = some x ∧ isStr 26 x ∧ good p' := by
  obtain ⟨n, p1, h1, h2, h3, hp1⟩ := m_draw 14 (by decide) (by decide) p hp
  have hr := rng_ok n h2 (by omega)
  have hlen : (rints 0 n.toNat).length = n.toNat := by simp [rints]
  have hline : 1000 ≤ line := by decide
  obtain ⟨out, p2, q1, q2, q3, q4⟩ := lc_pot (b := bName 9) (e := sCallQ 0 2 m__law_pick (sCons (sVar 5) sNil)) (env := [.pot, e1, e2, e3, e4, .val (.list (somes.map .str)), e6, e7, e8, .emp, e10]) (isStr 2) (rints 0 n.toNat) [] p1 hp1 (by simp) (fun d hd p hp => by
    obtain ⟨x, p', g1, g2, g3⟩ := m_pick (somes.map .str) (by decide) (by decide) p hp
    obtain ⟨z, hz, rfl⟩ := List.mem_map.mp g2
    exact ⟨_, .st (.str z), p', .str z, rfl, by simp [g1], rfl, somes_f hz, g3⟩) (by rw [hlen]; simp; omega)
  obtain ⟨ys, y1, y2, y3⟩ := strs_of out q3
  have hys : ys.length ≤ 13 := by
    have e := congrArg List.length y1
    rw [List.length_map, q4, hlen] at e
    simp at e
    omega
  have hsum := sum_le (n := 2) ys fun y hy => (y3 y hy).1
  have hj : gJoin "" (.list out) = some (.st (.str (Txt.join "" ys))) := by
    unfold gJoin
    simp only [y2]
    rw [if_pos (by rw [show ("" : Str).length = 0 by decide +kernel]; omega)]
  have hjs : (Txt.join "" ys).cps.toList = (ys.map fun y => y.cps.toList).flatten := by
    rw [show Txt.join "" ys = Str.join "" ys from StrLaws.glued_eq_join "" ys]
    exact join_S ys
  refine ⟨.st (.str (Txt.join "" ys)), p2, .str (Txt.join "" ys), ?_, rfl, ⟨_, rfl, ?_, fun c hc => ?_⟩, q2⟩
  · simp [innE, h1, sRng1, hr, q1, hj]
  · rw [hjs]
    have := flat_le (n := 2) ys fun y hy => (y3 y hy).1
    omega
  · rw [hjs] at hc
    obtain ⟨l, hl, hcl⟩ := List.mem_flatten.mp hc
    obtain ⟨y, hy, rfl⟩ := List.mem_map.mp hl
    exact (y3 y hy).2 c hcl
theorem s6_ok (e1 e2 e3 e4 : Slot) (p : Pt) (hp : good p) : ∃ ls p', a6 [.pot, e1, e2, e3, e4, .val (.list (somes.map .str)), .emp, .emp, .emp, .emp, .emp] p = .nx [.pot, e1, e2, e3, e4, .val (.list (somes.map .str)), .val (.list ls), .emp, .emp, .emp, .emp] p' ∧ good p' ∧ (∀ d ∈ ls, isStr 100 d) ∧ ls.length ≤ 100 := by
  have hline : 1000 ≤ line := by decide
  have hr := rng_ok 6 (by decide) (by decide)
  obtain ⟨out, p2, q1, q2, q3, q4⟩ := lc_pot (b := bName 8) (e := innE) (env := [.pot, e1, e2, e3, e4, .val (.list (somes.map .str)), .emp, .emp, .emp, .emp, .emp]) (isStr 26) (rints 0 6) [] p hp (by simp) (fun d hd p hp => by
    obtain ⟨v, p', x, g1, g2, g3, g4⟩ := inner_ok e1 e2 e3 e4 .emp .emp (.val d) .emp .emp p hp
    exact ⟨_, v, p', x, rfl, g1, g2, g3, g4⟩) (by simp [rints]; omega)
  have hout : out.length = 6 := by rw [q4]; simp [rints]
  have hadd : opAdd (.list (fixd.map .str)) (.list out) = some (.list (fixd.map .str ++ out)) := by
    unfold opAdd
    simp only []
    rw [if_pos (by rw [hout]; decide)]
  have q : a6 = sSet 6 (sBin opAdd (sLst (sCons (sC (.str "")) (sCons (sC (.str "\n")) (sCons (sC (.str "a<b")) (sCons (sC (.str "a=-1")) (sCons (sC (.str "(((")) (sCons (sC (.str "[a]*")) (sCons (sC (.str "#")) (sCons (sC (.str "all;none")) (sCons (sC (.str "1a")) (sCons (sC (.str "x1:y2")) sNil))))))))))) (sLc (sRng1 (sCons (sC (.int 6)) sNil)) (bName 8) sYes innE [8])) := rfl
  refine ⟨fixd.map .str ++ out, p2, ?_, q2, fun d hd => ?_, by rw [List.length_append, hout]; decide⟩
  · rw [q]
    have h10 : (10 : Nat) ≤ line := by decide
    simp only [fixd, List.map_cons, List.map_nil] at hadd ⊢
    have hr' : rng1 [.st (.int 6)] = some (rints 0 6) := hr
    simp [sRng1, hr', q1, h10, hadd]
  · rcases List.mem_append.mp hd with h | h
    · obtain ⟨x, hx, rfl⟩ := List.mem_map.mp h
      exact fixd_f hx
    · obtain ⟨x, rfl, h1, h2⟩ := q3 d h
      exact ⟨x, rfl, by omega, h2⟩
theorem s9_ok (env : Evn) (ls : List PyData) (p : Pt) (he : env[6]? = some (.val (.list ls))) (h10 : env.length = 11) (hls : ∀ d ∈ ls, isStr 100 d) (hl : ls.length ≤ 100) : a9 env p = .rt (.bool true) p := by
  have hline : 1000 ≤ line := by decide
  have hlc := lc_map (π := Pt) (b := bName 10) (t := sNot (sTest (sCallZ 1 m__law_string_right (sCons (sVar 10) sNil)))) (e := sVar 10) (env := wipeE env [10]) (p := p) (fun _ => false) id ls [] (fun d hd => by
    obtain ⟨x, rfl, h1, h2⟩ := hls d hd
    have hs := m_sright x.cps.toList (by omega) h2
    rw [SX.S_tl] at hs
    refine ⟨_, rfl, ?_, fun z => by cases z⟩
    have hlen : 10 < env.length := by omega
    simp [hs, hlen]) (by simp; omega)
  have hq : opEq (.list []) (.list []) = some (.bool true) := by
    unfold opEq
    rw [show SeqAt.shaped (.list []) = true by decide]
    simp [PyData.eqv, PyData.eqvAll]
  have hf : (ls.filter fun _ => false) = [] := by simp
  rw [hf] at hlc
  have h00 : (0 : Nat) ≤ line := by decide
  simp only [u_wipe0, u_wipe1, List.map_nil, List.append_nil] at hlc
  simp [a9, he, itemsOf, hlc, hq]
end Lk18
set_option maxHeartbeats 4000000
namespace Lk18
open PySem PySem.Spec PyProof.Rows L2 Fw
open SX (S)
theorem times_sp (n : Int) (h0 : 0 ≤ n) (h : n ≤ 12000) : opMul (.str " ") (.int n) = some (.str (S (List.replicate n.toNat 32))) := by
  have hline : 12000 ≤ line := by decide
  have e1 : (" " : Str).length = 1 := by decide +kernel
  have e2 : (" " : Str) = ⟨#[32]⟩ := by decide +kernel
  unfold opMul
  simp only []
  rw [if_pos ⟨by omega, by omega, by rw [e1]; omega⟩, e2]
  have := mul_one_list 32 n
  rw [← this, SX.S_tl]
abbrev longD : PyData := .str (S (97 :: List.replicate 12000 32))
def odds : List PyData := [.none, .int 5, .tuple [], .list [.str "a"], .tuple [.str "a", .str "b"], .bool true, .dict [], longD]
theorem long_asc : ∀ c ∈ 97 :: List.replicate 12000 32, c < 128 := fun c hc => by
  rcases List.mem_cons.mp hc with e | e
  · rw [e]; decide
  · rw [(List.mem_replicate.mp e).2]; decide
theorem odd_ok {d : PyData} (h : d ∈ odds) : ∃ s, opShow d = some s ∧ asc s ∧ m__law_refused [d] () = .ok (.list [.str "text", .str s, .bool true]) () := by
  have key : ∀ (d : PyData) (s : Str), opShow d = some s → asc s → m_want_text [d] () = .ex ⟨"InvalidText", [("value", d)]⟩ () → ∃ s, opShow d = some s ∧ asc s ∧ m__law_refused [d] () = .ok (.list [.str "text", .str s, .bool true]) () := fun d s h1 h2 h3 =>
    ⟨s, h1, h2, ref_text d d s (tok_invalid d h3) h1⟩
  have nc : ∀ d : PyData, nice d = true → d.depth ≤ 60 → d.weight ≤ 1000000 → isTy "str" d = false → ∃ s, opShow d = some s ∧ asc s ∧ m__law_refused [d] () = .ok (.list [.str "text", .str s, .bool true]) () := fun d h1 h2 h3 h4 =>
    key d _ (nice_show h1 h2 h3).1 (nice_show h1 h2 h3).2 (m_want_not d h4)
  simp only [odds, List.mem_cons, List.not_mem_nil, or_false] at h
  rcases h with rfl | rfl | rfl | rfl | rfl | rfl | rfl | rfl
  · exact nc _ (by decide +kernel) (by decide +kernel) (by decide +kernel) (by decide +kernel)
  · exact nc _ (by decide +kernel) (by decide +kernel) (by decide +kernel) (by decide +kernel)
  · exact nc _ (by decide +kernel) (by decide +kernel) (by decide +kernel) (by decide +kernel)
  · exact nc _ (by decide +kernel) (by decide +kernel) (by decide +kernel) (by decide +kernel)
  · exact nc _ (by decide +kernel) (by decide +kernel) (by decide +kernel) (by decide +kernel)
  · exact nc _ (by decide +kernel) (by decide +kernel) (by decide +kernel) (by decide +kernel)
  · exact key _ "{}" (by decide +kernel) (asc_lit (by decide +kernel)) (m_want_not _ (by decide +kernel))
  · have hline : 12001 ≤ line := by decide
    have hl : (97 :: List.replicate 12000 32).length = 12001 := by rw [List.length_cons, List.length_replicate]
    obtain ⟨a, b⟩ := nice_show (d := longD) (nice_str long_asc) (by simp [PyData.depth]) (by
      have : PyData.weight longD = 12001 := by
        simp only [longD, PyData.weight]
        have : (S (97 :: List.replicate 12000 32)).cps.size = (97 :: List.replicate 12000 32).length := by simp [S]
        rw [this, hl]
      omega)
    exact key _ _ a b (m_want_long _ (by omega) (by omega))
def a7P (k : Int) : SS Pt := (sSet 7 (sCallQ 0 2 m__law_pick (sCons (sLst (sCons (sC (.none)) (sCons (sC (.int 5)) (sCons (sTup sNil) (sCons (sLst (sCons (sC (.str "a")) sNil)) (sCons (sTup (sCons (sC (.str "a")) (sCons (sC (.str "b")) sNil))) (sCons (sC (.bool true)) (sCons sDict0 (sCons (sBin opAdd (sC (.str "a")) (sBin opMul (sC (.str " ")) (sC (.int k)))) sNil))))))))) sNil)))
theorem a7P_eq : a7 = a7P 12000 := rfl
theorem s7_core (e1 e2 e3 e4 e5 e6 : Slot) (p p1 : Pt) (d : PyData) (k : Int) (z : Str) (ld : PyData) (ht : opMul (.str " ") (.int k) = some (.str z)) (ha : opAdd (.str "a") (.str z) = some ld) (h1 : m__law_pick [.list [.none, .int 5, .tuple [], .list [.str "a"], .tuple [.str "a", .str "b"], .bool true, .dict [], ld]] p = .ok d p1) :
    a7P k [.pot, e1, e2, e3, e4, e5, e6, .emp, .emp, .emp, .emp] p = .nx [.pot, e1, e2, e3, e4, e5, e6, .val d, .emp, .emp, .emp] p1 := by
  have k0 : (0 : Nat) ≤ line := by decide
  have k1 : (1 : Nat) ≤ line := by decide
  have k2 : (2 : Nat) ≤ line := by decide
  have k8 : (8 : Nat) ≤ line := by decide
  simp [a7P, sDict0, ht, ha, k0, k1, k2, k8, h1]
theorem s7_ok (e1 e2 e3 e4 e5 e6 : Slot) (p : Pt) (hp : good p) : ∃ d p', a7 [.pot, e1, e2, e3, e4, e5, e6, .emp, .emp, .emp, .emp] p = .nx [.pot, e1, e2, e3, e4, e5, e6, .val d, .emp, .emp, .emp] p' ∧ good p' ∧ d ∈ odds := by
  obtain ⟨d, p1, h1, h2, h3⟩ := m_pick odds (by decide) (by decide) p hp
  refine ⟨d, p1, ?_, h3, h2⟩
  have ht := times_sp 12000 (by decide) (by decide)
  have hline : 13000 ≤ line := by decide
  have ha : opAdd (.str "a") (.str (S (List.replicate (12000 : Int).toNat 32))) = some (.str (S ([97] ++ List.replicate (12000 : Int).toNat 32))) := by
    have e : ("a" : Str) = S [97] := by decide +kernel
    rw [e, add_S (by rw [List.length_replicate, show (12000 : Int).toNat = 12000 from rfl]; simp; omega)]
  rw [show (12000 : Int).toNat = 12000 from rfl, List.singleton_append] at ha
  rw [show (12000 : Int).toNat = 12000 from rfl] at ht
  rw [a7P_eq]
  unfold odds at h1
  exact s7_core e1 e2 e3 e4 e5 e6 p p1 d 12000 _ _ ht ha h1
theorem T_sp (r : Nat) (R : List Nat) : ∀ n c : Nat, T (.pl 0) r c (List.replicate n 32 ++ R) = T (.pl 0) r (c + n) R
  | 0, c => rfl
  | n + 1, c => by
    rw [List.replicate_succ, List.cons_append, T, if_neg (by decide), if_neg (by decide), if_pos rfl, T_sp r R n (c + 1), show c + 1 + n = c + (n + 1) by omega]
theorem tok_late : m_tokens [.str (S (List.replicate 11999 32 ++ [97]))] () = .ok (.list [.tuple [.str "name", .str "a", .int 0, .int 11999]]) () := by
  have asc1 : ∀ c ∈ List.replicate 11999 32 ++ [97], c < 128 := fun c hc => (List.mem_append.mp hc).elim (fun h => by rw [(List.mem_replicate.mp h).2]; decide) fun h => by rw [List.mem_singleton.mp h]; decide
  have hk : toks (List.replicate 11999 32 ++ [97]) = [⟨.name, [97], 0, 11999⟩] := by
    have hn : nxt [97] = (.name, [97]) := by decide +kernel
    rw [toks_T, T_sp, T, if_neg (by decide), if_neg (by decide), if_neg (by decide), hn]
    simp [T]
  have hm := m_tok (List.replicate 11999 32 ++ [97]) (by rw [List.length_append, List.length_replicate]; simp) asc1
  rw [hk] at hm
  have e : ("a" : Str) = S [97] := by decide +kernel
  have hb : bad [⟨.name, [97], 0, 11999⟩] = false := by decide
  rw [hb, if_neg Bool.false_ne_true] at hm
  rw [hm, e]
  simp [Tk.d, Sr.s]
def a8P (k : Int) : SS Pt := (sIfS (sOr (sTest (sBin opNe (sCallZ 1 m__law_refused (sCons (sVar 7) sNil)) (sLst (sCons (sC (.str "text")) (sCons (sCall (g1 fRepr) (sCons (sVar 7) sNil)) (sCons (sC (.bool true)) sNil)))))) (sTest (sBin opNe (sCallZ 1 m_tokens (sCons (sBin opAdd (sBin opMul (sC (.str " ")) (sC (.int k))) (sC (.str "a"))) sNil)) (sLst (sCons (sTup (sCons (sC (.str "name")) (sCons (sC (.str "a")) (sCons (sC (.int 0)) (sCons (sC (.int 11999)) sNil))))) sNil)))))
    (sRet (sC (.bool false)))
    sSkip)
theorem a8P_eq : a8 = a8P 11999 := rfl
theorem s8_core (env : Evn) (d : PyData) (p : Pt) (he : env[7]? = some (.val d)) (k : Int) (s z w : Str) (h1 : opShow d = some s) (h3 : m__law_refused [d] () = .ok (.list [.str "text", .str s, .bool true]) ()) (n1 : opNe (.list [.str "text", .str s, .bool true]) (.list [.str "text", .str s, .bool true]) = some (.bool false))
    (n2 : opNe (.list [.tuple [.str "name", .str "a", .int 0, .int 11999]]) (.list [.tuple [.str "name", .str "a", .int 0, .int 11999]]) = some (.bool false)) (ht : opMul (.str " ") (.int k) = some (.str z)) (ha : opAdd (.str z) (.str "a") = some (.str w)) (hl : m_tokens [.str w] () = .ok (.list [.tuple [.str "name", .str "a", .int 0, .int 11999]]) ()) : a8P k env p = .nx env p := by
  have k1 : (1 : Nat) ≤ line := by decide
  have k3 : (3 : Nat) ≤ line := by decide
  have k4 : (4 : Nat) ≤ line := by decide
  simp [a8P, he, h3, fRepr, h1, k3, n1, ht, ha, hl, k1, k4, n2]
theorem s8_ok (env : Evn) (d : PyData) (p : Pt) (he : env[7]? = some (.val d)) (hd : d ∈ odds) : a8 env p = .nx env p := by
  obtain ⟨s, h1, h2, h3⟩ := odd_ok hd
  have hline : 13000 ≤ line := by decide
  have ht := times_sp 11999 (by decide) (by decide)
  rw [show (11999 : Int).toNat = 11999 from rfl] at ht
  have ha : opAdd (.str (S (List.replicate 11999 32))) (.str "a") = some (.str (S (List.replicate 11999 32 ++ [97]))) := by
    have e : ("a" : Str) = S [97] := by decide +kernel
    rw [e, add_S (by rw [List.length_replicate]; simp; omega)]
  have hl := tok_late
  have n1 : opNe (.list [.str "text", .str s, .bool true]) (.list [.str "text", .str s, .bool true]) = some (.bool false) := by
    have hs := SeqAt.canLay_of_shaped (asc_shaped h2)
    have sh : SeqAt.shaped (.list [.str "text", .str s, .bool true]) = true := by
      have c1 : PyData.canLay0 (.list [.str "text", .str s, .bool true]) = true := by
        simp only [PyData.canLay0, PyData.canLayAll0] at hs ⊢
        rw [hs]
        decide +kernel
      unfold SeqAt.shaped
      rw [c1]
      simp [PyData.depth, PyData.depthAll]
    unfold opNe
    rw [sh]
    simp [PyData.eqv, PyData.eqvAll]
  have n2 : opNe (.list [.tuple [.str "name", .str "a", .int 0, .int 11999]]) (.list [.tuple [.str "name", .str "a", .int 0, .int 11999]]) = some (.bool false) := by
    unfold opNe
    rw [show SeqAt.shaped (.list [.tuple [.str "name", .str "a", .int 0, .int 11999]]) = true by decide +kernel]
    simp [PyData.eqv, PyData.eqvAll]
  rw [a8P_eq]
  exact s8_core env d p he 11999 s _ _ h1 h3 n1 n2 ht ha hl
theorem right : Right := fun cs m => by
  obtain ⟨t, due, p1, e1, g1, hl, hd, ht⟩ := s1_ok ⟨some cs, [0, m]⟩ ⟨cs, 0, m, rfl⟩
  obtain ⟨p2, e2, g2⟩ := s2_ok t due p1 g1 hl hd ht
  obtain ⟨x, p3, e3, g3, hx⟩ := s3_ok t (.val (.list (due.map Tk.d))) p2 g2 ht
  obtain ⟨p4, e4, g4⟩ := s4_ok t due (.val (.list (due.map Tk.d))) x hx p3 g3 hl ht
  have e5 := s5_ok (Tx t) (.val (.list (due.map Tk.d))) (Tx (t ++ [32])) (.val (.str x)) p4
  obtain ⟨ls, p6, e6, g6, hls, hll⟩ := s6_ok (Tx t) (.val (.list (due.map Tk.d))) (Tx (t ++ [32])) (.val (.str x)) p4 g4
  obtain ⟨d, p7, e7, g7, hdd⟩ := s7_ok (Tx t) (.val (.list (due.map Tk.d))) (Tx (t ++ [32])) (.val (.str x)) (.val (.list (somes.map .str))) (.val (.list ls)) p6 g6
  have e8 := s8_ok [.pot, Tx t, .val (.list (due.map Tk.d)), Tx (t ++ [32]), .val (.str x), .val (.list (somes.map .str)), .val (.list ls), .val d, .emp, .emp, .emp] d p7 rfl hdd
  have e9 := s9_ok [.pot, Tx t, .val (.list (due.map Tk.d)), Tx (t ++ [32]), .val (.str x), .val (.list (somes.map .str)), .val (.list ls), .val d, .emp, .emp, .emp] ls p7 rfl rfl hls hll
  refine ⟨p7, ?_⟩
  unfold m__law_right mDef
  show fin (b__law_right (.pot :: .emp :: .emp :: E8) ⟨some cs, [0, m]⟩) = _
  rw [a_eq]
  simp only [u_seq2, e1, e2, e3, e4, e5, e6, e7, e8, e9, fin]
end Lk18
set_option maxHeartbeats 0
namespace Lk18
open PySem PySem.Spec PyProof.Rows L2 Fw
def dfn (x : Str) (i : Nat) : He.DefD := ⟨(x, none), x, x, defArgs (top i), defBody (top i), defScope (top i), [], []⟩
def clsBody : Stmt → List Stmt
  | .ClassDef _ _ _ b _ _ _ _ _ _ _ => b
  | _ => []
def meth (c j : Nat) : Stmt := (clsBody (top c)).getD j (.Pass ⟨0, 0, 0, 0⟩)
def fns : List He.DefD := ([dfn "_law_pot" 30, dfn "is_name" 9, dfn "run_from" 22, dfn "sort_of" 23, dfn "next_in" 24, dfn "row_tokens" 25, dfn "split_of" 26, dfn "want_text" 27] : List He.DefD) ++ ([dfn "tokens" 28, dfn "_law_draw" 31, dfn "_law_pick" 32, dfn "_law_run_sort" 34, dfn "_law_tokens" 35, dfn "_law_pieces" 36, dfn "_law_laid" 37, dfn "_law_refused" 38] : List He.DefD) ++ ([dfn "_law_string_right" 39, dfn "_law_right" 40, dfn "law" 41, ⟨("ReaderError", some "__init__"), "__init__", "ReaderError.__init__", defArgs (meth 1 0), defBody (meth 1 0), defScope (meth 1 0), [.non], []⟩, ⟨("BadText", some "__init__"), "__init__", "BadText.__init__", defArgs (meth 3 0), defBody (meth 3 0), defScope (meth 3 0), [], []⟩] : List He.DefD)
def glos : List Str := (["_law_pot", "is_name", "run_from", "sort_of", "next_in", "row_tokens", "split_of", "want_text", "tokens", "_law_draw", "_law_pick", "_law_run_sort"] : List Str) ++ (["_law_tokens", "_law_pieces", "_law_laid", "_law_refused", "_law_string_right", "_law_right", "law", "InvalidText", "BadText", "ReaderError"] : List Str)
def fas : List He.Fa := glos.map .glo ++ bNames.map .free
def cons : List (Str × PyData) := ([("SMALL", .str "abcdefghijklmnopqrstuvwxyz"), ("FIGURES_words", .str "0123456789"), ("MOST_SIGNS", .int 8), ("RESERVED", .tuple [.str "all", .str "and", .str "below", .str "bool", .str "call", .str "cell", .str "channel", .str "do", .str "each", .str "else", .str "end", .str "false", .str "form", .str "fst", .str "function", .str "give", .str "if", .str "in", .str "input", .str "int", .str "many", .str "more", .str "none", .str "not", .str "or", .str "pick", .str "readers", .str "release", .str "sees", .str "snd", .str "tell", .str "times", .str "to", .str "true"]), ("MOST_TEXT", .int 12000), ("REMARK", .str "#")] : List (Str × PyData)) ++ ([("DIGITS", .str "0123456789"), ("LETTERS", .str "abcdefghijklmnopqrstuvwxyzABCDEFGHIJKLMNOPQRSTUVWXYZ"), ("SINGLES", .str "()[],:;=<+-*"), ("NAME", .str "name"), ("WORD", .str "word"), ("FIGURES_tokens", .str "figures")] : List (Str × PyData)) ++ ([("SIGN", .str "sign"), ("END", .str "end"), ("NONE", .str "none")] : List (Str × PyData))
def more (K : Fg) : Bool := [cons.all (fun q => conB K q.1 q.2), raiB K "InvalidText" ["value"], raiB K "BadText" ["line", "column"], telB K "InvalidText" ["value"], telB K "BadText" ["line", "column"], subB K "InvalidText" "BadText" false, subB K "BadText" "BadText" true, subB K "InvalidText" "InvalidText" true, subB K "BadText" "InvalidText" false, subB K "InvalidText" "ReaderError" true, subB K "BadText" "ReaderError" true, decide (He.ma K (He.ga K "InvalidText") "__init__" = He.ma K (He.ga K "ReaderError") "__init__"), decide (He.ma K (He.ga K "BadText") "__init__" = He.ma K (He.ga K "BadText") "__init__")].all id
abbrev R0 : PySem.W.OpenRow := PySem.W.OpenLaw.row PySem.Challenge.rw_eachreader_k18_tokens
abbrev hk : PySem.W.Hook := hookB 6 fas fns more
def ob (s : PySem.W.SharedT) : AlB := obsB 6 fas fns more (HandSHeadRun.getT s)
theorem ob_eq (s : PySem.W.SharedT) : ob s = hk.obs s.abs := obsB_eq (HandSHeadRun.getT_eq s)
def loose : List Str := (["__name__", "ReaderError", "InvalidText", "BadText", "SMALL", "FIGURES_words", "MOST_SIGNS", "RESERVED", "is_name", "MOST_TEXT", "REMARK", "DIGITS"] : List Str) ++ (["LETTERS", "SINGLES", "NAME", "WORD", "FIGURES_tokens", "SIGN", "END", "NONE", "run_from", "sort_of", "next_in", "row_tokens"] : List Str) ++ (["split_of", "want_text", "tokens", "_law_pot", "_law_draw", "_law_pick", "_law_some", "_law_run_sort", "_law_tokens", "_law_pieces", "_law_laid", "_law_refused"] : List Str) ++ (["_law_string_right", "_law_right"] : List Str)
theorem run (w : World) : HandSHeadRun.RunEq R0 (PySem.W.view R0.prog [41]) hk ob 4000 loose w := by
  intro os
  kernel_rfl
theorem n_i_ReaderError : FnScope ["self", "value"] ["self", "value"] (defScope (meth 1 0)) := ⟨rfl, rfl, rfl, by decide +kernel, rfl, by decide +kernel, by decide +kernel⟩
theorem n_i_BadText : FnScope ["self", "line", "column"] ["self", "line", "column"] (defScope (meth 3 0)) := ⟨rfl, rfl, rfl, by decide +kernel, rfl, by decide +kernel, by decide +kernel⟩
/-- all together -/
theorem facts (r0 : Right) {P : Program} {w : World} {K : Fg} {h : Heap} {mg : Str → Option Value} {f : Addr} (X : K.In h) (G0 : h.Ns mainGlobals mg) (hfa : mg ("law" : Str) = some (.ref f)) (c : SaysB fas fns more K) :
    ∃ fd : FuncData, (∀ (s : Shared) (u : Value), BindsTo s fd ⟨[u], []⟩ [("script", u)]) ∧ ∀ base : Heap, K.In base → base.Ns mainGlobals mg → FnG P w K mg base 10 f fd ["script"] (spLaw K) := by
  obtain ⟨c1, c2⟩ := c
  have fa := all_fact c1
  have T0 : ∀ x ∈ bNames, mg x = none := fun x hx => He.free_ok X G0 (fa _ (List.mem_append_right _ (List.mem_map_of_mem hx)))
  have gl : ∀ x ∈ glos, mg x = some (.ref (He.ga K x)) := fun x hx => He.glo_ok X G0 (fa _ (List.mem_append_left _ (List.mem_map_of_mem hx)))
  have tt : ∀ b ∈ ([cons.all (fun q => conB K q.1 q.2), raiB K "InvalidText" ["value"], raiB K "BadText" ["line", "column"], telB K "InvalidText" ["value"], telB K "BadText" ["line", "column"], subB K "InvalidText" "BadText" false, subB K "BadText" "BadText" true, subB K "InvalidText" "InvalidText" true, subB K "BadText" "InvalidText" false, subB K "InvalidText" "ReaderError" true, subB K "BadText" "ReaderError" true, decide (He.ma K (He.ga K "InvalidText") "__init__" = He.ma K (He.ga K "ReaderError") "__init__"), decide (He.ma K (He.ga K "BadText") "__init__" = He.ma K (He.ga K "BadText") "__init__")] : List Bool), b = true := fun b hb => List.all_eq_true.mp c2 b hb
  have cc : ∀ q ∈ cons, conB K q.1 q.2 = true := fun q hq => List.all_eq_true.mp (tt _ (List.mem_of_getElem? (i := 0) rfl)) q hq
  have ci : ∀ (i : Nat) (x : Str) (d : PyData), cons[i]? = some (x, d) → Con K mg x d := fun i x d e => conB_ok X G0 (cc (x, d) (List.mem_of_getElem? e))
  have gi : ∀ (i : Nat) (x : Str), glos[i]? = some x → mg x = some (.ref (He.ga K x)) := fun i x e => gl x (List.mem_of_getElem? e)
  obtain ⟨q1_InvalidText, q2⟩ := and2 (tt _ (List.mem_of_getElem? (i := 1) rfl) : raiB K "InvalidText" ["value"] = true)
  obtain ⟨q2_InvalidText, q3⟩ := and2 q2
  obtain ⟨q3_InvalidText, q4_InvalidText⟩ := and2 q3
  obtain ⟨q5_InvalidText, q6_InvalidText⟩ := and2 (tt _ (List.mem_of_getElem? (i := 3) rfl) : telB K "InvalidText" ["value"] = true)
  obtain ⟨q1_BadText, q2⟩ := and2 (tt _ (List.mem_of_getElem? (i := 2) rfl) : raiB K "BadText" ["line", "column"] = true)
  obtain ⟨q2_BadText, q3⟩ := and2 q2
  obtain ⟨q3_BadText, q4_BadText⟩ := and2 q3
  obtain ⟨q5_BadText, q6_BadText⟩ := and2 (tt _ (List.mem_of_getElem? (i := 4) rfl) : telB K "BadText" ["line", "column"] = true)
  obtain ⟨x_InvalidText_BadText, y_InvalidText_BadText⟩ := and2 (tt _ (List.mem_of_getElem? (i := 5) rfl) : subB K "InvalidText" "BadText" false = true)
  obtain ⟨x_BadText_BadText, y_BadText_BadText⟩ := and2 (tt _ (List.mem_of_getElem? (i := 6) rfl) : subB K "BadText" "BadText" true = true)
  obtain ⟨x_InvalidText_InvalidText, y_InvalidText_InvalidText⟩ := and2 (tt _ (List.mem_of_getElem? (i := 7) rfl) : subB K "InvalidText" "InvalidText" true = true)
  obtain ⟨x_BadText_InvalidText, y_BadText_InvalidText⟩ := and2 (tt _ (List.mem_of_getElem? (i := 8) rfl) : subB K "BadText" "InvalidText" false = true)
  obtain ⟨x_InvalidText_ReaderError, y_InvalidText_ReaderError⟩ := and2 (tt _ (List.mem_of_getElem? (i := 9) rfl) : subB K "InvalidText" "ReaderError" true = true)
  obtain ⟨x_BadText_ReaderError, y_BadText_ReaderError⟩ := and2 (tt _ (List.mem_of_getElem? (i := 10) rfl) : subB K "BadText" "ReaderError" true = true)
  have z_InvalidText : He.ma K (He.ga K "InvalidText") "__init__" = He.ma K (He.ga K "ReaderError") "__init__" := of_decide_eq_true (tt _ (List.mem_of_getElem? (i := 11) rfl))
  have z_BadText : He.ma K (He.ga K "BadText") "__init__" = He.ma K (He.ga K "BadText") "__init__" := of_decide_eq_true (tt _ (List.mem_of_getElem? (i := 12) rfl))
  have G : Gx K mg := {
    c_SMALL := ci 0 _ _ rfl
    c_FIGURES_words := ci 1 _ _ rfl
    c_MOST_SIGNS := ci 2 _ _ rfl
    c_RESERVED := ci 3 _ _ rfl
    c_MOST_TEXT := ci 4 _ _ rfl
    c_REMARK := ci 5 _ _ rfl
    c_DIGITS := ci 6 _ _ rfl
    c_LETTERS := ci 7 _ _ rfl
    c_SINGLES := ci 8 _ _ rfl
    c_NAME := ci 9 _ _ rfl
    c_WORD := ci 10 _ _ rfl
    c_FIGURES_tokens := ci 11 _ _ rfl
    c_SIGN := ci 12 _ _ rfl
    c_END := ci 13 _ _ rfl
    c_NONE := ci 14 _ _ rfl
    g_BadText := gi 20 _ rfl
    g_InvalidText := gi 19 _ rfl
    g_ReaderError := gi 21 _ rfl
    t_line := by
      unfold tell_line
      exact all1 (fun C m => by cases (gi 20 _ rfl).symm.trans m; exact ⟨(excB_ok q5_BadText).2, of_decide_eq_true (List.all_eq_true.mp q6_BadText "line" (List.mem_of_getElem? (i := 0) rfl))⟩)
    t_column := by
      unfold tell_column
      exact all1 (fun C m => by cases (gi 20 _ rfl).symm.trans m; exact ⟨(excB_ok q5_BadText).2, of_decide_eq_true (List.all_eq_true.mp q6_BadText "column" (List.mem_of_getElem? (i := 1) rfl))⟩)
    t_value := by
      unfold tell_value
      exact all1 (fun C m => by cases (gi 19 _ rfl).symm.trans m; exact ⟨(excB_ok q5_InvalidText).2, of_decide_eq_true (List.all_eq_true.mp q6_InvalidText "value" (List.mem_of_getElem? (i := 0) rfl))⟩)
    s_BadText := by
      unfold pairs_BadText
      exact all2 ⟨_, gi 19 _ rfl, of_decide_eq_true x_InvalidText_BadText⟩ ⟨_, gi 20 _ rfl, of_decide_eq_true x_BadText_BadText⟩
    s_InvalidText := by
      unfold pairs_InvalidText
      exact all2 ⟨_, gi 19 _ rfl, of_decide_eq_true x_InvalidText_InvalidText⟩ ⟨_, gi 20 _ rfl, of_decide_eq_true x_BadText_InvalidText⟩
    i_ReaderError := by
      refine sub_of2 (g := fun C b => L2.ExcC K C ∧ PySem.W.kitOne K (.ref C) (.ref (He.ga K "ReaderError")) = some b) (l := isp_ReaderError) ?_
      unfold isp_ReaderError
      exact all2 ⟨_, gi 19 _ rfl, (excB_ok q5_InvalidText).1, of_decide_eq_true y_InvalidText_ReaderError⟩ ⟨_, gi 20 _ rfl, (excB_ok q5_BadText).1, of_decide_eq_true y_BadText_ReaderError⟩ }
  obtain ⟨d__law_pot, F__law_pot⟩ := c1.def_ 0 (d := dfn "_law_pot" 30) rfl
  obtain ⟨d_is_name, F_is_name⟩ := c1.def_ 1 (d := dfn "is_name" 9) rfl
  obtain ⟨d_run_from, F_run_from⟩ := c1.def_ 2 (d := dfn "run_from" 22) rfl
  obtain ⟨d_sort_of, F_sort_of⟩ := c1.def_ 3 (d := dfn "sort_of" 23) rfl
  obtain ⟨d_next_in, F_next_in⟩ := c1.def_ 4 (d := dfn "next_in" 24) rfl
  obtain ⟨d_row_tokens, F_row_tokens⟩ := c1.def_ 5 (d := dfn "row_tokens" 25) rfl
  obtain ⟨d_split_of, F_split_of⟩ := c1.def_ 6 (d := dfn "split_of" 26) rfl
  obtain ⟨d_want_text, F_want_text⟩ := c1.def_ 7 (d := dfn "want_text" 27) rfl
  obtain ⟨d_tokens, F_tokens⟩ := c1.def_ 8 (d := dfn "tokens" 28) rfl
  obtain ⟨d__law_draw, F__law_draw⟩ := c1.def_ 9 (d := dfn "_law_draw" 31) rfl
  obtain ⟨d__law_pick, F__law_pick⟩ := c1.def_ 10 (d := dfn "_law_pick" 32) rfl
  obtain ⟨d__law_run_sort, F__law_run_sort⟩ := c1.def_ 11 (d := dfn "_law_run_sort" 34) rfl
  obtain ⟨d__law_tokens, F__law_tokens⟩ := c1.def_ 12 (d := dfn "_law_tokens" 35) rfl
  obtain ⟨d__law_pieces, F__law_pieces⟩ := c1.def_ 13 (d := dfn "_law_pieces" 36) rfl
  obtain ⟨d__law_laid, F__law_laid⟩ := c1.def_ 14 (d := dfn "_law_laid" 37) rfl
  obtain ⟨d__law_refused, F__law_refused⟩ := c1.def_ 15 (d := dfn "_law_refused" 38) rfl
  obtain ⟨d__law_string_right, F__law_string_right⟩ := c1.def_ 16 (d := dfn "_law_string_right" 39) rfl
  obtain ⟨d__law_right, F__law_right⟩ := c1.def_ 17 (d := dfn "_law_right" 40) rfl
  obtain ⟨d_law, F_law⟩ := c1.def_ 18 (d := dfn "law" 41) rfl
  obtain ⟨di_ReaderError, Fi_ReaderError⟩ := c1.def_ 19 (d := ⟨("ReaderError", some "__init__"), "__init__", "ReaderError.__init__", defArgs (meth 1 0), defBody (meth 1 0), defScope (meth 1 0), [.non], []⟩) rfl
  obtain ⟨di_BadText, Fi_BadText⟩ := c1.def_ 20 (d := ⟨("BadText", some "__init__"), "__init__", "BadText.__init__", defArgs (meth 3 0), defBody (meth 3 0), defScope (meth 3 0), [], []⟩) rfl
  cases hfa.symm.trans (gi 18 _ rfl)
  refine ⟨d_law, fun s u => FunD.bindsA (ps := ["script"]) F_law (fun _ _ _ _ _ _ us hl => match us, hl with | [_], _ => rfl) s [u] rfl, fun base kb nb => ?_⟩
  have E_InvalidText : Er1 P w K mg base "InvalidText" "value" := by
    refine ⟨He.ga K "InvalidText", He.ma K (He.ga K "InvalidText") "__init__", di_ReaderError, ["self", "value"], gi 19 _ rfl, errB_ok q1_InvalidText, of_decide_eq_true (List.all_eq_true.mp q2_InvalidText "value" (List.mem_of_getElem? (i := 0) rfl)), of_decide_eq_true q3_InvalidText, of_decide_eq_true q4_InvalidText, ?_, ?_⟩
    · rw [z_InvalidText]
      exact ok_init1 Fi_ReaderError n_i_ReaderError fun cdv A outer s H E => pss_one (ps_ost (pv 0) (pv 1))
    · exact L2.FunD.binds1 (ps := ["self", "value"]) Fi_ReaderError 2 1 (by exact List.cons_ne_nil _ _) rfl fun _ _ _ _ _ _ _ us its h1 h2 => match us, its, h1, h2 with | [_, _], [_], _, _ => ⟨_, rfl, rfl⟩
  have E_BadText : Er2 P w K mg base "BadText" "line" "column" := by
    refine ⟨He.ga K "BadText", He.ma K (He.ga K "BadText") "__init__", di_BadText, ["self", "line", "column"], gi 20 _ rfl, errB_ok q1_BadText, ⟨of_decide_eq_true (List.all_eq_true.mp q2_BadText "line" (List.mem_of_getElem? (i := 0) rfl)), of_decide_eq_true (List.all_eq_true.mp q2_BadText "column" (List.mem_of_getElem? (i := 1) rfl))⟩, of_decide_eq_true q3_BadText, of_decide_eq_true q4_BadText, ?_, ?_⟩
    · rw [z_BadText]
      exact ok_init2 Fi_BadText n_i_BadText fun cdv A outer s H E => pss_cons (ps_ost (pv 0) (pv 1)) (pss_one (ps_ost (pv 0) (pv 2)))
    · exact ⟨[], .nil, FunD.bindsN (ps := ["self", "line", "column"]) Fi_BadText fun _ _ _ _ _ _ us hl => match us, hl with | [_, _, _], _ => rfl⟩
  have D__law_pot : DefG P w K mg base 1 "_law_pot" ["script"] [] (spPot K) := ⟨_, _, ok__law_pot T0 F__law_pot , gi 0 _ rfl, F__law_pot.kp, FunD.bindsN (ps := ["script"]) F__law_pot (fun _ _ _ _ _ _ us hl => match us, hl with | [_], _ => rfl), fun q hq => absurd hq (by simp)⟩
  have D_is_name : DefG P w K mg base 1 "is_name" ["value"] [] (spR Rz K mg false 1 m_is_name) := ⟨_, _, ok_is_name T0 G F_is_name , gi 1 _ rfl, F_is_name.kp, FunD.bindsN (ps := ["value"]) F_is_name (fun _ _ _ _ _ _ us hl => match us, hl with | [_], _ => rfl), fun q hq => absurd hq (by simp)⟩
  have D_run_from : DefG P w K mg base 1 "run_from" ["line", "column"] [] (spR Rz K mg false 2 m_run_from) := ⟨_, _, ok_run_from T0 G F_run_from , gi 2 _ rfl, F_run_from.kp, FunD.bindsN (ps := ["line", "column"]) F_run_from (fun _ _ _ _ _ _ us hl => match us, hl with | [_, _], _ => rfl), fun q hq => absurd hq (by simp)⟩
  have D_sort_of : DefG P w K mg base 2 "sort_of" ["run"] [] (spR Rz K mg false 1 m_sort_of) := ⟨_, _, ok_sort_of T0 G F_sort_of D_is_name, gi 3 _ rfl, F_sort_of.kp, FunD.bindsN (ps := ["run"]) F_sort_of (fun _ _ _ _ _ _ us hl => match us, hl with | [_], _ => rfl), fun q hq => absurd hq (by simp)⟩
  have D_next_in : DefG P w K mg base 3 "next_in" ["line", "column"] [] (spR Rz K mg false 2 m_next_in) := ⟨_, _, ok_next_in T0 G F_next_in D_run_from D_sort_of, gi 4 _ rfl, F_next_in.kp, FunD.bindsN (ps := ["line", "column"]) F_next_in (fun _ _ _ _ _ _ us hl => match us, hl with | [_, _], _ => rfl), fun q hq => absurd hq (by simp)⟩
  have D_row_tokens : DefG P w K mg base 4 "row_tokens" ["row", "line"] [] (spR Rz K mg false 2 m_row_tokens) := ⟨_, _, ok_row_tokens T0 G F_row_tokens D_next_in, gi 5 _ rfl, F_row_tokens.kp, FunD.bindsN (ps := ["row", "line"]) F_row_tokens (fun _ _ _ _ _ _ us hl => match us, hl with | [_, _], _ => rfl), fun q hq => absurd hq (by simp)⟩
  have D_split_of : DefG P w K mg base 5 "split_of" ["text"] [] (spR Rz K mg false 1 m_split_of) := ⟨_, _, ok_split_of T0 G F_split_of D_row_tokens, gi 6 _ rfl, F_split_of.kp, FunD.bindsN (ps := ["text"]) F_split_of (fun _ _ _ _ _ _ us hl => match us, hl with | [_], _ => rfl), fun q hq => absurd hq (by simp)⟩
  have D_want_text : DefG P w K mg base 3 "want_text" ["value"] [] (spR Rz K mg false 1 m_want_text) := ⟨_, _, ok_want_text T0 G F_want_text E_InvalidText, gi 7 _ rfl, F_want_text.kp, FunD.bindsN (ps := ["value"]) F_want_text (fun _ _ _ _ _ _ us hl => match us, hl with | [_], _ => rfl), fun q hq => absurd hq (by simp)⟩
  have D_tokens : DefG P w K mg base 6 "tokens" ["text"] [(["text"], [0])] (spR Rz K mg false 1 m_tokens) := ⟨_, _, ok_tokens T0 G F_tokens D_split_of D_want_text E_BadText, gi 8 _ rfl, F_tokens.kp, FunD.bindsN (ps := ["text"]) F_tokens (fun _ _ _ _ _ _ us hl => match us, hl with | [_], _ => rfl), all1 (kw_of F_tokens fun _ _ _ _ _ _ ws hl => match ws, hl with | [_], _ => rfl)⟩
  have D__law_draw : DefG P w K mg base 1 "_law_draw" ["pot", "many"] [] (spR Rq K mg true 2 m__law_draw) := ⟨_, _, ok__law_draw T0 G F__law_draw , gi 9 _ rfl, F__law_draw.kp, FunD.bindsN (ps := ["pot", "many"]) F__law_draw (fun _ _ _ _ _ _ us hl => match us, hl with | [_, _], _ => rfl), fun q hq => absurd hq (by simp)⟩
  have D__law_pick : DefG P w K mg base 2 "_law_pick" ["pot", "some"] [] (spR Rq K mg true 2 m__law_pick) := ⟨_, _, ok__law_pick T0 G F__law_pick D__law_draw, gi 10 _ rfl, F__law_pick.kp, FunD.bindsN (ps := ["pot", "some"]) F__law_pick (fun _ _ _ _ _ _ us hl => match us, hl with | [_, _], _ => rfl), fun q hq => absurd hq (by simp)⟩
  have D__law_run_sort : DefG P w K mg base 1 "_law_run_sort" ["run"] [] (spR Rz K mg false 1 m__law_run_sort) := ⟨_, _, ok__law_run_sort T0 G F__law_run_sort , gi 11 _ rfl, F__law_run_sort.kp, FunD.bindsN (ps := ["run"]) F__law_run_sort (fun _ _ _ _ _ _ us hl => match us, hl with | [_], _ => rfl), fun q hq => absurd hq (by simp)⟩
  have D__law_tokens : DefG P w K mg base 2 "_law_tokens" ["text"] [] (spR Rz K mg false 1 m__law_tokens) := ⟨_, _, ok__law_tokens T0 G F__law_tokens D__law_run_sort, gi 12 _ rfl, F__law_tokens.kp, FunD.bindsN (ps := ["text"]) F__law_tokens (fun _ _ _ _ _ _ us hl => match us, hl with | [_], _ => rfl), fun q hq => absurd hq (by simp)⟩
  have D__law_pieces : DefG P w K mg base 1 "_law_pieces" [] [] (spR Rz K mg false 0 m__law_pieces) := ⟨_, _, ok__law_pieces T0 G F__law_pieces , gi 13 _ rfl, F__law_pieces.kp, FunD.bindsN (ps := []) F__law_pieces (fun _ _ _ _ _ _ us hl => match us, hl with | [], _ => rfl), fun q hq => absurd hq (by simp)⟩
  have D__law_laid : DefG P w K mg base 3 "_law_laid" ["pot", "many"] [] (spR Rq K mg true 2 m__law_laid) := ⟨_, _, ok__law_laid T0 G F__law_laid D__law_pick D__law_pieces, gi 14 _ rfl, F__law_laid.kp, FunD.bindsN (ps := ["pot", "many"]) F__law_laid (fun _ _ _ _ _ _ us hl => match us, hl with | [_, _], _ => rfl), fun q hq => absurd hq (by simp)⟩
  have D__law_refused : DefG P w K mg base 7 "_law_refused" ["text"] [] (spR Rz K mg false 1 m__law_refused) := ⟨_, _, ok__law_refused T0 G F__law_refused D_tokens, gi 15 _ rfl, F__law_refused.kp, FunD.bindsN (ps := ["text"]) F__law_refused (fun _ _ _ _ _ _ us hl => match us, hl with | [_], _ => rfl), fun q hq => absurd hq (by simp)⟩
  have D__law_string_right : DefG P w K mg base 8 "_law_string_right" ["text"] [] (spR Rz K mg false 1 m__law_string_right) := ⟨_, _, ok__law_string_right T0 G F__law_string_right D__law_tokens D__law_refused D_tokens, gi 16 _ rfl, F__law_string_right.kp, FunD.bindsN (ps := ["text"]) F__law_string_right (fun _ _ _ _ _ _ us hl => match us, hl with | [_], _ => rfl), fun q hq => absurd hq (by simp)⟩
  have D__law_right : DefG P w K mg base 9 "_law_right" ["pot"] [] (spR Rq K mg true 1 m__law_right) := ⟨_, _, ok__law_right T0 G F__law_right D__law_laid D__law_pick D__law_draw D__law_refused D_tokens D__law_string_right, gi 17 _ rfl, F__law_right.kp, FunD.bindsN (ps := ["pot"]) F__law_right (fun _ _ _ _ _ _ us hl => match us, hl with | [_], _ => rfl), fun q hq => absurd hq (by simp)⟩
  exact ok_law r0 F_law D__law_right D__law_pot
end Lk18
open PySem PySem.W PySem.Calls PyProof.Rows
theorem PySem.Challenge.cw_eachreader_k18_tokens_holds : PySem.Challenge.rw_eachreader_k18_tokens.Holds := by
  have r0 := Lk18.right
  w_on; o_law
  refine HandSHeadRun.head_any (r := Lk18.R0) (q := PySem.W.view Lk18.R0.prog [41]) (H := Lk18.hk) (ob := Lk18.ob) (M := 4000) (loose := Lk18.loose) (d := HandSHeadRun.topDef Lk18.R0.prog 41) (kwd := []) Lk18.ob_eq (by kernel_rfl) (fun s => by kernel_rfl) Lk18.run (by kernel_rfl) (by kernel_rfl) (by kernel_rfl) (by rfl) (by first | assumption | decide +kernel) (by decide +kernel) ⟨rfl, rfl, rfl, rfl, rfl, by decide +kernel⟩ ?hw ?hc
  case hw => w_witness2
  case hc =>
    refine Fw.walk_g (l := PySem.Challenge.rw_eachreader_k18_tokens) (n := 63) (k := 10) (x := "script") rfl (by decide) (by kernel_rfl) ⟨rfl, by decide, by decide⟩ ?F
    intro w mg fa h Y G hmg0
    obtain ⟨K, KX, c⟩ := Y
    have hmg : mg ("law" : PySem.Str) = some (.ref fa) := by
      have e : (HandSHeadRun.topDef Lk18.R0.prog 41).name = ("law" : PySem.Str) := by kernel_rfl
      rw [← e]
      exact hmg0
    obtain ⟨fd, hb, hF⟩ := Lk18.facts r0 (P := (PySem.Challenge.rw_eachreader_k18_tokens).prog) (w := w) KX G hmg c
    exact ⟨K, fd, Lk18.spLaw K, KX, hb, fun H a ns hl _ hS => ⟨a, ns, rfl, hl, hS, fun _ => rfl⟩, hF⟩
