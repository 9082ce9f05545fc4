import PyProof.Rows.All
import Wide.All
import OpenK.AllK
import Wide.FinOn
import HandS.ForMost
import HandS.IsInst
import HandS.DictComp
import HandS.More
import HandS.TupAny
import HandS.TupMul
import HandS.Style
import KE.KEqNest
import HandS.WordsDict
import KE.KDictPairs
import KE.KEqDict
import PyProof.ReprRoads
import PyProof.ReprLen
import PyProof.Draws
import PyProof.TupleIter
import HandS.Conv
import HandS.SortOrd
import HandS.NamedTupSort
import HandS.DictTup
import KE.LtSeq
import HandS.SortRule
import HandS.WordsExc
import HandS.ExcCtx
import HandS.ExcField
import HandS.ForSpec
import KE.KExcIs
import HandS.ExcIs
import HandS.ExcSuper
import HandS.ExcValue
import HandS.ExcBuiltin
import KE.KExcMore
import HandS.Strs
import PyProof.Rows.SortShellAny
import HandS.HotCalls
import KE.KSortTupAny
import HandS.Defaults
import HandS.TupSets
import KE.SortCalls
import HandS.NoneIn
import PySem.Challenge.RW_twopatches_k02_errors
set_option Elab.async false
set_option linter.all false
section
set_option maxRecDepth 100000
namespace Tw
open PySem PySem.Spec PyProof.Rows L2

/-- data without addresses -/
inductive D where
  | non
  | bl (b : Bool)
  | int (i : Int)
  | str (x : Str)
  | lst (xs : List D)
  | tup (xs : List D)
  | pr (xs : List D)
  | dic (kvs : List (Key × D))
  | ins (c : Str) (fs : List (Str × D))
  | exc (c : Str) (fs : List (Str × D))
/-- the kinds of containers whose parts the frame owns -/
inductive Wd where
  | dct
  | lst
  | tup
/-- what a slot holds: a tree that stands still, or an object that the frame may change (b: handed in by the caller) -/
inductive A where
  | d (x : D)
  | l (b : Bool) (xs : List D)
  | k (b : Bool) (kvs : List (Key × D))
  | i (b : Bool) (c : Str) (fs : List (Str × A))
  | t (b : Bool) (x : D)
  | p (b : Bool) (O : Addr → List Addr → List (List Str) → HO) (ks : List (List Str))
  | ex (a d : Addr) (fs : List (Str × D))
  | box (b : Bool) (w : Wd) (fs : List (Str × A))
  | hole (b : Bool)
/-- a tuple of texts -/
def tupS (k : List Str) : D := .tup (k.map D.str)

/-- at a: an exception object of the class C, that is not raised; its dict -/
def exv (C : Addr) (dd : Option Addr) (a : Addr) : HO := .ext fun h => ∃ (oe : Obj) (vs : Array Value), h.get? a = some oe ∧ oe.cls = .ref C ∧ oe.dict = dd ∧ oe.data = .fields vs
/-- a thing that a walk may lock -/
def lk : HO → Bool
  | .lst _ => true
  | .tup _ => true
  | .dK _ => true
  | _ => false
/-- what stands at a is u, locked or not -/
def Rd (H : Hp) (a : Addr) (u : HO) : Prop := H a = some u ∨ ∃ o, H a = some (.frz o u) ∧ lk u = true
/-- not a lock -/
def NF : HO → Prop
  | .frz _ (.tup _) => True
  | .frz _ _ => False
  | _ => True
def Wd.obj : Wd → Obj → List (Str × V) → HO
  | .dct, _, vs => .dK (vs.map fun x => (.inr x.1, x.2))
  | .lst, _, vs => .lst (vs.map Prod.snd)
  | .tup, o, vs => .frz o (.tup (vs.map Prod.snd))
def Wd.mk : Wd → List (Str × D) → D
  | .dct, xs => .dic (xs.map fun x => (.inr x.1, x.2))
  | .lst, xs => .lst (xs.map Prod.snd)
  | .tup, xs => .tup (xs.map Prod.snd)
theorem Wd.nf {w : Wd} {o : Obj} {vs : List (Str × V)} : NF (w.obj o vs) := by cases w <;> trivial
/-- the container itself: a dict is the frame's own, a list or a tuple stands still -/
def Wd.hold (w : Wd) (Z : Addr → Prop) (H : Hp) (a : Addr) (o : HO) (fp q : List Addr) : Prop := match w with
  | .dct => fp = a :: q ∧ H a = some o
  | _ => fp = q ∧ ¬ Z a ∧ Rd H a o
theorem Wd.sub {w : Wd} {Z : Addr → Prop} {H : Hp} {a : Addr} {o : HO} {fp q : List Addr} (h : w.hold Z H a o fp q) : ∀ b ∈ q, b ∈ fp := fun b hb => by
  cases w with
  | dct => rw [h.1]; exact List.mem_cons_of_mem _ hb
  | lst => rw [h.1]; exact hb
  | tup => rw [h.1]; exact hb
theorem Wd.mono {w : Wd} {Z Z' : Addr → Prop} {H H' : Hp} {a : Addr} {o : HO} {fp q : List Addr} (l : ∀ a u, ¬ Z a → Rd H a u → ¬ Z' a ∧ Rd H' a u) (g : ∀ a ∈ fp, H' a = H a) (h : w.hold Z H a o fp q) : w.hold Z' H' a o fp q := by
  cases w with
  | dct => exact ⟨h.1, (g a (by rw [h.1]; exact List.mem_cons_self)).trans h.2⟩
  | lst => exact ⟨h.1, l a o h.2.1 h.2.2⟩
  | tup => exact ⟨h.1, l a o h.2.1 h.2.2⟩
theorem Wd.al {w : Wd} {Z : Addr → Prop} {H : Hp} {a : Addr} {o : HO} {fp q : List Addr} (h : w.hold Z H a o fp q) : ∀ b ∈ fp, b ∈ q ∨ H b ≠ none := fun b hb => by
  cases w with
  | dct =>
    rw [h.1] at hb
    rcases List.mem_cons.mp hb with e | hb
    · exact .inr (by rw [e, h.2]; simp)
    · exact .inl hb
  | lst => rw [h.1] at hb; exact .inl hb
  | tup => rw [h.1] at hb; exact .inl hb
theorem Rd.l2 {H : Hp} {a : Addr} {u : HO} (h : Rd H a u) : L2.Rd H a u := by
  rcases h with h | ⟨o, h, _⟩
  · exact .inl h
  · exact .inr ⟨o, h⟩
theorem Rd.frz {H : Hp} {a : Addr} {o : Obj} {u : HO} (h : Rd H a (.frz o u)) : H a = some (.frz o u) := by
  rcases h with h | ⟨o, _, h⟩
  · exact h
  · cases h
theorem Rd.frz2 {H : Hp} {a : Addr} {o : Obj} {u : HO} (h : Rd H a (.frz o u)) : L2.Rd H a u := .inr ⟨o, h.frz⟩
theorem Rd.ins {H : Hp} {a C dx : Addr} {fs : List (Str × V)} (h : Rd H a (.ins C dx fs)) : H a = some (.ins C dx fs) := by
  rcases h with h | ⟨o, _, h⟩
  · exact h
  · cases h
section
variable (mg : Str → Option Value) (Z : Addr → Prop) (H : Hp)
mutual
def Rep : D → V → Prop
  | .non, v => v = .non
  | .bl b, v => v = .bl b
  | .int i, v => v = .int i
  | .str x, v => v = .str x
  | .lst ds, v => ∃ a vs, v = .ref a ∧ ¬ Z a ∧ Rd H a (.lst vs) ∧ Reps ds vs
  | .tup ds, v => ∃ a vs o, v = .ref a ∧ ¬ Z a ∧ o.dict = none ∧ Rd H a (.frz o (.tup vs)) ∧ Reps ds vs
  | .pr ds, v => ∃ a vs, v = .ref a ∧ ¬ Z a ∧ Rd H a (.tup vs) ∧ Reps ds vs
  | .dic kvs, v => ∃ a vs, v = .ref a ∧ ¬ Z a ∧ Rd H a (.dK vs) ∧ RepK kvs vs
  | .ins c fs, v => ∃ a C dx vs, v = .ref a ∧ ¬ Z a ∧ mg c = some (.ref C) ∧ Rd H a (.ins C dx vs) ∧ RepF fs vs
  | .exc c fs, v => ∃ a C dd vs, v = .ref a ∧ ¬ Z a ∧ mg c = some (.ref C) ∧ Rd H a (exv C dd a) ∧ (∀ d, dd = some d → ¬ Z d ∧ Rd H d (.xd vs)) ∧ (dd = none → vs = []) ∧ RepF fs vs
def Reps : List D → List V → Prop
  | [], vs => vs = []
  | d :: r, vs => ∃ v w, vs = v :: w ∧ Rep d v ∧ Reps r w
def RepK : List (Key × D) → List (Key × V) → Prop
  | [], vs => vs = []
  | (k, d) :: r, vs => ∃ v w, vs = (k, v) :: w ∧ Rep d v ∧ RepK r w
def RepF : List (Str × D) → List (Str × V) → Prop
  | [], vs => vs = []
  | (k, d) :: r, vs => ∃ v w, vs = (k, v) :: w ∧ Rep d v ∧ RepF r w
end
mutual
/-- a tree whose lists and dicts all belong to the frame -/
def OwnT : D → V → List Addr → Prop
  | .non, v, fp => v = .non ∧ fp = []
  | .bl b, v, fp => v = .bl b ∧ fp = []
  | .int i, v, fp => v = .int i ∧ fp = []
  | .str x, v, fp => v = .str x ∧ fp = []
  | .lst ds, v, fp => ∃ a vs q, v = .ref a ∧ fp = a :: q ∧ H a = some (.lst vs) ∧ OwnTs ds vs q
  | .dic kvs, v, fp => ∃ a vs q, v = .ref a ∧ fp = a :: q ∧ H a = some (.dK vs) ∧ OwnTk kvs vs q
  | .tup ds, v, fp => ∃ a vs o q, v = .ref a ∧ fp = a :: q ∧ o.dict = none ∧ H a = some (.frz o (.tup vs)) ∧ OwnTs ds vs q
  | .pr _, _, _ => False
  | .ins _ _, _, _ => False
  | .exc _ _, _, _ => False
def OwnTs : List D → List V → List Addr → Prop
  | [], vs, fp => vs = [] ∧ fp = []
  | d :: r, vs, fp => ∃ v w p q, vs = v :: w ∧ fp = p ++ q ∧ OwnT d v p ∧ OwnTs r w q
def OwnTk : List (Key × D) → List (Key × V) → List Addr → Prop
  | [], vs, fp => vs = [] ∧ fp = []
  | (k, d) :: r, vs, fp => ∃ v w p q, vs = (k, v) :: w ∧ fp = p ++ q ∧ OwnT d v p ∧ OwnTk r w q
end
mutual
def Own : A → V → List Addr → Prop
  | .d x, v, fp => fp = [] ∧ Rep mg Z H x v
  | .l _ xs, v, fp => ∃ a vs, v = .ref a ∧ fp = [a] ∧ H a = some (.lst vs) ∧ Reps mg Z H xs vs
  | .k _ xs, v, fp => ∃ a vs, v = .ref a ∧ fp = [a] ∧ H a = some (.dK vs) ∧ RepK mg Z H xs vs
  | .i _ c fs, v, fp => ∃ a C dx vs q, v = .ref a ∧ fp = a :: q ∧ mg c = some (.ref C) ∧ H a = some (.ins C dx vs) ∧ OwnF fs vs q
  | .t _ x, v, fp => OwnT H x v fp
  | .p _ O ks, v, fp => ∃ a bs, v = .ref a ∧ fp = [a] ∧ H a = some (O a bs ks) ∧ (∃ φ, O a bs ks = .ext φ) ∧ Reps mg Z H (ks.map tupS) (bs.map V.ref)
  | .ex a d fs, v, fp => v = .ref a ∧ fp = [] ∧ ¬ Z d ∧ ∃ us, Rd H d (.xd us) ∧ RepF mg Z H fs us
  | .box _ w fs, v, fp => ∃ a o vs q, v = .ref a ∧ o.dict = none ∧ w.hold Z H a (w.obj o vs) fp q ∧ OwnF fs vs q
  | .hole _, v, fp => fp = []
def OwnF : List (Str × A) → List (Str × V) → List Addr → Prop
  | [], vs, fp => vs = [] ∧ fp = []
  | (k, x) :: r, vs, fp => ∃ v w p q, vs = (k, v) :: w ∧ fp = p ++ q ∧ Own x v p ∧ OwnF r w q
end
end

section
variable {mg : Str → Option Value} {Z Z' : Addr → Prop} {H H' : Hp}
mutual
theorem Rep.mono (h : ∀ a u, ¬ Z a → Rd H a u → ¬ Z' a ∧ Rd H' a u) : ∀ {x : D} {v : V}, Rep mg Z H x v → Rep mg Z' H' x v
  | .non, v, r => r
  | .bl b, v, r => r
  | .int i, v, r => r
  | .str x, v, r => r
  | .lst ds, v, ⟨a, vs, e, z, g, r⟩ => ⟨a, vs, e, (h a _ z g).1, (h a _ z g).2, Reps.mono h r⟩
  | .tup ds, v, ⟨a, vs, o, e, z, n, g, r⟩ => ⟨a, vs, o, e, (h a _ z g).1, n, (h a _ z g).2, Reps.mono h r⟩
  | .pr ds, v, ⟨a, vs, e, z, g, r⟩ => ⟨a, vs, e, (h a _ z g).1, (h a _ z g).2, Reps.mono h r⟩
  | .dic ds, v, ⟨a, vs, e, z, g, r⟩ => ⟨a, vs, e, (h a _ z g).1, (h a _ z g).2, RepK.mono h r⟩
  | .ins c fs, v, ⟨a, C, dx, vs, e, z, m, g, r⟩ => ⟨a, C, dx, vs, e, (h a _ z g).1, m, (h a _ z g).2, RepF.mono h r⟩
  | .exc c fs, v, ⟨a, C, dd, vs, e, z, m, g, w, n, r⟩ => ⟨a, C, dd, vs, e, (h a _ z g).1, m, (h a _ z g).2, fun d q => ⟨(h d _ (w d q).1 (w d q).2).1, (h d _ (w d q).1 (w d q).2).2⟩, n, RepF.mono h r⟩
theorem Reps.mono (h : ∀ a u, ¬ Z a → Rd H a u → ¬ Z' a ∧ Rd H' a u) : ∀ {x : List D} {v : List V}, Reps mg Z H x v → Reps mg Z' H' x v
  | [], v, r => r
  | d :: t, v, ⟨x, w, e, r, q⟩ => ⟨x, w, e, Rep.mono h r, Reps.mono h q⟩
theorem RepK.mono (h : ∀ a u, ¬ Z a → Rd H a u → ¬ Z' a ∧ Rd H' a u) : ∀ {x : List (Key × D)} {v : List (Key × V)}, RepK mg Z H x v → RepK mg Z' H' x v
  | [], v, r => r
  | (k, d) :: t, v, ⟨x, w, e, r, q⟩ => ⟨x, w, e, Rep.mono h r, RepK.mono h q⟩
theorem RepF.mono (h : ∀ a u, ¬ Z a → Rd H a u → ¬ Z' a ∧ Rd H' a u) : ∀ {x : List (Str × D)} {v : List (Str × V)}, RepF mg Z H x v → RepF mg Z' H' x v
  | [], v, r => r
  | (k, d) :: t, v, ⟨x, w, e, r, q⟩ => ⟨x, w, e, Rep.mono h r, RepF.mono h q⟩
end
mutual
theorem OwnT.monoN : ∀ {x : D} {v : V} {fp : List Addr}, (∀ a ∈ fp, ∀ o, NF o → H a = some o → H' a = some o) → OwnT H x v fp → OwnT H' x v fp
  | .non, v, fp, _, r => r
  | .bl b, v, fp, _, r => r
  | .int i, v, fp, _, r => r
  | .str x, v, fp, _, r => r
  | .lst ds, v, fp, g, ⟨a, vs, q, e, f, h, r⟩ => ⟨a, vs, q, e, f, g a (by rw [f]; exact List.mem_cons_self) _ trivial h, OwnTs.monoN (fun b hb => g b (by rw [f]; exact List.mem_cons_of_mem _ hb)) r⟩
  | .dic ds, v, fp, g, ⟨a, vs, q, e, f, h, r⟩ => ⟨a, vs, q, e, f, g a (by rw [f]; exact List.mem_cons_self) _ trivial h, OwnTk.monoN (fun b hb => g b (by rw [f]; exact List.mem_cons_of_mem _ hb)) r⟩
  | .tup ds, v, fp, g, ⟨a, vs, o, q, e, f, n, h, r⟩ => ⟨a, vs, o, q, e, f, n, g a (by rw [f]; exact List.mem_cons_self) _ trivial h, OwnTs.monoN (fun b hb => g b (by rw [f]; exact List.mem_cons_of_mem _ hb)) r⟩
  | .pr ds, v, fp, g, r => r.elim
  | .ins c fs, v, fp, g, r => r.elim
  | .exc c fs, v, fp, g, r => r.elim
theorem OwnTs.monoN : ∀ {x : List D} {v : List V} {fp : List Addr}, (∀ a ∈ fp, ∀ o, NF o → H a = some o → H' a = some o) → OwnTs H x v fp → OwnTs H' x v fp
  | [], v, fp, _, r => r
  | d :: t, v, fp, g, ⟨x, w, p, q, e, f, r, s⟩ => ⟨x, w, p, q, e, f, OwnT.monoN (fun b hb => g b (by rw [f]; exact List.mem_append_left _ hb)) r, OwnTs.monoN (fun b hb => g b (by rw [f]; exact List.mem_append_right _ hb)) s⟩
theorem OwnTk.monoN : ∀ {x : List (Key × D)} {v : List (Key × V)} {fp : List Addr}, (∀ a ∈ fp, ∀ o, NF o → H a = some o → H' a = some o) → OwnTk H x v fp → OwnTk H' x v fp
  | [], v, fp, _, r => r
  | (k, d) :: t, v, fp, g, ⟨x, w, p, q, e, f, r, s⟩ => ⟨x, w, p, q, e, f, OwnT.monoN (fun b hb => g b (by rw [f]; exact List.mem_append_left _ hb)) r, OwnTk.monoN (fun b hb => g b (by rw [f]; exact List.mem_append_right _ hb)) s⟩
end
mutual
theorem OwnT.al : ∀ {x : D} {v : V} {fp : List Addr}, OwnT H x v fp → ∀ a ∈ fp, H a ≠ none
  | .non, v, fp, ⟨_, e⟩, a, ha => by rw [e] at ha; cases ha
  | .bl b, v, fp, ⟨_, e⟩, a, ha => by rw [e] at ha; cases ha
  | .int i, v, fp, ⟨_, e⟩, a, ha => by rw [e] at ha; cases ha
  | .str x, v, fp, ⟨_, e⟩, a, ha => by rw [e] at ha; cases ha
  | .lst ds, v, fp, ⟨a, vs, q, e, f, h, r⟩, b, hb => by
    rw [f] at hb
    rcases List.mem_cons.mp hb with hb | hb
    · rw [hb, h]; simp
    · exact OwnTs.al r b hb
  | .dic ds, v, fp, ⟨a, vs, q, e, f, h, r⟩, b, hb => by
    rw [f] at hb
    rcases List.mem_cons.mp hb with hb | hb
    · rw [hb, h]; simp
    · exact OwnTk.al r b hb
  | .tup ds, v, fp, ⟨a, vs, o, q, e, f, n, h, r⟩, b, hb => by
    rw [f] at hb
    rcases List.mem_cons.mp hb with hb | hb
    · rw [hb, h]; simp
    · exact OwnTs.al r b hb
  | .pr ds, v, fp, r, _, _ => r.elim
  | .ins c fs, v, fp, r, _, _ => r.elim
  | .exc c fs, v, fp, r, _, _ => r.elim
theorem OwnTs.al : ∀ {x : List D} {v : List V} {fp : List Addr}, OwnTs H x v fp → ∀ a ∈ fp, H a ≠ none
  | [], v, fp, ⟨_, e⟩, a, ha => by rw [e] at ha; cases ha
  | d :: t, v, fp, ⟨x, w, p, q, e, f, r, s⟩, a, ha => by
    rw [f] at ha
    rcases List.mem_append.mp ha with h | h
    · exact OwnT.al r a h
    · exact OwnTs.al s a h
theorem OwnTk.al : ∀ {x : List (Key × D)} {v : List (Key × V)} {fp : List Addr}, OwnTk H x v fp → ∀ a ∈ fp, H a ≠ none
  | [], v, fp, ⟨_, e⟩, a, ha => by rw [e] at ha; cases ha
  | (k, d) :: t, v, fp, ⟨x, w, p, q, e, f, r, s⟩, a, ha => by
    rw [f] at ha
    rcases List.mem_append.mp ha with h | h
    · exact OwnT.al r a h
    · exact OwnTk.al s a h
end
theorem OwnT.mono {x : D} {v : V} {fp : List Addr} (g : ∀ a ∈ fp, H' a = H a) (h : OwnT H x v fp) : OwnT H' x v fp := h.monoN fun a ha o _ e => (g a ha).trans e
theorem OwnTs.mono {x : List D} {v : List V} {fp : List Addr} (g : ∀ a ∈ fp, H' a = H a) (h : OwnTs H x v fp) : OwnTs H' x v fp := h.monoN fun a ha o _ e => (g a ha).trans e
theorem OwnTk.mono {x : List (Key × D)} {v : List (Key × V)} {fp : List Addr} (g : ∀ a ∈ fp, H' a = H a) (h : OwnTk H x v fp) : OwnTk H' x v fp := h.monoN fun a ha o _ e => (g a ha).trans e
mutual
theorem OwnT.rep : ∀ {x : D} {v : V} {fp : List Addr}, (∀ a ∈ fp, ¬ Z a) → OwnT H x v fp → Rep mg Z H x v
  | .non, v, fp, _, r => r.1
  | .bl b, v, fp, _, r => r.1
  | .int i, v, fp, _, r => r.1
  | .str x, v, fp, _, r => r.1
  | .lst ds, v, fp, g, ⟨a, vs, q, e, f, h, r⟩ => ⟨a, vs, e, g a (by rw [f]; exact List.mem_cons_self), .inl h, OwnTs.rep (fun b hb => g b (by rw [f]; exact List.mem_cons_of_mem _ hb)) r⟩
  | .dic ds, v, fp, g, ⟨a, vs, q, e, f, h, r⟩ => ⟨a, vs, e, g a (by rw [f]; exact List.mem_cons_self), .inl h, OwnTk.rep (fun b hb => g b (by rw [f]; exact List.mem_cons_of_mem _ hb)) r⟩
  | .tup ds, v, fp, g, ⟨a, vs, o, q, e, f, n, h, r⟩ => ⟨a, vs, o, e, g a (by rw [f]; exact List.mem_cons_self), n, .inl h, OwnTs.rep (fun b hb => g b (by rw [f]; exact List.mem_cons_of_mem _ hb)) r⟩
  | .pr ds, v, fp, g, r => r.elim
  | .ins c fs, v, fp, g, r => r.elim
  | .exc c fs, v, fp, g, r => r.elim
theorem OwnTs.rep : ∀ {x : List D} {v : List V} {fp : List Addr}, (∀ a ∈ fp, ¬ Z a) → OwnTs H x v fp → Reps mg Z H x v
  | [], v, fp, _, r => r.1
  | d :: t, v, fp, g, ⟨x, w, p, q, e, f, r, s⟩ => ⟨x, w, e, OwnT.rep (fun b hb => g b (by rw [f]; exact List.mem_append_left _ hb)) r, OwnTs.rep (fun b hb => g b (by rw [f]; exact List.mem_append_right _ hb)) s⟩
theorem OwnTk.rep : ∀ {x : List (Key × D)} {v : List (Key × V)} {fp : List Addr}, (∀ a ∈ fp, ¬ Z a) → OwnTk H x v fp → RepK mg Z H x v
  | [], v, fp, _, r => r.1
  | (k, d) :: t, v, fp, g, ⟨x, w, p, q, e, f, r, s⟩ => ⟨x, w, e, OwnT.rep (fun b hb => g b (by rw [f]; exact List.mem_append_left _ hb)) r, OwnTk.rep (fun b hb => g b (by rw [f]; exact List.mem_append_right _ hb)) s⟩
end
mutual
theorem Own.mono (h : ∀ a u, ¬ Z a → Rd H a u → ¬ Z' a ∧ Rd H' a u) : ∀ {x : A} {v : V} {fp : List Addr}, (∀ a ∈ fp, H' a = H a) → Own mg Z H x v fp → Own mg Z' H' x v fp
  | .d x, v, fp, _, ⟨e, r⟩ => ⟨e, Rep.mono h r⟩
  | .l b xs, v, fp, g, ⟨a, vs, e, f, q, r⟩ => ⟨a, vs, e, f, (g a (by rw [f]; exact List.mem_cons_self)).trans q, Reps.mono h r⟩
  | .k b xs, v, fp, g, ⟨a, vs, e, f, q, r⟩ => ⟨a, vs, e, f, (g a (by rw [f]; exact List.mem_cons_self)).trans q, RepK.mono h r⟩
  | .i b c fs, v, fp, g, ⟨a, C, dx, vs, p, e, f, m, q, r⟩ => ⟨a, C, dx, vs, p, e, f, m, (g a (by rw [f]; exact List.mem_cons_self)).trans q, OwnF.mono h (fun b hb => g b (by rw [f]; exact List.mem_cons_of_mem _ hb)) r⟩
  | .t b x, v, fp, g, r => OwnT.mono g r
  | .p b O ks, v, fp, g, ⟨a, bs, e, f, q, x, r⟩ => ⟨a, bs, e, f, (g a (by rw [f]; exact List.mem_cons_self)).trans q, x, Reps.mono h r⟩
  | .ex a d fs, v, fp, g, ⟨e, f, z, us, q, r⟩ => ⟨e, f, (h d _ z q).1, us, (h d _ z q).2, RepF.mono h r⟩
  | .box b w fs, v, fp, g, ⟨a, o, vs, p, e, m, q, r⟩ => ⟨a, o, vs, p, e, m, Wd.mono (w := w) (o := w.obj o vs) (q := p) h g q, OwnF.mono h (fun b hb => g b (Wd.sub (w := w) (Z := Z) (H := H) (a := a) (o := w.obj o vs) (q := p) q b hb)) r⟩
  | .hole b, v, fp, g, r => r
theorem OwnF.mono (h : ∀ a u, ¬ Z a → Rd H a u → ¬ Z' a ∧ Rd H' a u) : ∀ {x : List (Str × A)} {v : List (Str × V)} {fp : List Addr}, (∀ a ∈ fp, H' a = H a) → OwnF mg Z H x v fp → OwnF mg Z' H' x v fp
  | [], v, fp, _, r => r
  | (k, d) :: t, v, fp, g, ⟨x, w, p, q, e, f, r, s⟩ => ⟨x, w, p, q, e, f, Own.mono h (fun b hb => g b (by rw [f]; exact List.mem_append_left _ hb)) r, OwnF.mono h (fun b hb => g b (by rw [f]; exact List.mem_append_right _ hb)) s⟩
end
mutual
theorem Own.al : ∀ {x : A} {v : V} {fp : List Addr}, Own mg Z H x v fp → ∀ a ∈ fp, H a ≠ none
  | .d x, v, fp, ⟨e, r⟩, a, ha => by rw [e] at ha; cases ha
  | .l b xs, v, fp, ⟨a, vs, e, f, q, r⟩, c, hc => by
    rw [f] at hc
    rw [List.mem_singleton.mp hc, q]
    simp
  | .k b xs, v, fp, ⟨a, vs, e, f, q, r⟩, c, hc => by
    rw [f] at hc
    rw [List.mem_singleton.mp hc, q]
    simp
  | .i b k fs, v, fp, ⟨a, C, dx, vs, p, e, f, m, q, r⟩, c, hc => by
    rw [f] at hc
    rcases List.mem_cons.mp hc with h | h
    · rw [h, q]; simp
    · exact OwnF.al r c h
  | .t b x, v, fp, r, c, hc => OwnT.al r c hc
  | .p b O ks, v, fp, ⟨a, bs, e, f, q, x, r⟩, c, hc => by
    rw [f] at hc
    rw [List.mem_singleton.mp hc, q]
    simp
  | .ex a d fs, v, fp, ⟨e, f, _⟩, c, hc => by rw [f] at hc; cases hc
  | .box b w fs, v, fp, ⟨a, o, vs, p, e, m, q, r⟩, c, hc => by
    rcases Wd.al (w := w) (Z := Z) (H := H) (a := a) (o := w.obj o vs) (q := p) q c hc with h | h
    · exact OwnF.al r c h
    · exact h
  | .hole b, v, fp, r, c, hc => by rw [show fp = [] from r] at hc; cases hc
theorem OwnF.al : ∀ {x : List (Str × A)} {v : List (Str × V)} {fp : List Addr}, OwnF mg Z H x v fp → ∀ a ∈ fp, H a ≠ none
  | [], v, fp, ⟨_, e⟩, a, ha => by rw [e] at ha; cases ha
  | (k, d) :: t, v, fp, ⟨x, w, p, q, e, f, r, s⟩, a, ha => by
    rw [f] at ha
    rcases List.mem_append.mp ha with h | h
    · exact Own.al r a h
    · exact OwnF.al s a h
end

theorem Reps.nil : Reps mg Z H [] [] := rfl
theorem Reps.cons {d : D} {v : V} {ds : List D} {vs : List V} (h : Rep mg Z H d v) (t : Reps mg Z H ds vs) : Reps mg Z H (d :: ds) (v :: vs) := ⟨v, vs, rfl, h, t⟩
theorem Reps.length : ∀ {x : List D} {v : List V}, Reps mg Z H x v → x.length = v.length
  | [], v, r => by rw [show v = [] from r]; rfl
  | d :: t, v, ⟨x, w, e, r, q⟩ => by rw [e, List.length_cons, List.length_cons, Reps.length q]
theorem Reps.get : ∀ {x : List D} {v : List V}, Reps mg Z H x v → ∀ {i : Nat} {d : D}, x[i]? = some d → ∃ u, v[i]? = some u ∧ Rep mg Z H d u
  | [], v, r, i, d, e => by simp at e
  | d :: t, v, ⟨x, w, e, r, q⟩, 0, d', e' => by
    have : d = d' := by simpa using e'
    subst this
    exact ⟨x, by rw [e]; rfl, r⟩
  | d :: t, v, ⟨x, w, e, r, q⟩, i + 1, d', e' => by
    obtain ⟨u, h1, h2⟩ := Reps.get q (i := i) (d := d') (by simpa using e')
    exact ⟨u, by rw [e]; simpa using h1, h2⟩
theorem Reps.append : ∀ {x y : List D} {v w : List V}, Reps mg Z H x v → Reps mg Z H y w → Reps mg Z H (x ++ y) (v ++ w)
  | [], y, v, w, r, s => by rw [show v = [] from r]; exact s
  | d :: t, y, v, w, ⟨a, b, e, r, q⟩, s => by rw [e]; exact ⟨a, b ++ w, rfl, r, Reps.append q s⟩
theorem Reps.take : ∀ {x : List D} {v : List V} (n : Nat), Reps mg Z H x v → Reps mg Z H (x.take n) (v.take n)
  | x, v, 0, r => rfl
  | [], v, n + 1, r => by rw [show v = [] from r]; rfl
  | d :: t, v, n + 1, ⟨a, b, e, r, q⟩ => by rw [e]; exact ⟨a, b.take n, rfl, r, Reps.take n q⟩
theorem Reps.drop : ∀ {x : List D} {v : List V} (n : Nat), Reps mg Z H x v → Reps mg Z H (x.drop n) (v.drop n)
  | x, v, 0, r => r
  | [], v, n + 1, r => by rw [show v = [] from r]; rfl
  | d :: t, v, n + 1, ⟨a, b, e, r, q⟩ => by rw [e]; exact Reps.drop n q
theorem Reps.set {d : D} {u : V} (h : Rep mg Z H d u) : ∀ {x : List D} {v : List V} (n : Nat), Reps mg Z H x v → Reps mg Z H (x.set n d) (v.set n u)
  | [], v, n, r => by rw [show v = [] from r]; rfl
  | c :: t, v, 0, ⟨a, b, e, r, q⟩ => by rw [e]; exact ⟨u, b, rfl, h, q⟩
  | c :: t, v, n + 1, ⟨a, b, e, r, q⟩ => by rw [e]; exact ⟨a, b.set n u, rfl, r, Reps.set h n q⟩
theorem Reps.map {α : Type} (f : α → D) (g : α → V) (h : ∀ a, Rep mg Z H (f a) (g a)) : ∀ l : List α, Reps mg Z H (l.map f) (l.map g)
  | [] => rfl
  | a :: t => ⟨g a, t.map g, rfl, h a, Reps.map f g h t⟩
end
end Tw
end
section
set_option maxRecDepth 100000
namespace Tw
open PySem PySem.Spec PyProof.Rows L2

def A.bor : A → Bool
  | .d _ => false
  | .l b _ => b
  | .k b _ => b
  | .i b _ _ => b
  | .t b _ => b
  | .p b _ _ => b
  | .ex _ _ _ => false
  | .box b _ _ => b
  | .hole b => b
def fldsD : List (Str × A) → Option (List (Str × D))
  | [] => some []
  | (k, .d x) :: r => (fldsD r).map fun t => (k, x) :: t
  | _ => none
mutual
/-- all of it as a tree -/
def A.toDr : A → Option D
  | .d x => some x
  | .l false xs => some (.lst xs)
  | .k false kvs => some (.dic kvs)
  | .t false x => some x
  | .box false w fs => (fldsT fs).map w.mk
  | _ => none
def fldsT : List (Str × A) → Option (List (Str × D))
  | [] => some []
  | (k, x) :: r => (A.toDr x).bind fun d => (fldsT r).map fun t => (k, d) :: t
end
def A.toD : A → Option D
  | .d x => some x
  | .l false xs => some (.lst xs)
  | .k false kvs => some (.dic kvs)
  | .i false c fs => (fldsD fs).map fun t => .ins c t
  | .t false x => some x
  | .box false w fs => (fldsT fs).map w.mk
  | _ => none
abbrev Ro := List (Option A)
abbrev Sg := L2.St
/-- the i-th slot -/
def at_ (ρ : Ro) (i : Nat) : Option A := (ρ[i]?).join
def atS (σ : Sg) (i : Nat) : Option V := (σ[i]?).join
theorem at_of {ρ : Ro} {i : Nat} {a : A} : at_ ρ i = some a ↔ ρ[i]? = some (some a) := by
  unfold at_
  cases h : ρ[i]? with
  | none => simp
  | some o => simp
theorem atS_of {σ : Sg} {i : Nat} {a : V} : atS σ i = some a ↔ σ[i]? = some (some a) := by
  unfold atS
  cases h : σ[i]? with
  | none => simp
  | some o => simp
theorem at_set {ρ : Ro} {i j : Nat} {o : Option A} (h : i < ρ.length) : at_ (ρ.set i o) j = if j = i then o else at_ ρ j := by
  unfold at_
  by_cases e : j = i
  · subst e; rw [List.getElem?_set_self h, if_pos rfl]; rfl
  · rw [List.getElem?_set_ne (Ne.symm e), if_neg e]
theorem atS_set {ρ : Sg} {i j : Nat} {o : Option V} (h : i < ρ.length) : atS (ρ.set i o) j = if j = i then o else atS ρ j := by
  unfold atS
  by_cases e : j = i
  · subst e; rw [List.getElem?_set_self h, if_pos rfl]; rfl
  · rw [List.getElem?_set_ne (Ne.symm e), if_neg e]
theorem at_lt {ρ : Ro} {i : Nat} {a : A} (h : at_ ρ i = some a) : i < ρ.length := (List.getElem?_eq_some_iff.mp (at_of.mp h)).1

/-- what stays the same through a frame: what may not be touched, the heap at the entry, what was handed in to be changed -/
structure Fx where
  Z0 : Addr → Prop
  H0 : Hp
  bor : Nat → List Addr
  bv : Nat → V
/-- the places: none is the value at hand, some i the i-th slot -/
abbrev Pl := Option Nat
def plA (r : Option A) (ρ : Ro) : Pl → Option A
  | none => r
  | some i => at_ ρ i
def plV (v : V) (σ : Sg) : Pl → Option V
  | none => some v
  | some i => atS σ i
def bOf (c : Fx) : Pl → List Addr
  | none => []
  | some i => c.bor i
abbrev Zof (c : Fx) (fp : Pl → List Addr) : Addr → Prop := fun b => c.Z0 b ∨ ∃ p, b ∈ fp p

structure Good (mg : Str → Option Value) (c : Fx) (σ : Sg) (H : Hp) (ρ : Ro) (ts : List D) (tv : List V) (r : Option A) (v : V) (fp : Pl → List Addr) : Prop where
  len : ρ.length = σ.length
  ent : ∀ p x, plA r ρ p = some x → ∃ u, plV v σ p = some u ∧ Own mg (Zof c fp) H x u (fp p)
  off : ∀ p, plA r ρ p = none → fp p = []
  nd : ∀ p, (fp p).Nodup
  ap : ∀ p q a, a ∈ fp p → a ∈ fp q → p = q
  new : ∀ p a, a ∈ fp p → a ∈ bOf c p ∨ c.H0 a = none
  tmp : Reps mg (Zof c fp) H ts tv
  keep : ∀ b o, c.H0 b = some o → (∀ i, b ∉ c.bor i) → H b = some o
  mor : ∀ b, c.H0 b ≠ none → H b ≠ none
  z0 : ∀ b, c.Z0 b → c.H0 b ≠ none
  bz : ∀ i a, a ∈ c.bor i → c.Z0 a
  bst : ∀ i, c.bor i ≠ [] → ∃ x, at_ ρ i = some x ∧ x.bor = true
  bvs : ∀ i x, at_ ρ i = some x → x.bor = true → atS σ i = some (c.bv i)
  rnb : ∀ x, r = some x → x.bor = false
  bnb : ∀ i x, at_ ρ i = some x → x.bor = false → c.bor i = []
def SR (mg : Str → Option Value) (c : Fx) (σ : Sg) (H : Hp) (ρ : Ro) (ts : List D) (tv : List V) (r : Option A) (v : V) : Prop := ∃ fp, Good mg c σ H ρ ts tv r v fp

def Sm (H H' : Hp) : Prop := ∀ b o, H b = some o → H' b = some o
theorem Sm.refl (H : Hp) : Sm H H := fun _ _ h => h
theorem Sm.trans {H H1 H2 : Hp} (a : Sm H H1) (b : Sm H1 H2) : Sm H H2 := fun c o h => b c o (a c o h)
theorem Sm.new {H : Hp} {p : Addr} {o : HO} (h : H p = none) : Sm H (upd H p o) := fun b u e => by
  rw [upd_ne (ne_of_none e h)]; exact e
theorem Sm.rd {H H' : Hp} (s : Sm H H') {a : Addr} {u : HO} (h : Rd H a u) : Rd H' a u := by
  rcases h with h | ⟨o, h, l⟩
  · exact .inl (s _ _ h)
  · exact .inr ⟨o, s _ _ h, l⟩
theorem Sm.none {H H' : Hp} (s : Sm H H') {a : Addr} (h : H' a = none) : H a = none := by
  cases q : H a with
  | none => rfl
  | some o => rw [s _ _ q] at h; cases h
theorem rd_some {H : Hp} {a : Addr} {u : HO} (h : Rd H a u) : H a ≠ none := by
  rcases h with h | ⟨o, h, _⟩ <;> rw [h] <;> simp

section
variable {mg : Str → Option Value} {c : Fx} {σ : Sg} {H H' : Hp} {ρ : Ro} {ts : List D} {tv : List V} {r : Option A} {v : V} {fp : Pl → List Addr}
theorem Good.alloc (g : Good mg c σ H ρ ts tv r v fp) {p : Pl} {a : Addr} (h : a ∈ fp p) : H a ≠ none := by
  cases q : plA r ρ p with
  | none => rw [g.off p q] at h; cases h
  | some x =>
    obtain ⟨u, _, o⟩ := g.ent p x q
    exact o.al a h
theorem Good.zal (g : Good mg c σ H ρ ts tv r v fp) {a : Addr} (h : Zof c fp a) : H a ≠ none := by
  rcases h with h | ⟨p, h⟩
  · exact g.mor a (g.z0 a h)
  · exact g.alloc h
theorem Good.new' (g : Good mg c σ H ρ ts tv r v fp) {a : Addr} (h : H a = none) : c.H0 a = none := by
  cases q : c.H0 a with
  | none => rfl
  | some o => exact absurd h (g.mor a (by rw [q]; simp))
/-- nothing that stood has changed -/
theorem Good.same (g : Good mg c σ H ρ ts tv r v fp) (s : Sm H H') : Good mg c σ H' ρ ts tv r v fp where
  len := g.len
  ent := fun p x e => by
    obtain ⟨u, e1, o⟩ := g.ent p x e
    refine ⟨u, e1, o.mono (fun a u z h => ⟨z, s.rd h⟩) fun a ha => ?_⟩
    cases q : H a with
    | none => exact absurd q (o.al a ha)
    | some w => exact s _ _ q
  off := g.off
  nd := g.nd
  ap := g.ap
  new := g.new
  tmp := g.tmp.mono fun a u z h => ⟨z, s.rd h⟩
  keep := fun b o e h => s _ _ (g.keep b o e h)
  mor := fun b h e => g.mor b h (s.none e)
  z0 := g.z0
  bz := g.bz
  bst := g.bst
  bvs := g.bvs
  rnb := g.rnb
  bnb := g.bnb
theorem SR.same (g : SR mg c σ H ρ ts tv r v) (s : Sm H H') : SR mg c σ H' ρ ts tv r v := let ⟨fp, g⟩ := g; ⟨fp, g.same s⟩
/-- the value at hand is dropped -/
theorem Good.drop (g : Good mg c σ H ρ ts tv r v fp) (u : V) : Good mg c σ H ρ ts tv none u (fun p => match p with | none => [] | some i => fp (some i)) := by
  have zz : ∀ a, Zof c (fun p => match p with | none => [] | some i => fp (some i)) a → Zof c fp a := fun a h => by
    rcases h with h | ⟨p, h⟩
    · exact .inl h
    · cases p with
      | none => cases h
      | some i => exact .inr ⟨some i, h⟩
  refine ⟨g.len, fun p x e => ?_, fun p e => ?_, fun p => ?_, fun p q a h1 h2 => ?_, fun p a h => ?_, g.tmp.mono fun a u z h => ⟨fun w => z (zz a w), h⟩, g.keep, g.mor, g.z0, g.bz, g.bst, g.bvs, fun _ e => (by cases e), g.bnb⟩
  · cases p with
    | none => cases e
    | some i =>
      obtain ⟨u, e1, o⟩ := g.ent (some i) x e
      exact ⟨u, e1, o.mono (fun a u z h => ⟨fun w => z (zz a w), h⟩) fun _ _ => rfl⟩
  · cases p with
    | none => rfl
    | some i => exact g.off (some i) e
  · cases p with
    | none => exact List.nodup_nil
    | some i => exact g.nd (some i)
  · cases p with
    | none => cases h1
    | some i =>
      cases q with
      | none => cases h2
      | some j => exact g.ap (some i) (some j) a h1 h2
  · cases p with
    | none => cases h
    | some i => exact g.new (some i) a h
theorem SR.drop (g : SR mg c σ H ρ ts tv r v) (u : V) : SR mg c σ H ρ ts tv none u := let ⟨_, g⟩ := g; ⟨_, g.drop u⟩
/-- a tree at hand -/
theorem Good.put (g : Good mg c σ H ρ ts tv none v fp) {x : D} {u : V} (h : Rep mg (Zof c fp) H x u) : Good mg c σ H ρ ts tv (some (.d x)) u fp := by
  refine ⟨g.len, fun p y e => ?_, fun p e => ?_, g.nd, g.ap, g.new, g.tmp, g.keep, g.mor, g.z0, g.bz, g.bst, g.bvs, fun y e => by cases e; rfl, g.bnb⟩
  · cases p with
    | none =>
      cases e
      exact ⟨u, rfl, g.off none rfl, h⟩
    | some i => exact g.ent (some i) y e
  · cases p with
    | none => cases e
    | some i => exact g.off (some i) e
/-- the tree at hand is set aside -/
theorem Good.push (g : Good mg c σ H ρ ts tv (some (.d x)) u fp) (v : V) : Good mg c σ H ρ (x :: ts) (u :: tv) none v fp := by
  obtain ⟨w, e1, e0, h⟩ := g.ent none _ rfl
  have e2 : u = w := Option.some.inj e1
  subst e2
  refine ⟨g.len, fun p y e => ?_, fun p e => ?_, g.nd, g.ap, g.new, ⟨u, tv, rfl, h, g.tmp⟩, g.keep, g.mor, g.z0, g.bz, g.bst, g.bvs, fun y e => (by cases e), g.bnb⟩
  · cases p with
    | none => cases e
    | some i => exact g.ent (some i) y e
  · cases p with
    | none => exact e0
    | some i => exact g.off (some i) e
/-- a new object at hand, with its footprint -/
def fpN (fp : Pl → List Addr) (q : List Addr) : Pl → List Addr
  | none => q
  | some i => fp (some i)
theorem Good.made (g : Good mg c σ H ρ ts tv none v fp) {x : A} {u : V} {q : List Addr} (s : Sm H H') (hq : ∀ a ∈ q, H a = none) (nd : q.Nodup) (h : Own mg (fun b => Zof c fp b ∨ b ∈ q) H' x u q) (hb : x.bor = false) : Good mg c σ H' ρ ts tv (some x) u (fpN fp q) := by
  have g' := g.same s
  have zz : ∀ a, Zof c (fpN fp q) a → Zof c fp a ∨ a ∈ q := fun a h => by
    rcases h with h | ⟨p, h⟩
    · exact .inl (.inl h)
    · cases p with
      | none => exact .inr h
      | some i => exact .inl (.inr ⟨some i, h⟩)
  have lift : ∀ a u, ¬ Zof c fp a → Rd H a u → ¬ Zof c (fpN fp q) a ∧ Rd H' a u := fun a u z h => ⟨fun w => by
    rcases zz a w with w | w
    · exact z w
    · exact rd_some h (hq a w), s.rd h⟩
  refine ⟨g.len, fun p y e => ?_, fun p e => ?_, fun p => ?_, fun p p' a h1 h2 => ?_, fun p a h => ?_, g.tmp.mono lift, g'.keep, g'.mor, g.z0, g.bz, g.bst, g.bvs, fun y e => by cases e; exact hb, g.bnb⟩
  · cases p with
    | none =>
      cases e
      exact ⟨u, rfl, h.mono (fun a u z h => ⟨fun w => z (zz a w), h⟩) fun _ _ => rfl⟩
    | some i =>
      obtain ⟨u, e1, o⟩ := g.ent (some i) y e
      refine ⟨u, e1, o.mono lift fun a ha => ?_⟩
      cases q : H a with
      | none => exact absurd q (o.al a ha)
      | some w => exact s _ _ q
  · cases p with
    | none => cases e
    | some i => exact g.off (some i) e
  · cases p with
    | none => exact nd
    | some i => exact g.nd (some i)
  · cases p with
    | none =>
      cases p' with
      | none => rfl
      | some j => exact absurd (hq a h1) (g.alloc (p := some j) h2)
    | some i =>
      cases p' with
      | none => exact absurd (hq a h2) (g.alloc (p := some i) h1)
      | some j => exact g.ap (some i) (some j) a h1 h2
  · cases p with
    | none => exact .inr (g.new' (hq a h))
    | some i => exact g.new (some i) a h
end
end Tw
end
section
set_option maxRecDepth 100000
namespace Tw
open PySem PySem.Spec PyProof.Rows L2
section
variable {mg : Str → Option Value} {c : Fx} {σ σ' : Sg} {H H' : Hp} {ρ ρ' : Ro} {ts : List D} {tv : List V} {r r' : Option A} {v v' : V} {fp fp' : Pl → List Addr}
/-- some places get other contents, the heap changes at most at theirs -/
theorem Good.remake (g : Good mg c σ H ρ ts tv r v fp) (ch : Pl → Prop) (hlen : ρ'.length = σ'.length)
    (hH : ∀ b o, H b = some o → (∀ p, ch p → b ∉ fp p) → H' b = some o) (hmor : ∀ b, H b ≠ none → H' b ≠ none)
    (hsame : ∀ p, ¬ ch p → plA r' ρ' p = plA r ρ p ∧ plV v' σ' p = plV v σ p ∧ fp' p = fp p)
    (hent : ∀ p x, ch p → plA r' ρ' p = some x → ∃ u, plV v' σ' p = some u ∧ Own mg (Zof c fp') H' x u (fp' p))
    (hoff : ∀ p, ch p → plA r' ρ' p = none → fp' p = [])
    (hnd : ∀ p, ch p → (fp' p).Nodup)
    (hap : ∀ p q a, a ∈ fp' p → a ∈ fp' q → p = q)
    (hin : ∀ p a, ch p → a ∈ fp' p → (a ∈ bOf c p ∨ c.H0 a = none))
    (hz : ∀ p a, a ∈ fp' p → (∃ q, a ∈ fp q) ∨ H a = none)
    (hbst : ∀ i, c.bor i ≠ [] → ch (some i) → ∃ x, at_ ρ' i = some x ∧ x.bor = true)
    (hbvs : ∀ i x, ch (some i) → at_ ρ' i = some x → x.bor = true → atS σ' i = some (c.bv i))
    (hrnb : ∀ x, r' = some x → x.bor = false)
    (hbnb : ∀ i x, ch (some i) → at_ ρ' i = some x → x.bor = false → c.bor i = [])
    : Good mg c σ' H' ρ' ts tv r' v' fp' := by
  have lift : ∀ a u, ¬ Zof c fp a → Rd H a u → ¬ Zof c fp' a ∧ Rd H' a u := fun a u z h => by
    refine ⟨fun w => ?_, ?_⟩
    · rcases w with w | ⟨p, w⟩
      · exact z (.inl w)
      · rcases hz p a w with ⟨q, w⟩ | w
        · exact z (.inr ⟨q, w⟩)
        · exact rd_some h w
    · have hn : ∀ p, ch p → a ∉ fp p := fun p _ hp => z (.inr ⟨p, hp⟩)
      rcases h with h | ⟨o, h, l⟩
      · exact .inl (hH _ _ h hn)
      · exact .inr ⟨o, hH _ _ h hn, l⟩
  refine ⟨hlen, fun p x e => ?_, fun p e => ?_, fun p => ?_, hap, fun p a h => ?_, g.tmp.mono lift, fun b o e h => ?_, fun b h => hmor b (g.mor b h), g.z0, g.bz, fun i h => ?_, fun i x e h => ?_, hrnb, fun i x e h => ?_⟩
  · by_cases hc : ch p
    · exact hent p x hc e
    · obtain ⟨e1, e2, e3⟩ := hsame p hc
      obtain ⟨u, q, o⟩ := g.ent p x (e1.symm.trans e)
      refine ⟨u, e2.trans q, ?_⟩
      rw [e3]
      refine o.mono lift fun a ha => ?_
      cases w : H a with
      | none => exact absurd w (o.al a ha)
      | some y => exact hH _ _ w fun p' hp' hm => hc (g.ap p p' a ha hm ▸ hp')
  · by_cases hc : ch p
    · exact hoff p hc e
    · obtain ⟨e1, e2, e3⟩ := hsame p hc
      rw [e3]
      exact g.off p (e1.symm.trans e)
  · by_cases hc : ch p
    · exact hnd p hc
    · rw [(hsame p hc).2.2]; exact g.nd p
  · by_cases hc : ch p
    · exact hin p a hc h
    · rw [(hsame p hc).2.2] at h; exact g.new p a h
  · refine hH _ _ (g.keep b o e h) fun p hp hm => ?_
    rcases g.new p b hm with w | w
    · cases p with
      | none => cases w
      | some i => exact h i w
    · rw [e] at w; cases w
  · by_cases hc : ch (some i)
    · exact hbst i h hc
    · obtain ⟨x, e, hb⟩ := g.bst i h
      exact ⟨x, (hsame _ hc).1.trans e, hb⟩
  · by_cases hc : ch (some i)
    · exact hbvs i x hc e h
    · exact (hsame _ hc).2.1.trans (g.bvs i x ((hsame _ hc).1.symm.trans e) h)
  · by_cases hc : ch (some i)
    · exact hbnb i x hc e h
    · exact g.bnb i x ((hsame _ hc).1.symm.trans e) h

theorem toD_nb {x : A} {d : D} (h : x.toD = some d) : x.bor = false := by
  cases x with
  | d _ => rfl
  | l b _ => cases b with
    | false => rfl
    | true => cases h
  | k b _ => cases b with
    | false => rfl
    | true => cases h
  | i b _ _ => cases b with
    | false => rfl
    | true => cases h
  | t b _ => cases b with
    | false => rfl
    | true => cases h
  | p b _ _ => cases b <;> cases h
  | ex _ _ _ => cases h
  | box b _ _ => cases b with
    | false => rfl
    | true => cases h
  | hole _ => cases h
theorem RepF.reps {Z : Addr → Prop} : ∀ {t : List (Str × D)} {vs : List (Str × V)}, RepF mg Z H t vs → Reps mg Z H (t.map Prod.snd) (vs.map Prod.snd)
  | [], vs, h => by rw [show vs = [] from h]; rfl
  | (k, d) :: r, vs, ⟨v, w, e, h1, h2⟩ => by rw [e]; exact ⟨v, w.map Prod.snd, rfl, h1, RepF.reps h2⟩
theorem RepF.repk {Z : Addr → Prop} : ∀ {t : List (Str × D)} {vs : List (Str × V)}, RepF mg Z H t vs → RepK mg Z H (t.map fun x => (.inr x.1, x.2)) (vs.map fun x => (.inr x.1, x.2))
  | [], vs, h => by rw [show vs = [] from h]; rfl
  | (k, d) :: r, vs, ⟨v, w, e, h1, h2⟩ => by rw [e]; exact ⟨v, _, rfl, h1, RepF.repk h2⟩
theorem Wd.rep {Z Z' : Addr → Prop} {w : Wd} {o : Obj} {a : Addr} {t : List (Str × D)} {vs : List (Str × V)} {fp q : List Addr} (hz : ∀ a, Z' a → Z a) (hq : ∀ a ∈ fp, ¬ Z' a) (hd : o.dict = none) (h : w.hold Z H a (w.obj o vs) fp q) (r : RepF mg Z' H t vs) : Rep mg Z' H (w.mk t) (.ref a) := by
  cases w with
  | dct => exact ⟨a, _, rfl, hq a (by rw [h.1]; exact List.mem_cons_self), .inl h.2, r.repk⟩
  | lst => exact ⟨a, _, rfl, fun w => h.2.1 (hz a w), h.2.2, r.reps⟩
  | tup => exact ⟨a, _, o, rfl, fun w => h.2.1 (hz a w), hd, h.2.2, r.reps⟩
mutual
theorem Own.frzr {Z Z' : Addr → Prop} (hz : ∀ a, Z' a → Z a) : ∀ {x : A} {d : D} {u : V} {q : List Addr}, Own mg Z H x u q → x.toDr = some d → (∀ a ∈ q, ¬ Z' a) → Rep mg Z' H d u
  | .d y, d, u, q, h, e, hq => by
    cases e
    exact h.2.mono fun a u z h => ⟨fun w => z (hz a w), h⟩
  | .l false xs, d, u, q, ⟨a, vs, e1, e2, e3, e4⟩, e, hq => by
    cases e
    exact ⟨a, vs, e1, hq a (by rw [e2]; exact List.mem_cons_self), .inl e3, e4.mono fun a u z h => ⟨fun w => z (hz a w), h⟩⟩
  | .k false xs, d, u, q, ⟨a, vs, e1, e2, e3, e4⟩, e, hq => by
    cases e
    exact ⟨a, vs, e1, hq a (by rw [e2]; exact List.mem_cons_self), .inl e3, e4.mono fun a u z h => ⟨fun w => z (hz a w), h⟩⟩
  | .t false x, d, u, q, h, e, hq => by
    cases e
    exact OwnT.rep hq h
  | .box false w fs, d, u, q, ⟨a, o, vs, p, e1, e3, e4, e5⟩, e, hq => by
    have e' : (fldsT fs).map w.mk = some d := by rw [← e, A.toDr]
    cases e6 : fldsT fs with
    | none => rw [e6] at e'; cases e'
    | some t =>
      rw [e6] at e'
      cases e'
      subst e1
      exact Wd.rep (w := w) (o := o) (vs := vs) (q := p) hz hq e3 e4 (OwnF.frzr hz e5 e6 fun b hb => hq b (Wd.sub (w := w) (Z := Z) (H := H) (a := a) (o := w.obj o vs) (q := p) e4 b hb))
  | .l true xs, d, u, q, _, e, hq => by simp [A.toDr] at e
  | .k true xs, d, u, q, _, e, hq => by simp [A.toDr] at e
  | .t true xs, d, u, q, _, e, hq => by simp [A.toDr] at e
  | .box true _ xs, d, u, q, _, e, hq => by simp [A.toDr] at e
  | .i _ _ _, d, u, q, _, e, hq => by simp [A.toDr] at e
  | .p _ _ _, d, u, q, _, e, hq => by simp [A.toDr] at e
  | .ex _ _ _, d, u, q, _, e, hq => by simp [A.toDr] at e
  | .hole _, d, u, q, _, e, hq => by simp [A.toDr] at e
theorem OwnF.frzr {Z Z' : Addr → Prop} (hz : ∀ a, Z' a → Z a) : ∀ {fs : List (Str × A)} {t : List (Str × D)} {vs : List (Str × V)} {q : List Addr}, OwnF mg Z H fs vs q → fldsT fs = some t → (∀ a ∈ q, ¬ Z' a) → RepF mg Z' H t vs
  | [], t, vs, q, h, e, hq => by
    have : t = [] := by simpa [fldsT] using e.symm
    subst this
    exact h.1
  | (k, x) :: r, t, vs, q, ⟨v, w, p, q', e1, e2, h1, h2⟩, e, hq => by
    have e' : (A.toDr x).bind (fun d => (fldsT r).map fun t => (k, d) :: t) = some t := by rw [← e, fldsT]
    cases e3 : A.toDr x with
    | none => rw [e3] at e'; cases e'
    | some d =>
      rw [e3] at e'
      cases e4 : fldsT r with
      | none => rw [e4] at e'; cases e'
      | some t' =>
        rw [e4] at e'
        cases e'
        exact ⟨v, w, e1, Own.frzr hz h1 e3 fun b hb => hq b (by rw [e2]; exact List.mem_append_left _ hb), OwnF.frzr hz h2 e4 fun b hb => hq b (by rw [e2]; exact List.mem_append_right _ hb)⟩
end
theorem OwnF.frz {Z : Addr → Prop} : ∀ {fs : List (Str × A)} {t : List (Str × D)} {vs : List (Str × V)} {q : List Addr}, OwnF mg Z H fs vs q → fldsD fs = some t → RepF mg Z H t vs
  | [], t, vs, q, h, e => by cases e; exact h.1
  | (k, .d x) :: r, t, vs, q, ⟨v, w, p, q', e1, e2, h1, h2⟩, e => by
    have e' : (fldsD r).map (fun t => (k, x) :: t) = some t := e
    cases e3 : fldsD r with
    | none => rw [e3] at e'; cases e'
    | some t' =>
      rw [e3] at e'
      cases e'
      exact ⟨v, w, e1, h1.2, OwnF.frz h2 e3⟩
  | (k, .l _ _) :: r, t, vs, q, _, e => by cases e
  | (k, .k _ _) :: r, t, vs, q, _, e => by cases e
  | (k, .i _ _ _) :: r, t, vs, q, _, e => by cases e
  | (k, .t _ _) :: r, t, vs, q, _, e => by cases e
  | (k, .p _ _ _) :: r, t, vs, q, _, e => by cases e
  | (k, .ex _ _ _) :: r, t, vs, q, _, e => by cases e
  | (k, .box _ _ _) :: r, t, vs, q, _, e => by cases e
  | (k, .hole _) :: r, t, vs, q, _, e => by cases e
theorem Own.frz {x : A} {d : D} {u : V} {q : List Addr} {Z : Addr → Prop} (h : Own mg Z H x u q) (e : x.toD = some d) {Z' : Addr → Prop} (hz : ∀ a, Z' a → Z a) (hq : ∀ a ∈ q, ¬ Z' a) : Rep mg Z' H d u := by
  have lift : ∀ a u, ¬ Z a → Rd H a u → ¬ Z' a ∧ Rd H a u := fun a u z h => ⟨fun w => z (hz a w), h⟩
  cases x with
  | d y => cases e; exact h.2.mono lift
  | l b xs => cases b with
    | true => cases e
    | false =>
      cases e
      obtain ⟨a, vs, e1, e2, e3, e4⟩ := h
      exact ⟨a, vs, e1, hq a (by rw [e2]; exact List.mem_cons_self), .inl e3, e4.mono lift⟩
  | k b xs => cases b with
    | true => cases e
    | false =>
      cases e
      obtain ⟨a, vs, e1, e2, e3, e4⟩ := h
      exact ⟨a, vs, e1, hq a (by rw [e2]; exact List.mem_cons_self), .inl e3, e4.mono lift⟩
  | i b c fs => cases b with
    | true => cases e
    | false =>
      have e' : (fldsD fs).map (fun t => D.ins c t) = some d := e
      cases e3 : fldsD fs with
      | none => rw [e3] at e'; cases e'
      | some t =>
        rw [e3] at e'
        cases e'
        obtain ⟨a, C, dx, vs, q', e1, e2, e4, e5, e6⟩ := h
        exact ⟨a, C, dx, vs, e1, hq a (by rw [e2]; exact List.mem_cons_self), e4, .inl e5, (e6.frz e3).mono lift⟩
  | t b x => cases b with
    | true => cases e
    | false => cases e; exact OwnT.rep hq h
  | p b O ks => cases b <;> cases e
  | ex _ _ _ => cases e
  | box b w fs => cases b with
    | true => cases e
    | false => exact Own.frzr (x := .box false w fs) hz h (by rw [A.toDr]; exact e) hq
  | hole _ => cases e
/-- the value at hand becomes a tree -/
theorem Good.frzR {x : A} {d : D} (g : Good mg c σ H ρ ts tv (some x) v fp) (e : x.toD = some d) : Good mg c σ H ρ ts tv (some (.d d)) v (fpN fp []) := by
  have hz : ∀ a, Zof c (fpN fp []) a → Zof c fp a := fun a h => by
    rcases h with h | ⟨p, h⟩
    · exact .inl h
    · cases p with
      | none => cases h
      | some i => exact .inr ⟨some i, h⟩
  refine g.remake (fun p => p = none) g.len (fun b o e _ => e) (fun b h => h) (fun p hp => ?_) (fun p x hp e' => ?_) (fun p hp e' => ?_) (fun p hp => ?_) (fun p q a h1 h2 => ?_) (fun p a hp h => ?_) (fun p a h => ?_) (fun i _ h => by cases h) (fun i x h => by cases h) (fun y e => by cases e; rfl) (fun i x h => by cases h)
  · cases p with
    | none => exact absurd rfl hp
    | some i => exact ⟨rfl, rfl, rfl⟩
  · subst hp
    cases e'
    obtain ⟨u, e1, o⟩ := g.ent none _ rfl
    cases e1
    refine ⟨v, rfl, rfl, o.frz e hz fun a ha w => ?_⟩
    rcases w with w | ⟨p, w⟩
    · rcases g.new none a ha with k | k
      · cases k
      · exact g.z0 a w k
    · cases p with
      | none => cases w
      | some i => cases g.ap none (some i) a ha w
  · subst hp; rfl
  · subst hp; exact List.nodup_nil
  · cases p with
    | none => cases h1
    | some i =>
      cases q with
      | none => cases h2
      | some j => exact g.ap _ _ a h1 h2
  · subst hp; cases h
  · cases p with
    | none => cases h
    | some i => exact .inl ⟨some i, h⟩
/-- a slot's object becomes a tree -/
def fpS (fp : Pl → List Addr) (i : Nat) (q : List Addr) : Pl → List Addr
  | none => fp none
  | some j => if j = i then q else fp (some j)
theorem fpS_self {i : Nat} {q : List Addr} : fpS fp i q (some i) = q := if_pos rfl
theorem fpS_ne {i : Nat} {q : List Addr} {p : Pl} (h : p ≠ some i) : fpS fp i q p = fp p := by
  cases p with
  | none => rfl
  | some j => exact if_neg fun e => h (by rw [e])
theorem pl_set {i : Nat} {o : Option A} {p : Pl} (h : p ≠ some i) : plA r (ρ.set i o) p = plA r ρ p := by
  cases p with
  | none => rfl
  | some j =>
    show at_ _ j = at_ _ j
    unfold at_
    rw [List.getElem?_set_ne (fun e => h (by rw [e]))]
theorem Good.frzS {i : Nat} {x : A} {d : D} (g : Good mg c σ H ρ ts tv r v fp) (hx : at_ ρ i = some x) (e : x.toD = some d) : Good mg c σ H (ρ.set i (some (.d d))) ts tv r v (fpS fp i []) ∧ ∃ u, atS σ i = some u ∧ Rep mg (Zof c (fpS fp i [])) H d u := by
  have hz : ∀ a, Zof c (fpS fp i []) a → Zof c fp a := fun a h => by
    rcases h with h | ⟨p, h⟩
    · exact .inl h
    · by_cases hp : p = some i
      · subst hp; rw [fpS_self] at h; cases h
      · rw [fpS_ne hp] at h; exact .inr ⟨p, h⟩
  obtain ⟨u, e1, o⟩ := g.ent (some i) x hx
  have rep : Rep mg (Zof c (fpS fp i [])) H d u := o.frz e hz fun a ha w => by
    rcases w with w | ⟨p, w⟩
    · rcases g.new (some i) a ha with k | k
      · have : c.bor i = [] := g.bnb i x hx (toD_nb e)
        rw [show bOf c (some i) = c.bor i from rfl, this] at k
        cases k
      · exact g.z0 a w k
    · by_cases hp : p = some i
      · subst hp; rw [fpS_self] at w; cases w
      · rw [fpS_ne hp] at w
        exact hp (g.ap (some i) p a ha w).symm
  have hat : at_ (ρ.set i (some (.d d))) i = some (.d d) := by rw [at_set (at_lt hx), if_pos rfl]
  refine ⟨g.remake (fun p => p = some i) (by rw [List.length_set]; exact g.len) (fun b o e _ => e) (fun b h => h) (fun p hp => ⟨pl_set hp, rfl, fpS_ne hp⟩) (fun p y hp e' => ?_) (fun p hp e' => ?_) (fun p hp => ?_) (fun p q a h1 h2 => ?_) (fun p a hp h => ?_) (fun p a h => ?_) (fun j hj h => ?_) (fun j y h e' hb => ?_) g.rnb (fun j y h e' hb => ?_), u, e1, rep⟩
  · subst hp
    have : some (A.d d) = some y := hat.symm.trans e'
    cases this
    rw [fpS_self]
    exact ⟨u, e1, rfl, rep⟩
  · subst hp; exact fpS_self
  · subst hp; rw [fpS_self]; exact List.nodup_nil
  · by_cases hp : p = some i
    · subst hp; rw [fpS_self] at h1; cases h1
    · by_cases hq : q = some i
      · subst hq; rw [fpS_self] at h2; cases h2
      · rw [fpS_ne hp] at h1; rw [fpS_ne hq] at h2; exact g.ap _ _ a h1 h2
  · subst hp; rw [fpS_self] at h; cases h
  · by_cases hp : p = some i
    · subst hp; rw [fpS_self] at h; cases h
    · rw [fpS_ne hp] at h; exact .inl ⟨p, h⟩
  · cases h
    exact absurd (g.bnb i x hx (toD_nb e)) hj
  · cases h
    have : some (A.d d) = some y := hat.symm.trans e'
    cases this
    cases hb
  · cases h
    exact g.bnb i x hx (toD_nb e)
/-- the value at hand goes into a slot -/
def okOld (ρ : Ro) (i : Nat) : Bool := match at_ ρ i with | some x => !x.bor | none => decide (i < ρ.length)
theorem Good.store {i : Nat} {x : A} (g : Good mg c σ H ρ ts tv (some x) v fp) (hi : i < ρ.length) (ho : c.bor i = []) (u : V) : Good mg c (σ.set i (some v)) H (ρ.set i (some x)) ts tv none u (fpS (fpN fp []) i (fp none)) := by
  obtain ⟨w, e1, o⟩ := g.ent none x rfl
  cases e1
  have hz : ∀ a, Zof c (fpS (fpN fp []) i (fp none)) a → Zof c fp a := fun a h => by
    rcases h with h | ⟨p, h⟩
    · exact .inl h
    · by_cases hp : p = some i
      · subst hp; rw [fpS_self] at h; exact .inr ⟨none, h⟩
      · rw [fpS_ne hp] at h
        cases p with
        | none => cases h
        | some j => exact .inr ⟨some j, h⟩
  have hat : at_ (ρ.set i (some x)) i = some x := by rw [at_set hi, if_pos rfl]
  have hσ : i < σ.length := by rw [← g.len]; exact hi
  refine g.remake (fun p => p = some i ∨ p = none) (by rw [List.length_set, List.length_set]; exact g.len) (fun b o e _ => e) (fun b h => h) (fun p hp => ?_) (fun p y hp e' => ?_) (fun p hp e' => ?_) (fun p hp => ?_) (fun p q a h1 h2 => ?_) (fun p a hp h => ?_) (fun p a h => ?_) (fun j hj h => ?_) (fun j y h e' hb => ?_) (fun y e => by cases e) (fun j y h e' hb => ?_)
  · cases p with
    | none => exact absurd (.inr rfl) hp
    | some j =>
      have hj : (some j : Pl) ≠ some i := fun e => hp (.inl e)
      refine ⟨pl_set hj, ?_, fpS_ne hj⟩
      show atS _ j = atS _ j
      rw [atS_set hσ, if_neg fun e => hj (by rw [e])]
  · rcases hp with hp | hp
    · subst hp
      have : some x = some y := hat.symm.trans e'
      cases this
      refine ⟨v, ?_, ?_⟩
      · show atS _ i = _
        rw [atS_set hσ, if_pos rfl]
      · rw [fpS_self]
        exact o.mono (fun a u z h => ⟨fun w => z (hz a w), h⟩) fun _ _ => rfl
    · subst hp; cases e'
  · rcases hp with hp | hp
    · subst hp
      rw [show plA none (ρ.set i (some x)) (some i) = at_ (ρ.set i (some x)) i from rfl, hat] at e'
      cases e'
    · subst hp; rfl
  · rcases hp with hp | hp
    · subst hp; rw [fpS_self]; exact g.nd none
    · subst hp; exact List.nodup_nil
  · by_cases hp : p = some i
    · subst hp
      by_cases hq : q = some i
      · exact hq.symm
      · rw [fpS_self] at h1; rw [fpS_ne hq] at h2
        cases q with
        | none => cases h2
        | some j => cases g.ap none (some j) a h1 h2
    · rw [fpS_ne hp] at h1
      cases p with
      | none => cases h1
      | some k =>
        by_cases hq : q = some i
        · subst hq; rw [fpS_self] at h2; cases g.ap (some k) none a h1 h2
        · rw [fpS_ne hq] at h2
          cases q with
          | none => cases h2
          | some j => exact g.ap (some k) (some j) a h1 h2
  · rcases hp with hp | hp
    · subst hp
      rw [fpS_self] at h
      rcases g.new none a h with w | w
      · cases w
      · exact .inr w
    · subst hp; cases h
  · by_cases hp : p = some i
    · subst hp; rw [fpS_self] at h; exact .inl ⟨none, h⟩
    · rw [fpS_ne hp] at h
      cases p with
      | none => cases h
      | some j => exact .inl ⟨some j, h⟩
  · rcases h with h | h
    · cases h; exact absurd ho hj
    · cases h
  · rcases h with h | h
    · cases h
      have : some x = some y := hat.symm.trans e'
      cases this
      rw [g.rnb x rfl] at hb; cases hb
    · cases h
  · rcases h with h | h
    · cases h; exact ho
    · cases h
/-- the object of a slot is written -/
theorem Good.write {i : Nat} {x x' : A} {u : V} {q : List Addr} (g : Good mg c σ H ρ ts tv r v fp) (hx : at_ ρ i = some x) (hu : atS σ i = some u)
    (hH : ∀ b o, H b = some o → b ∉ fp (some i) → H' b = some o) (hmor : ∀ b, H b ≠ none → H' b ≠ none) (hb : x'.bor = x.bor) (nd : q.Nodup) (hq : ∀ a ∈ q, a ∈ fp (some i) ∨ H a = none)
    (h : Own mg (Zof c (fpS fp i q)) H' x' u q) : Good mg c σ H' (ρ.set i (some x')) ts tv r v (fpS fp i q) := by
  have hat : at_ (ρ.set i (some x')) i = some x' := by rw [at_set (at_lt hx), if_pos rfl]
  refine g.remake (fun p => p = some i) (by rw [List.length_set]; exact g.len) (fun b o e h => hH b o e (h _ rfl)) hmor (fun p hp => ⟨pl_set hp, rfl, fpS_ne hp⟩) (fun p y hp e' => ?_) (fun p hp e' => ?_) (fun p hp => ?_) (fun p p' a h1 h2 => ?_) (fun p a hp h => ?_) (fun p a h => ?_) (fun j hj h => ?_) (fun j y h e' hb' => ?_) g.rnb (fun j y h e' hb' => ?_)
  · subst hp
    have : some x' = some y := hat.symm.trans e'
    cases this
    rw [fpS_self]
    exact ⟨u, hu, h⟩
  · subst hp
    rw [show plA r (ρ.set i (some x')) (some i) = at_ (ρ.set i (some x')) i from rfl, hat] at e'
    cases e'
  · subst hp; rw [fpS_self]; exact nd
  · by_cases hp : p = some i
    · subst hp
      by_cases hp' : p' = some i
      · exact hp'.symm
      · rw [fpS_self] at h1; rw [fpS_ne hp'] at h2
        rcases hq a h1 with k | k
        · exact g.ap _ _ a k h2
        · exact absurd k (g.alloc h2)
    · rw [fpS_ne hp] at h1
      by_cases hp' : p' = some i
      · subst hp'; rw [fpS_self] at h2
        rcases hq a h2 with k | k
        · exact g.ap _ _ a h1 k
        · exact absurd k (g.alloc h1)
      · rw [fpS_ne hp'] at h2; exact g.ap _ _ a h1 h2
  · subst hp; rw [fpS_self] at h
    rcases hq a h with k | k
    · exact g.new _ a k
    · exact .inr (g.new' k)
  · by_cases hp : p = some i
    · subst hp; rw [fpS_self] at h
      rcases hq a h with k | k
      · exact .inl ⟨_, k⟩
      · exact .inr k
    · rw [fpS_ne hp] at h; exact .inl ⟨p, h⟩
  · cases h
    obtain ⟨y, e1, e2⟩ := g.bst i hj
    rw [hx] at e1; cases e1
    exact ⟨x', hat, hb.trans e2⟩
  · cases h
    have : some x' = some y := hat.symm.trans e'
    cases this
    exact g.bvs i x hx (hb.symm.trans hb')
  · cases h
    have : some x' = some y := hat.symm.trans e'
    cases this
    exact g.bnb i x hx (hb.symm.trans hb')
/-- a slot is forgotten -/
theorem Good.forget {i : Nat} (g : Good mg c σ H ρ ts tv r v fp) (hi : i < ρ.length) (ho : c.bor i = []) (w : Option V) : Good mg c (σ.set i w) H (ρ.set i none) ts tv r v (fpS fp i []) := by
  have hat : at_ (ρ.set i none) i = none := by rw [at_set hi, if_pos rfl]
  have hσ : i < σ.length := by rw [← g.len]; exact hi
  refine g.remake (fun p => p = some i) (by rw [List.length_set, List.length_set]; exact g.len) (fun b o e _ => e) (fun b h => h) (fun p hp => ⟨pl_set hp, ?_, fpS_ne hp⟩) (fun p y hp e' => ?_) (fun p hp e' => ?_) (fun p hp => ?_) (fun p q a h1 h2 => ?_) (fun p a hp h => ?_) (fun p a h => ?_) (fun j hj h => ?_) (fun j y h e' hb => ?_) g.rnb (fun j y h e' hb => ?_)
  · cases p with
    | none => rfl
    | some j =>
      show atS _ j = atS _ j
      rw [atS_set hσ, if_neg fun e => hp (by rw [e])]
  · subst hp
    have : none = some y := hat.symm.trans e'
    cases this
  · subst hp; exact fpS_self
  · subst hp; rw [fpS_self]; exact List.nodup_nil
  · by_cases hp : p = some i
    · subst hp; rw [fpS_self] at h1; cases h1
    · by_cases hq : q = some i
      · subst hq; rw [fpS_self] at h2; cases h2
      · rw [fpS_ne hp] at h1; rw [fpS_ne hq] at h2; exact g.ap _ _ a h1 h2
  · subst hp; rw [fpS_self] at h; cases h
  · by_cases hp : p = some i
    · subst hp; rw [fpS_self] at h; cases h
    · rw [fpS_ne hp] at h; exact .inl ⟨p, h⟩
  · cases h; exact absurd ho hj
  · cases h
    have : none = some y := hat.symm.trans e'
    cases this
  · cases h; exact ho
end
end Tw
end
section
set_option maxRecDepth 100000
namespace Tw
open PySem PySem.Spec PyProof.Rows L2

abbrev EF := Ro → Option (A × Ro)
def tE (mg : Str → Option Value) (f : EF) : TE := fun σ H Q => ∃ c ρ ts tv r ρ', SR mg c σ H ρ ts tv none .non ∧ f ρ = some (r, ρ') ∧ ∀ v H', SR mg c σ H' ρ' ts tv (some r) v → Q v H'
def EI (X : Cx) (e : Expr) (f : EF) : Prop := PE X e (tE X.mg f)
theorem _root_.L2.PE.imp {X : Cx} {e : Expr} {t t' : TE} (h : PE X e t) (k : ∀ σ H Q, t' σ H Q → t σ H Q) : PE X e t' := ⟨fun pins s σ H Q I w => h.run pins s σ H Q I (k σ H Q w)⟩
theorem _root_.L2.PT.imp {X : Cx} {e : Expr} {t t' : TT} (h : PT X e t) (k : ∀ σ H Q, t' σ H Q → t σ H Q) : PT X e t' := ⟨fun pins s σ H Q I w => h.run pins s σ H Q I (k σ H Q w)⟩
/-- the value as a tree -/
def dv (f : EF) : Ro → Option (D × Ro) := fun ρ => (f ρ).bind fun x => (x.1.toD).map fun d => (d, x.2)
theorem dv_some {f : EF} {ρ ρ' : Ro} {d : D} : dv f ρ = some (d, ρ') ↔ ∃ r, f ρ = some (r, ρ') ∧ r.toD = some d := by
  unfold dv
  constructor
  · intro h
    cases e : f ρ with
    | none => rw [e] at h; cases h
    | some x =>
      rw [e] at h
      obtain ⟨r, ρ1⟩ := x
      cases q : r.toD with
      | none => simp [q] at h
      | some d' =>
        simp [q] at h
        obtain ⟨h1, h2⟩ := h
        subst h1; subst h2
        exact ⟨r, rfl, q⟩
  · rintro ⟨r, e, q⟩
    rw [e]; simp [q]
section
variable {mg : Str → Option Value} {c : Fx} {σ : Sg} {H H' : Hp} {ρ ρ' : Ro} {ts : List D} {tv : List V} {r : Option A} {v : V} {f g : EF}
theorem SR.frz {x : A} {d : D} (h : SR mg c σ H ρ ts tv (some x) v) (e : x.toD = some d) : SR mg c σ H ρ ts tv (some (.d d)) v := let ⟨_, g⟩ := h; ⟨_, g.frzR e⟩
theorem SR.push {d : D} (h : SR mg c σ H ρ ts tv (some (.d d)) v) : SR mg c σ H ρ (d :: ts) (v :: tv) none .non := let ⟨_, g⟩ := h; ⟨_, g.push .non⟩
/-- go on with a tree set aside -/
theorem tE_dv {d : D} {Q : VK} (s : SR mg c σ H ρ ts tv none .non) (e : dv f ρ = some (d, ρ')) (k : ∀ v H', SR mg c σ H' ρ' (d :: ts) (v :: tv) none .non → Q v H') : tE mg f σ H Q := by
  obtain ⟨r, e1, e2⟩ := dv_some.mp e
  exact ⟨c, ρ, ts, tv, r, ρ', s, e1, fun v H' s' => k v H' (s'.frz e2).push⟩
theorem tE_r {x : A} {Q : VK} (s : SR mg c σ H ρ ts tv none .non) (e : f ρ = some (x, ρ')) (k : ∀ v H', SR mg c σ H' ρ' ts tv (some x) v → Q v H') : tE mg f σ H Q := ⟨c, ρ, ts, tv, x, ρ', s, e, k⟩
theorem Good.pops {fp : Pl → List Addr} {xs : List D} {ys : List V} (g : Good mg c σ H ρ (xs ++ ts) (ys ++ tv) r v fp) (hl : xs.length = ys.length) : Good mg c σ H ρ ts tv r v fp := by
  have t : Reps mg (Zof c fp) H ts tv := by
    have := g.tmp.drop xs.length
    rw [List.drop_left' rfl, List.drop_left' hl.symm] at this
    exact this
  exact ⟨g.len, g.ent, g.off, g.nd, g.ap, g.new, t, g.keep, g.mor, g.z0, g.bz, g.bst, g.bvs, g.rnb, g.bnb⟩
/-- what an operation answers: r, at the heap H, Z stands still -/
def Ret (mg : Str → Option Value) (Z : Addr → Prop) (H : Hp) (r : A) (Q : VK) : Prop :=
  ∀ v H' q, Sm H H' → (∀ a ∈ q, H a = none) → q.Nodup → Own mg (fun b => Z b ∨ b ∈ q) H' r v q → r.bor = false → Q v H'
theorem Ret.d {Z : Addr → Prop} {x : D} {Q : VK} (k : Ret mg Z H (.d x) Q) {v : V} {H' : Hp} (s : Sm H H') (h : Rep mg Z H' x v) : Q v H' :=
  k v H' [] s (fun _ h => by cases h) List.nodup_nil ⟨rfl, h.mono fun a u z w => ⟨fun e => (by rcases e with e | e; exact z e; cases e), w⟩⟩ rfl
theorem Ret.sc {Z : Addr → Prop} {x : D} {Q : VK} (k : Ret mg Z H (.d x) Q) {v : V} (h : Rep mg Z H x v) : Q v H := k.d (Sm.refl _) h
theorem Reps.new {Z : Addr → Prop} {p : Addr} {o : HO} {xs : List D} {vs : List V} (hp : H p = none) (h : Reps mg Z H xs vs) : Reps mg (fun b => Z b ∨ b ∈ [p]) (upd H p o) xs vs :=
  h.mono fun a u z w => ⟨fun e => by
    rcases e with e | e
    · exact z e
    · exact rd_some w (by rw [List.mem_singleton.mp e]; exact hp), (Sm.new hp).rd w⟩
theorem RepK.new {Z : Addr → Prop} {p : Addr} {o : HO} {xs : List (Key × D)} {vs : List (Key × V)} (hp : H p = none) (h : RepK mg Z H xs vs) : RepK mg (fun b => Z b ∨ b ∈ [p]) (upd H p o) xs vs :=
  h.mono fun a u z w => ⟨fun e => by
    rcases e with e | e
    · exact z e
    · exact rd_some w (by rw [List.mem_singleton.mp e]; exact hp), (Sm.new hp).rd w⟩
theorem Ret.l {Z : Addr → Prop} {xs : List D} {vs : List V} {Q : VK} (k : Ret mg Z H (.l false xs) Q) (h : Reps mg Z H xs vs) {p : Addr} (hp : H p = none) : Q (.ref p) (upd H p (.lst vs)) :=
  k (.ref p) _ [p] (Sm.new hp) (fun a e => by rw [List.mem_singleton.mp e]; exact hp) (by simp) ⟨p, vs, rfl, rfl, upd_same, h.new hp⟩ rfl
theorem Ret.k {Z : Addr → Prop} {xs : List (Key × D)} {vs : List (Key × V)} {Q : VK} (k : Ret mg Z H (.k false xs) Q) (h : RepK mg Z H xs vs) {p : Addr} (hp : H p = none) : Q (.ref p) (upd H p (.dK vs)) :=
  k (.ref p) _ [p] (Sm.new hp) (fun a e => by rw [List.mem_singleton.mp e]; exact hp) (by simp) ⟨p, vs, rfl, rfl, upd_same, h.new hp⟩ rfl
/-- a new tuple is a tree at once -/
theorem Ret.t {Z : Addr → Prop} {xs : List D} {vs : List V} {Q : VK} (hz : ∀ a, Z a → H a ≠ none) (k : Ret mg Z H (.d (.tup xs)) Q) (h : Reps mg Z H xs vs) {p : Addr} {o : Obj} (hp : H p = none) (ho : o.dict = none) : Q (.ref p) (upd H p (.frz o (.tup vs))) :=
  k.d (Sm.new hp) ⟨p, vs, o, rfl, fun w => hz p w hp, ho, .inl upd_same, h.mono fun a u z w => ⟨z, (Sm.new hp).rd w⟩⟩
/-- an operation's answer becomes the value at hand -/
theorem SR.ret {x : A} {Q : VK} {fp : Pl → List Addr} (g : Good mg c σ H ρ ts tv none .non fp) (k : ∀ v H', SR mg c σ H' ρ ts tv (some x) v → Q v H') : Ret mg (Zof c fp) H x Q := fun v H' q s hq nd h hb => k v H' ⟨_, g.made s hq nd h hb⟩

/-- an operand: a tree, or a slot that is looked at when all operands are there -/
inductive Opd where
  | ev (f : EF)
  | pk (i : Nat)
def A.toP : A → Option D
  | .d x => some x
  | .l _ xs => some (.lst xs)
  | .k _ kvs => some (.dic kvs)
  | .i _ _ _ => none
  | .t _ _ => none
  | .p _ _ _ => none
  | .ex _ _ _ => none
  | .box _ _ _ => none
  | .hole _ => none
def peek (ρ : Ro) (i : Nat) : Option D := (at_ ρ i).bind A.toP
def ev1 : Opd → Ro → Option (Sum D Nat × Ro)
  | .ev f, ρ => (dv f ρ).map fun x => (.inl x.1, x.2)
  | .pk i, ρ => if (at_ ρ i).isSome = true then some (.inr i, ρ) else none
def res (ρ : Ro) : Sum D Nat → Option D
  | .inl d => some d
  | .inr i => peek ρ i
/-- as Rep, but the object itself may be one that is written -/
def RepT (mg : Str → Option Value) (Z : Addr → Prop) (H : Hp) : D → V → Prop
  | .lst ds, v => ∃ a vs, v = .ref a ∧ Rd H a (.lst vs) ∧ Reps mg Z H ds vs
  | .dic ds, v => ∃ a vs, v = .ref a ∧ Rd H a (.dK vs) ∧ RepK mg Z H ds vs
  | d, v => Rep mg Z H d v
theorem Rep.t {Z : Addr → Prop} {d : D} {v : V} (h : Rep mg Z H d v) : RepT mg Z H d v := by
  cases d with
  | lst ds => obtain ⟨a, vs, e, _, g, r⟩ := h; exact ⟨a, vs, e, g, r⟩
  | dic ds => obtain ⟨a, vs, e, _, g, r⟩ := h; exact ⟨a, vs, e, g, r⟩
  | _ => exact h
theorem Good.peek {fp : Pl → List Addr} {i : Nat} {d : D} (g : Good mg c σ H ρ ts tv r v fp) (h : peek ρ i = some d) {u : V} (hu : atS σ i = some u) : RepT mg (Zof c fp) H d u := by
  unfold Tw.peek at h
  cases e : at_ ρ i with
  | none => rw [e] at h; cases h
  | some x =>
    rw [e, Option.bind_some] at h
    obtain ⟨u', e1, o⟩ := g.ent (some i) x e
    cases hu.symm.trans e1
    cases x with
    | d y => cases h; exact o.2.t
    | l b xs => cases h; obtain ⟨a, vs, e1, e2, e3, e4⟩ := o; exact ⟨a, vs, e1, .inl e3, e4⟩
    | k b xs => cases h; obtain ⟨a, vs, e1, e2, e3, e4⟩ := o; exact ⟨a, vs, e1, .inl e3, e4⟩
    | i _ _ _ => cases h
    | t _ _ => cases h
    | p _ _ _ => cases h
    | ex _ _ _ => cases h
    | box _ _ _ => cases h
    | hole _ => cases h
/-- an operand as it was evaluated -/
def RA (mg : Str → Option Value) (Z : Addr → Prop) (σ : Sg) (H : Hp) : Sum D Nat → V → Prop
  | .inl d, v => Rep mg Z H d v
  | .inr i, v => atS σ i = some v
theorem Good.res {fp : Pl → List Addr} (g : Good mg c σ H ρ ts tv r v fp) {a : Sum D Nat} {u : V} {d : D} (h : RA mg (Zof c fp) σ H a u) (e : res ρ a = some d) : RepT mg (Zof c fp) H d u := by
  cases a with
  | inl x => cases e; exact Rep.t h
  | inr i => exact g.peek e h
def tO (mg : Str → Option Value) : Opd → TE
  | .ev f => tE mg f
  | .pk i => tVar i
def OI (X : Cx) (e : Expr) (o : Opd) : Prop := PE X e (tO X.mg o)
/-- how an evaluated operand is kept: a tree is set aside -/
def keepD : Sum D Nat → List D → List D
  | .inl d, ts => d :: ts
  | .inr _, ts => ts
def keepV : Sum D Nat → V → List V → List V
  | .inl _, v, tv => v :: tv
  | .inr _, _, tv => tv
theorem tO_go {o : Opd} {a : Sum D Nat} {Q : VK} (s : SR mg c σ H ρ ts tv none .non) (e : ev1 o ρ = some (a, ρ'))
    (k : ∀ v H', SR mg c σ H' ρ' (keepD a ts) (keepV a v tv) none .non → (∀ i, a = .inr i → atS σ i = some v) → Q v H') : tO mg o σ H Q := by
  cases o with
  | ev f =>
    have e' : (dv f ρ).map (fun x => ((Sum.inl x.1 : Sum D Nat), x.2)) = some (a, ρ') := e
    cases q : dv f ρ with
    | none => rw [q] at e'; cases e'
    | some x =>
      rw [q] at e'
      cases e'
      exact tE_dv (ρ' := x.2) (d := x.1) s q fun v H' s' => k v H' s' fun i h => by cases h
  | pk i =>
    have e' : (if (at_ ρ i).isSome = true then some ((Sum.inr i : Sum D Nat), ρ) else none) = some (a, ρ') := e
    by_cases hl : (at_ ρ i).isSome = true
    case neg => rw [if_neg hl] at e'; cases e'
    rw [if_pos hl] at e'
    cases e'
    obtain ⟨x, hx⟩ := Option.isSome_iff_exists.mp hl
    obtain ⟨fp, g⟩ := id s
    obtain ⟨u, hu, _⟩ := g.ent (some i) x hx
    exact ⟨u, atS_of.mp hu, k u H s fun j h => by cases h; exact hu⟩
def bin (o p : Opd) (op : D → D → Option A) : EF := fun ρ => (ev1 o ρ).bind fun x => (ev1 p x.2).bind fun y => (res y.2 x.1).bind fun a => (res y.2 y.1).bind fun b => (op a b).map fun r => (r, y.2)
theorem bind_some {α β : Type} {x : Option α} {f : α → Option β} {b : β} : x.bind f = some b ↔ ∃ a, x = some a ∧ f a = some b := by
  cases x <;> simp
theorem map_some {α β : Type} {x : Option α} {f : α → β} {b : β} : x.map f = some b ↔ ∃ a, x = some a ∧ f a = b := by
  cases x <;> simp
theorem bin_some {o p : Opd} {op : D → D → Option A} {x : A} : bin o p op ρ = some (x, ρ') → ∃ s ρ1 t a b, ev1 o ρ = some (s, ρ1) ∧ ev1 p ρ1 = some (t, ρ') ∧ res ρ' s = some a ∧ res ρ' t = some b ∧ op a b = some x := by
  unfold bin
  intro h
  obtain ⟨⟨s, ρ1⟩, e1, h⟩ := bind_some.mp h
  obtain ⟨⟨t, ρ2⟩, e2, h⟩ := bind_some.mp h
  obtain ⟨a, e3, h⟩ := bind_some.mp h
  obtain ⟨b, e4, h⟩ := bind_some.mp h
  obtain ⟨r, e5, h⟩ := map_some.mp h
  cases h
  exact ⟨s, ρ1, t, a, b, e1, e2, e3, e4, e5⟩
def rD (mg : Str → Option Value) (op : D → D → Option A) : R2 := fun x y H Q => ∃ Z a b r, (∀ p, Z p → H p ≠ none) ∧ RepT mg Z H a x ∧ RepT mg Z H b y ∧ op a b = some r ∧ Ret mg Z H r Q
theorem Good.pop1 {fp : Pl → List Addr} {a : Sum D Nat} {u : V} (g : Good mg c σ H ρ (keepD a ts) (keepV a u tv) none v fp) (hu : ∀ i, a = .inr i → atS σ i = some u) : Good mg c σ H ρ ts tv none v fp ∧ RA mg (Zof c fp) σ H a u := by
  cases a with
  | inl d =>
    obtain ⟨w, tw, e, h, t⟩ := g.tmp
    cases e
    exact ⟨g.pops (xs := [d]) (ys := [u]) rfl, h⟩
  | inr i => exact ⟨g, hu i rfl⟩
theorem tOp_of {o p : Opd} {op : D → D → Option A} {Q : VK} (h : tE mg (bin o p op) σ H Q) : tOp (rD mg op) (tO mg o) (tO mg p) σ H Q := by
  obtain ⟨c, ρ, ts, tv, r, ρ', s, e, k⟩ := h
  obtain ⟨x, ρ1, y, a, b, e1, e2, e3, e4, e5⟩ := bin_some e
  refine tO_go s e1 fun u H1 s1 hu => tO_go s1 e2 fun w H2 s2 hw => ?_
  obtain ⟨fp, g2⟩ := s2
  obtain ⟨g1, rb⟩ := g2.pop1 hw
  obtain ⟨g0, ra⟩ := g1.pop1 hu
  exact ⟨_, a, b, r, fun p h => g2.zal h, g0.res ra e3, g0.res rb e4, e5, SR.ret g0 k⟩
end
section
variable {X : Cx} {a b : Expr} {f g : EF} {o p : Opd} {pos : Pos}
theorem o_ev {e : Expr} (h : EI X e f) : OI X e (.ev f) := h
theorem o_pk (i : Nat) {x : Str} (hN : X.N[i]? = some x := by rfl) (hv : Vis X.env.scope x := by first | exact Or.inl rfl | exact Or.inr (Or.inl rfl) | exact Or.inr (Or.inr rfl)) (hd : (x == ("__debug__" : Str)) = false := by decide)
    (hcd : (x == ("__classdict__" : Str)) = false := by decide) : OI X (.Name x pos) (.pk i) := pe_var hN hv hd hcd
abbrev OpD (X : Cx) (F : Value → Value → Sem Value) (op : D → D → Option A) : Prop := OpR X F (rD X.mg op)
theorem e_bin {op : Operator} {F : D → D → Option A} (ho : OpD X (binaryOp op) F) (ha : OI X a o) (hb : OI X b p) : EI X (.BinOp a op b pos) (bin o p F) :=
  (pe_op ho ha hb).imp fun _ _ _ h => tOp_of h
theorem OpD.or {F : Value → Value → Sem Value} {p q : D → D → Option A} (h : OpD X F p) (k : OpD X F q) : OpD X F (fun a b => (p a b).or (q a b)) := by
  intro pins s σ H x y v u Q I rx ry w
  obtain ⟨Z, a, b, r, hz, ra, rb, e, k'⟩ := w
  cases e1 : p a b with
  | some z =>
    have e' : (p a b).or (q a b) = some r := e
    rw [e1] at e'
    cases e'
    exact h pins s σ H x y v u Q I rx ry ⟨Z, a, b, _, hz, ra, rb, e1, k'⟩
  | none =>
    have e' : (p a b).or (q a b) = some r := e
    rw [e1] at e'
    exact k pins s σ H x y v u Q I rx ry ⟨Z, a, b, _, hz, ra, rb, e', k'⟩

/-- a name whose value is read -/
def var (i : Nat) : EF := fun ρ => (at_ ρ i).bind fun x => x.toD.map fun d => (.d d, ρ.set i (some (.d d)))
theorem e_var (i : Nat) {x : Str} (hN : X.N[i]? = some x := by rfl) (hv : Vis X.env.scope x := by first | exact Or.inl rfl | exact Or.inr (Or.inl rfl) | exact Or.inr (Or.inr rfl)) (hd : (x == ("__debug__" : Str)) = false := by decide)
    (hcd : (x == ("__classdict__" : Str)) = false := by decide) : EI X (.Name x pos) (var i) := by
  refine (pe_var hN hv hd hcd).imp fun σ H Q h => ?_
  obtain ⟨c, ρ, ts, tv, r, ρ', ⟨fp, g⟩, e, k⟩ := h
  unfold var at e
  cases e1 : at_ ρ i with
  | none => rw [e1] at e; cases e
  | some y =>
    rw [e1, Option.bind_some] at e
    cases e2 : y.toD with
    | none => rw [e2] at e; cases e
    | some d =>
      rw [e2] at e
      cases e
      obtain ⟨g', u, hu, rep⟩ := g.frzS e1 e2
      exact ⟨u, atS_of.mp hu, k u H ⟨_, g'.put rep⟩⟩
def cst (x : D) : EF := fun ρ => some (.d x, ρ)
theorem e_cst {e : Expr} {v : V} {x : D} (h : PE X e (tC v)) (r : ∀ Z H, Rep X.mg Z H x v) : EI X e (cst x) := h.imp fun σ H Q h => by
  obtain ⟨c, ρ, ts, tv, r', ρ', ⟨fp, g⟩, e, k⟩ := h
  cases e
  exact k v H ⟨_, g.put (r _ _)⟩
theorem e_int {i : Int} {j pos} : EI X (.Constant (.int i) j pos) (cst (.int i)) := e_cst pe_int fun _ _ => rfl
theorem e_bl {i : Bool} {j pos} : EI X (.Constant (.bool i) j pos) (cst (.bl i)) := e_cst pe_bl fun _ _ => rfl
theorem e_str {i : Str} {j pos} : EI X (.Constant (.str i) j pos) (cst (.str i)) := e_cst pe_str fun _ _ => rfl
abbrev TF := Ro → Option (Bool × Ro)
def tTst (mg : Str → Option Value) (f : TF) : TT := fun σ H Q => ∃ c ρ ts tv r ρ', SR mg c σ H ρ ts tv none .non ∧ f ρ = some (r, ρ') ∧ ∀ H', SR mg c σ H' ρ' ts tv none .non → Q r H'
def TI (X : Cx) (e : Expr) (f : TF) : Prop := PT X e (tTst X.mg f)
def WI (X : Cx) (e : Expr) (f : TF) : Prop := PW X e (tTst X.mg f)
/-- a value that is a bool -/
def asB (f : EF) : TF := fun ρ => (f ρ).bind fun x => match x.1 with | .d (.bl b) => some (b, x.2) | _ => none
theorem asB_some {f : EF} {ρ ρ' : Ro} {b : Bool} : asB f ρ = some (b, ρ') ↔ f ρ = some (.d (.bl b), ρ') := by
  unfold asB
  constructor
  · intro h
    cases e : f ρ with
    | none => rw [e] at h; cases h
    | some x =>
      rw [e] at h
      obtain ⟨r, ρ1⟩ := x
      simp only [Option.bind_some] at h
      split at h
      · cases h
        simp_all
      · cases h
  · intro h; rw [h]; rfl
theorem tB_of {mg : Str → Option Value} {σ : Sg} {H : Hp} {Q : Bool → Hp → Prop} (h : tTst mg (asB f) σ H Q) : tE mg f σ H fun x H1 => ∃ c, x = .bl c ∧ Q c H1 := by
  obtain ⟨c, ρ, ts, tv, r, ρ', s, e, k⟩ := h
  refine tE_r s (asB_some.mp e) fun v H' s' => ?_
  obtain ⟨fp, g⟩ := id s'
  obtain ⟨u, e1, e2, e3⟩ := g.ent none _ rfl
  cases e1
  have e3 : v = .bl r := e3
  exact ⟨r, e3, k H' (s'.drop _)⟩
theorem t_val {e : Expr} (h : EI X e f) (he : ∀ whole, isTrue e X.env whole = (do let v ← whole; standAt e.pos; holding [v] (truthy v)) := by intro _; rfl) : TI X e (asB f) := (pt_val h he).imp fun _ _ _ h => tB_of h
theorem t_cmp {op : CmpOp} {F : D → D → Option A} (ho : OpD X (compareOp op) F) (ha : OI X a o) (hb : OI X b p) (hm : behindInMarks op b = false) : TI X (.Compare a [op] [b] pos) (asB (bin o p F)) :=
  (pt_cmpR ho ha hb hm).imp fun σ H Q h => tOp_of (tB_of h)
def notT (f : TF) : TF := fun ρ => (f ρ).map fun x => (!x.1, x.2)
theorem t_not {f : TF} (h : TI X a f) : TI X (.UnaryOp .Not a pos) (notT f) := (pt_not h).imp fun σ H Q h => by
  obtain ⟨c, ρ, ts, tv, r, ρ', s, e, k⟩ := h
  unfold notT at e
  cases e1 : f ρ with
  | none => rw [e1] at e; cases e
  | some x =>
    rw [e1] at e
    cases e
    exact ⟨c, ρ, ts, tv, x.1, x.2, s, e1, k⟩
def andT (f g : TF) : TF := fun ρ => (f ρ).bind fun x => if x.1 then g x.2 else some (false, x.2)
def orT (f g : TF) : TF := fun ρ => (f ρ).bind fun x => if x.1 then some (true, x.2) else g x.2
theorem w_or1 {f : TF} (h : TI X a f) : WI X (.BoolOp .Or [a] pos) f := pw_or1 h
theorem _root_.L2.PW.imp {X : Cx} {e : Expr} {t t' : TT} (h : PW X e t) (k : ∀ σ H Q, t' σ H Q → t σ H Q) : PW X e t' := ⟨fun wh pins s σ H Q I w => h.run wh pins s σ H Q I (k σ H Q w)⟩
theorem w_or {rest : List Expr} {f g : TF} (h : TI X a f) (k : WI X (.BoolOp .Or (b :: rest) pos) g) : WI X (.BoolOp .Or (a :: b :: rest) pos) (orT f g) := (pw_or h k).imp fun σ H Q h => by
  obtain ⟨c, ρ, ts, tv, r, ρ', s, e, k⟩ := h
  unfold orT at e
  cases e1 : f ρ with
  | none => rw [e1] at e; cases e
  | some x =>
    rw [e1, Option.bind_some] at e
    obtain ⟨b, ρ1⟩ := x
    refine ⟨c, ρ, ts, tv, b, ρ1, s, e1, fun H' s' => ?_⟩
    cases b with
    | false => rw [if_neg (by simp)]; rw [if_neg (by simp)] at e; exact ⟨c, ρ1, ts, tv, r, ρ', s', e, k⟩
    | true =>
      rw [if_pos rfl]; rw [if_pos rfl] at e
      cases e
      exact k H' s'
theorem t_w {e : Expr} {f : TF} (h : WI X e f) : TI X e f := PW.pt h
/-- bools as values -/
def toV (f : TF) : EF := fun ρ => (f ρ).map fun x => (.d (.bl x.1), x.2)
theorem toV_some {f : TF} {ρ ρ' : Ro} {x : A} : toV f ρ = some (x, ρ') ↔ ∃ b, f ρ = some (b, ρ') ∧ x = .d (.bl b) := by
  unfold toV
  cases f ρ with
  | none => simp
  | some y =>
    obtain ⟨b, ρ1⟩ := y
    simp only [Option.map_some, Option.some.injEq, Prod.mk.injEq]
    constructor
    · rintro ⟨rfl, rfl⟩; exact ⟨b, ⟨rfl, rfl⟩, rfl⟩
    · rintro ⟨b', ⟨rfl, rfl⟩, rfl⟩; exact ⟨rfl, rfl⟩
def ifE (t : TF) (f g : EF) : EF := fun ρ => (t ρ).bind fun x => if x.1 then f x.2 else g x.2
theorem e_if {cnd : Expr} {t : TF} (hc : TI X cnd t) (ha : EI X a f) (hb : EI X b g) : EI X (.IfExp cnd a b pos) (ifE t f g) := (pe_ifExp hc ha hb).imp fun σ H Q h => by
  obtain ⟨c, ρ, ts, tv, r, ρ', s, e, k⟩ := h
  unfold ifE at e
  cases e1 : t ρ with
  | none => rw [e1] at e; cases e
  | some x =>
    rw [e1, Option.bind_some] at e
    obtain ⟨b, ρ1⟩ := x
    refine ⟨c, ρ, ts, tv, b, ρ1, s, e1, fun H' s' => ?_⟩
    cases b with
    | true => rw [if_pos rfl]; rw [if_pos rfl] at e; exact ⟨c, ρ1, ts, tv, r, ρ', s', e, k⟩
    | false => rw [if_neg (by simp)]; rw [if_neg (by simp)] at e; exact ⟨c, ρ1, ts, tv, r, ρ', s', e, k⟩
def andV (f g : EF) : EF := fun ρ => (asB f ρ).bind fun x => if x.1 then g x.2 else some (.d (.bl false), x.2)
def orV (f g : EF) : EF := fun ρ => (asB f ρ).bind fun x => if x.1 then some (.d (.bl true), x.2) else g x.2
theorem e_not (h : EI X a f) : EI X (.UnaryOp .Not a pos) (toV (notT (asB f))) := (pe_not h).imp fun σ H Q h => by
  obtain ⟨c, ρ, ts, tv, r, ρ', s, e, k⟩ := h
  obtain ⟨b, e1, rfl⟩ := toV_some.mp e
  unfold notT at e1
  cases e2 : asB f ρ with
  | none => rw [e2] at e1; cases e1
  | some x =>
    rw [e2] at e1
    cases e1
    refine tB_of ⟨c, ρ, ts, tv, x.1, x.2, s, e2, fun H' s' => ?_⟩
    obtain ⟨fp, g⟩ := s'
    exact k _ H' ⟨_, g.put (u := .bl (!x.1)) rfl⟩
end
end Tw
end
section
set_option maxRecDepth 100000
namespace Tw
open PySem PySem.Spec PyProof.Rows L2

def evs : List Opd → Ro → Option (List (Sum D Nat) × Ro)
  | [], ρ => some ([], ρ)
  | o :: r, ρ => (ev1 o ρ).bind fun x => (evs r x.2).map fun y => (x.1 :: y.1, y.2)
def RAs (mg : Str → Option Value) (Z : Addr → Prop) (σ : Sg) (H : Hp) : List (Sum D Nat) → List V → Prop
  | [], vs => vs = []
  | a :: r, vs => ∃ v w, vs = v :: w ∧ RA mg Z σ H a v ∧ RAs mg Z σ H r w
def tAr (mg : Str → Option Value) (os : List Opd) : TA := fun σ H Q => ∃ c ρ ts tv ss ρ', SR mg c σ H ρ ts tv none .non ∧ evs os ρ = some (ss, ρ') ∧
  ∀ vs H' fp, Good mg c σ H' ρ' ts tv none .non fp → RAs mg (Zof c fp) σ H' ss vs → Q vs H'
def AI (X : Cx) (es : List Expr) (os : List Opd) : Prop := PA X es (tAr X.mg os)
theorem _root_.L2.PA.imp {X : Cx} {e : List Expr} {t t' : TA} (h : PA X e t) (k : ∀ σ H Q, t' σ H Q → t σ H Q) : PA X e t' := ⟨fun pos pins s σ H Q I w => h.run pos pins s σ H Q I (k σ H Q w)⟩
section
variable {X : Cx} {e : Expr} {es : List Expr} {o : Opd} {os : List Opd}
theorem a_nil : AI X [] [] := pa_nil.imp fun σ H Q h => by
  obtain ⟨c, ρ, ts, tv, ss, ρ', ⟨fp, g⟩, e, k⟩ := h
  cases e
  exact k [] H fp g rfl
theorem a_cons (ha : OI X e o) (hr : AI X es os) (hs : starEach (e :: es) X.env = (false, eval e X.env) :: starEach es X.env := by rfl) : AI X (e :: es) (o :: os) := (pa_cons ha hr hs).imp fun σ H Q h => by
  obtain ⟨c, ρ, ts, tv, ss, ρ', s, e, k⟩ := h
  obtain ⟨⟨a, ρ1⟩, e1, e2⟩ := bind_some.mp (show (ev1 o ρ).bind _ = _ from e)
  obtain ⟨⟨ss', ρ2⟩, e3, e4⟩ := map_some.mp e2
  cases e4
  exact tO_go s e1 fun u H1 s1 hu => ⟨c, ρ1, _, _, ss', _, s1, e3, fun vs H2 fp g ra => by
    obtain ⟨g0, r0⟩ := g.pop1 hu
    exact k (u :: vs) H2 fp g0 ⟨u, vs, rfl, r0, ra⟩⟩
end
def ress (ρ : Ro) : List (Sum D Nat) → Option (List D)
  | [] => some []
  | a :: r => (res ρ a).bind fun x => (ress ρ r).map fun y => x :: y
def RepTs (mg : Str → Option Value) (Z : Addr → Prop) (H : Hp) : List D → List V → Prop
  | [], vs => vs = []
  | d :: r, vs => ∃ v w, vs = v :: w ∧ RepT mg Z H d v ∧ RepTs mg Z H r w
section
variable {mg : Str → Option Value} {c : Fx} {σ : Sg} {H H' : Hp} {ρ ρ' : Ro} {ts : List D} {tv : List V} {r : Option A} {v : V} {fp : Pl → List Addr}
theorem Good.ress (g : Good mg c σ H ρ ts tv r v fp) : ∀ {ss : List (Sum D Nat)} {vs : List V} {ds : List D}, RAs mg (Zof c fp) σ H ss vs → ress ρ ss = some ds → RepTs mg (Zof c fp) H ds vs
  | [], vs, ds, h, e => by cases e; exact h
  | a :: t, vs, ds, ⟨v, w, e1, h1, h2⟩, e => by
    obtain ⟨x, e2, e⟩ := bind_some.mp (show (Tw.res ρ a).bind _ = _ from e)
    obtain ⟨y, e3, e⟩ := map_some.mp e
    cases e
    exact ⟨v, w, e1, g.res h1 e2, Good.ress g h2 e3⟩
def rDs (mg : Str → Option Value) (op : List D → Option A) : List V → Hp → VK → Prop := fun xs H Q => ∃ Z ds r, (∀ p, Z p → H p ≠ none) ∧ RepTs mg Z H ds xs ∧ op ds = some r ∧ Ret mg Z H r Q
def app (os : List Opd) (op : List D → Option A) : EF := fun ρ => (evs os ρ).bind fun x => (ress x.2 x.1).bind fun ds => (op ds).map fun r => (r, x.2)
theorem app_go {os : List Opd} {op : List D → Option A} {Q : VK} (h : tE mg (app os op) σ H Q) : tAr mg os σ H fun vs H1 => rDs mg op vs H1 Q := by
  obtain ⟨c, ρ, ts, tv, r, ρ', s, e, k⟩ := h
  obtain ⟨⟨ss, ρ1⟩, e1, e⟩ := bind_some.mp (show (evs os ρ).bind _ = _ from e)
  obtain ⟨ds, e2, e⟩ := bind_some.mp e
  obtain ⟨x, e3, e⟩ := map_some.mp e
  cases e
  exact ⟨c, ρ, ts, tv, ss, ρ1, s, e1, fun vs H' fp g ra => ⟨_, ds, _, fun p h => g.zal h, g.ress ra e2, e3, SR.ret g k⟩⟩
end
section
variable {X : Cx} {e : Expr} {es : List Expr} {o : Opd} {os : List Opd} {pos p : Pos} {x : Str}
abbrev CallD (X : Cx) (f : Value) (op : List D → Option A) : Prop := CallR X f (rDs X.mg op)
theorem e_callB {id : String} {op : List D → Option A} (hc : CallD X (.builtin id) op) (hm : X.mg x = none) (hv : bootBuiltins x = some (.builtin id)) (ha : AI X (e :: es) os) (hg : Gl X x := by rfl) (hn : x ≠ "__name__" := by decide) (hdb : (x == ("__debug__" : Str)) = false := by decide)
    (he : starEach (e :: es) X.env = (false, eval e X.env) :: starEach es X.env := by rfl) (hpl : (backTo pos (starEach es X.env)).any (·.1) = false := by rfl) : EI X (.Call (.Name x p) (e :: es) [] pos) (app os op) :=
  (pe_callB hc hg hm hv ha hn hdb he hpl).imp fun σ H Q h => app_go h
theorem CallD.or {f : Value} {p q : List D → Option A} (h : CallD X f p) (k : CallD X f q) : CallD X f (fun a => (p a).or (q a)) := by
  intro pins s σ H xs us Q I r w
  obtain ⟨Z, ds, r', hz, ra, e, k'⟩ := w
  cases e1 : p ds with
  | some z =>
    have e' : (p ds).or (q ds) = some r' := e
    rw [e1] at e'
    cases e'
    exact h pins s σ H xs us Q I r ⟨Z, ds, _, hz, ra, e1, k'⟩
  | none =>
    have e' : (p ds).or (q ds) = some r' := e
    rw [e1] at e'
    exact k pins s σ H xs us Q I r ⟨Z, ds, _, hz, ra, e', k'⟩
end

def onlyD : List (Sum D Nat) → Option (List D)
  | [] => some []
  | .inl d :: r => (onlyD r).map fun y => d :: y
  | .inr _ :: _ => none
theorem RAs.only {mg : Str → Option Value} {Z : Addr → Prop} {σ : Sg} {H : Hp} : ∀ {ss : List (Sum D Nat)} {vs : List V} {ds : List D}, RAs mg Z σ H ss vs → onlyD ss = some ds → Reps mg Z H ds vs
  | [], vs, ds, h, e => by cases e; exact h
  | .inl d :: t, vs, ds, ⟨v, w, e1, h1, h2⟩, e => by
    obtain ⟨y, e3, e⟩ := map_some.mp (show (onlyD t).map _ = _ from e)
    cases e
    exact ⟨v, w, e1, h1, RAs.only h2 e3⟩
  | .inr _ :: _, _, _, _, e => by cases e
/-- a def that changes nothing that was handed in -/
abbrev F0 := List D → Option A
def sp0 (mg : Str → Option Value) (F : F0) : Sp := fun vs H Q _ => ∃ Z ds r, (∀ p, Z p → H p ≠ none) ∧ Reps mg Z H ds vs ∧ F ds = some r ∧ Ret mg Z H r Q
def cal0 (os : List Opd) (F : F0) : EF := fun ρ => (evs os ρ).bind fun x => (onlyD x.1).bind fun ds => (F ds).map fun r => (r, x.2)
def A.lend : A → Option A
  | .d _ => none
  | .l _ xs => some (.l true xs)
  | .k _ xs => some (.k true xs)
  | .i _ c fs => some (.i true c fs)
  | .t _ x => some (.t true x)
  | .p _ O ks => some (.p true O ks)
  | .ex _ _ _ => none
  | .box _ w fs => some (.box true w fs)
  | .hole _ => none
def A.mark (b : Bool) : A → A
  | .d x => .d x
  | .l _ xs => .l b xs
  | .k _ xs => .k b xs
  | .i _ c fs => .i b c fs
  | .t _ x => .t b x
  | .p _ O ks => .p b O ks
  | .ex a1 d1 fs => .ex a1 d1 fs
  | .box _ w fs => .box b w fs
  | .hole _ => .hole b
/-- a def that may change its first argument -/
abbrev F1 := A → List D → Option (A × A)
def sp1 (mg : Str → Option Value) (F : F1) : Sp := fun vs H Q _ => ∃ Z x u fx ds us r x', vs = u :: us ∧ Own mg Z H x u fx ∧ x.bor = true ∧ fx.Nodup ∧ (∀ a ∈ fx, Z a) ∧ (∀ p, Z p → H p ≠ none) ∧ Reps mg Z H ds us ∧ F x ds = some (r, x') ∧
  ∀ v H' q fx', (∀ b o, H b = some o → b ∉ fx → H' b = some o) → (∀ b, H b ≠ none → H' b ≠ none) → (∀ a ∈ fx', a ∈ fx ∨ H a = none) → fx'.Nodup → (∀ a ∈ q, H a = none) → q.Nodup → (∀ a ∈ q, a ∉ fx') →
    Own mg (fun b => Z b ∨ b ∈ fx' ∨ b ∈ q) H' x' u fx' → Own mg (fun b => Z b ∨ b ∈ fx' ∨ b ∈ q) H' r v q → x'.bor = true → r.bor = false → Q v H'
def cal1 (i : Nat) (os : List Opd) (F : F1) : EF := fun ρ => (at_ ρ i).bind fun _ => (evs os ρ).bind fun x => (onlyD x.1).bind fun ds => (at_ x.2 i).bind fun a => a.lend.bind fun l => (F l ds).bind fun y => if y.2.bor = true then some (y.1, x.2.set i (some (y.2.mark a.bor))) else none
section
variable {mg : Str → Option Value} {Z : Addr → Prop} {H : Hp} {v : V} {q : List Addr}
theorem lend_bor {x y : A} (h : x.lend = some y) : y.bor = true := by
  cases x <;> cases h <;> rfl
theorem lend_own {x y : A} (h : x.lend = some y) (o : Own mg Z H x v q) : Own mg Z H y v q := by
  cases x <;> cases h <;> exact o
theorem mark_own {x : A} {b : Bool} (o : Own mg Z H x v q) : Own mg Z H (x.mark b) v q := by
  cases x <;> exact o
theorem mark_bor {x : A} {b : Bool} (h : x.bor = true) : (x.mark b).bor = b := by
  cases x with
  | d _ => cases h
  | ex _ _ _ => cases h
  | _ => rfl
end
section
variable {mg : Str → Option Value} {c : Fx} {σ : Sg} {H H' : Hp} {ρ ρ' : Ro} {ts : List D} {tv : List V} {r : Option A} {v : V} {fp : Pl → List Addr}
theorem cal0_go {os : List Opd} {F : F0} {Q : VK} {E : XK} (h : tE mg (cal0 os F) σ H Q) : tAr mg os σ H fun vs H1 => sp0 mg F vs H1 Q E := by
  obtain ⟨c, ρ, ts, tv, r, ρ', s, e, k⟩ := h
  obtain ⟨⟨ss, ρ1⟩, e1, e⟩ := bind_some.mp (show (evs os ρ).bind _ = _ from e)
  obtain ⟨ds, e2, e⟩ := bind_some.mp e
  obtain ⟨x, e3, e⟩ := map_some.mp e
  cases e
  exact ⟨c, ρ, ts, tv, ss, ρ1, s, e1, fun vs H' fp g ra => ⟨_, ds, _, fun p h => g.zal h, ra.only e2, e3, SR.ret g k⟩⟩
/-- behind a call that changed the object of slot i -/
theorem Good.called {i : Nat} {x x' y : A} {u v' : V} {q fx' : List Addr} (g : Good mg c σ H ρ ts tv none v fp) (hx : at_ ρ i = some x) (hu : atS σ i = some u)
    (hH : ∀ b o, H b = some o → b ∉ fp (some i) → H' b = some o) (hmor : ∀ b, H b ≠ none → H' b ≠ none) (hin : ∀ a ∈ fx', a ∈ fp (some i) ∨ H a = none) (nd : fx'.Nodup) (hq : ∀ a ∈ q, H a = none) (ndq : q.Nodup) (hqf : ∀ a ∈ q, a ∉ fx')
    (hb : x'.bor = x.bor) (h1 : Own mg (fun b => Zof c fp b ∨ b ∈ fx' ∨ b ∈ q) H' x' u fx') (h2 : Own mg (fun b => Zof c fp b ∨ b ∈ fx' ∨ b ∈ q) H' y v' q) (hy : y.bor = false) : Good mg c σ H' (ρ.set i (some x')) ts tv (some y) v' (fpS (fpN fp q) i fx') := by
  have hat : at_ (ρ.set i (some x')) i = some x' := by rw [at_set (at_lt hx), if_pos rfl]
  have hfi : ∀ p, (fpS (fpN fp q) i fx') p = if p = none then q else if p = some i then fx' else fp p := fun p => by
    cases p with
    | none => rw [fpS_ne (by simp)]; rfl
    | some j =>
      rw [if_neg (by simp)]
      by_cases e : j = i
      · subst e; rw [fpS_self, if_pos rfl]
      · rw [fpS_ne (by simpa using e), if_neg (by simpa using e)]; rfl
  have zz : ∀ a, Zof c (fpS (fpN fp q) i fx') a → Zof c fp a ∨ a ∈ fx' ∨ a ∈ q := fun a h => by
    rcases h with h | ⟨p, h⟩
    · exact .inl (.inl h)
    · rw [hfi] at h
      split at h
      · exact .inr (.inr h)
      · split at h
        · exact .inr (.inl h)
        · exact .inl (.inr ⟨p, h⟩)
  have dis : ∀ p a, a ∈ fp p → a ∈ q → False := fun p a h h' => g.alloc h (hq a h')
  have disx : ∀ p a, p ≠ some i → a ∈ fp p → a ∈ fx' → False := fun p a hp h h' => by
    rcases hin a h' with w | w
    · exact hp (g.ap p (some i) a h w)
    · exact g.alloc h w
  refine g.remake (fun p => p = some i ∨ p = none) (by rw [List.length_set]; exact g.len) (fun b o e h => hH b o e (h _ (.inl rfl))) hmor (fun p hp => ?_) (fun p z hp e' => ?_) (fun p hp e' => ?_) (fun p hp => ?_) (fun p p' a h1 h2 => ?_) (fun p a hp h => ?_) (fun p a h => ?_) (fun j hj h => ?_) (fun j z h e' hb' => ?_) (fun z e => by cases e; exact hy) (fun j z h e' hb' => ?_)
  · have h1 : p ≠ some i := fun e => hp (.inl e)
    have h2 : p ≠ none := fun e => hp (.inr e)
    refine ⟨?_, ?_, ?_⟩
    · rw [pl_set h1]; cases p with
      | none => exact absurd rfl h2
      | some j => rfl
    · cases p with
      | none => exact absurd rfl h2
      | some j => rfl
    · rw [hfi, if_neg h2, if_neg h1]
  · rcases hp with hp | hp
    · subst hp
      have : some x' = some z := hat.symm.trans e'
      cases this
      rw [fpS_self]
      exact ⟨u, hu, h1.mono (fun a u z h => ⟨fun w => z (zz a w), h⟩) fun _ _ => rfl⟩
    · subst hp
      cases e'
      refine ⟨v', rfl, ?_⟩
      rw [hfi, if_pos rfl]
      exact h2.mono (fun a u z h => ⟨fun w => z (zz a w), h⟩) fun _ _ => rfl
  · rcases hp with hp | hp
    · subst hp
      rw [show plA (some y) (ρ.set i (some x')) (some i) = at_ (ρ.set i (some x')) i from rfl, hat] at e'
      cases e'
    · subst hp; cases e'
  · rcases hp with hp | hp
    · subst hp; rw [fpS_self]; exact nd
    · subst hp; rw [hfi, if_pos rfl]; exact ndq
  · rw [hfi] at h1 h2
    by_cases a1 : p = none
    · by_cases a2 : p' = none
      · rw [a1, a2]
      · rw [if_pos a1] at h1; rw [if_neg a2] at h2
        split at h2
        · exact absurd h2 (hqf a h1)
        · exact (dis _ a h2 h1).elim
    · rw [if_neg a1] at h1
      by_cases a2 : p' = none
      · rw [if_pos a2] at h2
        split at h1
        · exact absurd h1 (hqf a h2)
        · exact (dis _ a h1 h2).elim
      · rw [if_neg a2] at h2
        by_cases b1 : p = some i
        · by_cases b2 : p' = some i
          · rw [b1, b2]
          · rw [if_pos b1] at h1; rw [if_neg b2] at h2; exact (disx _ a b2 h2 h1).elim
        · rw [if_neg b1] at h1
          by_cases b2 : p' = some i
          · rw [if_pos b2] at h2; exact (disx _ a b1 h1 h2).elim
          · rw [if_neg b2] at h2; exact g.ap _ _ a h1 h2
  · rcases hp with hp | hp
    · subst hp; rw [fpS_self] at h
      rcases hin a h with k | k
      · exact g.new _ a k
      · exact .inr (g.new' k)
    · subst hp; rw [hfi, if_pos rfl] at h; exact .inr (g.new' (hq a h))
  · rw [hfi] at h
    split at h
    · exact .inr (hq a h)
    · split at h
      · rcases hin a h with k | k
        · exact .inl ⟨_, k⟩
        · exact .inr k
      · exact .inl ⟨p, h⟩
  · rcases h with h | h
    · cases h
      obtain ⟨z, e1, e2⟩ := g.bst i hj
      rw [hx] at e1; cases e1
      exact ⟨x', hat, hb.trans e2⟩
    · cases h
  · rcases h with h | h
    · cases h
      have : some x' = some z := hat.symm.trans e'
      cases this
      exact g.bvs i x hx (hb.symm.trans hb')
    · cases h
  · rcases h with h | h
    · cases h
      have : some x' = some z := hat.symm.trans e'
      cases this
      exact g.bnb i x hx (hb.symm.trans hb')
    · cases h
theorem cal1_go {i : Nat} {os : List Opd} {F : F1} {Q : VK} {E : XK} (h : tE mg (cal1 i os F) σ H Q) : tCons (tVar i) (tAr mg os) σ H fun vs H1 => sp1 mg F vs H1 Q E := by
  obtain ⟨c, ρ, ts, tv, r, ρ', s, e, k⟩ := h
  obtain ⟨a0, e0, e⟩ := bind_some.mp (show (at_ ρ i).bind _ = _ from e)
  obtain ⟨⟨ss, ρ1⟩, e1, e⟩ := bind_some.mp (show (evs os ρ).bind _ = _ from e)
  obtain ⟨ds, e2, e⟩ := bind_some.mp e
  obtain ⟨a, e3, e⟩ := bind_some.mp e
  obtain ⟨l, e4, e⟩ := bind_some.mp e
  obtain ⟨⟨y, x'⟩, e5, e⟩ := bind_some.mp e
  simp only at e2 e3 e5 e
  by_cases hb : x'.bor = true
  case neg => rw [if_neg hb] at e; cases e
  rw [if_pos hb] at e
  cases e
  -- the slot stood at the start, too: its value is the same
  have hstart : ∃ u, atS σ i = some u := by
    obtain ⟨fp, g⟩ := id s
    obtain ⟨u, hu, _⟩ := g.ent (some i) a0 e0
    exact ⟨u, hu⟩
  obtain ⟨u, hu⟩ := hstart
  refine ⟨u, atS_of.mp hu, c, ρ, ts, tv, ss, ρ1, s, e1, fun vs H' fp g ra => ?_⟩
  obtain ⟨u', hu', own⟩ := g.ent (some i) a e3
  cases hu.symm.trans hu'
  refine ⟨_, l, u, fp (some i), ds, vs, _, x', rfl, lend_own e4 own, lend_bor e4, g.nd _, fun b hb => .inr ⟨_, hb⟩, fun p h => g.zal h, ra.only e2, e5, ?_⟩
  intro v H2 q fx' k1 k2 k3 k4 k5 k6 k7 k8 k9 k10 k11
  exact k v H2 ⟨_, g.called e3 hu k1 k2 k3 k4 k5 k6 k7 (mark_bor k10) (mark_own k8) k9 k11⟩
end
end Tw
end
section
set_option maxRecDepth 100000
namespace Tw
open PySem PySem.Spec PyProof.Rows L2

inductive Out where
  | nx
  | rt (r : A)
  | bk
  | ct
abbrev SF := Ro → Option (Out × Ro)
def Done (mg : Str → Option Value) (c : Fx) (ts : List D) (tv : List V) (D : Ends) (ρ : Ro) : Out → Prop
  | .nx => ∀ σ' H', SR mg c σ' H' ρ ts tv none .non → D.nx σ' H'
  | .rt r => ∀ σ' v H', SR mg c σ' H' ρ ts tv (some r) v → D.rt v H'
  | .bk => ∀ σ' H', SR mg c σ' H' ρ ts tv none .non → D.bk σ' H'
  | .ct => ∀ σ' H', SR mg c σ' H' ρ ts tv none .non → D.ct σ' H'
def tS (mg : Str → Option Value) (f : SF) : TS := fun D σ H => ∃ c ρ ts tv o ρ', SR mg c σ H ρ ts tv none .non ∧ f ρ = some (o, ρ') ∧ Done mg c ts tv D ρ' o
def SI (X : Cx) (st : Stmt) (f : SF) : Prop := PS X st (tS X.mg f)
def BI (X : Cx) (sts : List Stmt) (f : SF) : Prop := PSs X sts (tS X.mg f)
theorem _root_.L2.PS.imp {X : Cx} {e : Stmt} {t t' : TS} (h : PS X e t) (k : ∀ D σ H, t' D σ H → t D σ H) : PS X e t' := ⟨fun pins s σ H Q I w => h.run pins s σ H Q I (k _ _ _ w)⟩
theorem _root_.L2.PSs.imp {X : Cx} {e : List Stmt} {t t' : TS} (h : PSs X e t) (k : ∀ D σ H, t' D σ H → t D σ H) : PSs X e t' := ⟨fun pins s σ H Q I w => h.run pins s σ H Q I (k _ _ _ w)⟩
def seqS (f g : SF) : SF := fun ρ => (f ρ).bind fun x => match x.1 with | .nx => g x.2 | o => some (o, x.2)
def nxS : SF := fun ρ => some (.nx, ρ)
section
variable {mg : Str → Option Value} {c : Fx} {σ : Sg} {H H' : Hp} {ρ ρ' : Ro} {ts : List D} {tv : List V} {r : Option A} {v : V} {fp : Pl → List Addr}
theorem okOld_lt {i : Nat} (h : okOld ρ i = true) : i < ρ.length := by
  unfold okOld at h
  cases e : at_ ρ i with
  | some x => exact at_lt e
  | none => rw [e] at h; exact of_decide_eq_true h
theorem Good.old (g : Good mg c σ H ρ ts tv r v fp) {i : Nat} (h : okOld ρ i = true) : c.bor i = [] := by
  unfold okOld at h
  cases e : at_ ρ i with
  | some x =>
    rw [e] at h
    refine g.bnb i x e ?_
    cases q : x.bor with
    | false => rfl
    | true => simp [q] at h
  | none =>
    cases q : c.bor i with
    | nil => rfl
    | cons a t =>
      obtain ⟨x, e1, _⟩ := g.bst i (by rw [q]; simp)
      rw [e] at e1; cases e1
/-- the content of a slot becomes the value at hand -/
theorem Good.move {i : Nat} {x : A} (g : Good mg c σ H ρ ts tv none v fp) (hx : at_ ρ i = some x) (hb : x.bor = false) {u : V} (hu : atS σ i = some u) : Good mg c σ H (ρ.set i none) ts tv (some x) u (fpS (fpN fp (fp (some i))) i []) := by
  have hi := at_lt hx
  have hat : at_ (ρ.set i none) i = none := by rw [at_set hi, if_pos rfl]
  have ho : c.bor i = [] := g.bnb i x hx hb
  obtain ⟨u', e1, o⟩ := g.ent (some i) x hx
  cases hu.symm.trans e1
  have hz : ∀ a, Zof c (fpS (fpN fp (fp (some i))) i []) a → Zof c fp a := fun a h => by
    rcases h with h | ⟨p, h⟩
    · exact .inl h
    · by_cases hp : p = some i
      · subst hp; rw [fpS_self] at h; cases h
      · rw [fpS_ne hp] at h
        cases p with
        | none => exact .inr ⟨some i, h⟩
        | some j => exact .inr ⟨some j, h⟩
  refine g.remake (fun p => p = some i ∨ p = none) (by rw [List.length_set]; exact g.len) (fun b o e _ => e) (fun b h => h) (fun p hp => ?_) (fun p y hp e' => ?_) (fun p hp e' => ?_) (fun p hp => ?_) (fun p q a h1 h2 => ?_) (fun p a hp h => ?_) (fun p a h => ?_) (fun j hj h => ?_) (fun j y h e' hb' => ?_) (fun y e => by cases e; exact hb) (fun j y h e' hb' => ?_)
  · cases p with
    | none => exact absurd (.inr rfl) hp
    | some j =>
      have hj : (some j : Pl) ≠ some i := fun e => hp (.inl e)
      exact ⟨pl_set hj, rfl, fpS_ne hj⟩
  · rcases hp with hp | hp
    · subst hp
      have : none = some y := hat.symm.trans e'
      cases this
    · subst hp
      cases e'
      refine ⟨u, rfl, ?_⟩
      rw [fpS_ne (by simp)]
      exact o.mono (fun a u z h => ⟨fun w => z (hz a w), h⟩) fun _ _ => rfl
  · rcases hp with hp | hp
    · subst hp; exact fpS_self
    · subst hp; cases e'
  · rcases hp with hp | hp
    · subst hp; rw [fpS_self]; exact List.nodup_nil
    · subst hp; rw [fpS_ne (by simp)]; exact g.nd (some i)
  · by_cases hp : p = some i
    · subst hp; rw [fpS_self] at h1; cases h1
    · by_cases hq : q = some i
      · subst hq; rw [fpS_self] at h2; cases h2
      · rw [fpS_ne hp] at h1; rw [fpS_ne hq] at h2
        cases p with
        | none =>
          cases q with
          | none => rfl
          | some j => exact absurd (g.ap (some i) (some j) a h1 h2).symm hq
        | some k =>
          cases q with
          | none => exact absurd (g.ap (some i) (some k) a h2 h1).symm hp
          | some j => exact g.ap (some k) (some j) a h1 h2
  · rcases hp with hp | hp
    · subst hp; rw [fpS_self] at h; cases h
    · subst hp; rw [fpS_ne (by simp)] at h
      rcases g.new (some i) a h with k | k
      · rw [show bOf c (some i) = c.bor i from rfl, ho] at k; cases k
      · exact .inr k
  · by_cases hp : p = some i
    · subst hp; rw [fpS_self] at h; cases h
    · rw [fpS_ne hp] at h
      cases p with
      | none => exact .inl ⟨some i, h⟩
      | some j => exact .inl ⟨some j, h⟩
  · rcases h with h | h
    · cases h; exact absurd ho hj
    · cases h
  · rcases h with h | h
    · cases h
      have : none = some y := hat.symm.trans e'
      cases this
    · cases h
  · rcases h with h | h
    · cases h; exact ho
    · cases h
end
section
variable {X : Cx} {st : Stmt} {rest : List Stmt} {f g : SF} {e : Expr} {fe : EF} {pos pos' : Pos}
theorem b_nil : BI X [] nxS := pss_nil.imp fun D σ H h => by
  obtain ⟨c, ρ, ts, tv, o, ρ', s, e, k⟩ := h
  cases e
  exact k σ H s
theorem b_one (h : SI X st f) : BI X [st] f := pss_one h
theorem b_cons (h1 : SI X st f) (h2 : BI X rest g) : BI X (st :: rest) (seqS f g) := (pss_cons h1 h2).imp fun D σ H h => by
  obtain ⟨c, ρ, ts, tv, o, ρ', s, e, k⟩ := h
  obtain ⟨⟨o1, ρ1⟩, e1, e2⟩ := bind_some.mp (show (f ρ).bind _ = _ from e)
  refine ⟨c, ρ, ts, tv, o1, ρ1, s, e1, ?_⟩
  cases o1 with
  | nx => exact fun σ' H' s' => ⟨c, ρ1, ts, tv, o, ρ', s', e2, k⟩
  | rt r => cases e2; exact k
  | bk => cases e2; exact k
  | ct => cases e2; exact k
def retS (f : EF) : SF := fun ρ => (f ρ).map fun x => (.rt x.1, x.2)
theorem s_ret (h : EI X e fe) : SI X (.Return (some e) pos) (retS fe) := (ps_ret h).imp fun D σ H h => by
  obtain ⟨c, ρ, ts, tv, o, ρ', s, e, k⟩ := h
  obtain ⟨⟨r, ρ1⟩, e1, e2⟩ := map_some.mp (show (fe ρ).map _ = _ from e)
  cases e2
  exact ⟨c, ρ, ts, tv, r, ρ1, s, e1, fun v H' s' => k σ v H' s'⟩
def retN : SF := fun ρ => some (.rt (.d .non), ρ)
/-- return x: the object itself is handed on -/
def retV (i : Nat) : SF := fun ρ => (at_ ρ i).bind fun x => if x.bor = true then none else some (.rt x, ρ.set i none)
theorem s_retV (i : Nat) {x : Str} (hN : X.N[i]? = some x := by rfl) (hv : Vis X.env.scope x := by first | exact Or.inl rfl | exact Or.inr (Or.inl rfl) | exact Or.inr (Or.inr rfl)) (hd : (x == ("__debug__" : Str)) = false := by decide)
    (hcd : (x == ("__classdict__" : Str)) = false := by decide) : SI X (.Return (some (.Name x pos')) pos) (retV i) := (ps_ret (pe_var hN hv hd hcd)).imp fun D σ H h => by
  obtain ⟨c, ρ, ts, tv, o, ρ', ⟨fp, g⟩, e, k⟩ := h
  obtain ⟨x, e1, e2⟩ := bind_some.mp (show (at_ ρ i).bind _ = _ from e)
  by_cases hb : x.bor = true
  case pos => rw [if_pos hb] at e2; cases e2
  rw [if_neg hb] at e2
  cases e2
  obtain ⟨u, hu, _⟩ := g.ent (some i) x e1
  exact ⟨u, atS_of.mp hu, k σ u H ⟨_, g.move e1 (by simpa using hb) hu⟩⟩
def exprS (f : EF) : SF := fun ρ => (f ρ).map fun x => (.nx, x.2)
theorem s_expr (h : EI X e fe) (hs : swapsWith e none pos.line X.env = pure false := by rfl) : SI X (.Expr e pos) (exprS fe) := (ps_expr h hs).imp fun D σ H h => by
  obtain ⟨c, ρ, ts, tv, o, ρ', s, e, k⟩ := h
  obtain ⟨⟨r, ρ1⟩, e1, e2⟩ := map_some.mp (show (fe ρ).map _ = _ from e)
  cases e2
  exact ⟨c, ρ, ts, tv, r, ρ1, s, e1, fun v H' s' => k σ H' (s'.drop _)⟩
def ifS (t : TF) (f g : SF) : SF := fun ρ => (t ρ).bind fun x => if x.1 then f x.2 else g x.2
theorem s_if {cnd : Expr} {a b : List Stmt} {t : TF} (hc : TI X cnd t) (ha : BI X a f) (hb : BI X b g) : SI X (.If cnd a b pos) (ifS t f g) := (ps_if hc ha hb).imp fun D σ H h => by
  obtain ⟨c, ρ, ts, tv, o, ρ', s, e, k⟩ := h
  obtain ⟨⟨b, ρ1⟩, e1, e2⟩ := bind_some.mp (show (t ρ).bind _ = _ from e)
  refine ⟨c, ρ, ts, tv, b, ρ1, s, e1, fun H' s' => ?_⟩
  cases b with
  | true => rw [if_pos rfl]; rw [if_pos rfl] at e2; exact ⟨c, ρ1, ts, tv, o, ρ', s', e2, k⟩
  | false => rw [if_neg (by simp)]; rw [if_neg (by simp)] at e2; exact ⟨c, ρ1, ts, tv, o, ρ', s', e2, k⟩
/-- x = e: what e makes new belongs to the slot -/
def setS (i : Nat) (f : EF) : SF := fun ρ => (f ρ).bind fun x => if okOld x.2 i = true then some (.nx, x.2.set i (some x.1)) else none
theorem s_set (i : Nat) {x : Str} (hN : X.N.Nodup) (h : EI X e fe) (hi : X.N[i]? = some x := by rfl) (hx : Loc X.env.scope x := by first | exact Or.inl rfl | exact Or.inr rfl) (hs : swapsWith e (some (.Name x pos')) pos.line X.env = pure false := by rfl)
    (hf : X.fn x = true ∨ X.env.scope.names.lookup x = some .local := by first | exact .inl rfl | exact .inr rfl | assumption) : SI X (.Assign [.Name x pos'] e pos) (setS i fe) := (ps_set hN hi hx h hs hf).imp fun D σ H h => by
  obtain ⟨c, ρ, ts, tv, o, ρ', s, e, k⟩ := h
  obtain ⟨⟨r, ρ1⟩, e1, e2⟩ := bind_some.mp (show (fe ρ).bind _ = _ from e)
  by_cases ho : okOld ρ1 i = true
  case neg => rw [if_neg ho] at e2; cases e2
  rw [if_pos ho] at e2
  cases e2
  exact ⟨c, ρ, ts, tv, r, ρ1, s, e1, fun v H' ⟨fp, g⟩ => k _ H' ⟨_, g.store (okOld_lt ho) (g.old ho) _⟩⟩

abbrev GF := D → Ro → Option Ro
/-- only the slots js differ -/
def Agree (js : List Nat) (σ σ' : Sg) : Prop := ∀ vs : List Nat, (∀ j ∈ js, j ∈ vs) → wipe σ' vs = wipe σ vs
theorem wipe_set {i : Nat} {o : Option V} : ∀ {σ : Sg} {vs : List Nat}, i ∈ vs → wipe (σ.set i o) vs = wipe σ vs
  | σ, [], h => by cases h
  | σ, v :: vs, h => by
    show (wipe (σ.set i o) vs).set v none = (wipe σ vs).set v none
    by_cases hi : i ∈ vs
    · rw [wipe_set hi]
    · have e : i = v := by
        rcases List.mem_cons.mp h with h | h
        · exact h
        · exact absurd h hi
      subst e
      have comm : ∀ (vs : List Nat), i ∉ vs → wipe (σ.set i o) vs = (wipe σ vs).set i o := by
        intro vs
        induction vs with
        | nil => intro _; rfl
        | cons w ws ih =>
          intro hn
          show (wipe (σ.set i o) ws).set w none = ((wipe σ ws).set w none).set i o
          rw [ih fun h => hn (List.mem_cons_of_mem _ h), List.set_comm _ _ (fun e : i = w => hn (by rw [e]; exact List.mem_cons_self))]
      rw [comm vs hi, List.set_set]
theorem Agree.refl (σ : Sg) : Agree [] σ σ := fun _ _ => rfl
theorem Agree.set (σ : Sg) (i : Nat) (o : Option V) : Agree [i] σ (σ.set i o) := fun vs h => wipe_set (h i List.mem_cons_self)
theorem Agree.trans {js ks : List Nat} {σ σ1 σ2 : Sg} (a : Agree js σ σ1) (b : Agree ks σ1 σ2) : Agree (js ++ ks) σ σ2 := fun vs h => (b vs fun j hj => h j (List.mem_append_right _ hj)).trans (a vs fun j hj => h j (List.mem_append_left _ hj))
def tGr (mg : Str → Option Value) (js : List Nat) (f : GF) : TG := fun v σ H Q => ∃ c ρ ts tv d ρ', SR mg c σ H ρ (d :: ts) (v :: tv) none .non ∧ f d ρ = some ρ' ∧ ∀ σ' H', Agree js σ σ' → SR mg c σ' H' ρ' ts tv none .non → Q σ' H'
def GI (X : Cx) (e : Expr) (js : List Nat) (f : GF) : Prop := PG X e (tGr X.mg js f)
theorem _root_.L2.PG.imp {X : Cx} {e : Expr} {t t' : TG} (h : PG X e t) (k : ∀ v σ H Q, t' v σ H Q → t v σ H Q) : PG X e t' := ⟨fun pins s σ H v u Q I r w => h.run pins s σ H v u Q I r (k _ _ _ _ w)⟩
def nameG (i : Nat) : GF := fun d ρ => if okOld ρ i = true then some (ρ.set i (some (.d d))) else none
theorem Good.take {mg : Str → Option Value} {c : Fx} {σ : Sg} {H : Hp} {ρ : Ro} {ts : List D} {tv : List V} {v : V} {fp : Pl → List Addr} {d : D} {u : V} (g : Good mg c σ H ρ (d :: ts) (u :: tv) none v fp) : Good mg c σ H ρ ts tv (some (.d d)) u fp := by
  obtain ⟨w, tw, e, h, t⟩ := g.tmp
  cases e
  exact (g.pops (xs := [d]) (ys := [u]) rfl).put h
theorem g_name (i : Nat) {x : Str} (hN : X.N.Nodup) (hi : X.N[i]? = some x := by rfl) (hx : Loc X.env.scope x := by first | exact Or.inl rfl | exact Or.inr rfl) (hf : X.fn x = true ∨ X.env.scope.names.lookup x = some .local := by first | exact .inl rfl | exact .inr rfl | assumption) : GI X (.Name x pos) [i] (nameG i) :=
  (pg_name hN hi hx hf).imp fun v σ H Q h => by
    obtain ⟨c, ρ, ts, tv, d, ρ', ⟨fp, g⟩, e, k⟩ := h
    unfold nameG at e
    by_cases ho : okOld ρ i = true
    case neg => rw [if_neg ho] at e; cases e
    rw [if_pos ho] at e
    cases e
    exact k _ H (Agree.set _ _ _) ⟨_, g.take.store (okOld_lt ho) (g.old ho) _⟩
abbrev GsF := List D → Ro → Option Ro
def tGsr (mg : Str → Option Value) (js : List Nat) (f : GsF) : TGs := fun vs σ H Q => ∃ c ρ ts tv ds ρ', SR mg c σ H ρ (ds ++ ts) (vs ++ tv) none .non ∧ ds.length = vs.length ∧ f ds ρ = some ρ' ∧ ∀ σ' H', Agree js σ σ' → SR mg c σ' H' ρ' ts tv none .non → Q σ' H'
def GsI (X : Cx) (es : List Expr) (js : List Nat) (f : GsF) : Prop := PGs X es (tGsr X.mg js f)
theorem _root_.L2.PGs.imp {X : Cx} {e : List Expr} {t t' : TGs} (h : PGs X e t) (k : ∀ v σ H Q, t' v σ H Q → t v σ H Q) : PGs X e t' := ⟨fun pins s σ H v u Q I r w => h.run pins s σ H v u Q I r (k _ _ _ _ w)⟩
def nilG : GsF := fun ds ρ => match ds with | [] => some ρ | _ => none
def consG (f : GF) (g : GsF) : GsF := fun ds ρ => match ds with | d :: r => (f d ρ).bind fun ρ1 => g r ρ1 | [] => none
theorem gs_nil : GsI X [] [] nilG := pgs_nil.imp fun v σ H Q h => by
  obtain ⟨c, ρ, ts, tv, ds, ρ', s, hl, e, k⟩ := h
  cases ds with
  | cons _ _ => cases e
  | nil =>
    cases e
    cases v with
    | cons _ _ => cases hl
    | nil => exact ⟨rfl, k σ H (Agree.refl σ) s⟩
theorem gs_cons {es : List Expr} {js ks : List Nat} {f : GF} {g : GsF} (h1 : GI X e js f) (h2 : GsI X es ks g) (hs : (assignEach (e :: es) X.env).map (·.2) = assign e X.env :: (assignEach es X.env).map (·.2) := by rfl) : GsI X (e :: es) (js ++ ks) (consG f g) := (pgs_cons h1 h2 hs).imp fun v σ H Q h => by
  obtain ⟨c, ρ, ts, tv, ds, ρ', s, hl, e, k⟩ := h
  cases ds with
  | nil => cases e
  | cons d r =>
    cases v with
    | nil => cases hl
    | cons u w =>
      obtain ⟨ρ1, e1, e2⟩ := bind_some.mp (show (f d ρ).bind _ = _ from e)
      exact ⟨u, w, rfl, c, ρ, r ++ ts, w ++ tv, d, ρ1, s, e1, fun σ' H' a' s' => ⟨c, ρ1, ts, tv, r, ρ', s', by simpa using hl, e2, fun σ2 H2 a2 s2 => k σ2 H2 (a'.trans a2) s2⟩⟩
def tupG (n : Nat) (f : GsF) : GF := fun d ρ => match d with | .tup ds => if ds.length = n then f ds ρ else none | .pr ds => if ds.length = n then f ds ρ else none | _ => none
def tupOf : D → Option (List D)
  | .tup xs => some xs
  | .pr xs => some xs
  | _ => none
theorem tup_at {mg : Str → Option Value} {Z : Addr → Prop} {H : Hp} {d : D} {v : V} {ds : List D} (h : Rep mg Z H d v) (e : tupOf d = some ds) : ∃ a vs, v = .ref a ∧ ¬ Z a ∧ L2.Rd H a (.tup vs) ∧ Reps mg Z H ds vs := by
  cases d with
  | tup xs => cases e; obtain ⟨a, vs, o, e, z, _, g, r⟩ := h; exact ⟨a, vs, e, z, g.frz2, r⟩
  | pr xs => cases e; obtain ⟨a, vs, e, z, g, r⟩ := h; exact ⟨a, vs, e, z, g.l2, r⟩
  | _ => cases e
theorem g_tup {es : List Expr} {k : Nat} {js : List Nat} {f : GsF} {n : Nat} (hc : X.calm = true) (h : GsI X es js f) (hn : (assignEach es X.env).length = n := by rfl) (hst : (assignEach es X.env).findIdx? (·.1) = none := by rfl) : GI X (.Tuple es k pos) js (tupG n f) := (pg_tup hc h hn hst).imp fun v σ H Q h => by
  obtain ⟨c, ρ, ts, tv, d, ρ', ⟨fp, g⟩, e, kk⟩ := h
  obtain ⟨ds, hd, e'⟩ : ∃ ds, tupOf d = some ds ∧ (if ds.length = n then f ds ρ else none) = some ρ' := by
    cases d with
    | tup ds => exact ⟨ds, rfl, e⟩
    | pr ds => exact ⟨ds, rfl, e⟩
    | _ => cases e
  obtain ⟨w, tw, e1, rep, t⟩ := g.tmp
  cases e1
  obtain ⟨a, vs, e2, z, rd, reps⟩ := tup_at rep hd
  by_cases hl : ds.length = n
  case neg => rw [if_neg hl] at e'; cases e'
  rw [if_pos hl] at e'
  refine ⟨a, vs, e2, .inl rd, by rw [← reps.length]; exact hl, c, ρ, ts, _, ds, ρ', ?_, reps.length, e', kk⟩
  have g1 := g.pops (xs := [d]) (ys := [v]) rfl
  exact ⟨fp, g1.len, g1.ent, g1.off, g1.nd, g1.ap, g1.new, reps.append t, g1.keep, g1.mor, g1.z0, g1.bz, g1.bst, g1.bvs, g1.rnb, g1.bnb⟩
/-- target = value, by the tree -/
def asgS (f : EF) (g : GF) : SF := fun ρ => (dv f ρ).bind fun x => (g x.1 x.2).map fun ρ' => (.nx, ρ')
end

section
variable {X : Cx} {k : Nat} {f : Addr} {fd : FuncData} {ps : List Str} {x : Str} {p pos : Pos} {e : Expr} {es : List Expr} {os : List Opd}
theorem e_call {F : F0} (G : FnOk X.prog X.w X.K X.mg X.base CX0 k f fd ps (sp0 X.mg F)) (hr : Room k X.A) (hm : X.mg x = some (.ref f)) (hk : PySem.W.keepIn X.K (.ref f) = true) (hb : Binds X.K fd ps []) (ha : AI X (e :: es) os) (hg : Gl X x := by rfl)
    (hdb : (x == ("__debug__" : Str)) = false := by decide) (he : starEach (e :: es) X.env = (false, eval e X.env) :: starEach es X.env := by rfl) (hpl : (backTo pos (starEach es X.env)).any (·.1) = false := by rfl) : EI X (.Call (.Name x p) (e :: es) [] pos) (cal0 os F) :=
  (pe_call G hr hg hm hk hb .nil pass0 ha hdb he hpl).imp fun σ H Q h => by
    show tAr X.mg os σ H fun vs H1 => sp0 X.mg F (vs ++ []) H1 Q E0
    simp only [List.append_nil]
    exact cal0_go h
theorem e_call1 {F : F1} (i : Nat) {y : Str} {py : Pos} (G : FnOk X.prog X.w X.K X.mg X.base CX0 k f fd ps (sp1 X.mg F)) (hr : Room k X.A) (hm : X.mg x = some (.ref f)) (hk : PySem.W.keepIn X.K (.ref f) = true) (hb : Binds X.K fd ps []) (ha : AI X es os)
    (hN : X.N[i]? = some y := by rfl) (hv : Vis X.env.scope y := by first | exact Or.inl rfl | exact Or.inr (Or.inl rfl) | exact Or.inr (Or.inr rfl)) (hd : (y == ("__debug__" : Str)) = false := by decide)
    (hcd : (y == ("__classdict__" : Str)) = false := by decide) (hg : Gl X x := by rfl) (hs1 : starEach (.Name y py :: es) X.env = (false, eval (.Name y py) X.env) :: starEach es X.env := by rfl)
    (hdb : (x == ("__debug__" : Str)) = false := by decide) (hpl : (backTo pos (starEach es X.env)).any (·.1) = false := by rfl) : EI X (.Call (.Name x p) (.Name y py :: es) [] pos) (cal1 i os F) :=
  (pe_call G hr hg hm hk hb .nil pass0 (pa_cons (pe_var hN hv hd hcd) ha hs1) hdb hs1 hpl).imp fun σ H Q h => by
    show tCons (tVar i) (tAr X.mg os) σ H fun vs H1 => sp1 X.mg F (vs ++ []) H1 Q E0
    simp only [List.append_nil]
    exact cal1_go h
end

def ro0 (n : Nat) (ds : List D) : Ro := ds.map (fun d => some (.d d)) ++ List.replicate (n - ds.length) none
def run0 (n np : Nat) (b : SF) : F0 := fun ds => if ds.length = np then (b (ro0 n ds)).bind fun x => match x.1 with | .rt r => some r | .nx => some (.d .non) | _ => none else none
def ro1 (n : Nat) (x : A) (ds : List D) : Ro := some x :: ro0 (n - 1) ds
def run1 (n np : Nat) (b : SF) : F1 := fun x ds => if ds.length + 1 = np then (b (ro1 n x ds)).bind fun y => (at_ y.2 0).bind fun x' => if x'.bor = true then (match y.1 with | .rt r => some (r, x') | .nx => some (.d .non, x') | _ => none) else none else none
theorem at_ro0 {n i : Nat} {ds : List D} {x : A} (h : at_ (ro0 n ds) i = some x) : ∃ d, ds[i]? = some d ∧ x = .d d := by
  have h := at_of.mp h
  unfold ro0 at h
  by_cases hi : i < ds.length
  · rw [List.getElem?_append_left (by simpa using hi), List.getElem?_map, List.getElem?_eq_getElem hi] at h
    simp only [Option.map_some, Option.some.injEq] at h
    exact ⟨ds[i], List.getElem?_eq_getElem hi, h.symm⟩
  · rw [List.getElem?_append_right (by simpa using hi)] at h
    have h2 := List.getElem?_replicate (a := (none : Option A)) (n := n - ds.length) (i := i - (ds.map (fun d => some (A.d d))).length)
    rw [h2] at h
    split at h
    · cases h
    · cases h
theorem atS_start {n : Nat} {N : List Str} {vs : List V} {i : Nat} {u : V} (h : vs[i]? = some u) : atS (L2.start N vs) i = some u := by
  refine atS_of.mpr ?_
  unfold L2.start
  have hi : i < vs.length := (List.getElem?_eq_some_iff.mp h).1
  rw [List.getElem?_append_left (by simpa using hi), List.getElem?_map, h]
  rfl
theorem good0 {mg : Str → Option Value} {Z : Addr → Prop} {H : Hp} {N : List Str} {ds : List D} {vs : List V} (hz : ∀ p, Z p → H p ≠ none) (hr : Reps mg Z H ds vs) (hl : ds.length ≤ N.length) :
    Good mg ⟨Z, H, fun _ => [], fun _ => .non⟩ (L2.start N vs) H (ro0 N.length ds) [] [] none .non (fun _ => []) := by
  have hle : ∀ a, Zof ⟨Z, H, fun _ => [], fun _ => .non⟩ (fun _ => []) a → Z a := fun a h => by
    rcases h with h | ⟨_, h⟩
    · exact h
    · cases h
  refine ⟨?_, fun p x e => ?_, fun _ _ => rfl, fun _ => List.nodup_nil, fun _ _ _ h => (by cases h), fun _ _ h => (by cases h), rfl, fun _ _ e _ => e, fun _ h => h, hz, fun _ _ h => (by cases h), fun _ h => absurd rfl h, fun i x e h => ?_, fun _ e => (by cases e), fun _ _ _ _ => rfl⟩
  · unfold ro0 L2.start
    simp only [List.length_append, List.length_map, List.length_replicate]
    rw [hr.length]
  · cases p with
    | none => cases e
    | some i =>
      obtain ⟨d, e1, rfl⟩ := at_ro0 e
      obtain ⟨u, e2, r⟩ := hr.get e1
      exact ⟨u, atS_start (n := 0) e2, rfl, r.mono fun a u z h => ⟨fun w => z (hle a w), h⟩⟩
  · obtain ⟨d, e1, rfl⟩ := at_ro0 e
    cases h
section
variable {P : Program} {w : World} {K : PySem.W.Frag} {mg : Str → Option Value} {base : Heap}
theorem ok0 {x qual : Str} {st : Stmt} {f : Addr} {fd : FuncData} {N ps : List Str} {k : Nat} {b : SF} (F : Fun K x qual st f fd) (S : FnScope N ps (defScope st)) (hnp : ps.length ≤ N.length)
    (hb : ∀ (cdv : Value) (A : Around) (outer : List Env) (s : Shared) (H : Hp) (E : XK), Room k (A.deeper (envOfC qual (defScope st) s.heap.objs.size f cdv)) → BI (cxOf CX0 P w K mg base N qual (defScope st) f cdv A outer s H E).nox (defBody st) b) :
    FnOk P w K mg base CX0 (k + 1) f fd ps (sp0 mg (run0 N.length ps.length b)) := by
  refine F.ok S (fun vs H Q E h => ?_) (fun cdv A outer s H vs Q E hr h => ?_)
  · obtain ⟨Z, ds, r, _, hr, e, _⟩ := h
    unfold run0 at e
    split at e
    · rename_i h1; rw [← h1, hr.length]
    · cases e
  · obtain ⟨Z, ds, r, hz, hrep, e, ret⟩ := h
    unfold run0 at e
    split at e
    case isFalse => cases e
    rename_i hl
    obtain ⟨⟨o, ρ'⟩, e1, e2⟩ := bind_some.mp e
    refine ⟨_, hb cdv A outer s H E hr, ⟨Z, H, fun _ => [], fun _ => .non⟩, _, [], [], o, ρ', ⟨_, good0 hz hrep (by omega)⟩, e1, ?_⟩
    have fin : ∀ σ' v H' y, SR mg ⟨Z, H, fun _ => [], fun _ => .non⟩ σ' H' ρ' [] [] (some y) v → y = r → Q v H' := fun σ' v H' y ⟨fp, g⟩ hy => by
      subst hy
      obtain ⟨u, e3, own⟩ := g.ent none _ rfl
      cases e3
      refine ret v H' (fp none) (fun b o e => g.keep b o e fun _ h => by cases h) (fun a ha => ?_) (g.nd none) (own.mono (fun a u z h => ⟨fun w => ?_, h⟩) fun _ _ => rfl) (g.rnb _ rfl)
      · rcases g.new none a ha with h | h
        · cases h
        · exact h
      · rcases w with w | w
        · exact z (.inl w)
        · exact z (.inr ⟨none, w⟩)
    cases o with
    | nx =>
      cases e2
      exact fun σ' H' ⟨fp, g⟩ => fin σ' .non H' _ ⟨_, g.put (x := .non) (u := .non) rfl⟩ rfl
    | rt y =>
      cases e2
      exact fun σ' v H' s => fin σ' v H' _ s rfl
    | bk => cases e2
    | ct => cases e2
theorem at_ro1 {n i : Nat} {ds : List D} {x y : A} (h : at_ (ro1 n x ds) i = some y) : (i = 0 ∧ y = x) ∨ ∃ j d, i = j + 1 ∧ ds[j]? = some d ∧ y = .d d := by
  cases i with
  | zero => left; exact ⟨rfl, by have := at_of.mp h; simpa [ro1] using this.symm⟩
  | succ j =>
    right
    have h' : at_ (ro0 (n - 1) ds) j = some y := h
    obtain ⟨d, e1, e2⟩ := at_ro0 h'
    exact ⟨j, d, rfl, e1, e2⟩
theorem good1 {Z : Addr → Prop} {H : Hp} {N : List Str} {ds : List D} {us : List V} {x : A} {u : V} {fx : List Addr} (hz : ∀ p, Z p → H p ≠ none) (hx : Own mg Z H x u fx) (hxb : x.bor = true) (nd : fx.Nodup) (hfz : ∀ a ∈ fx, Z a) (hr : Reps mg Z H ds us) (hl : ds.length + 1 ≤ N.length) :
    Good mg ⟨Z, H, fun i => if i = 0 then fx else [], fun _ => u⟩ (L2.start N (u :: us)) H (ro1 N.length x ds) [] [] none .non (fun p => if p = some 0 then fx else []) := by
  have hle : ∀ a, Zof ⟨Z, H, fun i => if i = 0 then fx else [], fun _ => u⟩ (fun p => if p = some 0 then fx else []) a → Z a := fun a h => by
    rcases h with h | ⟨p, h⟩
    · exact h
    · have h : a ∈ (if p = some 0 then fx else []) := h
      split at h
      · exact hfz a h
      · cases h
  have u0 : atS (L2.start N (u :: us)) 0 = some u := atS_start (n := 0) rfl
  have a0 : at_ (ro1 N.length x ds) 0 = some x := rfl
  refine ⟨?_, fun p y e => ?_, fun p e => ?_, fun p => ?_, fun p q a h1 h2 => ?_, fun p a h => ?_, rfl, fun _ _ e _ => e, fun _ h => h, hz, fun i a h => ?_, fun i h => ?_, fun i y e h => ?_, fun _ e => (by cases e), fun i y e h => ?_⟩
  · unfold ro1 ro0 L2.start
    simp only [List.length_append, List.length_map, List.length_replicate, List.length_cons]
    rw [hr.length]
    have := hr.length
    omega
  · cases p with
    | none => cases e
    | some i =>
      rcases at_ro1 e with ⟨rfl, rfl⟩ | ⟨j, d, rfl, e1, rfl⟩
      · exact ⟨u, u0, hx.mono (fun a u z h => ⟨fun w => z (hle a w), h⟩) fun _ _ => rfl⟩
      · obtain ⟨v, e2, r⟩ := hr.get e1
        exact ⟨v, atS_start (n := 0) (by simpa using e2), by simp, r.mono fun a u z h => ⟨fun w => z (hle a w), h⟩⟩
  · split
    · rename_i h; subst h
      rw [show plA none (ro1 N.length x ds) (some 0) = at_ (ro1 N.length x ds) 0 from rfl, a0] at e; cases e
    · rfl
  · show (if p = some 0 then fx else []).Nodup
    split
    · exact nd
    · exact List.nodup_nil
  · have h1 : a ∈ (if p = some 0 then fx else []) := h1
    have h2 : a ∈ (if q = some 0 then fx else []) := h2
    split at h1
    · split at h2
      · rename_i a b; rw [a, b]
      · cases h2
    · cases h1
  · left
    have h : a ∈ (if p = some 0 then fx else []) := h
    split at h
    · rename_i hp; subst hp; exact h
    · cases h
  · have h : a ∈ (if i = 0 then fx else []) := h
    split at h
    · exact hfz a h
    · cases h
  · have h : (if i = 0 then fx else []) ≠ [] := h
    split at h
    · rename_i hp; subst hp; exact ⟨x, a0, hxb⟩
    · exact absurd rfl h
  · rcases at_ro1 e with ⟨rfl, rfl⟩ | ⟨j, d, rfl, e1, rfl⟩
    · exact u0
    · cases h
  · rcases at_ro1 e with ⟨rfl, rfl⟩ | ⟨j, d, rfl, e1, rfl⟩
    · rw [hxb] at h; cases h
    · rfl
theorem ok1 {x qual : Str} {st : Stmt} {f : Addr} {fd : FuncData} {N ps : List Str} {k : Nat} {b : SF} (F : Fun K x qual st f fd) (S : FnScope N ps (defScope st)) (hnp : ps.length ≤ N.length)
    (hb : ∀ (cdv : Value) (A : Around) (outer : List Env) (s : Shared) (H : Hp) (E : XK), Room k (A.deeper (envOfC qual (defScope st) s.heap.objs.size f cdv)) → BI (cxOf CX0 P w K mg base N qual (defScope st) f cdv A outer s H E).nox (defBody st) b) :
    FnOk P w K mg base CX0 (k + 1) f fd ps (sp1 mg (run1 N.length ps.length b)) := by
  refine F.ok S (fun vs H Q E h => ?_) (fun cdv A outer s H vs Q E hr h => ?_)
  · obtain ⟨Z, x, u, fx, ds, us, r, x', rfl, _, _, _, _, _, hr, e, _⟩ := h
    unfold run1 at e
    split at e
    · rename_i h1; rw [← h1, hr.length]; rfl
    · cases e
  · obtain ⟨Z, x, u, fx, ds, us, r, x', rfl, hx, hxb, nd, hfz, hz, hrep, e, ret⟩ := h
    unfold run1 at e
    split at e
    case isFalse => cases e
    rename_i hl
    obtain ⟨⟨o, ρ'⟩, e1, e2⟩ := bind_some.mp e
    obtain ⟨y0, e3, e4⟩ := bind_some.mp e2
    simp only at e3 e4
    by_cases hyb : y0.bor = true
    case neg => rw [if_neg hyb] at e4; cases e4
    rw [if_pos hyb] at e4
    refine ⟨_, hb cdv A outer s H E hr, _, _, [], [], o, ρ', ⟨_, good1 hz hx hxb nd hfz hrep (by omega)⟩, e1, ?_⟩
    have fin : ∀ σ' v H' y, SR mg ⟨Z, H, fun i => if i = 0 then fx else [], fun _ => u⟩ σ' H' ρ' [] [] (some y) v → y = r → y0 = x' → Q v H' := fun σ' v H' y ⟨fp, g⟩ hy hy0 => by
      subst hy; subst hy0
      obtain ⟨u1, e5, own⟩ := g.ent none _ rfl
      cases e5
      obtain ⟨u2, e6, own2⟩ := g.ent (some 0) _ e3
      have e7 := g.bvs 0 _ e3 hyb
      cases e6.symm.trans e7
      have zz : ∀ a, (Z a ∨ a ∈ fp (some 0) ∨ a ∈ fp none) → Zof ⟨Z, H, fun i => if i = 0 then fx else [], fun _ => u⟩ fp a := fun a h => by
        rcases h with h | h | h
        · exact .inl h
        · exact .inr ⟨_, h⟩
        · exact .inr ⟨_, h⟩
      refine ret v H' (fp none) (fp (some 0)) (fun b o e hb => g.keep b o e fun i h => ?_) (fun b h => g.mor b h) (fun a ha => ?_) (g.nd _) (fun a ha => ?_) (g.nd none) (fun a h1 h2 => ?_) (own2.mono (fun a u z h => ⟨fun w => z (zz a w), h⟩) fun _ _ => rfl) (own.mono (fun a u z h => ⟨fun w => z (zz a w), h⟩) fun _ _ => rfl) hyb (g.rnb _ rfl)
      · have h : b ∈ (if i = 0 then fx else []) := h
        split at h
        · exact hb h
        · cases h
      · exact g.new (some 0) a ha
      · rcases g.new none a ha with h | h
        · cases h
        · exact h
      · cases g.ap _ _ a h1 h2
    cases o with
    | nx =>
      cases e4
      exact fun σ' H' ⟨fp, g⟩ => fin σ' .non H' _ ⟨_, g.put (x := .non) (u := .non) rfl⟩ rfl rfl
    | rt y =>
      cases e4
      exact fun σ' v H' s => fin σ' v H' _ s rfl rfl
    | bk => cases e4
    | ct => cases e4
end
end Tw
end
section
set_option maxRecDepth 100000
namespace Tw
open PySem PySem.Spec PyProof.Rows L2

def Fx.pin (c : Fx) (a : Addr) (o : HO) : Fx := { c with H0 := upd c.H0 a o }
section
variable {mg : Str → Option Value} {c : Fx} {σ : Sg} {H H' : Hp} {ρ ρ' : Ro} {ts : List D} {tv : List V} {r : Option A} {v : V} {fp : Pl → List Addr} {a : Addr} {o : HO}
theorem Good.pin (g : Good mg c σ H ρ ts tv r v fp) (h : H a = some o) (hz : ¬ Zof c fp a) : Good mg (c.pin a o) σ H ρ ts tv r v fp := by
  refine ⟨g.len, g.ent, g.off, g.nd, g.ap, fun p b hb => ?_, g.tmp, fun b q e hn => ?_, fun b hb => ?_, fun b hb => ?_, g.bz, g.bst, g.bvs, g.rnb, g.bnb⟩
  · have hne : b ≠ a := fun e => hz (.inr ⟨p, e ▸ hb⟩)
    rcases g.new p b hb with w | w
    · left; cases p with
      | none => exact w
      | some i => exact w
    · right
      show upd c.H0 a o b = none
      rw [upd_ne hne]; exact w
  · have e' : upd c.H0 a o b = some q := e
    by_cases hb : b = a
    · subst hb; rw [upd_same] at e'; cases e'; exact h
    · rw [upd_ne hb] at e'; exact g.keep b q e' hn
  · have hb' : upd c.H0 a o b ≠ none := hb
    by_cases hba : b = a
    · subst hba; rw [h]; simp
    · rw [upd_ne hba] at hb'; exact g.mor b hb'
  · show upd c.H0 a o b ≠ none
    by_cases hba : b = a
    · subst hba; rw [upd_same]; simp
    · rw [upd_ne hba]; exact g.z0 b hb
/-- what was pinned is as it was -/
theorem Good.pinned (g : Good mg c σ H ρ ts tv r v fp) (h : c.H0 a = some o) (hz : ¬ c.Z0 a) : H a = some o := g.keep a o h fun i hi => hz (g.bz i a hi)
theorem Good.unpin (g : Good mg (c.pin a o) σ H ρ ts tv r v fp) (h : c.H0 a = none ∨ c.H0 a = some o) (hz0 : ∀ b, c.Z0 b → c.H0 b ≠ none) : Good mg c σ H ρ ts tv r v fp := by
  refine ⟨g.len, g.ent, g.off, g.nd, g.ap, fun p b hb => ?_, g.tmp, fun b q e hn => ?_, fun b hb => ?_, hz0, g.bz, g.bst, g.bvs, g.rnb, g.bnb⟩
  · rcases g.new p b hb with w | w
    · left; cases p with
      | none => exact w
      | some i => exact w
    · right
      have w' : upd c.H0 a o b = none := w
      by_cases hba : b = a
      · subst hba; rw [upd_same] at w'; cases w'
      · rw [upd_ne hba] at w'; exact w'
  · refine g.keep b q ?_ hn
    show upd c.H0 a o b = some q
    by_cases hba : b = a
    · subst hba
      rw [upd_same]
      rcases h with h | h
      · rw [h] at e; cases e
      · rw [h] at e; exact e
    · rw [upd_ne hba]; exact e
  · refine g.mor b ?_
    show upd c.H0 a o b ≠ none
    by_cases hba : b = a
    · subst hba; rw [upd_same]; simp
    · rw [upd_ne hba]; exact hb
theorem Good.pinOk (g : Good mg c σ H ρ ts tv r v fp) (h : H a = some o) (hz : ¬ c.Z0 a) : c.H0 a = none ∨ c.H0 a = some o := by
  cases q : c.H0 a with
  | none => exact .inl rfl
  | some u =>
    right
    rw [g.keep a u q fun i hi => hz (g.bz i a hi)] at h
    exact h
end

def Pins (c : Fx) (P : List (Addr × HO)) : Prop := ∀ p ∈ P, c.H0 p.1 = some p.2 ∧ ¬ c.Z0 p.1
structure Gives (mg : Str → Option Value) (P : List (Addr × HO)) (T : List D) (TV : List V) (J : It) (ds : List D) : Prop where
  go : ∀ c σ H ρ r v T' V', Pins c P → SR mg c σ H ρ (T' ++ T) (V' ++ TV) r v → ∀ i, i < ds.length → J.go i H
  stop : ∀ c σ H ρ r v T' V', Pins c P → SR mg c σ H ρ (T' ++ T) (V' ++ TV) r v → ∀ i, ds.length ≤ i → J.stop i H
  yld : ∀ c σ H ρ T' V', Pins c P → T'.length = V'.length → SR mg c σ H ρ (T' ++ T) (V' ++ TV) none .non → ∀ i x H' d, ds[i]? = some d → J.yld i H x H' → SR mg c σ H' ρ (d :: (T' ++ T)) (x :: (V' ++ TV)) none .non ∧ Sm H H'
structure Back (mg : Str → Option Value) (c' : Fx) (T : List D) (TV : List V) (c : Fx) (ts : List D) (tv : List V) : Prop where
  g : ∀ {σ H ρ r v fp}, Good mg c' σ H ρ T TV r v fp → Good mg c σ H ρ ts tv r v fp
  h0 : ∀ b, c'.H0 b = none → c.H0 b = none
theorem Back.sr {mg : Str → Option Value} {c' c : Fx} {T ts : List D} {TV tv : List V} (b : Back mg c' T TV c ts tv) {σ : Sg} {H : Hp} {ρ : Ro} {r : Option A} {v : V} (s : SR mg c' σ H ρ T TV r v) : SR mg c σ H ρ ts tv r v := let ⟨fp, g⟩ := s; ⟨fp, b.g g⟩
theorem pin_h0 {c : Fx} {a : Addr} {o : HO} (b : Addr) (h : (c.pin a o).H0 b = none) : c.H0 b = none := by
  have h : upd c.H0 a o b = none := h
  by_cases e : b = a
  · subst e; rw [upd_same] at h; cases h
  · rw [upd_ne e] at h; exact h
abbrev WF := Ro → Option (List D × Ro)
def tW (mg : Str → Option Value) (w : WF) : L2.TI := fun σ H R => ∃ c ρ ts tv ds ρ', SR mg c σ H ρ ts tv none .non ∧ w ρ = some (ds, ρ') ∧
  ∀ J H' c' T TV P, SR mg c' σ H' ρ' T TV none .non → Pins c' P → Gives mg P T TV J ds → Back mg c' T TV c ts tv → (∀ b, c.Z0 b → c'.Z0 b) → R J H'
def IW (X : Cx) (tg e : Expr) (w : WF) : Prop := PI X tg e (tW X.mg w)
theorem _root_.L2.PI.imp {X : Cx} {tg e : Expr} {t t' : L2.TI} (h : PI X tg e t) (k : ∀ σ H Q, t' σ H Q → t σ H Q) : PI X tg e t' := ⟨fun pins s σ H Q I w => h.run pins s σ H Q I (k _ _ _ w)⟩

def forget : List Nat → Ro → Option Ro
  | [], ρ => some ρ
  | i :: r, ρ => if okOld ρ i = true then forget r (ρ.set i none) else none
def loopS (g : GF) (b : SF) (fg : List Nat) : List D → Ro → Option (Out × Ro)
  | [], ρ => some (.nx, ρ)
  | d :: r, ρ => (g d ρ).bind fun ρ1 => (b ρ1).bind fun x => match x.1 with
    | .nx => (forget fg x.2).bind fun ρ2 => loopS g b fg r ρ2
    | .ct => (forget fg x.2).bind fun ρ2 => loopS g b fg r ρ2
    | .bk => (forget fg x.2).map fun ρ2 => (.nx, ρ2)
    | .rt a => some (.rt a, x.2)
def forS (w : WF) (g : GF) (b : SF) (fg : List Nat) : SF := fun ρ => (w ρ).bind fun x => (forget fg x.2).bind fun ρ2 => loopS g b fg x.1 ρ2
section
variable {mg : Str → Option Value} {c c' : Fx} {σ : Sg} {H H' : Hp} {ρ ρ' : Ro} {ts : List D} {tv : List V} {r : Option A} {v : V} {fp : Pl → List Addr}
theorem set_atS (σ : Sg) (i : Nat) : σ.set i (atS σ i) = σ := by
  unfold atS
  apply List.ext_getElem?
  intro j
  by_cases h : i < σ.length
  · by_cases e : j = i
    · subst e
      rw [List.getElem?_set_self h, List.getElem?_eq_getElem h]
      rfl
    · rw [List.getElem?_set_ne (Ne.symm e)]
  · rw [List.set_eq_of_length_le (by omega)]
theorem SR.forget : ∀ {fg : List Nat} {ρ ρ' : Ro}, SR mg c σ H ρ ts tv r v → forget fg ρ = some ρ' → SR mg c σ H ρ' ts tv r v
  | [], ρ, ρ', s, e => by cases e; exact s
  | i :: t, ρ, ρ', ⟨fp, g⟩, e => by
    have e' : (if okOld ρ i = true then Tw.forget t (ρ.set i none) else none) = some ρ' := e
    by_cases ho : okOld ρ i = true
    case neg => rw [if_neg ho] at e'; cases e'
    rw [if_pos ho] at e'
    have g' := g.forget (okOld_lt ho) (g.old ho) (atS σ i)
    rw [set_atS] at g'
    exact SR.forget ⟨_, g'⟩ e'
theorem Done.back {o : Out} {T : List D} {TV : List V} {E : Ends} (k : Done mg c ts tv E ρ o) (b : Back mg c' T TV c ts tv) : Done mg c' T TV E ρ o := by
  cases o with
  | nx => exact fun σ' H' s => k σ' H' (b.sr s)
  | rt r => exact fun σ' v H' s => k σ' v H' (b.sr s)
  | bk => exact fun σ' H' s => k σ' H' (b.sr s)
  | ct => exact fun σ' H' s => k σ' H' (b.sr s)
theorem for_core {js : List Nat} {g : GF} {b : SF} {fg : List Nat} {P : List (Addr × HO)} {T : List D} {TV : List V} {J : It} {ds : List D} {o : Out} {E : Ends}
    (s : SR mg c σ H ρ T TV none .non) (hp : Pins c P) (G : Gives mg P T TV J ds) (e : loopS g b fg ds ρ = some (o, ρ')) (k : Done mg c T TV E ρ' o) :
    ∃ W : Nat → Nat → Sg → Hp → Prop, (∃ m, W 0 m σ H) ∧ ∀ i m σ H, W i m σ H →
      (J.stop i H ∧ E.nx σ H) ∨ (J.go i H ∧ ∃ N : Sg → Hp → Prop, (∀ σ' H', N σ' H' → ∃ m', m' < m ∧ W (i + 1) m' σ' H') ∧ ∀ x H', J.yld i H x H' → tGr mg js g x σ H' fun σ2 H2 => tS mg b { E with nx := N, ct := N, bk := E.nx } σ2 H2) := by
  let N : Nat → Sg → Hp → Prop := fun i σ H => ∃ ρ, SR mg c σ H ρ T TV none .non ∧ loopS g b fg (ds.drop i) ρ = some (o, ρ')
  refine ⟨fun i m σ H => i ≤ ds.length ∧ m = ds.length - i ∧ N i σ H, ⟨_, Nat.zero_le _, rfl, ρ, s, e⟩, ?_⟩
  rintro i m σ H ⟨hi, rfl, ρ, s, e⟩
  by_cases hlt : i < ds.length
  · right
    refine ⟨G.go c σ H ρ _ _ [] [] hp s i hlt, N (i + 1), fun σ' H' q => ⟨ds.length - (i + 1), by omega, hlt, rfl, q⟩, fun x H' y => ?_⟩
    have hd : ds[i]? = some ds[i] := List.getElem?_eq_getElem hlt
    rw [List.drop_eq_getElem_cons hlt] at e
    obtain ⟨ρ1, e1, e2⟩ := bind_some.mp (show (g ds[i] ρ).bind _ = _ from e)
    obtain ⟨⟨o1, ρ2⟩, e3, e4⟩ := bind_some.mp e2
    refine ⟨c, ρ, T, TV, ds[i], ρ1, (G.yld c σ H ρ [] [] hp rfl s i x H' _ hd y).1, e1, fun σ2 H2 _ s2 => ⟨c, ρ1, T, TV, o1, ρ2, s2, e3, ?_⟩⟩
    cases o1 with
    | nx =>
      obtain ⟨ρ3, e5, e6⟩ := bind_some.mp e4
      exact fun σ' H' s' => ⟨ρ3, s'.forget e5, e6⟩
    | ct =>
      obtain ⟨ρ3, e5, e6⟩ := bind_some.mp e4
      exact fun σ' H' s' => ⟨ρ3, s'.forget e5, e6⟩
    | bk =>
      obtain ⟨ρ3, e5, e6⟩ := map_some.mp e4
      cases e6
      exact fun σ' H' s' => k σ' H' (s'.forget e5)
    | rt a => cases e4; exact k
  · left
    have e0 : ds.drop i = [] := List.drop_eq_nil_of_le (by omega)
    rw [e0] at e
    cases e
    exact ⟨G.stop c σ H _ _ _ [] [] hp s i (by omega), k σ H s⟩
end
section
variable {X : Cx} {tg iter : Expr} {body : List Stmt} {w : WF} {js : List Nat} {g : GF} {b : SF} {pos : Pos}
theorem s_for (fg : List Nat) (hc : X.calm = true) (hp : PassesOwn (model X.prog X.w) X.A X.env X.xe) (hi : IW X tg iter w) (hg : GI X tg js g) (hb : BI X body b) (hs : ∀ x, foldedSetIterable iter X.env x = pure x := by intro _; rfl) : SI X (.For tg iter body [] pos) (forS w g b fg) :=
  (ps_for hp hc hi hg hb hs).imp fun E σ H h => by
    obtain ⟨c, ρ, ts, tv, o, ρ', s, e, k⟩ := h
    obtain ⟨⟨ds, ρ1⟩, e1, e2⟩ := bind_some.mp (show (w ρ).bind _ = _ from e)
    obtain ⟨ρ2, e3, e4⟩ := bind_some.mp e2
    refine ⟨c, ρ, ts, tv, ds, ρ1, s, e1, fun J H' c' T TV P s' hp G bk _ => ?_⟩
    exact for_core (s'.forget e3) hp G e4 (Done.back k bk)
end

/-- the value of an expression, as its items -/
def itemsOf : D → Option (List D)
  | .lst xs => some xs
  | .tup xs => some xs
  | _ => none
def seqW (f : EF) : WF := fun ρ => (dv f ρ).bind fun x => (itemsOf x.1).map fun ds => (ds, x.2)
section
variable {X : Cx} {tg e : Expr}
def iSeq (K : PySem.W.Frag) (tl : TE) : L2.TI := fun σ H R => tl σ H fun x H1 => ∃ a, x = .ref a ∧ ((∃ xs, SqL K H1 a xs) ∧ R (Itl K a) H1 ∨ (∃ xs, SqT K H1 a xs) ∧ R (Itt K a) H1)
theorem pi_seq {tl : TE} (hl : PE X e tl) : PI X tg e (iSeq X.K tl) := by
  refine ⟨fun pins s σ H R I h => ?_⟩
  refine thn (hl.run pins s σ H _ I h) fun v s1 ⟨x, H1, I1, r1, q1⟩ => ?_
  obtain ⟨a, e, q1⟩ := q1
  subst e
  cases r1
  rcases q1 with ⟨⟨xs, hq⟩, q⟩ | ⟨⟨xs, hq⟩, q⟩
  · obtain ⟨its, rv, p, hz⟩ := I1.list hq
    refine wpAny_pyIter_list p.isList ?_
    refine ⟨s1.heap.objs.size, [s1.heap.objs.size], _, _, H1, rfl, I1.kept (t' := s1.toks) fun b o e => Heap.get?_push_of_some _ e, turn_list a _, ⟨_, Heap.get?_push_size _ rfl, rfl, rfl⟩, fun b hb => ?_, q⟩
    have e : b = s1.heap.objs.size := by simpa using hb
    subst e
    exact I1.fpOk (Nat.le_refl _) (I1.hok.fresh (Nat.le_refl _))
  · obtain ⟨its, rv, p, hz⟩ := I1.tuple hq
    refine wpAny_pyIter_tuple (show s1.heap.IsTuple a its.toArray from p) ?_
    refine ⟨s1.heap.objs.size, [s1.heap.objs.size], _, _, H1, rfl, I1.kept (t' := s1.toks) fun b o e => Heap.get?_push_of_some _ e, turn_tuple a _, ⟨_, Heap.get?_push_size _ rfl, rfl, rfl⟩, fun b hb => ?_, q⟩
    have e : b = s1.heap.objs.size := by simpa using hb
    subst e
    exact I1.fpOk (Nat.le_refl _) (I1.hok.fresh (Nat.le_refl _))
end
section
variable {mg : Str → Option Value} {c c' : Fx} {σ : Sg} {H H' : Hp} {ρ ρ' : Ro} {ts : List D} {tv : List V} {r : Option A} {v : V} {fp : Pl → List Addr}
theorem Good.retmp (g : Good mg c σ H ρ ts tv r v fp) {T : List D} {TV : List V} (h : Reps mg (Zof c fp) H T TV) : Good mg c σ H ρ T TV r v fp :=
  ⟨g.len, g.ent, g.off, g.nd, g.ap, g.new, h, g.keep, g.mor, g.z0, g.bz, g.bst, g.bvs, g.rnb, g.bnb⟩
theorem rd_of_pin {K : PySem.W.Frag} {a : Addr} {o u : HO} (h : H a = some o) (ho : o = u ∨ ∃ q, o = .frz q u) : L2.Rd H a u := by
  rcases ho with rfl | ⟨q, rfl⟩
  · exact .inl h
  · exact .inr ⟨q, h⟩
/-- the items stand in the heap as they are, the source is pinned -/
theorem gives_seq {K : PySem.W.Frag} {a : Addr} {o : HO} {xs : List V} {ds : List D} {T0 : List D} {V0 : List V} (hl : ds.length = xs.length) {J : It}
    (hJ : (J = Itl K a ∧ (o = .lst xs ∨ ∃ q, o = .frz q (.lst xs))) ∨ (J = Itt K a ∧ (o = .tup xs ∨ ∃ q, o = .frz q (.tup xs)))) : Gives mg [(a, o)] (ds ++ T0) (xs ++ V0) J ds := by
  have at' : ∀ {c σ H ρ r v T' V'}, Pins c [(a, o)] → SR mg c σ H ρ (T' ++ (ds ++ T0)) (V' ++ (xs ++ V0)) r v → H a = some o := fun hp ⟨fp, g⟩ => by
    obtain ⟨h1, h2⟩ := hp _ List.mem_cons_self
    exact g.pinned h1 h2
  refine ⟨fun c σ H ρ r v T' V' hp s i hi => ?_, fun c σ H ρ r v T' V' hp s i hi => ?_, fun c σ H ρ T' V' hp hlen s i x H' d hd y => ?_⟩
  · have h := at' hp s
    rcases hJ with ⟨rfl, ho⟩ | ⟨rfl, ho⟩
    · exact ⟨xs, xs[i]'(by omega), .inl (rd_of_pin (K := K) h ho), List.getElem?_eq_getElem _⟩
    · exact ⟨xs, xs[i]'(by omega), .inl (rd_of_pin (K := K) h ho), List.getElem?_eq_getElem _⟩
  · have h := at' hp s
    rcases hJ with ⟨rfl, ho⟩ | ⟨rfl, ho⟩
    · exact ⟨xs, .inl (rd_of_pin (K := K) h ho), by omega⟩
    · exact ⟨xs, .inl (rd_of_pin (K := K) h ho), by omega⟩
  · have h := at' hp s
    have key : H' = H ∧ xs[i]? = some x := by
      rcases hJ with ⟨rfl, ho⟩ | ⟨rfl, ho⟩
      · exact ⟨y.1, y.2 xs (.inl (rd_of_pin (K := K) h ho))⟩
      · exact ⟨y.1, y.2 xs (.inl (rd_of_pin (K := K) h ho))⟩
    obtain ⟨rfl, hx⟩ := key
    refine ⟨?_, Sm.refl _⟩
    obtain ⟨fp, g⟩ := s
    refine ⟨fp, g.retmp ?_⟩
    have t := g.tmp
    have t2 := t.drop T'.length
    rw [List.drop_left' rfl, List.drop_left' hlen.symm] at t2
    obtain ⟨u, hu, rep⟩ := t2.get (i := i) (d := d) (by rw [List.getElem?_append_left (List.getElem?_eq_some_iff.mp hd).1]; exact hd)
    rw [List.getElem?_append_left (by have := (List.getElem?_eq_some_iff.mp hd).1; omega), hx] at hu
    cases hu
    exact ⟨x, _, rfl, rep, t⟩
end
section
variable {X : Cx} {tg e : Expr} {f : EF}
theorem w_seq (h : EI X e f) : IW X tg e (seqW f) := (pi_seq h).imp fun σ H R w => by
  obtain ⟨c, ρ, ts, tv, ds, ρ', s, e1, k⟩ := w
  obtain ⟨⟨d, ρ1⟩, e2, e3⟩ := bind_some.mp (show (dv f ρ).bind _ = _ from e1)
  obtain ⟨ds', e4, e5⟩ := map_some.mp e3
  cases e5
  refine tE_dv s e2 fun v H1 s1 => ?_
  obtain ⟨fp, g⟩ := s1
  obtain ⟨v', tv', eq, rep, t⟩ := g.tmp
  cases eq
  have main : ∀ {a : Addr} {o : HO} {xs : List V} {J : It}, ¬ Zof c fp a → H1 a = some o → Reps X.mg (Zof c fp) H1 ds xs → ((J = Itl X.K a ∧ (o = .lst xs ∨ ∃ q, o = .frz q (.lst xs))) ∨ (J = Itt X.K a ∧ (o = .tup xs ∨ ∃ q, o = .frz q (.tup xs)))) → R J H1 := fun {a o xs J} hz ho hr hJ => by
    have g1 := (g.pin ho hz).retmp (T := ds ++ ts) (TV := xs ++ tv) (hr.append t)
    refine k J H1 (c.pin a o) _ _ [(a, o)] ⟨fp, g1⟩ (fun p hp => ?_) (gives_seq hr.length hJ) ⟨fun g' => ?_, pin_h0⟩ (fun _ h => h)
    · rw [List.mem_singleton.mp hp]
      exact ⟨upd_same, fun w => hz (.inl w)⟩
    · exact (g'.unpin (g.pinOk ho fun w => hz (.inl w)) g.z0).pops hr.length
  cases d with
  | lst xs =>
    cases e4
    obtain ⟨a, vs, e6, hz, rd, hr⟩ := rep
    refine ⟨a, e6, .inl ⟨⟨vs, .inl rd.l2⟩, ?_⟩⟩
    rcases rd with rd | ⟨q, rd, _⟩
    · exact main hz rd hr (.inl ⟨rfl, .inl rfl⟩)
    · exact main hz rd hr (.inl ⟨rfl, .inr ⟨q, rfl⟩⟩)
  | tup xs =>
    cases e4
    obtain ⟨a, vs, o, e6, hz, _, rd, hr⟩ := rep
    refine ⟨a, e6, .inr ⟨⟨vs, .inl rd.frz2⟩, ?_⟩⟩
    exact main hz rd.frz hr (.inr ⟨rfl, .inr ⟨o, rfl⟩⟩)
  | _ => cases e4
def rngL (lo : Int) (n : Nat) : List D := (List.range n).map fun i => .int (lo + (i : Nat))
def rng1W (f : EF) : WF := fun ρ => (dv f ρ).bind fun x => match x.1 with | .int n => if -(2 ^ 62) ≤ n ∧ n < 2 ^ 62 then some (rngL 0 n.toNat, x.2) else none | _ => none
end
end Tw
end
section
set_option maxRecDepth 100000
namespace Tw
open PySem PySem.Spec PyProof.Rows L2

section
variable {mg : Str → Option Value} {Z Z' : Addr → Prop} {H H' : Hp}
mutual
theorem Rep.monoN (h : ∀ a u, NF u → ¬ Z a → Rd H a u → ¬ Z' a ∧ Rd H' a u) : ∀ {x : D} {v : V}, Rep mg Z H x v → Rep mg Z' H' x v
  | .non, v, r => r
  | .bl b, v, r => r
  | .int i, v, r => r
  | .str x, v, r => r
  | .lst ds, v, ⟨a, vs, e, z, g, r⟩ => ⟨a, vs, e, (h a (.lst vs) trivial z g).1, (h a (.lst vs) trivial z g).2, Reps.monoN h r⟩
  | .tup ds, v, ⟨a, vs, o, e, z, n, g, r⟩ => ⟨a, vs, o, e, (h a (.frz o (.tup vs)) trivial z g).1, n, (h a (.frz o (.tup vs)) trivial z g).2, Reps.monoN h r⟩
  | .pr ds, v, ⟨a, vs, e, z, g, r⟩ => ⟨a, vs, e, (h a (.tup vs) trivial z g).1, (h a (.tup vs) trivial z g).2, Reps.monoN h r⟩
  | .dic ds, v, ⟨a, vs, e, z, g, r⟩ => ⟨a, vs, e, (h a (.dK vs) trivial z g).1, (h a (.dK vs) trivial z g).2, RepK.monoN h r⟩
  | .ins c fs, v, ⟨a, C, dx, vs, e, z, m, g, r⟩ => ⟨a, C, dx, vs, e, (h a (.ins C dx vs) trivial z g).1, m, (h a (.ins C dx vs) trivial z g).2, RepF.monoN h r⟩
  | .exc c fs, v, ⟨a, C, dd, vs, e, z, m, g, w, n, r⟩ => ⟨a, C, dd, vs, e, (h a (exv C dd a) trivial z g).1, m, (h a (exv C dd a) trivial z g).2, fun d q => ⟨(h d (.xd vs) trivial (w d q).1 (w d q).2).1, (h d (.xd vs) trivial (w d q).1 (w d q).2).2⟩, n, RepF.monoN h r⟩
theorem Reps.monoN (h : ∀ a u, NF u → ¬ Z a → Rd H a u → ¬ Z' a ∧ Rd H' a u) : ∀ {x : List D} {v : List V}, Reps mg Z H x v → Reps mg Z' H' x v
  | [], v, r => r
  | d :: t, v, ⟨x, w, e, r, q⟩ => ⟨x, w, e, Rep.monoN h r, Reps.monoN h q⟩
theorem RepK.monoN (h : ∀ a u, NF u → ¬ Z a → Rd H a u → ¬ Z' a ∧ Rd H' a u) : ∀ {x : List (Key × D)} {v : List (Key × V)}, RepK mg Z H x v → RepK mg Z' H' x v
  | [], v, r => r
  | (k, d) :: t, v, ⟨x, w, e, r, q⟩ => ⟨x, w, e, Rep.monoN h r, RepK.monoN h q⟩
theorem RepF.monoN (h : ∀ a u, NF u → ¬ Z a → Rd H a u → ¬ Z' a ∧ Rd H' a u) : ∀ {x : List (Str × D)} {v : List (Str × V)}, RepF mg Z H x v → RepF mg Z' H' x v
  | [], v, r => r
  | (k, d) :: t, v, ⟨x, w, e, r, q⟩ => ⟨x, w, e, Rep.monoN h r, RepF.monoN h q⟩
end
theorem Wd.monoN {w : Wd} {a : Addr} {o : Obj} {vs : List (Str × V)} {fp q : List Addr} (h : ∀ a u, NF u → ¬ Z a → Rd H a u → ¬ Z' a ∧ Rd H' a u) (g : ∀ a ∈ fp, ∀ o, NF o → H a = some o → H' a = some o) (k : w.hold Z H a (w.obj o vs) fp q) : w.hold Z' H' a (w.obj o vs) fp q := by
  cases w with
  | dct => exact ⟨k.1, g a (by rw [k.1]; exact List.mem_cons_self) _ (Wd.nf (w := .dct)) k.2⟩
  | lst => exact ⟨k.1, h a _ (Wd.nf (w := .lst) (o := o)) k.2.1 k.2.2⟩
  | tup => exact ⟨k.1, h a _ (Wd.nf (w := .tup)) k.2.1 k.2.2⟩
mutual
theorem Own.monoN (h : ∀ a u, NF u → ¬ Z a → Rd H a u → ¬ Z' a ∧ Rd H' a u) : ∀ {x : A} {v : V} {fp : List Addr}, (∀ a ∈ fp, ∀ o, NF o → H a = some o → H' a = some o) → Own mg Z H x v fp → Own mg Z' H' x v fp
  | .d x, v, fp, _, ⟨e, r⟩ => ⟨e, Rep.monoN h r⟩
  | .l b xs, v, fp, g, ⟨a, vs, e, f, q, r⟩ => ⟨a, vs, e, f, g a (by rw [f]; exact List.mem_cons_self) _ trivial q, Reps.monoN h r⟩
  | .k b xs, v, fp, g, ⟨a, vs, e, f, q, r⟩ => ⟨a, vs, e, f, g a (by rw [f]; exact List.mem_cons_self) _ trivial q, RepK.monoN h r⟩
  | .i b c fs, v, fp, g, ⟨a, C, dx, vs, p, e, f, m, q, r⟩ => ⟨a, C, dx, vs, p, e, f, m, g a (by rw [f]; exact List.mem_cons_self) _ trivial q, OwnF.monoN h (fun b hb => g b (by rw [f]; exact List.mem_cons_of_mem _ hb)) r⟩
  | .t b x, v, fp, g, r => OwnT.monoN g r
  | .p b O ks, v, fp, g, ⟨a, bs, e, f, q, x, r⟩ => ⟨a, bs, e, f, g a (by rw [f]; exact List.mem_cons_self) _ (by obtain ⟨φ, x⟩ := x; rw [x]; trivial) q, x, Reps.monoN h r⟩
  | .ex a d fs, v, fp, g, ⟨e, f, z, us, q, r⟩ => ⟨e, f, (h d (.xd us) trivial z q).1, us, (h d (.xd us) trivial z q).2, RepF.monoN h r⟩
  | .box b w fs, v, fp, g, ⟨a, o, vs, p, e, m, q, r⟩ => ⟨a, o, vs, p, e, m, Wd.monoN (w := w) (q := p) h g q, OwnF.monoN h (fun b hb => g b (Wd.sub (w := w) (Z := Z) (H := H) (a := a) (o := w.obj o vs) (q := p) q b hb)) r⟩
  | .hole b, v, fp, g, r => r
theorem OwnF.monoN (h : ∀ a u, NF u → ¬ Z a → Rd H a u → ¬ Z' a ∧ Rd H' a u) : ∀ {x : List (Str × A)} {v : List (Str × V)} {fp : List Addr}, (∀ a ∈ fp, ∀ o, NF o → H a = some o → H' a = some o) → OwnF mg Z H x v fp → OwnF mg Z' H' x v fp
  | [], v, fp, _, r => r
  | (k, d) :: t, v, fp, g, ⟨x, w, p, q, e, f, r, s⟩ => ⟨x, w, p, q, e, f, Own.monoN h (fun b hb => g b (by rw [f]; exact List.mem_append_left _ hb)) r, OwnF.monoN h (fun b hb => g b (by rw [f]; exact List.mem_append_right _ hb)) s⟩
end
end

section
variable {mg : Str → Option Value} {c c' : Fx} {σ σ' : Sg} {H H' : Hp} {ρ ρ' : Ro} {ts : List D} {tv : List V} {r : Option A} {v : V} {fp : Pl → List Addr} {a : Addr} {u : HO} {od : Obj}
/-- the same state over another heap that reads alike but for locks -/
theorem Good.locks (g : Good mg c σ H ρ ts tv r v fp) (H0' : Hp) (hR : ∀ b w, NF w → ¬ Zof c fp b → Rd H b w → Rd H' b w) (hO : ∀ p b o, b ∈ fp p → NF o → H b = some o → H' b = some o)
    (hnew : ∀ b, c.H0 b = none → (∃ p, b ∈ fp p) → H0' b = none) (hkeep : ∀ b o, H0' b = some o → (∀ i, b ∉ c.bor i) → H' b = some o) (hmor : ∀ b, H0' b ≠ none → H' b ≠ none) (hz : ∀ b, c.Z0 b → H0' b ≠ none) :
    Good mg { c with H0 := H0' } σ H' ρ ts tv r v fp := by
  refine ⟨g.len, fun p x e => ?_, g.off, g.nd, g.ap, fun p b hb => ?_, g.tmp.monoN fun b w n z h => ⟨z, hR b w n z h⟩, hkeep, hmor, hz, g.bz, g.bst, g.bvs, g.rnb, g.bnb⟩
  · obtain ⟨y, e1, o⟩ := g.ent p x e
    exact ⟨y, e1, o.monoN (fun b w n z h => ⟨z, hR b w n z h⟩) fun b hb o n h => hO p b o hb n h⟩
  · rcases g.new p b hb with w | w
    · left; cases p with
      | none => exact w
      | some i => exact w
    · exact .inr (hnew b w ⟨p, hb⟩)
theorem Good.lock (g : Good mg c σ H ρ ts tv r v fp) (h : H a = some u) (nf : NF u) (hl : lk u = true) (hz : ¬ Zof c fp a) : Good mg (c.pin a (.frz od u)) σ (upd H a (.frz od u)) ρ ts tv r v fp := by
  refine g.locks (upd c.H0 a (.frz od u)) (fun b w n z hb => ?_) (fun p b o hb n h' => ?_) (fun b h' ⟨p, hp⟩ => ?_) (fun b o e hn => ?_) (fun b hb => ?_) (fun b hb => ?_)
  · by_cases e : b = a
    · subst e
      rcases hb with hb | ⟨q, hb, l⟩
      · rw [h] at hb; cases hb; exact .inr ⟨od, upd_same, hl⟩
      · rw [h] at hb; cases hb; cases hl
    · rcases hb with hb | ⟨q, hb, l⟩
      · exact .inl (by rw [upd_ne e]; exact hb)
      · exact .inr ⟨q, by rw [upd_ne e]; exact hb, l⟩
  · have e : b ≠ a := fun e => hz (.inr ⟨p, e ▸ hb⟩)
    rw [upd_ne e]; exact h'
  · have e : b ≠ a := fun e => hz (.inr ⟨p, e ▸ hp⟩)
    rw [upd_ne e]; exact h'
  · by_cases eb : b = a
    · subst eb; rw [upd_same] at e; rw [upd_same]; exact e
    · rw [upd_ne eb] at e; rw [upd_ne eb]; exact g.keep b o e hn
  · by_cases eb : b = a
    · subst eb; rw [upd_same]; simp
    · rw [upd_ne eb] at hb; rw [upd_ne eb]; exact g.mor b hb
  · by_cases eb : b = a
    · subst eb; rw [upd_same]; simp
    · rw [upd_ne eb]; exact g.z0 b hb
def Locked (mg : Str → Option Value) (i : Nat) (c : Fx) (σ : Sg) (H : Hp) (ρ : Ro) (ts : List D) (tv : List V) (kvs : List (Key × D)) : Prop :=
  ∃ a od kws, atS σ i = some (.ref a) ∧ c.H0 a = some (.frz od (.dK kws)) ∧ ¬ c.Z0 a ∧ kvs.map (·.1) = kws.map (·.1) ∧ SR mg c σ H ρ (kvs.map (·.2) ++ ts) (kws.map (·.2) ++ tv) none .non
theorem RepK.keys {Z : Addr → Prop} : ∀ {x : List (Key × D)} {w : List (Key × V)}, RepK mg Z H x w → x.map (·.1) = w.map (·.1) ∧ Reps mg Z H (x.map (·.2)) (w.map (·.2))
  | [], w, r => by rw [show w = [] from r]; exact ⟨rfl, rfl⟩
  | (k, d) :: t, w, ⟨y, w', e, r, q⟩ => by
    obtain ⟨h1, h2⟩ := RepK.keys q
    rw [e]
    exact ⟨by simp [h1], y, _, rfl, r, h2⟩
end

def kD : Key → D
  | .inl i => .int i
  | .inr x => .str x
abbrev Md := List (Key × D) → List D
def mKeys : Md := fun kvs => kvs.map fun p => kD p.1
def mVals : Md := fun kvs => kvs.map (·.2)
def mItems : Md := fun kvs => kvs.map fun p => .pr [kD p.1, p.2]
structure DI (X : Cx) (tg e : Expr) (i : Nat) (m : Md) : Prop where
  ex : ∃ wi, PI X tg e wi ∧ ∀ c σ H ρ ts tv kvs R, Locked X.mg i c σ H ρ ts tv kvs → (∀ J P T TV, SR X.mg c σ H ρ T TV none .non → Pins c P → Gives X.mg P T TV J (m kvs) → Back X.mg c T TV c ts tv → R J H) → wi σ H R
section
variable {X : Cx} {tg : Expr} {x : Str} {px apos cpos : Pos}
end
/-- for .. in a dict's keys, values, items -/
def forD (i : Nat) (m : Md) (g : GF) (b : SF) (fg : List Nat) : SF := fun ρ => (dv (var i) ρ).bind fun x => match x.1 with
  | .dic kvs => (forget fg x.2).bind fun ρ2 => loopS g b fg (m kvs) ρ2
  | _ => none
theorem PS.or {X : Cx} {st : Stmt} {t u : TS} (h : PS X st t) (k : PS X st u) : PS X st (fun D σ H => t D σ H ∨ u D σ H) := ⟨fun pins s σ H D I w => by
  rcases w with w | w
  · exact h.run pins s σ H D I w
  · exact k.run pins s σ H D I w⟩
theorem PE.or {X : Cx} {e : Expr} {t u : TE} (h : PE X e t) (k : PE X e u) : PE X e (fun σ H Q => t σ H Q ∨ u σ H Q) := ⟨fun pins s σ H D I w => by
  rcases w with w | w
  · exact h.run pins s σ H D I w
  · exact k.run pins s σ H D I w⟩
end Tw
end
section
set_option maxRecDepth 100000
namespace Tw
open PySem PySem.Spec PyProof.Rows L2

def Fx.acc (c : Fx) (a : Addr) (o : HO) : Fx := { c with Z0 := fun b => c.Z0 b ∨ b = a, H0 := upd c.H0 a o }
section
variable {mg : Str → Option Value} {c c' : Fx} {σ σ' : Sg} {H H' : Hp} {ρ ρ' : Ro} {ts : List D} {tv : List V} {r : Option A} {v : V} {fp : Pl → List Addr} {a : Addr} {o o' : HO}
/-- a new object that grows is set aside -/
theorem Good.acc0 (g : Good mg c σ H ρ ts tv r v fp) (hn : H a = none) : Good mg (c.acc a o) σ (upd H a o) ρ ts tv r v fp := by
  have lift : ∀ b w, ¬ Zof c fp b → Rd H b w → ¬ Zof (c.acc a o) fp b ∧ Rd (upd H a o) b w := fun b w z h => ⟨fun q => by
    rcases q with (q | q) | ⟨p, q⟩
    · exact z (.inl q)
    · exact rd_some h (q ▸ hn)
    · exact z (.inr ⟨p, q⟩), (Sm.new hn).rd h⟩
  refine ⟨g.len, fun p x e => ?_, g.off, g.nd, g.ap, fun p b hb => ?_, g.tmp.mono lift, fun b q e hb => ?_, fun b hb => ?_, fun b hb => ?_, fun i b hb => .inl (g.bz i b hb), g.bst, g.bvs, g.rnb, g.bnb⟩
  · obtain ⟨u, e1, ow⟩ := g.ent p x e
    refine ⟨u, e1, ow.mono lift fun b hb => upd_ne fun e => ?_⟩
    exact ow.al b hb (e ▸ hn)
  · have hne : b ≠ a := fun e => g.alloc hb (e ▸ hn)
    rcases g.new p b hb with w | w
    · left; cases p with
      | none => exact w
      | some i => exact w
    · right
      show upd c.H0 a o b = none
      rw [upd_ne hne]; exact w
  · have e' : upd c.H0 a o b = some q := e
    by_cases hba : b = a
    · subst hba; rw [upd_same] at e'; rw [upd_same]; exact e'
    · rw [upd_ne hba] at e'; rw [upd_ne hba]; exact g.keep b q e' hb
  · by_cases hba : b = a
    · subst hba; rw [upd_same]; simp
    · rw [upd_ne hba]; exact g.mor b (by have h : upd c.H0 a o b ≠ none := hb; rw [upd_ne hba] at h; exact h)
  · show upd c.H0 a o b ≠ none
    by_cases hba : b = a
    · subst hba; rw [upd_same]; simp
    · rw [upd_ne hba]
      rcases hb with hb | hb
      · exact g.z0 b hb
      · exact absurd hb hba
theorem Good.accNot (g : Good mg (c.acc a o) σ H ρ ts tv r v fp) (h0 : c.H0 a = none) (hz0 : ∀ b, c.Z0 b → c.H0 b ≠ none) (hb : ∀ i b, b ∈ c.bor i → c.Z0 b) (p : Pl) : a ∉ fp p := fun h => by
  rcases g.new p a h with w | w
  · cases p with
    | none => cases w
    | some i => exact hz0 a (hb i a w) h0
  · have w : upd c.H0 a o a = none := w
    rw [upd_same] at w; cases w
theorem Good.accAt (g : Good mg (c.acc a o) σ H ρ ts tv r v fp) (h0 : c.H0 a = none) (hz0 : ∀ b, c.Z0 b → c.H0 b ≠ none) (hb : ∀ i b, b ∈ c.bor i → c.Z0 b) : H a = some o :=
  g.keep a o (show upd c.H0 a o a = _ from upd_same) fun i h => hz0 a (hb i a h) h0
/-- it grows -/
theorem Good.acc1 (g : Good mg (c.acc a o) σ H ρ ts tv r v fp) (h0 : c.H0 a = none) (hz0 : ∀ b, c.Z0 b → c.H0 b ≠ none) (hb : ∀ i b, b ∈ c.bor i → c.Z0 b) : Good mg (c.acc a o') σ (upd H a o') ρ ts tv r v fp := by
  have hna := g.accNot h0 hz0 hb
  have lift : ∀ b w, ¬ Zof (c.acc a o) fp b → Rd H b w → ¬ Zof (c.acc a o') fp b ∧ Rd (upd H a o') b w := fun b w z h => ⟨z, by
    have hne : b ≠ a := fun e => z (.inl (.inr e))
    rcases h with h | ⟨q, h, l⟩
    · exact .inl (by rw [upd_ne hne]; exact h)
    · exact .inr ⟨q, by rw [upd_ne hne]; exact h, l⟩⟩
  refine ⟨g.len, fun p x e => ?_, g.off, g.nd, g.ap, fun p b hb' => ?_, g.tmp.mono lift, fun b q e hb' => ?_, fun b hb' => ?_, fun b hb' => ?_, g.bz, g.bst, g.bvs, g.rnb, g.bnb⟩
  · obtain ⟨u, e1, ow⟩ := g.ent p x e
    exact ⟨u, e1, ow.mono lift fun b hb' => upd_ne fun e => hna p (e ▸ hb')⟩
  · have hne : b ≠ a := fun e => hna p (e ▸ hb')
    rcases g.new p b hb' with w | w
    · left; cases p with
      | none => exact w
      | some i => exact w
    · right
      have w : upd c.H0 a o b = none := w
      show upd c.H0 a o' b = none
      rw [upd_ne hne] at w ⊢; exact w
  · have e' : upd c.H0 a o' b = some q := e
    by_cases hba : b = a
    · subst hba; rw [upd_same] at e'; rw [upd_same]; exact e'
    · rw [upd_ne hba] at e'; rw [upd_ne hba]
      exact g.keep b q (by show upd c.H0 a o b = _; rw [upd_ne hba]; exact e') hb'
  · by_cases hba : b = a
    · subst hba; rw [upd_same]; simp
    · rw [upd_ne hba]
      exact g.mor b (by have h : upd c.H0 a o' b ≠ none := hb'; rw [upd_ne hba] at h; show upd c.H0 a o b ≠ none; rw [upd_ne hba]; exact h)
  · show upd c.H0 a o' b ≠ none
    by_cases hba : b = a
    · subst hba; rw [upd_same]; simp
    · rw [upd_ne hba]
      rcases hb' with hb' | hb'
      · exact hz0 b hb'
      · exact absurd hb' hba
/-- it is the value at hand -/
theorem Good.acc2 {x : A} (g : Good mg (c.acc a o) σ H ρ ts tv none v fp) (h0 : c.H0 a = none) (hz0 : ∀ b, c.Z0 b → c.H0 b ≠ none) (hb : ∀ i b, b ∈ c.bor i → c.Z0 b) (hx : Own mg (Zof (c.acc a o) fp) H x (.ref a) [a]) (hxb : x.bor = false) : Good mg c σ H ρ ts tv (some x) (.ref a) (fpN fp [a]) := by
  have hna := g.accNot h0 hz0 hb
  have lift : ∀ b w, ¬ Zof (c.acc a o) fp b → Rd H b w → ¬ Zof c (fpN fp [a]) b ∧ Rd H b w := fun b w z h => ⟨fun q => by
    rcases q with q | ⟨p, q⟩
    · exact z (.inl (.inl q))
    · cases p with
      | none => exact z (.inl (.inr (List.mem_singleton.mp q)))
      | some i => exact z (.inr ⟨some i, q⟩), h⟩
  refine ⟨g.len, fun p y e => ?_, fun p e => ?_, fun p => ?_, fun p q b h1 h2 => ?_, fun p b hb' => ?_, g.tmp.mono lift, fun b q e hb' => ?_, fun b hb' => ?_, hz0, hb, g.bst, g.bvs, fun y e => by cases e; exact hxb, g.bnb⟩
  · cases p with
    | none => cases e; exact ⟨_, rfl, hx.mono lift fun _ _ => rfl⟩
    | some i =>
      obtain ⟨u, e1, ow⟩ := g.ent (some i) y e
      exact ⟨u, e1, ow.mono lift fun _ _ => rfl⟩
  · cases p with
    | none => cases e
    | some i => exact g.off (some i) e
  · cases p with
    | none => simp [fpN]
    | some i => exact g.nd (some i)
  · cases p with
    | none =>
      cases q with
      | none => rfl
      | some j => exact absurd (show a ∈ fp (some j) from by have := List.mem_singleton.mp h1; subst this; exact h2) (hna (some j))
    | some i =>
      cases q with
      | none => exact absurd (show a ∈ fp (some i) from by have := List.mem_singleton.mp h2; subst this; exact h1) (hna (some i))
      | some j => exact g.ap (some i) (some j) b h1 h2
  · cases p with
    | none => right; rw [List.mem_singleton.mp hb']; exact h0
    | some i =>
      have hne : b ≠ a := fun e => hna (some i) (e ▸ hb')
      rcases g.new (some i) b hb' with w | w
      · exact .inl w
      · right
        have w : upd c.H0 a o b = none := w
        rw [upd_ne hne] at w; exact w
  · have hba : b ≠ a := fun z => by subst z; rw [h0] at e; cases e
    exact g.keep b q (by show upd c.H0 a o b = _; rw [upd_ne hba]; exact e) hb'
  · have hba : b ≠ a := fun z => by subst z; exact hb' h0
    exact g.mor b (by show upd c.H0 a o b ≠ none; rw [upd_ne hba]; exact hb')
/-- other slots than those that are known -/
theorem Good.reslot (g : Good mg c σ H ρ ts tv r v fp) (hl : σ'.length = σ.length) (h : ∀ i x, at_ ρ i = some x → atS σ' i = atS σ i) : Good mg c σ' H ρ ts tv r v fp := by
  refine ⟨g.len.trans hl.symm, fun p x e => ?_, g.off, g.nd, g.ap, g.new, g.tmp, g.keep, g.mor, g.z0, g.bz, g.bst, fun i x e hb => ?_, g.rnb, g.bnb⟩
  · cases p with
    | none => exact g.ent none x e
    | some i =>
      obtain ⟨u, e1, ow⟩ := g.ent (some i) x e
      exact ⟨u, (h i x e).trans e1, ow⟩
  · exact (h i x e).trans (g.bvs i x e hb)
theorem atS_wipe {i : Nat} : ∀ {vs : List Nat}, atS (wipe σ vs) i = if i ∈ vs then none else atS σ i
  | [] => by simp [wipe]
  | v :: vs => by
    show atS ((wipe σ vs).set v none) i = _
    by_cases e : i = v
    · subst e
      rw [if_pos List.mem_cons_self]
      by_cases h : i < (wipe σ vs).length
      · rw [atS_set h, if_pos rfl]
      · unfold atS
        rw [List.getElem?_eq_none (by rw [List.length_set]; omega)]
        rfl
    · have : atS ((wipe σ vs).set v none) i = atS (wipe σ vs) i := by
        unfold atS; rw [List.getElem?_set_ne (Ne.symm e)]
      rw [this, atS_wipe]
      by_cases h : i ∈ vs
      · rw [if_pos h, if_pos (List.mem_cons_of_mem _ h)]
      · rw [if_neg h, if_neg (by simp [e, h])]
theorem forget_none : ∀ {fg : List Nat} {ρ ρ' : Ro}, forget fg ρ = some ρ' → (∀ i ∈ fg, at_ ρ' i = none) ∧ ∀ i, at_ ρ i = none → at_ ρ' i = none
  | [], ρ, ρ', e => by cases e; exact ⟨fun i h => (by cases h), fun i h => h⟩
  | j :: t, ρ, ρ', e => by
    have e' : (if okOld ρ j = true then Tw.forget t (ρ.set j none) else none) = some ρ' := e
    by_cases ho : okOld ρ j = true
    case neg => rw [if_neg ho] at e'; cases e'
    rw [if_pos ho] at e'
    obtain ⟨h1, h2⟩ := forget_none e'
    refine ⟨fun i hi => ?_, fun i hi => h2 i ?_⟩
    · rcases List.mem_cons.mp hi with rfl | hi
      · exact h2 i (by rw [at_set (okOld_lt ho), if_pos rfl])
      · exact h1 i hi
    · rw [at_set (okOld_lt ho)]
      split
      · rfl
      · exact hi
theorem SR.wiped {vs : List Nat} (s : SR mg c σ H ρ ts tv r v) (h : ∀ i ∈ vs, at_ ρ i = none) : SR mg c (wipe σ vs) H ρ ts tv r v := by
  obtain ⟨fp, g⟩ := s
  refine ⟨fp, g.reslot (wipe_length σ vs) fun i x e => ?_⟩
  rw [atS_wipe, if_neg fun hi => by rw [h i hi] at e; cases e]
theorem SR.unwiped {vs : List Nat} (s : SR mg c (wipe σ vs) H ρ ts tv r v) (h : ∀ i ∈ vs, at_ ρ i = none) : SR mg c σ H ρ ts tv r v := by
  obtain ⟨fp, g⟩ := s
  refine ⟨fp, g.reslot (wipe_length σ vs).symm fun i x e => ?_⟩
  rw [atS_wipe, if_neg fun hi => by rw [h i hi] at e; cases e]
end

def tstY : TF := fun ρ => some (true, ρ)
def lcL (g : GF) (t : TF) (f : EF) (own : List Nat) : List D → List D → Ro → Option (List D × Ro)
  | [], acc, ρ => some (acc, ρ)
  | d :: r, acc, ρ => (g d ρ).bind fun ρ1 => (t ρ1).bind fun x =>
    if x.1 then (dv f x.2).bind fun y => (forget own y.2).bind fun ρ2 => if acc.length < 16777216 then lcL g t f own r (acc ++ [y.1]) ρ2 else none
    else (forget own x.2).bind fun ρ2 => lcL g t f own r acc ρ2
def PTsI (X : Cx) (ifs : List Expr) (t : TF) : Prop := PTs X ifs (tTst X.mg t)
theorem _root_.L2.PTs.imp {X : Cx} {ifs : List Expr} {t t' : TT} (h : PTs X ifs t) (k : ∀ σ H Q, t' σ H Q → t σ H Q) : PTs X ifs t' := ⟨fun pins s σ H Q I w => h.run pins s σ H Q I (k _ _ _ w)⟩
theorem c_one {X : Cx} {e : Expr} {t : TF} (h : TI X e t) : PTsI X [e] t := pts_one h
section
variable {mg : Str → Option Value} {c c' : Fx} {σ σ' : Sg} {H H' : Hp} {ρ ρ' : Ro} {ts : List D} {tv : List V} {r : Option A} {v : V} {fp : Pl → List Addr}
theorem SR.fx (s : SR mg c σ H ρ ts tv r v) : (∀ b, c.Z0 b → c.H0 b ≠ none) ∧ ∀ i b, b ∈ c.bor i → c.Z0 b := let ⟨_, g⟩ := s; ⟨g.z0, g.bz⟩
theorem lc_go {js vs : List Nat} {g : GF} {t : TF} {f : EF} {P : List (Addr × HO)} {T : List D} {TV : List V} {J : It} {ds ys : List D} {ρf : Ro} {Q : VK} (hjs : ∀ j ∈ js, j ∈ vs)
    (s : SR mg c σ H ρ T TV none .non) (hp : Pins c P) (G : Gives mg P T TV J ds) (hw : ∀ i ∈ vs, at_ ρ i = none) (e : lcL g t f vs ds [] ρ = some (ys, ρf))
    (k : ∀ a H', SR mg c σ H' ρf T TV (some (.l false ys)) (.ref a) → Q (.ref a) H') : ∀ D, H D = none → ∃ W : Nat → Nat → Hp → Prop, (∃ m, W 0 m (upd H D (.lst []))) ∧ ∀ i m H, W i m H →
      (J.stop i H ∧ Q (.ref D) H) ∨ (J.go i H ∧ ∃ Nx : Hp → Prop, (∀ H', Nx H' → ∃ m', m' < m ∧ W (i + 1) m' H') ∧ ∀ x H', J.yld i H x H' → tGr mg js g x (wipe σ vs) H' fun σ2 H2 => wipe σ2 vs = wipe σ vs ∧ tTst mg t σ2 H2 fun b H3 =>
        if b = true then tE mg f σ2 H3 fun y H4 => ∃ acc, H4 D = some (.lst acc) ∧ acc.length < sizeLine ∧ Nx (upd H4 D (.lst (acc ++ [y]))) else Nx H3) := by
  intro D hD
  have h0 : c.H0 D = none := by obtain ⟨fp, g⟩ := s; exact g.new' hD
  obtain ⟨hz0, hbz⟩ := s.fx
  let N : Nat → Hp → Prop := fun i H => ∃ ρ acc av, acc.length = av.length ∧ SR mg (c.acc D (.lst av)) (wipe σ vs) H ρ (acc ++ T) (av ++ TV) none .non ∧ (∀ i ∈ vs, at_ ρ i = none) ∧ lcL g t f vs (ds.drop i) acc ρ = some (ys, ρf)
  refine ⟨fun i m H => i ≤ ds.length ∧ m = ds.length - i ∧ N i H, ⟨_, Nat.zero_le _, rfl, ρ, [], [], rfl, ?_, hw, e⟩, ?_⟩
  · obtain ⟨fp, g⟩ := s.wiped hw
    exact ⟨fp, g.acc0 hD⟩
  · rintro i m H2 ⟨hi, rfl, ρ2, acc, av, hla, s2, hw2, e2⟩
    have hp2 : Pins (c.acc D (.lst av)) P := fun p hp' => by
      obtain ⟨q1, q2⟩ := hp p hp'
      have hne : p.1 ≠ D := fun z => by rw [z, h0] at q1; cases q1
      refine ⟨?_, fun w => ?_⟩
      · show upd c.H0 D _ p.1 = _
        rw [upd_ne hne]; exact q1
      · rcases w with w | w
        · exact q2 w
        · exact hne w
    by_cases hlt : i < ds.length
    · right
      refine ⟨G.go _ _ _ _ _ _ acc av hp2 s2 i hlt, N (i + 1), fun H' q => ⟨ds.length - (i + 1), by omega, hlt, rfl, q⟩, fun x H' y => ?_⟩
      have hd : ds[i]? = some ds[i] := List.getElem?_eq_getElem hlt
      rw [List.drop_eq_getElem_cons hlt] at e2
      obtain ⟨ρ3, e3, e4⟩ := bind_some.mp (show (g ds[i] ρ2).bind _ = _ from e2)
      obtain ⟨⟨b, ρ4⟩, e5, e6⟩ := bind_some.mp e4
      refine ⟨_, ρ2, acc ++ T, av ++ TV, ds[i], ρ3, (G.yld _ _ _ _ acc av hp2 hla s2 i x H' _ hd y).1, e3, fun σ3 H3 ag s3 => ⟨?_, _, ρ3, _, _, b, ρ4, s3, e5, fun H4 s4 => ?_⟩⟩
      · rw [ag vs hjs]
        have ww : ∀ vs : List Nat, wipe (wipe σ vs) vs = wipe σ vs := fun vs => by
          refine List.ext_getElem? fun j => ?_
          have ha : atS (wipe (wipe σ vs) vs) j = atS (wipe σ vs) j := by
            rw [atS_wipe, atS_wipe]; split <;> rfl
          have hl1 : (wipe (wipe σ vs) vs).length = (wipe σ vs).length := wipe_length _ _
          unfold atS at ha
          by_cases hj : j < (wipe σ vs).length
          · rw [List.getElem?_eq_getElem hj, List.getElem?_eq_getElem (by omega)] at ha ⊢
            exact congrArg some ha
          · rw [List.getElem?_eq_none (by omega), List.getElem?_eq_none (by omega)]
        exact ww vs
      · have hag : ∀ {H5 : Hp} {ρ5 ρ6 : Ro} {cc : Fx} {T5 : List Tw.D} {V5 : List V}, SR mg cc σ3 H5 ρ5 T5 V5 none .non → forget vs ρ5 = some ρ6 → SR mg cc (wipe σ vs) H5 ρ6 T5 V5 none .non ∧ ∀ i ∈ vs, at_ ρ6 i = none := fun {H5 ρ5 ρ6 cc T5 V5} s5 e7 => by
          have hw6 := (forget_none e7).1
          have s6 := (s5.forget e7).wiped hw6
          have hagr : wipe σ3 vs = wipe σ vs := by
            rw [ag vs hjs]
            refine List.ext_getElem? fun j => ?_
            have ha : atS (wipe (wipe σ vs) vs) j = atS (wipe σ vs) j := by
              rw [atS_wipe, atS_wipe]; split <;> rfl
            have hl1 : (wipe (wipe σ vs) vs).length = (wipe σ vs).length := wipe_length _ _
            unfold atS at ha
            by_cases hj : j < (wipe σ vs).length
            · rw [List.getElem?_eq_getElem hj, List.getElem?_eq_getElem (by omega)] at ha ⊢
              exact congrArg some ha
            · rw [List.getElem?_eq_none (by omega), List.getElem?_eq_none (by omega)]
          rw [hagr] at s6
          exact ⟨s6, hw6⟩
        cases b with
        | false =>
          refine iteF ?_
          rw [if_neg (by simp)] at e6
          obtain ⟨ρ5, e7, e8⟩ := bind_some.mp e6
          obtain ⟨s5, hw5⟩ := hag s4 e7
          exact ⟨ρ5, acc, av, hla, s5, hw5, e8⟩
        | true =>
          refine iteT ?_
          rw [if_pos rfl] at e6
          obtain ⟨⟨y1, ρ5⟩, e7, e8⟩ := bind_some.mp e6
          obtain ⟨ρ6, e9, e10⟩ := bind_some.mp e8
          simp only at e10
          by_cases hlen : acc.length < 16777216
          case neg => rw [if_neg hlen] at e10; cases e10
          rw [if_pos hlen] at e10
          refine tE_dv s4 e7 fun u H5 s5 => ?_
          obtain ⟨s6, hw6⟩ := hag s5 e9
          obtain ⟨fp, g6⟩ := s6
          refine ⟨av, g6.accAt h0 hz0 hbz, by rw [← hla, sizeLine_eq]; exact hlen, ρ6, acc ++ [y1], av ++ [u], by simp [hla], ?_, hw6, e10⟩
          obtain ⟨u', tw, eq, ru, rt⟩ := g6.tmp
          cases eq
          have t0 := rt.take acc.length
          have t1 := rt.drop acc.length
          rw [List.take_left' rfl, List.take_left' hla.symm] at t0
          rw [List.drop_left' rfl, List.drop_left' hla.symm] at t1
          refine ⟨fp, Good.acc1 (o := .lst av) (g6.retmp ?_) h0 hz0 hbz⟩
          exact (t0.append (Reps.cons ru Reps.nil)).append t1
    · left
      have en : ds.drop i = [] := List.drop_eq_nil_of_le (by omega)
      rw [en] at e2
      cases e2
      refine ⟨G.stop _ _ _ _ _ _ _ _ hp2 s2 i (by omega), k D H2 ?_⟩
      obtain ⟨fp, g⟩ := s2.unwiped hw2
      have t0 := g.tmp.take ys.length
      rw [List.take_left' rfl, List.take_left' hla.symm] at t0
      exact ⟨_, (g.pops hla).acc2 h0 hz0 hbz ⟨D, av, rfl, rfl, g.accAt h0 hz0 hbz, t0⟩ rfl⟩
end
def lcE (w : WF) (g : GF) (t : TF) (f : EF) (own : List Nat) : EF := fun ρ => (w ρ).bind fun x => (forget own x.2).bind fun ρ1 => (lcL g t f own x.1 [] ρ1).map fun y => (.l false y.1, y.2)
def lcD (i : Nat) (m : Md) (g : GF) (t : TF) (f : EF) (own : List Nat) : EF := fun ρ => (dv (var i) ρ).bind fun x => match x.1 with
  | .dic kvs => (forget own x.2).bind fun ρ1 => (lcL g t f own (m kvs) [] ρ1).map fun y => (.l false y.1, y.2)
  | _ => none
section
variable {X : Cx} {elt tg iter : Expr} {ifs : List Expr} {scope : Scope} {own : List (Str × Nat)} {pos : Pos} {w : WF} {js : List Nat} {g : GF} {t : TF} {f : EF}
theorem e_lc (hc : X.calm = true) (hN : X.N.Nodup) (hi : IW X tg iter w) (ok : BlkOk X.N X.env.scope scope own) (hjs : ∀ j ∈ js, j ∈ own.map (·.2))
    (hg : ∀ (s : Shared) (H : Hp) (C : Addr) (cl : List (Str × Addr)) (fp : List Addr), GI (X.blk s H scope (compEnvC scope cl C X.env) fp) tg js g) (ht : ∀ (s : Shared) (H : Hp) (C : Addr) (cl : List (Str × Addr)) (fp : List Addr), PTsI (X.blk s H scope (compEnvC scope cl C X.env) fp) ifs t)
    (he : ∀ (s : Shared) (H : Hp) (C : Addr) (cl : List (Str × Addr)) (fp : List Addr), EI (X.blk s H scope (compEnvC scope cl C X.env) fp) elt f) (hs : ∀ x, foldedSetIterable iter X.env x = pure x := by intro _; rfl) :
    EI X (.ListComp elt [⟨tg, iter, ifs, 0⟩] scope pos) (lcE w g t f (own.map (·.2))) := (pe_lc (g := tGr X.mg js g) (tt := tTst X.mg t) (te := tE X.mg f) hc hN hi ok hg ht he hs).imp fun σ H Q h => by
  obtain ⟨c, ρ, ts, tv, r, ρ', s, e, k⟩ := h
  obtain ⟨⟨ds, ρ1⟩, e1, e2⟩ := bind_some.mp (show (w ρ).bind _ = _ from e)
  obtain ⟨ρ2, e3, e4⟩ := bind_some.mp e2
  obtain ⟨⟨ys, ρf⟩, e5, e6⟩ := map_some.mp e4
  cases e6
  refine ⟨c, ρ, ts, tv, ds, ρ1, s, e1, fun J H' c' T TV P s' hp G bk _ => ?_⟩
  exact lc_go hjs (s'.forget e3) hp G (forget_none e3).1 e5 fun a H2 s2 => k _ H2 (bk.sr s2)
end

def toKey : D → Option Key
  | .int i => some (.inl i)
  | .str x => some (.inr x)
  | _ => none
def getD (kvs : List (Key × D)) (k : Key) : Option D := (kvs.find? fun kv => decide (kv.1 = k)).map (·.2)
def putD (kvs : List (Key × D)) (k : Key) (v : D) : List (Key × D) :=
  if (kvs.any fun kv => decide (kv.1 = k)) = true then kvs.map (fun kv => if kv.1 = k then (kv.1, v) else kv) else kvs ++ [(k, v)]
def delD (kvs : List (Key × D)) (k : Key) : List (Key × D) := kvs.filter fun kv => decide (kv.1 ≠ k)
section
variable {mg : Str → Option Value} {Z : Addr → Prop} {H : Hp}
theorem RepK.len : ∀ {x : List (Key × D)} {w : List (Key × V)}, RepK mg Z H x w → x.length = w.length
  | [], w, r => by rw [show w = [] from r]; rfl
  | (k, d) :: t, w, ⟨y, w', e, r, q⟩ => by rw [e, List.length_cons, List.length_cons, RepK.len q]
theorem RepK.get {k : Key} : ∀ {x : List (Key × D)} {w : List (Key × V)}, RepK mg Z H x w → (getD x k = none ∧ valV w k = none) ∨ ∃ d v, getD x k = some d ∧ valV w k = some v ∧ Rep mg Z H d v
  | [], w, r => by rw [show w = [] from r]; exact .inl ⟨rfl, rfl⟩
  | (k', d) :: t, w, ⟨y, w', e, r, q⟩ => by
    rw [e]
    by_cases h : k' = k
    · right
      exact ⟨d, y, by simp [getD, h], valV_pos h, r⟩
    · rcases RepK.get (k := k) q with ⟨h1, h2⟩ | ⟨d', v', h1, h2, h3⟩
      · left
        refine ⟨?_, (valV_neg (p := (k', y)) h).trans h2⟩
        simp only [getD, List.find?_cons] at h1 ⊢
        simpa [h] using h1
      · right
        refine ⟨d', v', ?_, (valV_neg (p := (k', y)) h).trans h2, h3⟩
        simp only [getD, List.find?_cons] at h1 ⊢
        simpa [h] using h1
theorem RepK.any {k : Key} : ∀ {x : List (Key × D)} {w : List (Key × V)}, RepK mg Z H x w → (x.any fun kv => decide (kv.1 = k)) = (w.any fun kv => decide (kv.1 = k))
  | [], w, r => by rw [show w = [] from r]; rfl
  | (k', d) :: t, w, ⟨y, w', e, r, q⟩ => by
    rw [e, List.any_cons, List.any_cons, RepK.any q]
theorem RepK.append : ∀ {x y : List (Key × D)} {v w : List (Key × V)}, RepK mg Z H x v → RepK mg Z H y w → RepK mg Z H (x ++ y) (v ++ w)
  | [], y, v, w, r, s => by rw [show v = [] from r]; exact s
  | (k, d) :: t, y, v, w, ⟨a, b, e, r, q⟩, s => by rw [e]; exact ⟨a, b ++ w, rfl, r, RepK.append q s⟩
theorem RepK.repl {k : Key} {d : D} {v : V} (hd : Rep mg Z H d v) : ∀ {x : List (Key × D)} {w : List (Key × V)}, RepK mg Z H x w → RepK mg Z H (x.map fun kv => if kv.1 = k then (kv.1, d) else kv) (w.map fun kv => if kv.1 = k then (kv.1, v) else kv)
  | [], w, r => by rw [show w = [] from r]; rfl
  | (k', d') :: t, w, ⟨y, w', e, r, q⟩ => by
    rw [e, List.map_cons, List.map_cons]
    by_cases h : k' = k
    · rw [if_pos h, if_pos h]; exact ⟨v, _, rfl, hd, RepK.repl hd q⟩
    · rw [if_neg h, if_neg h]; exact ⟨y, _, rfl, r, RepK.repl hd q⟩
theorem RepK.put {x : List (Key × D)} {w : List (Key × V)} {k : Key} {d : D} {v : V} (h : RepK mg Z H x w) (hd : Rep mg Z H d v) : RepK mg Z H (putD x k d) (putK w k v) := by
  unfold putD putK
  rw [h.any]
  split
  · exact h.repl hd
  · exact h.append ⟨v, [], rfl, hd, rfl⟩
theorem RepK.del {k : Key} : ∀ {x : List (Key × D)} {w : List (Key × V)}, RepK mg Z H x w → RepK mg Z H (delD x k) (dropK w k)
  | [], w, r => by rw [show w = [] from r]; rfl
  | (k', d) :: t, w, ⟨y, w', e, r, q⟩ => by
    rw [e]
    unfold delD dropK
    rw [List.filter_cons, List.filter_cons]
    by_cases h : k' = k
    · rw [if_neg (by simpa using h), if_neg (by simpa using h)]; exact RepK.del q
    · rw [if_pos (by simpa using h), if_pos (by simpa using h)]; exact ⟨y, _, rfl, r, RepK.del q⟩
end
def dcL (g : GF) (t : TF) (fk fv : EF) (own : List Nat) : List D → List (Key × D) → Ro → Option (List (Key × D) × Ro)
  | [], acc, ρ => some (acc, ρ)
  | d :: r, acc, ρ => (g d ρ).bind fun ρ1 => (t ρ1).bind fun x =>
    if x.1 then (dv fk x.2).bind fun y => (toKey y.1).bind fun k => (dv fv y.2).bind fun z => (forget own z.2).bind fun ρ2 => if acc.length < 16777216 then dcL g t fk fv own r (putD acc k z.1) ρ2 else none
    else (forget own x.2).bind fun ρ2 => dcL g t fk fv own r acc ρ2
section
variable {mg : Str → Option Value} {c c' : Fx} {σ σ' : Sg} {H H' : Hp} {ρ ρ' : Ro} {ts : List D} {tv : List V} {r : Option A} {v : V} {fp : Pl → List Addr}
end
def dcE (w : WF) (g : GF) (t : TF) (fk fv : EF) (own : List Nat) : EF := fun ρ => (w ρ).bind fun x => (forget own x.2).bind fun ρ1 => (dcL g t fk fv own x.1 [] ρ1).map fun y => (.k false y.1, y.2)
section
variable {X : Cx} {kx vx tg iter : Expr} {ifs : List Expr} {scope : Scope} {own : List (Str × Nat)} {pos : Pos} {w : WF} {js : List Nat} {g : GF} {t : TF} {fk fv : EF}
end
end Tw
end
section
set_option maxRecDepth 100000
namespace Tw
open PySem PySem.Spec PyProof.Rows L2

section
variable {X : Cx}
def rCatF (K : PySem.W.Frag) : R2 := fun x y H Q => ∃ a b xs ys, x = .ref a ∧ y = .ref b ∧ SqT K H a xs ∧ SqT K H b ys ∧ xs.length + ys.length ≤ sizeLine ∧
  (xs = [] → Q (.ref b) H) ∧ (xs ≠ [] → ys = [] → Q (.ref a) H) ∧ (xs ≠ [] → ys ≠ [] → ∀ p o, H p = none → o.dict = none → Q (.ref p) (upd H p (.frz o (.tup (xs ++ ys)))))
theorem op_catF : OpR X (binaryOp .Add) (rCatF X.K) := by
  intro pins s σ H x y v u Q I rx ry h
  obtain ⟨a, b, xs, ys, rfl, rfl, ha, hb, hz, q0, q1, q2⟩ := h
  obtain ⟨its, r1, p1, _⟩ := I.tuple ha
  obtain ⟨its2, r2, p2, _⟩ := I.tuple hb
  cases rx
  cases ry
  by_cases hx : xs = []
  · subst hx
    cases r1
    exact cat_tup0 p1 p2 ⟨.ref b, H, I, rfl, q0 rfl⟩
  · refine HT.cat_tup p1 p2 (fun z => hx (r1.nil_iff.mp z)) (fun z => ⟨.ref a, H, I, rfl, q1 hx (r2.nil_iff.mp z)⟩) (fun z => ?_)
      (by rw [← r1.length, ← r2.length]; exact hz)
    refine ⟨.ref s.heap.objs.size, _, I.laid (t' := s.toks) (o := .frz { cls := .type "tuple", data := .seq (its ++ its2).toArray } (.tup (xs ++ ys))) (fun b ob q => Heap.get?_push_of_some _ q) (Nat.le_refl _)
      ⟨Heap.get?_push_size _ rfl, ?_⟩, rfl, q2 hx (fun w => z (r2.nil_iff.mpr w)) _ _ (I.hok.fresh (Nat.le_refl _)) rfl⟩
    exact ⟨by rw [List.length_append]; exact hz, _, r1.append r2, IsTup.new _ _⟩
def tTupF (t : TA) : TE := fun σ H Q => t σ H fun xs H1 => xs.length ≤ sizeLine ∧ ∀ p o, H1 p = none → o.dict = none → Q (.ref p) (upd H1 p (.frz o (.tup xs)))
theorem pe_tupF {es : List Expr} {t : TA} {pos : Pos} {x1} (h : PA X es t) : PE X (.Tuple es x1 pos) (tTupF t) := by
  refine ⟨fun pins s σ H Q I hq => ?_⟩
  refine wpAny_Tuple_spliced (thn (h.run pos pins s σ H _ I hq) fun us s1 ⟨xs, H1, I1, r, z, q⟩ => ⟨by rw [← r.length]; exact z, ?_⟩)
  refine ⟨.ref s1.heap.objs.size, _, I1.laid (t' := s1.toks) (o := .frz _ (.tup xs)) (fun b u e => Heap.get?_push_of_some _ e) (Nat.le_refl _) ⟨Heap.get?_push_size _ rfl, ?_⟩, rfl, q _ _ (I1.hok.fresh (Nat.le_refl _)) rfl⟩
  exact ⟨z, us, r, ⟨_, Heap.get?_push_size _ rfl, rfl, _, rfl⟩⟩
end
def onII (C : Int → Int → Bool) (g : Int → Int → D) : D → D → Option A
  | .int i, .int j => if C i j = true then some (.d (g i j)) else none
  | _, _ => none
section
variable {X : Cx}
theorem op_ii {F : Value → Value → Sem Value} {C : Int → Int → Prop} {c : Int → Int → Bool} {g : Int → Int → V} {gD : Int → Int → D} (ho : OpR X F (rI C g)) (hc : ∀ i j, c i j = true → C i j) (hg : ∀ i j Z H, Rep X.mg Z H (gD i j) (g i j)) : OpD X F (onII c gD) := by
  intro pins s σ H x y v u Q I rx ry w
  obtain ⟨Z, a, b, r, hz, ra, rb, e, k⟩ := w
  unfold onII at e
  split at e
  · split at e
    · rename_i i j h
      cases e
      have e1 : x = .int i := ra
      have e2 : y = .int j := rb
      exact ho pins s σ H x y v u Q I rx ry ⟨i, j, e1, e2, hc i j h, k.sc (hg i j Z H)⟩
    · cases e
  · cases e
theorem op_ii0 {F : Value → Value → Sem Value} {g : Int → Int → V} {gD : Int → Int → D} (ho : OpR X F (rI0 g)) (hg : ∀ i j Z H, Rep X.mg Z H (gD i j) (g i j)) : OpD X F (onII (fun _ _ => true) gD) :=
  op_ii (C := fun _ _ => True) (fun pins s σ H x y v u Q I rx ry ⟨i, j, e1, e2, _, q⟩ => ho pins s σ H x y v u Q I rx ry ⟨i, j, e1, e2, q⟩) (fun _ _ _ => trivial) hg
abbrev addI := onII (fun _ _ => true) fun i j => .int (i + j)
abbrev subI := onII (fun _ _ => true) fun i j => .int (i - j)
abbrev cMul (i j : Int) : Bool := (decide (-(2 ^ 64) < i) && decide (i < 2 ^ 64)) || (decide (-(2 ^ 64) < j) && decide (j < 2 ^ 64))
abbrev mulI := onII cMul fun i j => .int (i * j)
abbrev modI := onII (fun _ j => decide (0 < j)) fun i j => .int (i % j)
abbrev fdivI := onII (fun _ j => decide (0 < j) && decide (j < 1073741824)) fun i j => .int (i / j)
abbrev powI := onII (fun i j => decide (0 ≤ j) && decide (j ≤ 1000000) && decide (i.natAbs < 2 ^ 64)) fun i j => .int (i ^ j.toNat)
theorem o_addI : OpD X (binaryOp .Add) addI := op_ii0 op_add fun _ _ _ _ => rfl
theorem o_mulI : OpD X (binaryOp .Mult) mulI := op_ii op_mul (fun i j h => by
  simp only [cMul, Bool.or_eq_true, Bool.and_eq_true, decide_eq_true_eq] at h
  exact h) fun _ _ _ _ => rfl
theorem o_modI : OpD X (binaryOp .Mod) modI := op_ii op_mod (fun i j h => of_decide_eq_true h) fun _ _ _ _ => rfl
theorem o_fdivI : OpD X (binaryOp .FloorDiv) fdivI := op_ii op_fdiv (fun i j h => by
  simp only [Bool.and_eq_true, decide_eq_true_eq] at h
  exact h) fun _ _ _ _ => rfl
theorem o_powI : OpD X (binaryOp .Pow) powI := op_ii op_pow (fun i j h => by
  simp only [Bool.and_eq_true, decide_eq_true_eq] at h
  exact ⟨h.1.1, h.1.2, h.2⟩) fun _ _ _ _ => rfl
abbrev ltI := onII (fun _ _ => true) fun i j => .bl (decide (i < j))
abbrev leI := onII (fun _ _ => true) fun i j => .bl (decide (i ≤ j))
abbrev gtI := onII (fun _ _ => true) fun i j => .bl (decide (j < i))
abbrev geI := onII (fun _ _ => true) fun i j => .bl (decide (j ≤ i))
theorem o_geI : OpD X (compareOp .GtE) geI := op_ii0 op_ge fun _ _ _ _ => rfl
def addS : D → D → Option A
  | .str x, .str y => if x.length + y.length ≤ 16777216 then some (.d (.str (x ++ y))) else none
  | _, _ => none
theorem o_addS : OpD X (binaryOp .Add) addS := by
  intro pins s σ H x y v u Q I rx ry w
  obtain ⟨Z, a, b, r, hz, ra, rb, e, k⟩ := w
  unfold addS at e
  split at e
  · split at e
    · rename_i i j h
      cases e
      exact op_add_str pins s σ H x y v u Q I rx ry ⟨i, j, ra, rb, by rw [sizeLine_eq]; exact h, k.sc rfl⟩
    · cases e
  · cases e
/-- list + list, tuple + tuple -/
def addL : D → D → Option A
  | .lst x, .lst y => if x.length + y.length ≤ 16777216 then some (.l false (x ++ y)) else none
  | _, _ => none
def addT : D → D → Option A
  | .tup x, .tup y => if x.length + y.length ≤ 16777216 then some (.d (.tup (x ++ y))) else none
  | _, _ => none
theorem o_addL : OpD X (binaryOp .Add) addL := by
  intro pins s σ H x y v u Q I rx ry w
  obtain ⟨Z, a, b, r, hz, ra, rb, e, k⟩ := w
  unfold addL at e
  split at e
  · rename_i xs ys
    split at e
    · rename_i h
      cases e
      obtain ⟨p, vs, rfl, g1, r1⟩ := ra
      obtain ⟨q, us, rfl, g2, r2⟩ := rb
      cases rx
      cases ry
      obtain ⟨z1, i1, n1, w1, e1⟩ := g1.l2.ok I.hok
      obtain ⟨z2, i2, n2, w2, e2⟩ := g2.l2.ok I.hok
      have hlen : i1.length + i2.length ≤ sizeLine := by
        rw [← w1.length, ← w2.length, ← r1.length, ← r2.length, sizeLine_eq]; exact h
      refine PySem.P.add_list e1 e2 ?_ (by simpa using hlen)
      rw [show i1.toArray ++ i2.toArray = (i1 ++ i2).toArray from by simp]
      refine ⟨.ref _, _, I.lnew (t' := s.toks) (w1.append w2) (by rw [List.length_append, w1.length, w2.length]; exact hlen), rfl, k.l (r1.append r2) I.fresh⟩
    · cases e
  · cases e
theorem o_addT : OpD X (binaryOp .Add) addT := by
  intro pins s σ H x y v u Q I rx ry w
  obtain ⟨Z, a, b, r, hz, ra, rb, e, k⟩ := w
  unfold addT at e
  split at e
  · rename_i xs ys
    split at e
    · rename_i h
      cases e
      have ra' : Rep X.mg Z H (.tup xs) x := ra
      have rb' : Rep X.mg Z H (.tup ys) y := rb
      obtain ⟨p, vs, o1, rfl, _, _, g1, r1⟩ := ra
      obtain ⟨q, us, o2, rfl, _, _, g2, r2⟩ := rb
      refine op_catF pins s σ H _ _ v u Q I rx ry ⟨p, q, vs, us, rfl, rfl, .inl g1.frz2, .inl g2.frz2, by rw [← r1.length, ← r2.length, sizeLine_eq]; exact h, fun e => ?_, fun _ e => ?_, fun _ _ t o ht ho => ?_⟩
      · subst e
        have : xs = [] := by have := r1.length; simpa using this
        subst this
        exact k.sc rb'
      · subst e
        have : ys = [] := by have := r2.length; simpa using this
        subst this
        rw [List.append_nil] at k
        exact k.sc ra'
      · exact k.t hz (r1.append r2) ht ho
    · cases e
  · cases e
def orD (p q : D → D → Option A) : D → D → Option A := fun a b => (p a b).or (q a b)
abbrev addX := orD addI (orD addS (orD addL addT))
theorem o_addX : OpD X (binaryOp .Add) addX := o_addI.or (o_addS.or (o_addL.or o_addT))
/-- -i -/
def un (f : EF) (g : D → Option A) : EF := fun ρ => (dv f ρ).bind fun x => (g x.1).map fun r => (r, x.2)
def negI : D → Option A
  | .int i => some (.d (.int (-i)))
  | _ => none
theorem e_neg {a : Expr} {f : EF} {pos : Pos} (ha : EI X a f) : EI X (.UnaryOp .USub a pos) (un f negI) := (pe_un un_neg ha).imp fun σ H Q h => by
  obtain ⟨c, ρ, ts, tv, r, ρ', s, e, k⟩ := h
  obtain ⟨⟨d, ρ1⟩, e1, e2⟩ := bind_some.mp (show (dv f ρ).bind _ = _ from e)
  obtain ⟨x, e3, e4⟩ := map_some.mp e2
  cases e4
  unfold negI at e3
  split at e3
  · rename_i d' i hd
    cases e3
    simp only at hd
    subst hd
    refine tE_dv s e1 fun v H1 ⟨fp, g⟩ => ?_
    obtain ⟨v', tv', eq, rep, t⟩ := g.tmp
    cases eq
    have rep : v = .int i := rep
    subst rep
    exact ⟨i, rfl, k _ H1 ⟨_, (g.pops (xs := [.int i]) (ys := [.int i]) rfl).put (x := .int (-i)) (u := .int (-i)) rfl⟩⟩
  · cases e3
def nonD : D → Bool
  | .non => true
  | _ => false
def isN : D → D → Option A
  | x, .non => some (.d (.bl (nonD x)))
  | _, _ => none
def notN : D → D → Option A
  | x, .non => some (.d (.bl (!nonD x)))
  | _, _ => none
def scD : D → D → Option Bool
  | .non, .non => some true
  | .bl a, .bl b => some (decide (a = b))
  | .int a, .int b => some (decide (a = b))
  | .str a, .str b => some (decide (a = b))
  | _, _ => none
def eqS : D → D → Option A := fun a b => (scD a b).map fun r => .d (.bl r)
def neS : D → D → Option A := fun a b => (scD a b).map fun r => .d (.bl (!r))
theorem scD_of {mg : Str → Option Value} {Z : Addr → Prop} {H : Hp} {a b : D} {x y : V} {r : Bool} (ra : RepT mg Z H a x) (rb : RepT mg Z H b y) (e : scD a b = some r) : scal x y = true ∧ decide (x = y) = r := by
  unfold scD at e
  split at e
  · cases e; cases (show x = .non from ra); cases (show y = .non from rb); exact ⟨rfl, rfl⟩
  · rename_i p q
    cases e; cases (show x = .bl p from ra); cases (show y = .bl q from rb)
    exact ⟨rfl, by simp⟩
  · rename_i p q
    cases e; cases (show x = .int p from ra); cases (show y = .int q from rb)
    exact ⟨rfl, by simp⟩
  · rename_i p q
    cases e; cases (show x = .str p from ra); cases (show y = .str q from rb)
    exact ⟨rfl, by simp⟩
  · cases e
theorem o_eqS : OpD X (compareOp .Eq) eqS := by
  intro pins s σ H x y v u Q I rx ry w
  obtain ⟨Z, a, b, r, hz, ra, rb, e, k⟩ := w
  obtain ⟨t, e1, rfl⟩ := map_some.mp (show (scD a b).map _ = _ from e)
  obtain ⟨h1, h2⟩ := scD_of ra rb e1
  refine op_eq pins s σ H x y v u Q I rx ry ⟨h1, ?_⟩
  rw [h2]; exact k.sc rfl
def flatD : D → Bool
  | .non => true
  | .bl _ => true
  | .int _ => true
  | .str _ => true
  | _ => false
def flV : D → V
  | .bl b => .bl b
  | .int i => .int i
  | .str x => .str x
  | _ => .non
theorem flat_of {mg : Str → Option Value} {Z : Addr → Prop} {H : Hp} {a : D} {x : V} (h : RepT mg Z H a x) (f : flatD a = true) : x = flV a ∧ flatV x = true := by
  cases a <;> first | (cases f; done) | (cases h; exact ⟨rfl, rfl⟩)
theorem flats_of {mg : Str → Option Value} {Z : Addr → Prop} {H : Hp} : ∀ {xs : List D} {vs : List V}, Reps mg Z H xs vs → xs.all flatD = true → vs = xs.map flV ∧ vs.all flatV = true
  | [], vs, r, _ => by rw [show vs = [] from r]; exact ⟨rfl, rfl⟩
  | d :: t, vs, ⟨v, w, e, r, q⟩, h => by
    rw [List.all_cons, Bool.and_eq_true] at h
    obtain ⟨h1, h2⟩ := flat_of r.t h.1
    obtain ⟨h3, h4⟩ := flats_of q h.2
    rw [e]
    refine ⟨by rw [h1, h3]; rfl, ?_⟩
    rw [List.all_cons, h2, h4]; rfl
def inL (neg : Bool) : D → D → Option A := fun a b => (itemsOf b).bind fun xs => if (flatD a && xs.all flatD) = true then some (.d (.bl (if neg = true then !inV (flV a) (xs.map flV) else inV (flV a) (xs.map flV)))) else none
theorem seq_at {b : D} {xs : List D} {y : V} {Z : Addr → Prop} {H : Hp} (rb : RepT X.mg Z H b y) (e : itemsOf b = some xs) : ∃ p vs, y = .ref p ∧ (SqL X.K H p vs ∨ SqT X.K H p vs) ∧ Reps X.mg Z H xs vs := by
  cases b with
  | lst ys => cases e; obtain ⟨p, vs, rfl, g, r⟩ := rb; exact ⟨p, vs, rfl, .inl (.inl g.l2), r⟩
  | tup ys => cases e; obtain ⟨p, vs, o, rfl, _, _, g, r⟩ := rb; exact ⟨p, vs, rfl, .inr (.inl g.frz2), r⟩
  | _ => cases e
theorem o_inL : OpD X (compareOp .In) (inL false) := by
  intro pins s σ H x y v u Q I rx ry w
  obtain ⟨Z, a, b, r, hz, ra, rb, e, k⟩ := w
  obtain ⟨xs, e1, e2⟩ := bind_some.mp (show (itemsOf b).bind _ = _ from e)
  split at e2
  case isFalse => cases e2
  rename_i h
  cases e2
  rw [Bool.and_eq_true] at h
  obtain ⟨p, vs, rfl, hs, hr⟩ := seq_at rb e1
  obtain ⟨h1, h2⟩ := flat_of ra h.1
  obtain ⟨h3, h4⟩ := flats_of hr h.2
  subst h1; subst h3
  exact op_in_seq pins s σ H _ _ v u Q I rx ry ⟨p, _, rfl, hs, h2, h4, k.sc rfl⟩
end

def ixL : D → D → Option A := fun a b => match b with
  | .int i => (itemsOf a).bind fun xs => (atI xs i).map A.d
  | _ => none
def ixS : D → D → Option A := fun a b => match a, b with
  | .str z, .int i => if z.length ≤ 16777216 then (atI z.cps.toList i).map fun c => .d (.str ⟨#[c]⟩) else none
  | _, _ => none
section
variable {X : Cx} {a b : Expr} {o p : Opd} {f g : EF} {pos : Pos}
theorem atI_rep {mg : Str → Option Value} {Z : Addr → Prop} {H : Hp} {xs : List D} {vs : List V} {i : Int} {d : D} (h : Reps mg Z H xs vs) (e : atI xs i = some d) : ∃ v, atI vs i = some v ∧ Rep mg Z H d v := by
  unfold atI at e ⊢
  rw [← h.length]
  obtain ⟨j, e1, e2⟩ := bind_some.mp e
  obtain ⟨v, e3, e4⟩ := h.get e2
  exact ⟨v, by rw [e1, Option.bind_some]; exact e3, e4⟩
theorem ix_L : IxR X (rD X.mg ixL) := by
  intro value slice pins s σ H x y v u Q I rx ry w hs
  obtain ⟨Z, a, b, r, hz, ra, rb, e, k⟩ := w
  unfold ixL at e
  split at e
  · rename_i i
    obtain ⟨xs, e2, e3⟩ := bind_some.mp e
    obtain ⟨d, e4, e5⟩ := map_some.mp e3
    subst e5
    obtain ⟨q, vs, rfl, hq, hr⟩ := seq_at ra e2
    obtain ⟨w, e6, rep⟩ := atI_rep hr e4
    refine ix_seq value slice pins s σ H _ y v u Q I rx ry ?_ hs
    rcases hq with hq | hq
    · exact .inl ⟨q, vs, i, w, rfl, rb, hq, e6, k.sc rep⟩
    · exact .inr (.inl ⟨q, vs, i, w, rfl, rb, hq, e6, k.sc rep⟩)
  · cases e
theorem ix_S : IxR X (rD X.mg ixS) := by
  intro value slice pins s σ H x y v u Q I rx ry w hs
  obtain ⟨Z, a, b, r, hz, ra, rb, e, k⟩ := w
  unfold ixS at e
  split at e
  · rename_i z i
    split at e
    · rename_i hl
      obtain ⟨ch, e4, e5⟩ := map_some.mp e
      subst e5
      exact ix_seq value slice pins s σ H x y v u Q I rx ry (.inr (.inr ⟨z, i, ch, ra, rb, by rw [sizeLine_eq]; exact hl, e4, k.sc rfl⟩)) hs
    · cases e
  · cases e
/-- d[k] -/
def ixK : D → D → Option A := fun a b => match a with
  | .dic kvs => (toKey b).bind fun k => (Tw.getD kvs k).map A.d
  | _ => none
theorem bin_or {F G : D → D → Option A} {ρ : Ro} {y : A × Ro} (h : bin o p (orD F G) ρ = some y) : bin o p F ρ = some y ∨ bin o p G ρ = some y := by
  obtain ⟨x, ρ'⟩ := y
  obtain ⟨s, ρ1, t, a, b, e1, e2, e3, e4, e5⟩ := bin_some h
  have go : ∀ K : D → D → Option A, bin o p K ρ = (K a b).map fun r => (r, ρ') := fun K => by
    unfold bin
    rw [e1, Option.bind_some]
    simp only
    rw [e2, Option.bind_some]
    simp only
    rw [e3, Option.bind_some, e4, Option.bind_some]
  rw [go, go]
  have e5 : (F a b).or (G a b) = some x := e5
  cases q : F a b with
  | some z => rw [q] at e5; left; cases e5; rfl
  | none => rw [q] at e5; right; have e5 : G a b = some x := e5; rw [e5]; rfl
theorem tE_or {mg : Str → Option Value} {F G : D → D → Option A} {σ : Sg} {H : Hp} {Q : VK} (h : tE mg (bin o p (orD F G)) σ H Q) : tE mg (bin o p F) σ H Q ∨ tE mg (bin o p G) σ H Q := by
  obtain ⟨c, ρ, ts, tv, r, ρ', s, e, k⟩ := h
  rcases bin_or e with e | e
  · exact .inl ⟨c, ρ, ts, tv, r, ρ', s, e, k⟩
  · exact .inr ⟨c, ρ, ts, tv, r, ρ', s, e, k⟩
abbrev ixX := orD ixK (orD ixL ixS)
theorem e_ix (hu : X.A.units + 1 < cLine) (ha : OI X a o) (hb : OI X b p) (hs : PlainIx b := by exact fun _ _ => rfl) (hn : NoSl b := by exact fun _ _ => rfl) : EI X (.Subscript a b pos) (bin o p ixX) := by
  refine (PE.or (pe_dget hu ha hb hn) (PE.or (pe_ix ix_L ha hb hs) (pe_ix ix_S ha hb hs))).imp fun σ H Q h => ?_
  rcases tE_or h with h | h
  · left
    have h2 : ∀ x y H, rD X.mg ixK x y H Q → ∃ a v, x = .ref a ∧ DGet H a y (some v) ∧ Q v H := fun x y H ⟨Z, a, b, r, hz, ra, rb, e, k⟩ => by
      unfold ixK at e
      split at e
      · rename_i kvs
        obtain ⟨kk, e1, e2⟩ := bind_some.mp e
        obtain ⟨d, e3, e4⟩ := map_some.mp e2
        subst e4
        obtain ⟨q, vs, rfl, g, rk⟩ := ra
        have hy : y = kV kk := by
          cases b <;> cases e1 <;> exact rb
        rcases rk.get (k := kk) with ⟨h1, _⟩ | ⟨d', v, h1, h2, h3⟩
        · rw [h1] at e3; cases e3
        · rw [h1] at e3; cases e3
          exact ⟨q, v, rfl, .inl ⟨vs, kk, g.l2, hy, h2.symm⟩, k.sc h3⟩
      · cases e
    obtain ⟨c, ρ, ts, tv, r, ρ', s, e, k⟩ := h
    obtain ⟨x, ρ1, y, a, b, e1, e2, e3, e4, e5⟩ := bin_some e
    refine tO_go s e1 fun u H1 s1 hu => tO_go s1 e2 fun w H2 s2 hw => ?_
    obtain ⟨fp, g2⟩ := s2
    obtain ⟨g1, rb⟩ := g2.pop1 hw
    obtain ⟨g0, ra⟩ := g1.pop1 hu
    exact h2 _ _ _ ⟨_, a, b, r, fun p h => g2.zal h, g0.res ra e3, g0.res rb e4, e5, SR.ret g0 k⟩
  · right
    rcases tE_or h with h | h
    · exact .inl (tOp_of h)
    · exact .inr (tOp_of h)
inductive Part where
  | no
  | ev (f : EF)
def part : Part → Ro → Option (Option Int × Ro)
  | .no, ρ => some (none, ρ)
  | .ev f, ρ => (dv f ρ).bind fun x => match x.1 with | .int i => some (some i, x.2) | _ => none
def tPt (mg : Str → Option Value) : Part → TO
  | .no => tNoPart
  | .ev f => tPart (tE mg f)
def QI (X : Cx) (e : Option Expr) (q : Part) : Prop := PO X e (tPt X.mg q)
theorem q_no : QI X none .no := po_none
theorem q_ev (h : EI X a f) : QI X (some a) (.ev f) := po_some h
theorem tPt_go {mg : Str → Option Value} {c : Fx} {σ : Sg} {H : Hp} {ρ ρ' : Ro} {ts : List D} {tv : List V} {q : Part} {i : Option Int} {Q : Option Int → Hp → Prop} (s : SR mg c σ H ρ ts tv none .non) (e : part q ρ = some (i, ρ')) (k : ∀ H', SR mg c σ H' ρ' ts tv none .non → Q i H') : tPt mg q σ H Q := by
  cases q with
  | no => cases e; exact k H s
  | ev f =>
    obtain ⟨⟨d, ρ1⟩, e1, e2⟩ := bind_some.mp (show (dv f ρ).bind _ = _ from e)
    cases d with
    | int j =>
      cases e2
      refine tE_dv s e1 fun v H1 ⟨fp, g⟩ => ?_
      obtain ⟨v', tv', eq, rep, t⟩ := g.tmp
      cases eq
      have rep : v = .int j := rep
      subst rep
      exact ⟨j, rfl, k H1 ⟨fp, g.pops (xs := [.int j]) (ys := [.int j]) rfl⟩⟩
    | _ => cases e2
def cutD {α : Type} (xs : List α) (lo hi : Option Int) : List α := (xs.drop (HT.sIx xs.length 0 lo)).take (HT.sIx xs.length xs.length hi - HT.sIx xs.length 0 lo)
/-- xs[lo:hi] of a list -/
def slL (o : Opd) (l h : Part) : EF := fun ρ => (ev1 o ρ).bind fun x => (part l x.2).bind fun i => (part h i.2).bind fun j => (res j.2 x.1).bind fun d => match d with
  | .lst xs => some (.l false (cutD xs i.1 j.1), j.2)
  | _ => none
theorem e_slL {lo hi : Option Expr} {q r : Part} {p2 : Pos} (ha : OI X a o) (hl : QI X lo q) (hh : QI X hi r) : EI X (.Subscript a (.Slice lo hi none p2) pos) (slL o q r) := (pe_slice sl_list ha hl hh).imp fun σ H Q h => by
  obtain ⟨c, ρ, ts, tv, rr, ρ', s, e, k⟩ := h
  obtain ⟨⟨x, ρ1⟩, e1, e⟩ := bind_some.mp (show (ev1 o ρ).bind _ = _ from e)
  obtain ⟨⟨i, ρ2⟩, e2, e⟩ := bind_some.mp e
  obtain ⟨⟨j, ρ3⟩, e3, e⟩ := bind_some.mp e
  obtain ⟨d, e4, e⟩ := bind_some.mp e
  cases d with
  | lst xs =>
    cases e
    refine tO_go s e1 fun u H1 s1 hu => tPt_go s1 e2 fun H2 s2 => tPt_go s2 e3 fun H3 ⟨fp, g⟩ => ?_
    obtain ⟨g0, ra⟩ := g.pop1 hu
    obtain ⟨p, vs, rfl, gd, hr⟩ := g0.res ra e4
    refine ⟨p, vs, rfl, .inl gd.l2, fun p hp => (SR.ret (x := .l false (cutD xs i j)) g0 k).l ?_ hp⟩
    unfold cutD cutV
    rw [hr.length]
    exact (hr.drop _).take _
  | _ => cases e
/-- xs[::-1] -/
def revL (o : Opd) : EF := fun ρ => (ev1 o ρ).bind fun x => (res x.2 x.1).bind fun d => match d with
  | .lst xs => some (.l false xs.reverse, x.2)
  | _ => none
def lstE (os : List Opd) : EF := fun ρ => (evs os ρ).bind fun x => (onlyD x.1).bind fun ds => if ds.length ≤ 16777216 then some (.l false ds, x.2) else none
def tupE (os : List Opd) : EF := fun ρ => (evs os ρ).bind fun x => (onlyD x.1).bind fun ds => if ds.length ≤ 16777216 then some (.d (.tup ds), x.2) else none
theorem e_lst {es : List Expr} {os : List Opd} {x1} (h : AI X es os) : EI X (.List es x1) (lstE os) := (pe_lst h).imp fun σ H Q h => by
  obtain ⟨c, ρ, ts, tv, r, ρ', s, e, k⟩ := h
  obtain ⟨⟨ss, ρ1⟩, e1, e⟩ := bind_some.mp (show (evs os ρ).bind _ = _ from e)
  obtain ⟨ds, e2, e⟩ := bind_some.mp e
  split at e
  case isFalse => cases e
  rename_i hl
  cases e
  refine ⟨c, ρ, ts, tv, ss, ρ1, s, e1, fun vs H' fp g ra => ?_⟩
  have hr := ra.only e2
  exact ⟨by rw [← hr.length, sizeLine_eq]; exact hl, fun p hp => (SR.ret (x := .l false ds) g k).l hr hp⟩
theorem e_tup {es : List Expr} {os : List Opd} {x1} (h : AI X es os) : EI X (.Tuple es x1 pos) (tupE os) := (pe_tupF h).imp fun σ H Q h => by
  obtain ⟨c, ρ, ts, tv, r, ρ', s, e, k⟩ := h
  obtain ⟨⟨ss, ρ1⟩, e1, e⟩ := bind_some.mp (show (evs os ρ).bind _ = _ from e)
  obtain ⟨ds, e2, e⟩ := bind_some.mp e
  split at e
  case isFalse => cases e
  rename_i hl
  cases e
  refine ⟨c, ρ, ts, tv, ss, ρ1, s, e1, fun vs H' fp g ra => ?_⟩
  have hr := ra.only e2
  exact ⟨by rw [← hr.length, sizeLine_eq]; exact hl, fun p o hp ho => (SR.ret (x := .d (.tup ds)) g k).t (fun p h => g.zal h) hr hp ho⟩
/-- {} -/
def dic0 : EF := fun ρ => some (.k false [], ρ)
end
end Tw
end
section
set_option maxRecDepth 100000
namespace Tw
open PySem PySem.Spec PyProof.Rows L2

def mergeD (kvs more : List (Key × D)) : List (Key × D) := more.foldl (fun acc kv => putD acc kv.1 kv.2) kvs
theorem RepK.merge {mg : Str → Option Value} {Z : Addr → Prop} {H : Hp} : ∀ {m : List (Key × D)} {w : List (Key × V)} {x : List (Key × D)} {v : List (Key × V)}, RepK mg Z H m w → RepK mg Z H x v → RepK mg Z H (mergeD x m) (mergeK v w)
  | [], w, x, v, r, s => by rw [show w = [] from r]; exact s
  | (k, d) :: t, w, x, v, ⟨y, w', e, r, q⟩, s => by
    rw [e]
    show RepK mg Z H (mergeD (putD x k d) t) (mergeK (putK v k y) w')
    exact RepK.merge q (s.put r)
inductive PPsI (X : Cx) (pos : Pos) : List (Option Expr) → List Expr → List (EF × EF) → Prop where
  | mk {ks : List (Option Expr)} {vs : List Expr} {fs : List (EF × EF)} (h : PPs X pos ks vs (fs.map fun p => (tE X.mg p.1, tE X.mg p.2))) : PPsI X pos ks vs fs
def pairsE : List (EF × EF) → Ro → Option (List (Key × D) × Ro)
  | [], ρ => some ([], ρ)
  | (f, g) :: r, ρ => (dv f ρ).bind fun x => (toKey x.1).bind fun k => (dv g x.2).bind fun y => (pairsE r y.2).map fun z => ((k, y.1) :: z.1, z.2)
def dicE (ps : List (EF × EF)) : EF := fun ρ => (pairsE ps ρ).bind fun x => if x.1.length ≤ 15 then some (.k false (mergeD [] x.1), x.2) else none
section
variable {X : Cx} {a b : Expr} {o p : Opd} {f g : EF} {pos : Pos}
def inK (neg : Bool) : D → D → Option A := fun a b => match b with
  | .dic kvs => (toKey a).map fun k => .d (.bl (if neg = true then !(Tw.getD kvs k).isSome else (Tw.getD kvs k).isSome))
  | _ => none
def isDic : D → Bool
  | .dic _ => true
  | _ => false
def dicD : D → Option (List (Key × D))
  | .dic kvs => some kvs
  | _ => none
def getE (o p : Opd) : EF := fun ρ => (ev1 o ρ).bind fun x => (res x.2 x.1).bind fun d0 => if isDic d0 = true then (ev1 p x.2).bind fun y => (res y.2 x.1).bind fun d => (dicD d).bind fun kvs => (res y.2 y.1).bind fun kd => (toKey kd).map fun k => (.d ((Tw.getD kvs k).getD .non), y.2) else none
theorem Good.writeK {mg : Str → Option Value} {c : Fx} {σ : Sg} {H : Hp} {ρ : Ro} {ts : List D} {tv : List V} {r : Option A} {v : V} {fp : Pl → List Addr} {i : Nat} {bb : Bool} {kvs kvs' : List (Key × D)} (g : Good mg c σ H ρ ts tv r v fp) (hx : at_ ρ i = some (.k bb kvs)) :
    ∃ a vs, atS σ i = some (.ref a) ∧ H a = some (.dK vs) ∧ RepK mg (Zof c fp) H kvs vs ∧ ∀ vs', RepK mg (Zof c fp) H kvs' vs' → ∃ fp', Good mg c σ (upd H a (.dK vs')) (ρ.set i (some (.k bb kvs'))) ts tv r v fp' ∧ ∀ d u, Rep mg (Zof c fp) H d u → Rep mg (Zof c fp') (upd H a (.dK vs')) d u := by
  obtain ⟨u, hu, a, vs, rfl, hf, ho, rk⟩ := g.ent (some i) _ hx
  refine ⟨a, vs, hu, ho, rk, fun vs' rk' => ?_⟩
  have hz : ∀ b, Zof c (fpS fp i [a]) b ↔ Zof c fp b := fun b => by
    have : fpS fp i [a] = fp := by
      funext p
      by_cases hp : p = some i
      · subst hp; rw [fpS_self, hf]
      · exact fpS_ne hp
    rw [this]
  have lift : ∀ b w, ¬ Zof c fp b → Rd H b w → ¬ Zof c (fpS fp i [a]) b ∧ Rd (upd H a (.dK vs')) b w := fun b w z h => by
    refine ⟨fun q => z ((hz b).mp q), ?_⟩
    have hne : b ≠ a := fun e => z (.inr ⟨some i, by rw [hf, e]; exact List.mem_cons_self⟩)
    rcases h with h | ⟨q, h, l⟩
    · exact .inl (by rw [upd_ne hne]; exact h)
    · exact .inr ⟨q, by rw [upd_ne hne]; exact h, l⟩
  refine ⟨fpS fp i [a], g.write (x' := .k bb kvs') (q := [a]) hx hu (fun b o e hb => ?_) (fun b hb => ?_) rfl (by simp) (fun b hb => .inl (by rw [hf]; exact hb)) ⟨a, vs', rfl, rfl, upd_same, rk'.mono lift⟩, fun d u r => r.mono lift⟩
  · have hne : b ≠ a := fun e => hb (by rw [hf, e]; exact List.mem_cons_self)
    rw [upd_ne hne]; exact e
  · by_cases e : b = a
    · subst e; rw [upd_same]; simp
    · rw [upd_ne e]; exact hb
end
end Tw
end
section
set_option maxRecDepth 100000
namespace Tw
open PySem PySem.Spec PyProof.Rows L2

def leS (x y : Str) : Bool := !ltCps y.cps.toList x.cps.toList
def insS (x : Str) : List Str → List Str
  | [] => [x]
  | y :: r => if leS x y = true then x :: y :: r else y :: insS x r
def sortS (xs : List Str) : List Str := xs.foldr insS []
theorem leS_iff {x y : Str} : leS x y = true ↔ x.cps.toList ≤ y.cps.toList := by
  unfold leS
  rw [ltCps_eq]
  simp [List.not_lt]
theorem leS_trans {x y z : Str} (h : leS x y = true) (k : leS y z = true) : leS x z = true := leS_iff.mpr (List.le_trans (leS_iff.mp h) (leS_iff.mp k))
theorem leS_anti {x y : Str} (h : leS x y = true) (k : leS y x = true) : x = y := by
  have e := List.le_antisymm (leS_iff.mp h) (leS_iff.mp k)
  cases x; cases y
  simp only [PySem.Str.mk.injEq]
  exact Array.toList_inj.mp e
theorem leS_total {x y : Str} (h : ¬ leS x y = true) : leS y x = true := leS_iff.mpr ((List.le_total x.cps.toList y.cps.toList).resolve_left fun w => h (leS_iff.mpr w))
theorem insS_perm (x : Str) : ∀ r : List Str, (insS x r).Perm (x :: r)
  | [] => .refl _
  | y :: r => by
    unfold insS
    split
    · exact .refl _
    · exact ((insS_perm x r).cons y).trans (.swap ..)
theorem insS_pw (x : Str) : ∀ {r : List Str}, (r.Pairwise fun a b => leS a b = true) → (insS x r).Pairwise fun a b => leS a b = true
  | [], _ => List.pairwise_singleton ..
  | y :: r, h => by
    unfold insS
    split
    · rename_i hxy
      refine List.pairwise_cons.mpr ⟨fun z hz => ?_, h⟩
      rcases List.mem_cons.mp hz with rfl | hz
      · exact hxy
      · exact leS_trans hxy ((List.pairwise_cons.mp h).1 z hz)
    · rename_i hxy
      refine List.pairwise_cons.mpr ⟨fun z hz => ?_, insS_pw x (List.pairwise_cons.mp h).2⟩
      rcases List.mem_cons.mp ((insS_perm x r).mem_iff.mp hz) with rfl | hz
      · exact leS_total hxy
      · exact (List.pairwise_cons.mp h).1 z hz
theorem sortS_perm : ∀ xs : List Str, (sortS xs).Perm xs
  | [] => .refl _
  | x :: r => (insS_perm x _).trans ((sortS_perm r).cons x)
theorem sortS_pw : ∀ xs : List Str, (sortS xs).Pairwise fun a b => leS a b = true
  | [] => .nil
  | x :: r => insS_pw x (sortS_pw r)
theorem pw_uniq : ∀ {xs ys : List Str}, xs.Perm ys → (xs.Pairwise fun a b => leS a b = true) → (ys.Pairwise fun a b => leS a b = true) → xs = ys
  | [], ys, h, _, _ => h.nil_eq
  | x :: xs, [], h, _, _ => absurd h.length_eq (by simp)
  | x :: xs, y :: ys, h, hx, hy => by
    have e : x = y := by
      have h1 : x ∈ y :: ys := h.mem_iff.mp List.mem_cons_self
      have h2 : y ∈ x :: xs := h.mem_iff.mpr List.mem_cons_self
      rcases List.mem_cons.mp h1 with e | h1
      · exact e
      · rcases List.mem_cons.mp h2 with e | h2
        · exact e.symm
        · exact leS_anti ((List.pairwise_cons.mp hx).1 y h2) ((List.pairwise_cons.mp hy).1 x h1)
    subst e
    rw [pw_uniq (List.perm_cons x |>.mp h) (List.pairwise_cons.mp hx).2 (List.pairwise_cons.mp hy).2]
def mapO {α β : Type} (f : α → Option β) : List α → Option (List β)
  | [] => some []
  | a :: r => (f a).bind fun x => (mapO f r).map fun y => x :: y
def intD : D → Option Int
  | .int i => some i
  | _ => none
def strD : D → Option Str
  | .str i => some i
  | _ => none
section
variable {mg : Str → Option Value} {Z : Addr → Prop} {H : Hp}
theorem repK_len : ∀ {x : List (Key × D)} {v : List (Key × V)}, RepK mg Z H x v → x.length = v.length
  | [], v, r => by rw [show v = [] from r]; rfl
  | (k, d) :: t, v, ⟨u, w, e, r, q⟩ => by rw [e, List.length_cons, List.length_cons, repK_len q]
theorem arg1 {d : D} {xs : List V} (h : RepTs mg Z H [d] xs) : ∃ v, xs = [v] ∧ RepT mg Z H d v := by
  obtain ⟨v, w, e, r, q⟩ := h
  cases q
  exact ⟨v, e, r⟩
/-- a list or a tuple that is looked at -/
theorem RepT.seq {b : D} {xs : List D} {y : V} {K : PySem.W.Frag} (rb : RepT mg Z H b y) (e : itemsOf b = some xs) : ∃ p vs, y = .ref p ∧ (SqL K H p vs ∨ SqT K H p vs) ∧ Reps mg Z H xs vs := by
  cases b with
  | lst ys => cases e; obtain ⟨p, vs, rfl, g, r⟩ := rb; exact ⟨p, vs, rfl, .inl (.inl g.l2), r⟩
  | tup ys => cases e; obtain ⟨p, vs, o, rfl, _, _, g, r⟩ := rb; exact ⟨p, vs, rfl, .inr (.inl g.frz2), r⟩
  | _ => cases e
end
def lenD : List D → Option A
  | [.lst xs] => some (.d (.int xs.length))
  | [.tup xs] => some (.d (.int xs.length))
  | [.dic xs] => some (.d (.int xs.length))
  | [.str x] => if x.length ≤ 16777216 then some (.d (.int x.length)) else none
  | _ => none
def absD : List D → Option A
  | [.int i] => some (.d (.int (if i < 0 then -i else i)))
  | _ => none
def intC : List D → Option A
  | [.int i] => some (.d (.int i))
  | [.bl b] => some (.d (.int (if b then 1 else 0)))
  | _ => none
def strK : Key → Option Str
  | .inr x => some x
  | _ => none
def listD : List D → Option A
  | [.lst xs] => some (.l false xs)
  | [.tup xs] => some (.l false xs)
  | [.dic kvs] => some (.l false (kvs.map fun kv => kD kv.1))
  | _ => none
def tupleD : List D → Option A
  | [.lst xs] => some (.d (.tup xs))
  | [.tup xs] => some (.d (.tup xs))
  | _ => none
def pairD : D → Option (Key × D)
  | .tup [k, x] => (toKey k).map fun q => (q, x)
  | _ => none
def dictD : List D → Option A
  | [.lst xs] => (mapO pairD xs).map fun kvs => .k false (mergeD [] kvs)
  | [.tup xs] => (mapO pairD xs).map fun kvs => .k false (mergeD [] kvs)
  | [.dic kvs] => some (.k false kvs)
  | _ => none
section
variable {X : Cx}
theorem cD_len : CallD X (.builtin "len") lenD := by
  intro pins s σ H xs us Q I r h
  obtain ⟨Z, ds, x, hz, ra, e, k⟩ := h
  unfold lenD at e
  split at e
  · rename_i ys
    cases e
    obtain ⟨v, rfl, p, vs, rfl, g, rr⟩ := arg1 ra
    exact call_len pins s σ H _ us Q I r ⟨_, vs.length, rfl, .inl ⟨vs, .inl g.l2, rfl⟩, by rw [← rr.length]; exact k.sc rfl⟩
  · rename_i ys
    cases e
    obtain ⟨v, rfl, p, vs, o, rfl, _, _, g, rr⟩ := arg1 ra
    exact call_len pins s σ H _ us Q I r ⟨_, vs.length, rfl, .inr ⟨vs, .inl g.frz2, rfl⟩, by rw [← rr.length]; exact k.sc rfl⟩
  · rename_i ys
    cases e
    obtain ⟨v, rfl, p, vs, rfl, g, rr⟩ := arg1 ra
    obtain ⟨u, rfl, ru⟩ := vals1 r
    cases ru
    exact d_len I g.l2 fun t s' I' => ⟨.int vs.length, H, I', ⟨t, rfl⟩, by rw [← repK_len rr]; exact k.sc rfl⟩
  · rename_i y
    split at e
    · rename_i hl
      cases e
      obtain ⟨v, rfl, rv⟩ := arg1 ra
      have rv : v = .str y := rv
      subst rv
      exact call_len pins s σ H _ us Q I r ⟨_, y.length, rfl, ⟨by rw [sizeLine_eq]; exact hl, rfl⟩, k.sc rfl⟩
    · cases e
  · cases e
theorem cD_abs : CallD X (.builtin "abs") absD := by
  intro pins s σ H xs us Q I r h
  obtain ⟨Z, ds, x, hz, ra, e, k⟩ := h
  unfold absD at e
  split at e
  · rename_i i
    cases e
    obtain ⟨v, rfl, rv⟩ := arg1 ra
    have rv : v = .int i := rv
    subst rv
    exact call_abs pins s σ H _ us Q I r ⟨i, rfl, k.sc rfl⟩
  · cases e
end
end Tw
end
section
set_option maxRecDepth 100000
namespace Tw
open PySem PySem.Spec PyProof.Rows L2

theorem Good.writeL {mg : Str → Option Value} {c : Fx} {σ : Sg} {H : Hp} {ρ : Ro} {ts : List D} {tv : List V} {r : Option A} {v : V} {fp : Pl → List Addr} {i : Nat} {bb : Bool} {xs xs' : List D} (g : Good mg c σ H ρ ts tv r v fp) (hx : at_ ρ i = some (.l bb xs)) :
    ∃ a vs, atS σ i = some (.ref a) ∧ H a = some (.lst vs) ∧ Reps mg (Zof c fp) H xs vs ∧ ∀ vs', Reps mg (Zof c fp) H xs' vs' → ∃ fp', Good mg c σ (upd H a (.lst vs')) (ρ.set i (some (.l bb xs'))) ts tv r v fp' ∧ ∀ d u, Rep mg (Zof c fp) H d u → Rep mg (Zof c fp') (upd H a (.lst vs')) d u := by
  obtain ⟨u, hu, a, vs, rfl, hf, ho, rk⟩ := g.ent (some i) _ hx
  refine ⟨a, vs, hu, ho, rk, fun vs' rk' => ?_⟩
  have hz : ∀ b, Zof c (fpS fp i [a]) b ↔ Zof c fp b := fun b => by
    have : fpS fp i [a] = fp := by
      funext p
      by_cases hp : p = some i
      · subst hp; rw [fpS_self, hf]
      · exact fpS_ne hp
    rw [this]
  have lift : ∀ b w, ¬ Zof c fp b → Rd H b w → ¬ Zof c (fpS fp i [a]) b ∧ Rd (upd H a (.lst vs')) b w := fun b w z h => by
    refine ⟨fun q => z ((hz b).mp q), ?_⟩
    have hne : b ≠ a := fun e => z (.inr ⟨some i, by rw [hf, e]; exact List.mem_cons_self⟩)
    rcases h with h | ⟨q, h, l⟩
    · exact .inl (by rw [upd_ne hne]; exact h)
    · exact .inr ⟨q, by rw [upd_ne hne]; exact h, l⟩
  refine ⟨fpS fp i [a], g.write (x' := .l bb xs') (q := [a]) hx hu (fun b o e hb => ?_) (fun b hb => ?_) rfl (by simp) (fun b hb => .inl (by rw [hf]; exact hb)) ⟨a, vs', rfl, rfl, upd_same, rk'.mono lift⟩, fun d u r => r.mono lift⟩
  · have hne : b ≠ a := fun e => hb (by rw [hf, e]; exact List.mem_cons_self)
    rw [upd_ne hne]; exact e
  · by_cases e : b = a
    · subst e; rw [upd_same]; simp
    · rw [upd_ne e]; exact hb

def inlD : Sum D Nat → Option D
  | .inl d => some d
  | .inr _ => none
def lstA : Option A → Option (Bool × List D)
  | some (.l b xs) => some (b, xs)
  | _ => none
theorem lstA_some {x : Option A} {b : Bool} {xs : List D} : lstA x = some (b, xs) ↔ x = some (.l b xs) := by
  cases x with
  | none => simp [lstA]
  | some y => cases y <;> simp [lstA]
/-- x.append(e) -/
def appE (i : Nat) (p : Opd) : EF := fun ρ => (lstA (at_ ρ i)).bind fun _ => (ev1 p ρ).bind fun x => (inlD x.1).bind fun d => (lstA (at_ x.2 i)).bind fun y => if y.2.length < 16777216 then some (.d .non, x.2.set i (some (.l y.1 (y.2 ++ [d])))) else none
section
variable {X : Cx} {a b value : Expr} {o p : Opd} {f : EF} {pos : Pos}
theorem slot_list {mg : Str → Option Value} {c : Fx} {σ : Sg} {H : Hp} {ρ : Ro} {ts : List D} {tv : List V} {r : Option A} {v : V} {i : Nat} {y : Bool × List D} (s : SR mg c σ H ρ ts tv r v) (e : lstA (at_ ρ i) = some y) : ∃ a vs, atS σ i = some (.ref a) ∧ H a = some (.lst vs) := by
  obtain ⟨fp, g⟩ := s
  obtain ⟨u, hu, a, vs, rfl, hf, ho, rk⟩ := g.ent (some i) _ (lstA_some.mp e)
  exact ⟨a, vs, hu, ho⟩
theorem e_append (i : Nat) {x : Str} {px apos cpos : Pos} (hb : OI X a o) (hN : X.N[i]? = some x := by rfl) (hv : Vis X.env.scope x := by first | exact Or.inl rfl | exact Or.inr (Or.inl rfl) | exact Or.inr (Or.inr rfl)) (hdb : (x == ("__debug__" : Str)) = false := by decide)
    (hcd : (x == ("__classdict__" : Str)) = false := by decide) (hbase : attributeBase (.Name x px) "append" X.env (eval (.Name x px) X.env) = eval (.Name x px) X.env := by rfl)
    (hfew : ((backTo cpos (starEach [a] X.env)).all (fun x => !x.1) && (backToKw cpos (keywordEach [] X.env)).all (fun x => x.1.isSome)
      && decide (([a] : List Expr).length + ([] : List Keyword).length + (if ([] : List Keyword).isEmpty then 0 else 1) < 30)) = true := by rfl)
    (hline : (apos.endLine == cpos.line) = true := by rfl) (hs : starEach [a] X.env = (false, eval a X.env) :: starEach [] X.env := by rfl) : EI X (.Call (.Attribute (.Name x px) "append" apos) [a] [] cpos) (appE i o) :=
  (pe_bm PySem.F.plainAttrs_list PySem.F.slot_list_append PySem.F.type_list_append mt_append (pe_var hN hv hdb hcd) (pa_cons hb pa_nil hs) hbase hfew hline hs).imp fun σ H Q h => by
  obtain ⟨c, ρ, ts, tv, r, ρ', s, e, k⟩ := h
  obtain ⟨y0, e0, e⟩ := bind_some.mp (show (lstA (at_ ρ i)).bind _ = _ from e)
  obtain ⟨⟨x1, ρ1⟩, e1, e⟩ := bind_some.mp e
  obtain ⟨d, e2, e⟩ := bind_some.mp e
  obtain ⟨⟨bb, xs⟩, e3, e⟩ := bind_some.mp e
  split at e
  case isFalse => cases e
  rename_i hl
  cases e
  obtain ⟨p0, vs0, hu0, h0⟩ := slot_list s e0
  refine ⟨.ref p0, atS_of.mp hu0, .inl ⟨rfl, _, .inl (.inl h0)⟩, tO_go s e1 fun w H1 s1 hw => ?_⟩
  obtain ⟨fp, g1⟩ := s1
  obtain ⟨g0, ra⟩ := g1.pop1 hw
  cases x1 with
  | inr j => cases e2
  | inl d' =>
    cases e2
    obtain ⟨p1, vs, hu, ho, rk, wr⟩ := g0.writeL (xs' := xs ++ [d]) (lstA_some.mp e3)
    cases hu.symm.trans hu0
    obtain ⟨fp', g3, _⟩ := wr _ (rk.append ⟨w, [], rfl, ra, rfl⟩)
    exact ⟨_, vs, w, rfl, rfl, ho, by rw [← rk.length, sizeLine_eq]; exact hl, k _ _ ⟨_, g3.put (show Rep X.mg _ _ .non .non from rfl)⟩⟩
/-- x[j] = e, a list or a dict -/
def putA (x : Option A) (j v : D) : Option A := match x with
  | some (.l b xs) => (intD j).bind fun n => (ixN xs.length n).map fun k => .l b (xs.set k v)
  | some (.k b kvs) => (toKey j).bind fun k => if kvs.length < 16777216 then some (.k b (putD kvs k v)) else none
  | _ => none
def stS (i : Nat) (p : Opd) (f : EF) : SF := fun ρ => (dv f ρ).bind fun v => (at_ v.2 i).bind fun _ => (ev1 p v.2).bind fun j => (res j.2 j.1).bind fun jd => (putA (at_ j.2 i) jd v.1).map fun x => (.nx, j.2.set i (some x))
theorem s_store (i : Nat) {x : Str} {px pos' : Pos} (hu : X.A.units + 1 < cLine) (hv : EI X value f) (hi : OI X a o) (hN : X.N[i]? = some x := by rfl) (hvs : Vis X.env.scope x := by first | exact Or.inl rfl | exact Or.inr (Or.inl rfl) | exact Or.inr (Or.inr rfl)) (hdb : (x == ("__debug__" : Str)) = false := by decide)
    (hcd : (x == ("__classdict__" : Str)) = false := by decide) (h1 : swapsWith value (some (.Subscript (.Name x px) a pos')) pos.line X.env = pure false := by rfl)
    (h2 : swapsWithSole [.Subscript (.Name x px) a pos'] value pos.line X.env = pure false := by rfl) (h3 : swappedStores [.Subscript (.Name x px) a pos'] value X.env = pure none := by rfl)
    (h4 : (assignEach [.Subscript (.Name x px) a pos'] X.env).map (·.2) = [assign (.Subscript (.Name x px) a pos') X.env] := by rfl)
    (h5 : ∀ v, assign (.Subscript (.Name x px) a pos') X.env v = (do
      let ov ← holding [v] (eval (.Name x px) X.env)
      let iv ← holding [v, ov] (eval a X.env)
      standAt pos'
      holding [v, ov, iv] (setItem ov iv v)
      release [v, ov, iv] []) := by intro _; rfl) : SI X (.Assign [.Subscript (.Name x px) a pos'] value pos) (stS i o f) :=
  (PS.or (ps_asg hv (pg_sub (pe_var hN hvs hdb hcd) hi set_list h5) h2 h3 h4) (ps_dput hu (pe_var hN hvs hdb hcd) hi hv h1)).imp fun D σ H h => by
  obtain ⟨c, ρ, ts, tv, r, ρ', s, e, k⟩ := h
  obtain ⟨⟨d, ρ1⟩, e1, e⟩ := bind_some.mp (show (dv f ρ).bind _ = _ from e)
  obtain ⟨y0, e0, e⟩ := bind_some.mp e
  obtain ⟨⟨x2, ρ2⟩, e2, e⟩ := bind_some.mp e
  obtain ⟨jd, e3, e⟩ := bind_some.mp e
  obtain ⟨y, e4, e⟩ := map_some.mp e
  cases e
  have e4 : putA (at_ ρ2 i) jd d = some y := e4
  cases hat : at_ ρ2 i with
  | none => rw [hat] at e4; cases e4
  | some z =>
    rw [hat] at e4
    cases z with
    | d _ => cases e4
    | i _ _ _ => cases e4
    | t _ _ => cases e4
    | p _ _ _ => cases e4
    | ex _ _ _ => cases e4
    | box _ _ _ => cases e4
    | hole _ => cases e4
    | l bb xs =>
      left
      obtain ⟨n, e5, e6⟩ := bind_some.mp (show (intD jd).bind _ = _ from e4)
      obtain ⟨kk, e7, e8⟩ := map_some.mp e6
      cases e8
      refine tE_dv s e1 fun w H1 s1 => ?_
      obtain ⟨u, hu⟩ : ∃ u, atS σ i = some u := by
        obtain ⟨fp, g⟩ := id s1
        obtain ⟨u, hu, _⟩ := g.ent (some i) _ e0
        exact ⟨u, hu⟩
      refine ⟨u, atS_of.mp hu, tO_go s1 e2 fun w2 H2 s2 hw => ?_⟩
      obtain ⟨fp, g2⟩ := s2
      obtain ⟨g1, ra⟩ := g2.pop1 hw
      have rj := g1.res ra e3
      obtain ⟨w', tw', eq, rd, tt⟩ := g1.tmp
      cases eq
      have g0 := g1.pops (xs := [d]) (ys := [w]) rfl
      obtain ⟨p1, vs, hu1, ho, rk, wr⟩ := g0.writeL (xs' := xs.set kk d) hat
      cases hu.symm.trans hu1
      obtain ⟨fp', g3, _⟩ := wr _ (rk.set rd kk)
      have hj : w2 = .int n := by cases jd <;> cases e5; exact rj
      exact ⟨p1, vs, n, kk, rfl, hj, ho, by rw [← rk.length]; exact e7, k _ _ ⟨_, g3⟩⟩
    | k bb kvs =>
      right
      obtain ⟨n, e5, e6⟩ := bind_some.mp (show (toKey jd).bind _ = _ from e4)
      split at e6
      case isFalse => cases e6
      rename_i hl
      cases e6
      refine tE_dv s e1 fun w H1 s1 => ?_
      obtain ⟨u, hu⟩ : ∃ u, atS σ i = some u := by
        obtain ⟨fp, g⟩ := id s1
        obtain ⟨u, hu, _⟩ := g.ent (some i) _ e0
        exact ⟨u, hu⟩
      refine ⟨u, atS_of.mp hu, tO_go s1 e2 fun w2 H2 s2 hw => ?_⟩
      obtain ⟨fp, g2⟩ := s2
      obtain ⟨g1, ra⟩ := g2.pop1 hw
      have rj := g1.res ra e3
      obtain ⟨w', tw', eq, rd, tt⟩ := g1.tmp
      cases eq
      have g0 := g1.pops (xs := [d]) (ys := [w]) rfl
      obtain ⟨p1, vs, hu1, ho, rk, wr⟩ := g0.writeK (kvs' := putD kvs n d) hat
      cases hu.symm.trans hu1
      obtain ⟨fp', g3, _⟩ := wr _ (rk.put rd)
      have hj : w2 = kV n := by cases jd <;> cases e5 <;> exact rj
      subst hj
      exact ⟨p1, _, rfl, DPut.k ho (by rw [← repK_len rk, sizeLine_eq]; exact hl), k _ _ ⟨_, g3⟩⟩
/-- x, y = a, b -/
def parS (i j : Nat) (o p : Opd) : SF := fun ρ => (evs [o, p] ρ).bind fun x => (onlyD x.1).bind fun ds => match ds with
  | [d, d'] => if okOld x.2 i = true then (if okOld (x.2.set i (some (.d d))) j = true then some (.nx, (x.2.set i (some (.d d))).set j (some (.d d'))) else none) else none
  | _ => none
def tyD : D → Option String
  | .non => some "NoneType"
  | .bl _ => some "bool"
  | .int _ => some "int"
  | .str _ => some "str"
  | .lst _ => some "list"
  | .tup _ => some "tuple"
  | .dic _ => some "dict"
  | _ => none
def subT (a T : String) : Bool := a == T || (a == "bool" && T == "int")
def isiE (o : Opd) (T : String) : EF := fun ρ => (ev1 o ρ).bind fun x => (res x.2 x.1).bind fun d => (tyD d).map fun t => (.d (.bl (subT t T)), x.2)
end
end Tw
end
section
set_option maxRecDepth 100000
namespace Tw
open PySem PySem.Spec PyProof.Rows L2

/-- what is told of a class: its address -/
structure ClsF (X : Cx) (cn : Str) (C : Addr) : Prop where
  mg : X.mg cn = some (.ref C)
  cls : Cls X.K C
def insD : D → Option (Str × List (Str × D))
  | .ins c fs => some (c, fs)
  | _ => none
def fldE (cn f : Str) (o : Opd) : EF := fun ρ => (ev1 o ρ).bind fun x => (res x.2 x.1).bind fun d => (insD d).bind fun y => if y.1 = cn then (y.2.lookup f).map fun r => (.d r, x.2) else none
section
variable {mg : Str → Option Value} {Z : Addr → Prop} {H : Hp}
end
section
variable {X : Cx} {a b value : Expr} {o p : Opd} {f : EF} {pos apos cpos : Pos} {cn fn : Str} {C : Addr}
def mkE (cn : Str) (os : List Opd) (F : F1) : EF := fun ρ => (evs os ρ).bind fun x => (onlyD x.1).bind fun ds => (F (.i true cn []) ds).bind fun y => match y with
  | (.d .non, .i true c fs) => if c = cn then some (.i false c fs, x.2) else none
  | _ => none
end
end Tw
end
section
set_option maxRecDepth 100000
namespace Tw
open PySem PySem.Spec PyProof.Rows L2

def putAF (f : Str) (x : A) : List (Str × A) → List (Str × A)
  | [] => [(f, x)]
  | (g, y) :: r => if g = f then (g, x) :: r else (g, y) :: putAF f x r
def insA : Option A → Option (Bool × Str × List (Str × A))
  | some (.i b c fs) => some (b, c, fs)
  | _ => none
/-- x.f = e -/
def fldS (i : Nat) (cn fn : Str) (f : EF) : SF := fun ρ => (dv f ρ).bind fun v => (insA (at_ v.2 i)).bind fun y => if y.2.1 = cn ∧ y.2.2.length < 1000 then some (.nx, v.2.set i (some (.i y.1 y.2.1 (putAF fn (.d v.1) y.2.2)))) else none
section
variable {X : Cx} {a b value : Expr} {o p : Opd} {f : EF} {pos apos cpos : Pos} {cn fn : Str} {C : Addr}
end

structure EqF (X : Cx) (cn : Str) (C f : Addr) : Prop where
  c : ClsF X cn C
  eq : PySem.W.findIn X.K (.ref C) "__eq__" = some (some (.ref f))
  fn : PySem.W.isFn X.K (.ref f) = true
  ne : PySem.W.findIn X.K (.ref C) "__ne__" = some (some (.builtin "object.__ne__"))
  ob : PySem.W.mroIn X.K C (.type "object") = some true
section
variable {X : Cx} {k : Nat} {f C : Addr} {fd : FuncData} {ps : List Str} {cn : Str}
end
end Tw
end
section
set_option maxRecDepth 100000
namespace Tw
open PySem PySem.Spec PyProof.Rows L2
open PySem.SeqAt PySem.MeetsSeq PySem.MeetsSeq2 PySem.MeetsSeq3
open AutoSeq1 (wpAny_loadPart')
/-- an object that is a dict -/
def IsDic (h : Heap) (a : Addr) : Prop := ∃ dd es n sl, h.get? a = some { cls := .type "dict", dict := dd, data := .dict es n, slots := sl }
theorem IsDic.ty {s : Shared} {a : Addr} (h : IsDic s.heap a) : s.TypeIs (.ref a) "dict" := let ⟨_, _, _, _, e⟩ := h; ⟨_, e, rfl⟩
section
variable {prog : Program} {w : World} {A : Around} {E : Value → Shared → Prop} {s : Shared}

theorem dict_dec_eq {a : Addr} {x : Value} {T : String} {Q : Value → Shared → Prop} (da : s.TypeIs (.ref a) "dict") (hx : s.TypeIs x T) (hs : isSubtype (.type T) (.type "dict") = pure false) (h : Q .notImplemented s) :
    wpAny (model prog w) A (call (.builtin "dict.__eq__") [.ref a, x]) Q E s := by
  refine wpAny_call_entry PySem.F.slot_dict_eq da PySem.F.entry_dict_eq (b := Builtin.«dict.__eq__») (rest := [x]) ?_ (PySem.F.args_dict_eq_2 _ _)
  show wpAny _ _ (bind (Builtin.Dict.dictSlotArgs "__eq__" ⟨.ref a :: [x], []⟩) _) _ _ _
  unfold Builtin.Dict.dictSlotArgs
  refine wpAny_bind (wpAny_bind (wpAny_notOrdered_dict da (show wpAny _ _ (pure (Value.ref a, x)) _ _ _ from wpAny_pure ?_)))
  refine wpAny_bind (wpAny_isInstance hx hs ?_)
  rw [Bool.not_false, if_pos rfl]
  exact wpAny_bind (wpAny_rule (wpAny_pure ⟨_, rfl, h⟩))
theorem dict_dec_ne {a : Addr} {x : Value} {T : String} {Q : Value → Shared → Prop} (da : s.TypeIs (.ref a) "dict") (hx : s.TypeIs x T) (hs : isSubtype (.type T) (.type "dict") = pure false) (h : Q .notImplemented s) :
    wpAny (model prog w) A (call (.builtin "dict.__ne__") [.ref a, x]) Q E s := by
  refine wpAny_call_entry PySem.F.slot_dict_ne da PySem.F.entry_dict_ne (b := Builtin.«dict.__ne__») (rest := [x]) ?_ (PySem.F.args_dict_ne_2 _ _)
  show wpAny _ _ (bind (Builtin.Dict.dictSlotArgs "__ne__" ⟨.ref a :: [x], []⟩) _) _ _ _
  unfold Builtin.Dict.dictSlotArgs
  refine wpAny_bind (wpAny_bind (wpAny_notOrdered_dict da (show wpAny _ _ (pure (Value.ref a, x)) _ _ _ from wpAny_pure ?_)))
  refine wpAny_bind (wpAny_isInstance hx hs ?_)
  rw [Bool.not_false, if_pos rfl]
  exact wpAny_bind (wpAny_rule (wpAny_pure ⟨_, rfl, h⟩))
end
theorem bool_dec_eq (b : Bool) (l : Addr) (c : Value) (es : Array DictEntry) (n : Nat) (dd : Option Addr) (sl : Array (Option Value)) :
    Meets (Builtin.«int.__eq__» ⟨[.bool b, .ref l], []⟩) (fun _ R s => s.heap.get? l = some { cls := c, dict := dd, data := .dict es n, slots := sl } ∧ R (.ok (.ret .notImplemented)) s) :=
  .of_wp fun prog w A R s h => by
    obtain ⟨hp, g, d, tk, os⟩ := s
    obtain ⟨hl, h⟩ := h
    wp_walk using wpAny_loadPart' hl, wpAny_load hl
    exact ⟨_, rfl, h⟩
theorem int_dec_eq (b : Int) (u : Tok) (l : Addr) (c : Value) (es : Array DictEntry) (n : Nat) (dd : Option Addr) (sl : Array (Option Value)) :
    Meets (Builtin.«int.__eq__» ⟨[.int b u, .ref l], []⟩) (fun _ R s => s.heap.get? l = some { cls := c, dict := dd, data := .dict es n, slots := sl } ∧ R (.ok (.ret .notImplemented)) s) :=
  .of_wp fun prog w A R s h => by
    obtain ⟨hp, g, d, tk, os⟩ := s
    obtain ⟨hl, h⟩ := h
    wp_walk using wpAny_loadPart' hl, wpAny_load hl
    exact ⟨_, rfl, h⟩
theorem str_dec_eq (b : Str) (u : Tok) (l : Addr) (c : Value) (es : Array DictEntry) (n : Nat) (dd : Option Addr) (sl : Array (Option Value)) :
    Meets (Builtin.«str.__eq__» ⟨[.str b u, .ref l], []⟩) (fun _ R s => s.heap.get? l = some { cls := c, dict := dd, data := .dict es n, slots := sl } ∧ R (.ok (.ret .notImplemented)) s) :=
  .of_wp fun prog w A R s h => by
    obtain ⟨hp, g, d, tk, os⟩ := s
    obtain ⟨hl, h⟩ := h
    wp_walk using wpAny_loadPart' hl, wpAny_load hl
    exact ⟨_, rfl, h⟩
theorem list_dec_eq (l b : Addr) (items : Array Value) (es : Array DictEntry) (n n2 : Nat) (dd dd2 : Option Addr) (sl sl2 : Array (Option Value)) :
    Meets (Builtin.«list.__eq__» ⟨[.ref l, .ref b], []⟩) (fun _ R s => s.heap.get? l = some { cls := .type "list", dict := dd, data := .seq items n, slots := sl } ∧ s.heap.get? b = some { cls := .type "dict", dict := dd2, data := .dict es n2, slots := sl2 } ∧ R (.ok (.ret .notImplemented)) s) :=
  .of_wp fun prog w A R s h => by
    obtain ⟨hp, g, d, tk, os⟩ := s
    obtain ⟨hl, hb, h⟩ := h
    have f1 := F.sub_dict_list
    wp_walk using wpAny_loadPart' hl, wpAny_loadPart' hb
    exact ⟨_, rfl, h⟩
theorem tuple_dec_eq (l b : Addr) (items : Array Value) (es : Array DictEntry) (n n2 : Nat) (dd dd2 : Option Addr) (sl sl2 : Array (Option Value)) :
    Meets (Builtin.«tuple.__eq__» ⟨[.ref l, .ref b], []⟩) (fun _ R s => s.heap.get? l = some { cls := .type "tuple", dict := dd, data := .seq items n, slots := sl } ∧ s.heap.get? b = some { cls := .type "dict", dict := dd2, data := .dict es n2, slots := sl2 } ∧ R (.ok (.ret .notImplemented)) s) :=
  .of_wp fun prog w A R s h => by
    obtain ⟨hp, g, d, tk, os⟩ := s
    obtain ⟨hl, hb, h⟩ := h
    have f1 := F.sub_dict_tuple
    wp_walk using wpAny_loadPart' hl, wpAny_loadPart' hb
    exact ⟨_, rfl, h⟩
theorem bool_dec_ne (b : Bool) (l : Addr) (c : Value) (es : Array DictEntry) (n : Nat) (dd : Option Addr) (sl : Array (Option Value)) :
    Meets (Builtin.«int.__ne__» ⟨[.bool b, .ref l], []⟩) (fun _ R s => s.heap.get? l = some { cls := c, dict := dd, data := .dict es n, slots := sl } ∧ R (.ok (.ret .notImplemented)) s) :=
  .of_wp fun prog w A R s h => by
    obtain ⟨hp, g, d, tk, os⟩ := s
    obtain ⟨hl, h⟩ := h
    wp_walk using wpAny_loadPart' hl, wpAny_load hl
    exact ⟨_, rfl, h⟩
theorem int_dec_ne (b : Int) (u : Tok) (l : Addr) (c : Value) (es : Array DictEntry) (n : Nat) (dd : Option Addr) (sl : Array (Option Value)) :
    Meets (Builtin.«int.__ne__» ⟨[.int b u, .ref l], []⟩) (fun _ R s => s.heap.get? l = some { cls := c, dict := dd, data := .dict es n, slots := sl } ∧ R (.ok (.ret .notImplemented)) s) :=
  .of_wp fun prog w A R s h => by
    obtain ⟨hp, g, d, tk, os⟩ := s
    obtain ⟨hl, h⟩ := h
    wp_walk using wpAny_loadPart' hl, wpAny_load hl
    exact ⟨_, rfl, h⟩
theorem str_dec_ne (b : Str) (u : Tok) (l : Addr) (c : Value) (es : Array DictEntry) (n : Nat) (dd : Option Addr) (sl : Array (Option Value)) :
    Meets (Builtin.«str.__ne__» ⟨[.str b u, .ref l], []⟩) (fun _ R s => s.heap.get? l = some { cls := c, dict := dd, data := .dict es n, slots := sl } ∧ R (.ok (.ret .notImplemented)) s) :=
  .of_wp fun prog w A R s h => by
    obtain ⟨hp, g, d, tk, os⟩ := s
    obtain ⟨hl, h⟩ := h
    wp_walk using wpAny_loadPart' hl, wpAny_load hl
    exact ⟨_, rfl, h⟩
theorem list_dec_ne (l b : Addr) (items : Array Value) (es : Array DictEntry) (n n2 : Nat) (dd dd2 : Option Addr) (sl sl2 : Array (Option Value)) :
    Meets (Builtin.«list.__ne__» ⟨[.ref l, .ref b], []⟩) (fun _ R s => s.heap.get? l = some { cls := .type "list", dict := dd, data := .seq items n, slots := sl } ∧ s.heap.get? b = some { cls := .type "dict", dict := dd2, data := .dict es n2, slots := sl2 } ∧ R (.ok (.ret .notImplemented)) s) :=
  .of_wp fun prog w A R s h => by
    obtain ⟨hp, g, d, tk, os⟩ := s
    obtain ⟨hl, hb, h⟩ := h
    have f1 := F.sub_dict_list
    wp_walk using wpAny_loadPart' hl, wpAny_loadPart' hb
    exact ⟨_, rfl, h⟩
theorem tuple_dec_ne (l b : Addr) (items : Array Value) (es : Array DictEntry) (n n2 : Nat) (dd dd2 : Option Addr) (sl sl2 : Array (Option Value)) :
    Meets (Builtin.«tuple.__ne__» ⟨[.ref l, .ref b], []⟩) (fun _ R s => s.heap.get? l = some { cls := .type "tuple", dict := dd, data := .seq items n, slots := sl } ∧ s.heap.get? b = some { cls := .type "dict", dict := dd2, data := .dict es n2, slots := sl2 } ∧ R (.ok (.ret .notImplemented)) s) :=
  .of_wp fun prog w A R s h => by
    obtain ⟨hp, g, d, tk, os⟩ := s
    obtain ⟨hl, hb, h⟩ := h
    have f1 := F.sub_dict_tuple
    wp_walk using wpAny_loadPart' hl, wpAny_loadPart' hb
    exact ⟨_, rfl, h⟩
section
variable {A : Around} {s : Shared}
theorem RcAtD.dict_none {a : Addr} (hd : IsDic s.heap a) (hu : A.units < cLine) : RcAt A s (.ref a) .none false := fun prog w E Q h => by
  obtain ⟨dd, es, n, sl, ho⟩ := id hd
  exact rc_eq_decline_or (k := false) hd.ty rfl (by decide) F.sub_NoneType_dict F.slot_dict_eq F.slot_NoneType_eq_refl
    (fun _ hq => dict_dec_eq hd.ty rfl F.sub_NoneType_dict hq) (fun _ hq => call_gives F.slot_NoneType_eq_refl rfl F.entry_NoneType_eq (F.args_NoneType_eq_2 _ _) (NoneType___eq___none_ref_0 a) hq)
    (fun _ hq => wpAny_of_eq (rfl : isSame (.ref a) .none = pure false) hq) (.inr hu) h
theorem RcAtD.none_dict {a : Addr} (hd : IsDic s.heap a) (hu : A.units < cLine) : RcAt A s .none (.ref a) false := fun prog w E Q h => by
  obtain ⟨dd, es, n, sl, ho⟩ := id hd
  exact rc_eq_decline_or (k := false) rfl hd.ty (by decide) F.sub_dict_NoneType F.slot_NoneType_eq F.slot_dict_eq_refl
    (fun _ hq => call_gives F.slot_NoneType_eq rfl F.entry_NoneType_eq (F.args_NoneType_eq_2 _ _) (NoneType___eq___none_ref_0 a) hq) (fun _ hq => dict_dec_eq hd.ty rfl F.sub_NoneType_dict hq)
    (fun _ hq => wpAny_of_eq (rfl : isSame .none (.ref a) = pure false) hq) (.inr hu) h
theorem RcAtD.dict_bool {a : Addr} (b : Bool) (hd : IsDic s.heap a) (hu : A.units < cLine) : RcAt A s (.ref a) (.bool b) false := fun prog w E Q h => by
  obtain ⟨dd, es, n, sl, ho⟩ := id hd
  exact rc_eq_decline_or (k := false) hd.ty rfl (by decide) F.sub_bool_dict F.slot_dict_eq F.slot_bool_eq_refl
    (fun _ hq => dict_dec_eq hd.ty rfl F.sub_bool_dict hq) (fun _ hq => call_meets F.slot_bool_eq_refl rfl F.entry_int_eq (F.args_int_eq_2 _ _) (bool_dec_eq b a _ es n dd sl) ⟨ho, hq⟩)
    (fun _ hq => wpAny_of_eq (rfl : isSame (.ref a) (.bool b) = pure false) hq) (.inr hu) h
theorem RcAtD.bool_dict {a : Addr} (b : Bool) (hd : IsDic s.heap a) (hu : A.units < cLine) : RcAt A s (.bool b) (.ref a) false := fun prog w E Q h => by
  obtain ⟨dd, es, n, sl, ho⟩ := id hd
  exact rc_eq_decline_or (k := false) rfl hd.ty (by decide) F.sub_dict_bool F.slot_bool_eq F.slot_dict_eq_refl
    (fun _ hq => call_meets F.slot_bool_eq rfl F.entry_int_eq (F.args_int_eq_2 _ _) (bool_dec_eq b a _ es n dd sl) ⟨ho, hq⟩) (fun _ hq => dict_dec_eq hd.ty rfl F.sub_bool_dict hq)
    (fun _ hq => wpAny_of_eq (rfl : isSame (.bool b) (.ref a) = pure false) hq) (.inr hu) h
theorem RcAtD.dict_int {a : Addr} (b : Int) (u : Tok) (hd : IsDic s.heap a) (hu : A.units < cLine) : RcAt A s (.ref a) (.int b u) false := fun prog w E Q h => by
  obtain ⟨dd, es, n, sl, ho⟩ := id hd
  exact rc_eq_decline_or (k := false) hd.ty (typeIs_int s b u) (by decide) F.sub_int_dict F.slot_dict_eq F.slot_int_eq_refl
    (fun _ hq => dict_dec_eq hd.ty (typeIs_int s b u) F.sub_int_dict hq) (fun _ hq => call_meets F.slot_int_eq_refl (typeIs_int s b u) F.entry_int_eq (F.args_int_eq_2 _ _) (int_dec_eq b u a _ es n dd sl) ⟨ho, hq⟩)
    (fun _ hq => wpAny_of_eq (rfl : isSame (.ref a) (.int b u) = pure false) hq) (.inr hu) h
theorem RcAtD.int_dict {a : Addr} (b : Int) (u : Tok) (hd : IsDic s.heap a) (hu : A.units < cLine) : RcAt A s (.int b u) (.ref a) false := fun prog w E Q h => by
  obtain ⟨dd, es, n, sl, ho⟩ := id hd
  exact rc_eq_decline_or (k := false) (typeIs_int s b u) hd.ty (by decide) F.sub_dict_int F.slot_int_eq F.slot_dict_eq_refl
    (fun _ hq => call_meets F.slot_int_eq (typeIs_int s b u) F.entry_int_eq (F.args_int_eq_2 _ _) (int_dec_eq b u a _ es n dd sl) ⟨ho, hq⟩) (fun _ hq => dict_dec_eq hd.ty (typeIs_int s b u) F.sub_int_dict hq)
    (fun _ hq => wpAny_of_eq (rfl : isSame (.int b u) (.ref a) = pure false) hq) (.inr hu) h
theorem RcAtD.dict_str {a : Addr} (b : Str) (u : Tok) (hd : IsDic s.heap a) (hu : A.units < cLine) : RcAt A s (.ref a) (.str b u) false := fun prog w E Q h => by
  obtain ⟨dd, es, n, sl, ho⟩ := id hd
  exact rc_eq_decline_or (k := false) hd.ty (typeIs_str s b u) (by decide) F.sub_str_dict F.slot_dict_eq F.slot_str_eq_refl
    (fun _ hq => dict_dec_eq hd.ty (typeIs_str s b u) F.sub_str_dict hq) (fun _ hq => call_meets F.slot_str_eq_refl (typeIs_str s b u) F.entry_str_eq (F.args_str_eq_2 _ _) (str_dec_eq b u a _ es n dd sl) ⟨ho, hq⟩)
    (fun _ hq => wpAny_of_eq (rfl : isSame (.ref a) (.str b u) = pure false) hq) (.inr hu) h
theorem RcAtD.str_dict {a : Addr} (b : Str) (u : Tok) (hd : IsDic s.heap a) (hu : A.units < cLine) : RcAt A s (.str b u) (.ref a) false := fun prog w E Q h => by
  obtain ⟨dd, es, n, sl, ho⟩ := id hd
  exact rc_eq_decline_or (k := false) (typeIs_str s b u) hd.ty (by decide) F.sub_dict_str F.slot_str_eq F.slot_dict_eq_refl
    (fun _ hq => call_meets F.slot_str_eq (typeIs_str s b u) F.entry_str_eq (F.args_str_eq_2 _ _) (str_dec_eq b u a _ es n dd sl) ⟨ho, hq⟩) (fun _ hq => dict_dec_eq hd.ty (typeIs_str s b u) F.sub_str_dict hq)
    (fun _ hq => wpAny_of_eq (rfl : isSame (.str b u) (.ref a) = pure false) hq) (.inr hu) h
theorem RcAtD.dict_list {a l : Addr} {items : Array Value} (hd : IsDic s.heap a) (hl : s.heap.IsList l items) (hu : A.units < cLine) : RcAt A s (.ref a) (.ref l) false := fun prog w E Q h => by
  obtain ⟨dd, es, n, sl, ho⟩ := id hd
  obtain ⟨⟨c2, dd2, data2, sl2⟩, ho2, hc2, n2, hd2⟩ := id hl
  obtain rfl : c2 = _ := hc2
  obtain rfl : data2 = _ := hd2
  have hne : a ≠ l := fun e => by subst e; rw [ho] at ho2; simp at ho2
  exact rc_eq_decline_or (k := false) hd.ty ⟨_, ho2, rfl⟩ (by decide) F.sub_list_dict F.slot_dict_eq F.slot_list_eq_refl
    (fun _ hq => dict_dec_eq hd.ty ⟨_, ho2, rfl⟩ F.sub_list_dict hq) (fun _ hq => call_meets F.slot_list_eq_refl ⟨_, ho2, rfl⟩ F.entry_list_eq (F.args_list_eq_2 _ _) (list_dec_eq l a items es n2 n dd2 dd sl2 sl) ⟨ho2, ho, hq⟩)
    (fun _ hq => wpAny_isSame_ref_other hne ho ho2 (by simp) hq) (.inr hu) h
theorem RcAtD.list_dict {a l : Addr} {items : Array Value} (hd : IsDic s.heap a) (hl : s.heap.IsList l items) (hu : A.units < cLine) : RcAt A s (.ref l) (.ref a) false := fun prog w E Q h => by
  obtain ⟨dd, es, n, sl, ho⟩ := id hd
  obtain ⟨⟨c2, dd2, data2, sl2⟩, ho2, hc2, n2, hd2⟩ := id hl
  obtain rfl : c2 = _ := hc2
  obtain rfl : data2 = _ := hd2
  have hne : l ≠ a := fun e => by subst e; rw [ho] at ho2; simp at ho2
  exact rc_eq_decline_or (k := false) ⟨_, ho2, rfl⟩ hd.ty (by decide) F.sub_dict_list F.slot_list_eq F.slot_dict_eq_refl
    (fun _ hq => call_meets F.slot_list_eq ⟨_, ho2, rfl⟩ F.entry_list_eq (F.args_list_eq_2 _ _) (list_dec_eq l a items es n2 n dd2 dd sl2 sl) ⟨ho2, ho, hq⟩) (fun _ hq => dict_dec_eq hd.ty ⟨_, ho2, rfl⟩ F.sub_list_dict hq)
    (fun _ hq => wpAny_isSame_ref_other' hne ho2 ho (by simp) hq) (.inr hu) h
theorem RcAtD.dict_tuple {a l : Addr} {items : Array Value} (hd : IsDic s.heap a) (hl : s.heap.IsTuple l items) (hu : A.units < cLine) : RcAt A s (.ref a) (.ref l) false := fun prog w E Q h => by
  obtain ⟨dd, es, n, sl, ho⟩ := id hd
  obtain ⟨⟨c2, dd2, data2, sl2⟩, ho2, hc2, n2, hd2⟩ := id hl
  obtain rfl : c2 = _ := hc2
  obtain rfl : data2 = _ := hd2
  have hne : a ≠ l := fun e => by subst e; rw [ho] at ho2; simp at ho2
  exact rc_eq_decline_or (k := false) hd.ty ⟨_, ho2, rfl⟩ (by decide) F.sub_tuple_dict F.slot_dict_eq F.slot_tuple_eq_refl
    (fun _ hq => dict_dec_eq hd.ty ⟨_, ho2, rfl⟩ F.sub_tuple_dict hq) (fun _ hq => call_meets F.slot_tuple_eq_refl ⟨_, ho2, rfl⟩ F.entry_tuple_eq (F.args_tuple_eq_2 _ _) (tuple_dec_eq l a items es n2 n dd2 dd sl2 sl) ⟨ho2, ho, hq⟩)
    (fun _ hq => wpAny_isSame_ref_other hne ho ho2 (by simp) hq) (.inr hu) h
theorem RcAtD.tuple_dict {a l : Addr} {items : Array Value} (hd : IsDic s.heap a) (hl : s.heap.IsTuple l items) (hu : A.units < cLine) : RcAt A s (.ref l) (.ref a) false := fun prog w E Q h => by
  obtain ⟨dd, es, n, sl, ho⟩ := id hd
  obtain ⟨⟨c2, dd2, data2, sl2⟩, ho2, hc2, n2, hd2⟩ := id hl
  obtain rfl : c2 = _ := hc2
  obtain rfl : data2 = _ := hd2
  have hne : l ≠ a := fun e => by subst e; rw [ho] at ho2; simp at ho2
  exact rc_eq_decline_or (k := false) ⟨_, ho2, rfl⟩ hd.ty (by decide) F.sub_dict_tuple F.slot_tuple_eq F.slot_dict_eq_refl
    (fun _ hq => call_meets F.slot_tuple_eq ⟨_, ho2, rfl⟩ F.entry_tuple_eq (F.args_tuple_eq_2 _ _) (tuple_dec_eq l a items es n2 n dd2 dd sl2 sl) ⟨ho2, ho, hq⟩) (fun _ hq => dict_dec_eq hd.ty ⟨_, ho2, rfl⟩ F.sub_tuple_dict hq)
    (fun _ hq => wpAny_isSame_ref_other' hne ho2 ho (by simp) hq) (.inr hu) h
theorem RcNeAtD.dict_none {a : Addr} (hd : IsDic s.heap a) (hu : A.units < cLine) : RcNeAt A s (.ref a) .none true := fun prog w E Q h => by
  obtain ⟨dd, es, n, sl, ho⟩ := id hd
  exact rc_ne_decline_or (k := false) hd.ty rfl (by decide) F.sub_NoneType_dict F.slot_dict_ne F.slot_NoneType_ne_refl
    (fun _ hq => dict_dec_ne hd.ty rfl F.sub_NoneType_dict hq) (fun _ hq => call_gives F.slot_NoneType_ne_refl rfl F.entry_NoneType_ne (F.args_NoneType_ne_2 _ _) (NoneType___ne___none_ref_0 a) hq)
    (fun _ hq => wpAny_of_eq (rfl : isSame (.ref a) .none = pure false) hq) (.inr hu) h
theorem RcNeAtD.none_dict {a : Addr} (hd : IsDic s.heap a) (hu : A.units < cLine) : RcNeAt A s .none (.ref a) true := fun prog w E Q h => by
  obtain ⟨dd, es, n, sl, ho⟩ := id hd
  exact rc_ne_decline_or (k := false) rfl hd.ty (by decide) F.sub_dict_NoneType F.slot_NoneType_ne F.slot_dict_ne_refl
    (fun _ hq => call_gives F.slot_NoneType_ne rfl F.entry_NoneType_ne (F.args_NoneType_ne_2 _ _) (NoneType___ne___none_ref_0 a) hq) (fun _ hq => dict_dec_ne hd.ty rfl F.sub_NoneType_dict hq)
    (fun _ hq => wpAny_of_eq (rfl : isSame .none (.ref a) = pure false) hq) (.inr hu) h
theorem RcNeAtD.dict_bool {a : Addr} (b : Bool) (hd : IsDic s.heap a) (hu : A.units < cLine) : RcNeAt A s (.ref a) (.bool b) true := fun prog w E Q h => by
  obtain ⟨dd, es, n, sl, ho⟩ := id hd
  exact rc_ne_decline_or (k := false) hd.ty rfl (by decide) F.sub_bool_dict F.slot_dict_ne F.slot_bool_ne_refl
    (fun _ hq => dict_dec_ne hd.ty rfl F.sub_bool_dict hq) (fun _ hq => call_meets F.slot_bool_ne_refl rfl F.entry_int_ne (F.args_int_ne_2 _ _) (bool_dec_ne b a _ es n dd sl) ⟨ho, hq⟩)
    (fun _ hq => wpAny_of_eq (rfl : isSame (.ref a) (.bool b) = pure false) hq) (.inr hu) h
theorem RcNeAtD.bool_dict {a : Addr} (b : Bool) (hd : IsDic s.heap a) (hu : A.units < cLine) : RcNeAt A s (.bool b) (.ref a) true := fun prog w E Q h => by
  obtain ⟨dd, es, n, sl, ho⟩ := id hd
  exact rc_ne_decline_or (k := false) rfl hd.ty (by decide) F.sub_dict_bool F.slot_bool_ne F.slot_dict_ne_refl
    (fun _ hq => call_meets F.slot_bool_ne rfl F.entry_int_ne (F.args_int_ne_2 _ _) (bool_dec_ne b a _ es n dd sl) ⟨ho, hq⟩) (fun _ hq => dict_dec_ne hd.ty rfl F.sub_bool_dict hq)
    (fun _ hq => wpAny_of_eq (rfl : isSame (.bool b) (.ref a) = pure false) hq) (.inr hu) h
theorem RcNeAtD.dict_int {a : Addr} (b : Int) (u : Tok) (hd : IsDic s.heap a) (hu : A.units < cLine) : RcNeAt A s (.ref a) (.int b u) true := fun prog w E Q h => by
  obtain ⟨dd, es, n, sl, ho⟩ := id hd
  exact rc_ne_decline_or (k := false) hd.ty (typeIs_int s b u) (by decide) F.sub_int_dict F.slot_dict_ne F.slot_int_ne_refl
    (fun _ hq => dict_dec_ne hd.ty (typeIs_int s b u) F.sub_int_dict hq) (fun _ hq => call_meets F.slot_int_ne_refl (typeIs_int s b u) F.entry_int_ne (F.args_int_ne_2 _ _) (int_dec_ne b u a _ es n dd sl) ⟨ho, hq⟩)
    (fun _ hq => wpAny_of_eq (rfl : isSame (.ref a) (.int b u) = pure false) hq) (.inr hu) h
theorem RcNeAtD.int_dict {a : Addr} (b : Int) (u : Tok) (hd : IsDic s.heap a) (hu : A.units < cLine) : RcNeAt A s (.int b u) (.ref a) true := fun prog w E Q h => by
  obtain ⟨dd, es, n, sl, ho⟩ := id hd
  exact rc_ne_decline_or (k := false) (typeIs_int s b u) hd.ty (by decide) F.sub_dict_int F.slot_int_ne F.slot_dict_ne_refl
    (fun _ hq => call_meets F.slot_int_ne (typeIs_int s b u) F.entry_int_ne (F.args_int_ne_2 _ _) (int_dec_ne b u a _ es n dd sl) ⟨ho, hq⟩) (fun _ hq => dict_dec_ne hd.ty (typeIs_int s b u) F.sub_int_dict hq)
    (fun _ hq => wpAny_of_eq (rfl : isSame (.int b u) (.ref a) = pure false) hq) (.inr hu) h
theorem RcNeAtD.dict_str {a : Addr} (b : Str) (u : Tok) (hd : IsDic s.heap a) (hu : A.units < cLine) : RcNeAt A s (.ref a) (.str b u) true := fun prog w E Q h => by
  obtain ⟨dd, es, n, sl, ho⟩ := id hd
  exact rc_ne_decline_or (k := false) hd.ty (typeIs_str s b u) (by decide) F.sub_str_dict F.slot_dict_ne F.slot_str_ne_refl
    (fun _ hq => dict_dec_ne hd.ty (typeIs_str s b u) F.sub_str_dict hq) (fun _ hq => call_meets F.slot_str_ne_refl (typeIs_str s b u) F.entry_str_ne (F.args_str_ne_2 _ _) (str_dec_ne b u a _ es n dd sl) ⟨ho, hq⟩)
    (fun _ hq => wpAny_of_eq (rfl : isSame (.ref a) (.str b u) = pure false) hq) (.inr hu) h
theorem RcNeAtD.str_dict {a : Addr} (b : Str) (u : Tok) (hd : IsDic s.heap a) (hu : A.units < cLine) : RcNeAt A s (.str b u) (.ref a) true := fun prog w E Q h => by
  obtain ⟨dd, es, n, sl, ho⟩ := id hd
  exact rc_ne_decline_or (k := false) (typeIs_str s b u) hd.ty (by decide) F.sub_dict_str F.slot_str_ne F.slot_dict_ne_refl
    (fun _ hq => call_meets F.slot_str_ne (typeIs_str s b u) F.entry_str_ne (F.args_str_ne_2 _ _) (str_dec_ne b u a _ es n dd sl) ⟨ho, hq⟩) (fun _ hq => dict_dec_ne hd.ty (typeIs_str s b u) F.sub_str_dict hq)
    (fun _ hq => wpAny_of_eq (rfl : isSame (.str b u) (.ref a) = pure false) hq) (.inr hu) h
theorem RcNeAtD.dict_list {a l : Addr} {items : Array Value} (hd : IsDic s.heap a) (hl : s.heap.IsList l items) (hu : A.units < cLine) : RcNeAt A s (.ref a) (.ref l) true := fun prog w E Q h => by
  obtain ⟨dd, es, n, sl, ho⟩ := id hd
  obtain ⟨⟨c2, dd2, data2, sl2⟩, ho2, hc2, n2, hd2⟩ := id hl
  obtain rfl : c2 = _ := hc2
  obtain rfl : data2 = _ := hd2
  have hne : a ≠ l := fun e => by subst e; rw [ho] at ho2; simp at ho2
  exact rc_ne_decline_or (k := false) hd.ty ⟨_, ho2, rfl⟩ (by decide) F.sub_list_dict F.slot_dict_ne F.slot_list_ne_refl
    (fun _ hq => dict_dec_ne hd.ty ⟨_, ho2, rfl⟩ F.sub_list_dict hq) (fun _ hq => call_meets F.slot_list_ne_refl ⟨_, ho2, rfl⟩ F.entry_list_ne (F.args_list_ne_2 _ _) (list_dec_ne l a items es n2 n dd2 dd sl2 sl) ⟨ho2, ho, hq⟩)
    (fun _ hq => wpAny_isSame_ref_other hne ho ho2 (by simp) hq) (.inr hu) h
theorem RcNeAtD.list_dict {a l : Addr} {items : Array Value} (hd : IsDic s.heap a) (hl : s.heap.IsList l items) (hu : A.units < cLine) : RcNeAt A s (.ref l) (.ref a) true := fun prog w E Q h => by
  obtain ⟨dd, es, n, sl, ho⟩ := id hd
  obtain ⟨⟨c2, dd2, data2, sl2⟩, ho2, hc2, n2, hd2⟩ := id hl
  obtain rfl : c2 = _ := hc2
  obtain rfl : data2 = _ := hd2
  have hne : l ≠ a := fun e => by subst e; rw [ho] at ho2; simp at ho2
  exact rc_ne_decline_or (k := false) ⟨_, ho2, rfl⟩ hd.ty (by decide) F.sub_dict_list F.slot_list_ne F.slot_dict_ne_refl
    (fun _ hq => call_meets F.slot_list_ne ⟨_, ho2, rfl⟩ F.entry_list_ne (F.args_list_ne_2 _ _) (list_dec_ne l a items es n2 n dd2 dd sl2 sl) ⟨ho2, ho, hq⟩) (fun _ hq => dict_dec_ne hd.ty ⟨_, ho2, rfl⟩ F.sub_list_dict hq)
    (fun _ hq => wpAny_isSame_ref_other' hne ho2 ho (by simp) hq) (.inr hu) h
theorem RcNeAtD.dict_tuple {a l : Addr} {items : Array Value} (hd : IsDic s.heap a) (hl : s.heap.IsTuple l items) (hu : A.units < cLine) : RcNeAt A s (.ref a) (.ref l) true := fun prog w E Q h => by
  obtain ⟨dd, es, n, sl, ho⟩ := id hd
  obtain ⟨⟨c2, dd2, data2, sl2⟩, ho2, hc2, n2, hd2⟩ := id hl
  obtain rfl : c2 = _ := hc2
  obtain rfl : data2 = _ := hd2
  have hne : a ≠ l := fun e => by subst e; rw [ho] at ho2; simp at ho2
  exact rc_ne_decline_or (k := false) hd.ty ⟨_, ho2, rfl⟩ (by decide) F.sub_tuple_dict F.slot_dict_ne F.slot_tuple_ne_refl
    (fun _ hq => dict_dec_ne hd.ty ⟨_, ho2, rfl⟩ F.sub_tuple_dict hq) (fun _ hq => call_meets F.slot_tuple_ne_refl ⟨_, ho2, rfl⟩ F.entry_tuple_ne (F.args_tuple_ne_2 _ _) (tuple_dec_ne l a items es n2 n dd2 dd sl2 sl) ⟨ho2, ho, hq⟩)
    (fun _ hq => wpAny_isSame_ref_other hne ho ho2 (by simp) hq) (.inr hu) h
theorem RcNeAtD.tuple_dict {a l : Addr} {items : Array Value} (hd : IsDic s.heap a) (hl : s.heap.IsTuple l items) (hu : A.units < cLine) : RcNeAt A s (.ref l) (.ref a) true := fun prog w E Q h => by
  obtain ⟨dd, es, n, sl, ho⟩ := id hd
  obtain ⟨⟨c2, dd2, data2, sl2⟩, ho2, hc2, n2, hd2⟩ := id hl
  obtain rfl : c2 = _ := hc2
  obtain rfl : data2 = _ := hd2
  have hne : l ≠ a := fun e => by subst e; rw [ho] at ho2; simp at ho2
  exact rc_ne_decline_or (k := false) ⟨_, ho2, rfl⟩ hd.ty (by decide) F.sub_dict_tuple F.slot_tuple_ne F.slot_dict_ne_refl
    (fun _ hq => call_meets F.slot_tuple_ne ⟨_, ho2, rfl⟩ F.entry_tuple_ne (F.args_tuple_ne_2 _ _) (tuple_dec_ne l a items es n2 n dd2 dd sl2 sl) ⟨ho2, ho, hq⟩) (fun _ hq => dict_dec_ne hd.ty ⟨_, ho2, rfl⟩ F.sub_tuple_dict hq)
    (fun _ hq => wpAny_isSame_ref_other' hne ho2 ho (by simp) hq) (.inr hu) h
theorem EqAtD.dict_none {a : Addr} (hd : IsDic s.heap a) (hu : A.units < cLine) : EqAt A s (.ref a) .none false := fun prog w E Q h => by
  unfold eqBool
  exact wpAny_holding (wpAny_ite_split (fun hab => absurd (eq_of_beq hab) nofun) fun _ => wpAny_bind (RcAtD.dict_none hd hu prog w E _ (wpAny_truthy_bool h)))
theorem EqAtD.none_dict {a : Addr} (hd : IsDic s.heap a) (hu : A.units < cLine) : EqAt A s .none (.ref a) false := fun prog w E Q h => by
  unfold eqBool
  exact wpAny_holding (wpAny_ite_split (fun hab => absurd (eq_of_beq hab) nofun) fun _ => wpAny_bind (RcAtD.none_dict hd hu prog w E _ (wpAny_truthy_bool h)))
theorem EqAtD.dict_bool {a : Addr} (b : Bool) (hd : IsDic s.heap a) (hu : A.units < cLine) : EqAt A s (.ref a) (.bool b) false := fun prog w E Q h => by
  unfold eqBool
  exact wpAny_holding (wpAny_ite_split (fun hab => absurd (eq_of_beq hab) nofun) fun _ => wpAny_bind (RcAtD.dict_bool b hd hu prog w E _ (wpAny_truthy_bool h)))
theorem EqAtD.bool_dict {a : Addr} (b : Bool) (hd : IsDic s.heap a) (hu : A.units < cLine) : EqAt A s (.bool b) (.ref a) false := fun prog w E Q h => by
  unfold eqBool
  exact wpAny_holding (wpAny_ite_split (fun hab => absurd (eq_of_beq hab) nofun) fun _ => wpAny_bind (RcAtD.bool_dict b hd hu prog w E _ (wpAny_truthy_bool h)))
theorem EqAtD.dict_int {a : Addr} (b : Int) (u : Tok) (hd : IsDic s.heap a) (hu : A.units < cLine) : EqAt A s (.ref a) (.int b u) false := fun prog w E Q h => by
  unfold eqBool
  exact wpAny_holding (wpAny_ite_split (fun hab => absurd (eq_of_beq hab) nofun) fun _ => wpAny_bind (RcAtD.dict_int b u hd hu prog w E _ (wpAny_truthy_bool h)))
theorem EqAtD.int_dict {a : Addr} (b : Int) (u : Tok) (hd : IsDic s.heap a) (hu : A.units < cLine) : EqAt A s (.int b u) (.ref a) false := fun prog w E Q h => by
  unfold eqBool
  exact wpAny_holding (wpAny_ite_split (fun hab => absurd (eq_of_beq hab) nofun) fun _ => wpAny_bind (RcAtD.int_dict b u hd hu prog w E _ (wpAny_truthy_bool h)))
theorem EqAtD.dict_str {a : Addr} (b : Str) (u : Tok) (hd : IsDic s.heap a) (hu : A.units < cLine) : EqAt A s (.ref a) (.str b u) false := fun prog w E Q h => by
  unfold eqBool
  exact wpAny_holding (wpAny_ite_split (fun hab => absurd (eq_of_beq hab) nofun) fun _ => wpAny_bind (RcAtD.dict_str b u hd hu prog w E _ (wpAny_truthy_bool h)))
theorem EqAtD.str_dict {a : Addr} (b : Str) (u : Tok) (hd : IsDic s.heap a) (hu : A.units < cLine) : EqAt A s (.str b u) (.ref a) false := fun prog w E Q h => by
  unfold eqBool
  exact wpAny_holding (wpAny_ite_split (fun hab => absurd (eq_of_beq hab) nofun) fun _ => wpAny_bind (RcAtD.str_dict b u hd hu prog w E _ (wpAny_truthy_bool h)))
theorem IsDic.ne_list {a l : Addr} {items : Array Value} (hd : IsDic s.heap a) (hl : s.heap.IsList l items) : a ≠ l := fun e => by
  obtain ⟨dd, es, n, sl, ho⟩ := hd
  obtain ⟨⟨c2, dd2, data2, sl2⟩, ho2, hc2, n2, hd2⟩ := hl
  obtain rfl : data2 = _ := hd2
  subst e
  rw [ho] at ho2
  simp at ho2
theorem EqAtD.dict_list {a l : Addr} {items : Array Value} (hd : IsDic s.heap a) (hl : s.heap.IsList l items) (hu : A.units < cLine) : EqAt A s (.ref a) (.ref l) false := .of_refs (hd.ne_list hl) (RcAtD.dict_list hd hl hu)
theorem EqAtD.list_dict {a l : Addr} {items : Array Value} (hd : IsDic s.heap a) (hl : s.heap.IsList l items) (hu : A.units < cLine) : EqAt A s (.ref l) (.ref a) false := .of_refs (hd.ne_list hl).symm (RcAtD.list_dict hd hl hu)
theorem IsDic.ne_tuple {a l : Addr} {items : Array Value} (hd : IsDic s.heap a) (hl : s.heap.IsTuple l items) : a ≠ l := fun e => by
  obtain ⟨dd, es, n, sl, ho⟩ := hd
  obtain ⟨⟨c2, dd2, data2, sl2⟩, ho2, hc2, n2, hd2⟩ := hl
  obtain rfl : data2 = _ := hd2
  subst e
  rw [ho] at ho2
  simp at ho2
theorem EqAtD.dict_tuple {a l : Addr} {items : Array Value} (hd : IsDic s.heap a) (hl : s.heap.IsTuple l items) (hu : A.units < cLine) : EqAt A s (.ref a) (.ref l) false := .of_refs (hd.ne_tuple hl) (RcAtD.dict_tuple hd hl hu)
theorem EqAtD.tuple_dict {a l : Addr} {items : Array Value} (hd : IsDic s.heap a) (hl : s.heap.IsTuple l items) (hu : A.units < cLine) : EqAt A s (.ref l) (.ref a) false := .of_refs (hd.ne_tuple hl).symm (RcAtD.tuple_dict hd hl hu)
end
end Tw
end
section
set_option maxRecDepth 100000
namespace Tw
open PySem PySem.Spec PyProof.Rows L2
open PySem.SeqAt PySem.MeetsSeq PySem.MeetsSeq2 PySem.MeetsSeq3
open AutoSeq1 (wpAny_loadPart')
/-- the object of a list, of a tuple -/
abbrev seqOb (T : String) (d : Option Addr) (xs : Array Value) (m : Nat) (z : Array (Option Value)) : Obj := { cls := .type T, dict := d, data := .seq xs m, slots := z }
section
variable {prog : Program} {w : World}
theorem neLoop (p q : Addr) (xs ys : Array Value) (m m2 : Nat) (d1 d2 : Option Addr) (z1 z2 : Array (Option Value)) (hz : xs.size = ys.size) (f : Nat → Bool) (k : Nat) :
    ∀ i : Nat, xs.size - i = k → MeetsIn prog w (Builtin.«list.__eq__.loop» ⟨[.ref p, .ref q, rawInt i, rawInt 3], []⟩)
      (fun A R s => s.heap.get? p = some (seqOb "list" d1 xs m z1) ∧ s.heap.get? q = some (seqOb "list" d2 ys m2 z2) ∧
        (∀ j (h1 : j < xs.size) (h2 : j < ys.size), EqIn prog w A.in1 s xs[j] ys[j] (f j)) ∧ R (.ok (.ret (.bool (!((List.range xs.size).drop i).all f)))) s) := by
  induction k with
  | zero =>
    intro i hk A R s ⟨gp, gq, _, hR⟩
    obtain ⟨hp, g, d, tk, os⟩ := s
    have n1 : xs[((i : Nat) : Int).toNat]? = none := by rw [Array.getElem?_eq_none]; simp; omega
    have n2 : ys[((i : Nat) : Int).toNat]? = none := by rw [Array.getElem?_eq_none]; simp; omega
    rw [List.drop_of_length_le (by simp; omega)] at hR
    wp_walk using wpAny_loadPart' gp, wpAny_loadPart' gq
    rw [n1, n2]
    wp_walk using wpAny_loadPart' gp, wpAny_loadPart' gq
    show R (.ok (.ret (.bool (xs.size != ys.size)))) _
    rw [hz, bne_self_eq_false]
    exact hR
  | succ k ih =>
    intro i hk A R s ⟨gp, gq, he, hR⟩
    obtain ⟨hp, g, d, tk, os⟩ := s
    have l1 : i < xs.size := by omega
    have l2 : i < ys.size := by omega
    have n1 : xs[((i : Nat) : Int).toNat]? = some xs[i] := by rw [Int.toNat_natCast, Array.getElem?_eq_getElem l1]
    have n2 : ys[((i : Nat) : Int).toNat]? = some ys[i] := by rw [Int.toNat_natCast, Array.getElem?_eq_getElem l2]
    have dr : (List.range xs.size).drop i = i :: (List.range xs.size).drop (i + 1) := by rw [List.drop_eq_getElem_cons (by simpa using l1), List.getElem_range]
    have ci : ((i : Int) + 1) = ((i + 1 : Nat) : Int) := by omega
    rw [dr, List.all_cons] at hR
    wp_walk using wpAny_loadPart' gp, wpAny_loadPart' gq
    rw [n1, n2]
    refine wpAny_bind (he i l1 l2 _ _ ?_)
    cases hf : f i with
    | true =>
      rw [hf, Bool.true_and] at hR
      wp_walk
      rw [ci]
      exact ⟨plainId_quiet plain_eq_loop _, codeAny_builtin entry_eq_loop (by
        rw [Around.under_plainId plain_eq_loop _]
        exact ih (i + 1) (by omega) A R _ ⟨gp, gq, he, hR⟩)⟩
    | false =>
      rw [hf, Bool.false_and] at hR
      wp_walk using wpAny_loadPart' gp, wpAny_loadPart' gq
      rw [n1, n2]
      wp_walk
      exact hR
theorem neLists (p q : Addr) (xs ys : Array Value) (m m2 : Nat) (d1 d2 : Option Addr) (z1 z2 : Array (Option Value)) (hz : xs.size = ys.size) (f : Nat → Bool) :
    MeetsIn prog w (Builtin.«list.__ne__» ⟨[.ref p, .ref q], []⟩)
      (fun A R s => s.heap.get? p = some (seqOb "list" d1 xs m z1) ∧ s.heap.get? q = some (seqOb "list" d2 ys m2 z2) ∧
        (∀ j (h1 : j < xs.size) (h2 : j < ys.size), EqIn prog w A.in1 s xs[j] ys[j] (f j)) ∧ R (.ok (.ret (.bool (!(List.range xs.size).all f)))) s) := by
  intro A R s ⟨gp, gq, he, hR⟩
  obtain ⟨hp, g, d, tk, os⟩ := s
  have f3 := AutoSeq1.sub_list_list
  have hn : ¬ (xs.size != ys.size) = true := by rw [hz]; simp
  wp_walk using wpAny_loadPart' gp, wpAny_loadPart' gq
  exact ⟨plainId_quiet plain_eq_loop _, codeAny_builtin entry_eq_loop (by
    rw [Around.under_plainId plain_eq_loop _]
    exact neLoop p q xs ys m m2 d1 d2 z1 z2 hz f _ 0 rfl A R _ ⟨gp, gq, he, hR⟩)⟩
theorem neTuples (p q : Addr) (xs ys : Array Value) (m m2 : Nat) (d1 d2 : Option Addr) (z1 z2 : Array (Option Value)) (f : Nat → Bool) :
    MeetsIn prog w (Builtin.«tuple.__ne__» ⟨[.ref p, .ref q], []⟩)
      (fun A R s => s.heap.get? p = some (seqOb "tuple" d1 xs m z1) ∧ s.heap.get? q = some (seqOb "tuple" d2 ys m2 z2) ∧
        (∀ j (h1 : j < xs.size) (h2 : j < ys.size), EqIn prog w A.in1 s xs[j] ys[j] (f j)) ∧ R (.ok (.ret (.bool (!((List.range (min xs.size ys.size)).all f && xs.size == ys.size))))) s) := by
  intro A R s ⟨gp, gq, he, hR⟩
  obtain ⟨hp, g, d, tk, os⟩ := s
  have f2 := AutoSeq1.sub_tuple_tuple
  have hZ : (xs.toList.zip ys.toList).length = min xs.size ys.size := by simp
  wp_walk using wpAny_loadPart' gp, wpAny_loadPart' gq, wpAny_forIn_list _ (fun rest b s' => b.1 = none ∧ s' = ⟨hp, g, d, tk, os⟩ ∧ ∃ i, rest = (xs.toList.zip ys.toList).drop i ∧
    R (.ok (.ret (.bool (!(((List.range (min xs.size ys.size)).drop i).all f && xs.size == ys.size))))) ⟨hp, g, d, tk, os⟩) _
  case turn =>
    rintro ⟨y, x⟩ rest b s' ⟨hb', rfl, i, hz, hr⟩
    have hl : i < (xs.toList.zip ys.toList).length := by
      refine Nat.lt_of_not_le fun h' => ?_
      rw [List.drop_of_length_le h'] at hz
      cases hz
    have hm : i < min xs.size ys.size := hZ ▸ hl
    have h1 : i < xs.size := by omega
    have h2 : i < ys.size := by omega
    rw [List.drop_eq_getElem_cons hl] at hz
    injection hz with hyx hrest
    have ey : y = xs[i] := by simpa using congrArg Prod.fst hyx
    have ex : x = ys[i] := by simpa using congrArg Prod.snd hyx
    subst ey ex
    have dr : (List.range (min xs.size ys.size)).drop i = i :: (List.range (min xs.size ys.size)).drop (i + 1) := by rw [List.drop_eq_getElem_cons (by simpa using hm), List.getElem_range]
    rw [dr, List.all_cons] at hr
    refine wpAny_bind (he i h1 h2 _ _ ?_)
    cases hy : f i with
    | true =>
      rw [hy, Bool.true_and] at hr
      wp_walk
      exact ⟨rfl, rfl, i + 1, hrest, hr⟩
    | false =>
      rw [hy, Bool.false_and, Bool.false_and] at hr
      wp_walk
      exact hr
  case fin =>
    rintro ⟨b1, b2⟩ s' ⟨hb', rfl, i, hz, hr⟩
    obtain rfl : b1 = none := hb'
    have hge : min xs.size ys.size ≤ i := by
      refine Nat.le_of_not_lt fun h' => ?_
      rw [List.drop_eq_getElem_cons (by rw [hZ]; exact h')] at hz
      cases hz
    rw [List.drop_of_length_le (by simpa using hge)] at hr
    wp_walk
    simpa [Builtin.Tuple.tupleCompareSizes, bne] using hr
  case h =>
    exact ⟨rfl, rfl, 0, rfl, hR⟩
variable {A : Around} {E : Value → Shared → Prop} {s : Shared}
theorem notNI {b : Bool} {Q : Value → Shared → Prop} (h : Q (.bool b) s) : Value.bool b ≠ .notImplemented ∧ Q (.bool b) s := ⟨nofun, h⟩
theorem rcNe_lists {p q : Addr} {xs ys : Array Value} {f : Nat → Bool} {Q : Value → Shared → Prop} (hp : s.heap.IsList p xs) (hq : s.heap.IsList q ys) (hz : xs.size = ys.size) (hu : A.units < cLine)
    (he : ∀ j (h1 : j < xs.size) (h2 : j < ys.size), EqIn prog w A.in1 s xs[j] ys[j] (f j)) (h : Q (.bool (!(List.range xs.size).all f)) s) : wpAny (model prog w) A (richCompare .NotEq (.ref p) (.ref q)) Q E s := by
  obtain ⟨⟨c1, d1, t1, z1⟩, gp, e1, m, f1⟩ := id hp
  obtain ⟨⟨c2, d2, t2, z2⟩, gq, e2, m2, f2⟩ := id hq
  obtain rfl : c1 = _ := e1
  obtain rfl : t1 = _ := f1
  obtain rfl : c2 = _ := e2
  obtain rfl : t2 = _ := f2
  exact wpAny_richCompare_same_room (T := "list") (op := .NotEq) ⟨_, gp, rfl⟩ ⟨_, gq, rfl⟩ F.slot_list_ne (call_meetsIn F.slot_list_ne ⟨_, gp, rfl⟩ F.entry_list_ne (F.args_list_ne_2 _ _) (neLists p q xs ys m m2 d1 d2 z1 z2 hz f)
    ⟨gp, gq, he, notNI h⟩) hu
theorem rcNe_tuples {p q : Addr} {xs ys : Array Value} {f : Nat → Bool} {Q : Value → Shared → Prop} (hp : s.heap.IsTuple p xs) (hq : s.heap.IsTuple q ys) (hu : A.units < cLine)
    (he : ∀ j (h1 : j < xs.size) (h2 : j < ys.size), EqIn prog w A.in1 s xs[j] ys[j] (f j)) (h : Q (.bool (!((List.range (min xs.size ys.size)).all f && xs.size == ys.size))) s) : wpAny (model prog w) A (richCompare .NotEq (.ref p) (.ref q)) Q E s := by
  obtain ⟨⟨c1, d1, t1, z1⟩, gp, e1, m, f1⟩ := id hp
  obtain ⟨⟨c2, d2, t2, z2⟩, gq, e2, m2, f2⟩ := id hq
  obtain rfl : c1 = _ := e1
  obtain rfl : t1 = _ := f1
  obtain rfl : c2 = _ := e2
  obtain rfl : t2 = _ := f2
  exact wpAny_richCompare_same_room (T := "tuple") (op := .NotEq) ⟨_, gp, rfl⟩ ⟨_, gq, rfl⟩ F.slot_tuple_ne (call_meetsIn F.slot_tuple_ne ⟨_, gp, rfl⟩ F.entry_tuple_ne (F.args_tuple_ne_2 _ _) (neTuples p q xs ys m m2 d1 d2 z1 z2 f)
    ⟨gp, gq, he, notNI h⟩) hu
theorem rcNe_dicts {K : Type} [DecidableEq K] {knd : KeyKind prog w K} {a b : Addr} {ka kb : List (K × Value)} {r : Bool} {Q : Value → Shared → Prop} (ha : (a == sysModules) = false) (hb : (b == sysModules) = false)
    (da : s.heap.DictOf knd a ka) (db : s.heap.DictOf knd b kb) (hu : A.units < cLine) (hits : ka.length = kb.length → PySem.W.KeqHitsIn prog w A.in1 s kb ka r) (h : Q (.bool (!(ka.length == kb.length && r))) s) :
    wpAny (model prog w) A (compareOp .NotEq (.ref a) (.ref b)) Q E s := by
  refine wpAny_richCompare_same_room (op := .NotEq) da.typeIs db.typeIs F.slot_dict_ne (wpAny_call_entry F.slot_dict_ne da.typeIs F.entry_dict_ne (b := Builtin.«dict.__ne__») (rest := [.ref b]) ?_ (F.args_dict_ne_2 _ _)) hu
  show wpAny _ _ (bind (Builtin.Dict.dictSlotArgs "__ne__" ⟨.ref a :: [.ref b], []⟩) _) _ _ _
  unfold Builtin.Dict.dictSlotArgs
  refine wpAny_bind (wpAny_bind (wpAny_notOrdered_dict da.typeIs (show wpAny _ _ (pure (Value.ref a, Value.ref b)) _ _ _ from wpAny_pure ?_)))
  refine wpAny_bind (wpAny_isInstance (T := "dict") db.typeIs F.sub_dict_dict ?_)
  rw [Bool.not_true, if_neg (by simp)]
  refine wpAny_bind (wpAny_pure (wpAny_bind (wpAny_pure (wpAny_bind (PySem.W.keq_samePairsIn ha hb da db hits (wpAny_pure ⟨_, rfl, (fun x => nomatch x), ?_⟩))))))
  simpa using h
end
end Tw
end
section
set_option maxRecDepth 100000
namespace Tw
open PySem PySem.Spec PyProof.Rows L2

mutual
def hgt : D → Nat
  | .lst xs => hgts xs + 1
  | .tup xs => hgts xs + 1
  | .dic xs => hgtk xs + 1
  | _ => 0
def hgts : List D → Nat
  | [] => 0
  | d :: r => max (hgt d) (hgts r)
def hgtk : List (Key × D) → Nat
  | [] => 0
  | (_, d) :: r => max (hgt d) (hgtk r)
end
/-- the kind of a tree: scalar, list, tuple, dict, other -/
def kn : D → Nat
  | .non => 0
  | .bl _ => 0
  | .int _ => 0
  | .str _ => 0
  | .lst _ => 1
  | .tup _ => 2
  | .dic _ => 3
  | _ => 4
def eqB : D → D → Bool
  | .non, .non => true
  | .bl a, .bl b => a == b
  | .int a, .int b => a == b
  | .str a, .str b => a == b
  | .bl a, .int b => (if a then 1 else 0) == b
  | .int a, .bl b => a == (if b then 1 else 0)
  | _, _ => false
mutual
def eqO : D → D → Option Bool
  | .lst xs, b => match b with
    | .lst ys => if xs.length = ys.length then eqOs xs ys else some false
    | b => if kn b ≤ 3 then some false else none
  | .tup xs, b => match b with
    | .tup ys => (eqOs xs ys).map fun r => r && decide (xs.length = ys.length)
    | b => if kn b ≤ 3 then some false else none
  | .dic xs, b => match b with
    | .dic ys => (eqOk xs ys).map fun r => decide (xs.length = ys.length) && r
    | b => if kn b ≤ 3 then some false else none
  | a, b => if kn a = 0 ∧ kn b ≤ 3 then some (eqB a b) else none
def eqOs : List D → List D → Option Bool
  | [], _ => some true
  | x :: r, ys => match ys with
    | [] => some true
    | y :: t => (eqO x y).bind fun b => (eqOs r t).map fun c => b && c
def eqOk : List (Key × D) → List (Key × D) → Option Bool
  | [], _ => some true
  | (k, x) :: r, ys => match getD ys k with
    | some y => (eqO x y).bind fun b => (eqOk r ys).map fun c => b && c
    | none => (eqOk r ys).map fun _ => false
end
/-- how a value stands for the leaves -/
def VS (s : Shared) : D → Value → Prop
  | .non, u => u = .none
  | .bl b, u => u = .bool b
  | .int i, u => ∃ t, u = .int i t
  | .str x, u => ∃ t, u = .str x t
  | .lst _, u => ∃ l items, u = .ref l ∧ s.heap.IsList l items
  | .tup _, u => ∃ l items, u = .ref l ∧ s.heap.IsTuple l items
  | .dic _, u => ∃ l, u = .ref l ∧ IsDic s.heap l
  | _, _ => True
section
variable {X : Cx} {pins : List (Addr × Obj)} {σ : Sg} {H : Hp} {s : Shared} {mg : Str → Option Value}
theorem vs_of (I : Inv X pins σ H s) {a : D} {v : V} {u : Value} {Z : Addr → Prop} (ra : RepT mg Z H a v) (ru : RelV v u) : VS s a u := by
  cases a with
  | non => cases (show v = .non from ra); exact ru
  | bl b => cases (show v = .bl b from ra); exact ru
  | int b => cases (show v = .int b from ra); exact ru
  | str b => cases (show v = .str b from ra); exact ru
  | lst ds =>
    obtain ⟨p, vs, rfl, g, _⟩ := ra
    cases ru
    obtain ⟨its, rv, pl, hz⟩ := I.list (.inl g.l2)
    exact ⟨_, _, rfl, pl.isList⟩
  | tup ds =>
    obtain ⟨p, vs, o, rfl, _, _, g, _⟩ := ra
    cases ru
    obtain ⟨its, rv, pl, hz⟩ := I.tuple (.inl g.frz2)
    exact ⟨_, _, rfl, pl⟩
  | dic ds =>
    obtain ⟨p, vs, rfl, g, _⟩ := ra
    cases ru
    obtain ⟨_, _, _, _, o, es, ep, h1, h2, h3, _⟩ := dk_rd I.hok g.l2
    obtain ⟨c, d, dt, sl⟩ := o
    obtain ⟨e1, _, _⟩ := h2
    obtain rfl : c = _ := e1
    obtain rfl : dt = _ := h3
    exact ⟨_, rfl, _, _, _, _, h1⟩
  | _ => trivial
theorem leafEq {A : Around} (hA : A.units < cLine) : ∀ (a b : D) {u v : Value}, VS s a u → VS s b v → kn a ≤ 3 → kn b ≤ 3 → (kn a ≠ kn b ∨ kn a = 0) → SeqAt.EqAt A s u v (eqB a b)
  | .non, .non, _, _, h, k, _, _, _ => by rw [show _ = _ from h, show _ = _ from k]; exact .same _
  | .bl a, .bl b, _, _, h, k, _, _, _ => by rw [show _ = _ from h, show _ = _ from k]; exact .bool_bool a b
  | .int a, .int b, _, _, ⟨t, h⟩, ⟨t', k⟩, _, _, _ => by rw [h, k]; exact .int_int a t b t'
  | .str a, .str b, _, _, ⟨t, h⟩, ⟨t', k⟩, _, _, _ => by rw [h, k]; exact .str_str a t b t'
  | .bl a, .int b, _, _, h, ⟨t', k⟩, _, _, _ => by rw [show _ = _ from h, k]; exact .bool_int a b t'
  | .int a, .bl b, _, _, ⟨t, h⟩, k, _, _, _ => by rw [h, show _ = _ from k]; exact .int_bool a t b
  | .non, .bl b, _, _, h, k, _, _, _ => by rw [show _ = _ from h, show _ = _ from k]; exact .none_bool b
  | .non, .int b, _, _, h, ⟨t', k⟩, _, _, _ => by rw [show _ = _ from h, k]; exact .none_int b t'
  | .non, .str b, _, _, h, ⟨t', k⟩, _, _, _ => by rw [show _ = _ from h, k]; exact .none_str b t'
  | .bl a, .non, _, _, h, k, _, _, _ => by rw [show _ = _ from h, show _ = _ from k]; exact .bool_none a
  | .bl a, .str b, _, _, h, ⟨t', k⟩, _, _, _ => by rw [show _ = _ from h, k]; exact .bool_str a b t'
  | .int a, .non, _, _, ⟨t, h⟩, k, _, _, _ => by rw [h, show _ = _ from k]; exact .int_none a t
  | .int a, .str b, _, _, ⟨t, h⟩, ⟨t', k⟩, _, _, _ => by rw [h, k]; exact .int_str a t b t'
  | .str a, .non, _, _, ⟨t, h⟩, k, _, _, _ => by rw [h, show _ = _ from k]; exact .str_none a t
  | .str a, .bl b, _, _, ⟨t, h⟩, k, _, _, _ => by rw [h, show _ = _ from k]; exact .str_bool a t b
  | .str a, .int b, _, _, ⟨t, h⟩, ⟨t', k⟩, _, _, _ => by rw [h, k]; exact .str_int a t b t'
  | .non, .lst _, _, _, h, ⟨l, its, k, kl⟩, _, _, _ => by rw [show _ = _ from h, k]; exact .none_list kl hA
  | .bl a, .lst _, _, _, h, ⟨l, its, k, kl⟩, _, _, _ => by rw [show _ = _ from h, k]; exact .bool_list a kl hA
  | .int a, .lst _, _, _, ⟨t, h⟩, ⟨l, its, k, kl⟩, _, _, _ => by rw [h, k]; exact .int_list a t kl hA
  | .str a, .lst _, _, _, ⟨t, h⟩, ⟨l, its, k, kl⟩, _, _, _ => by rw [h, k]; exact .str_list a t kl hA
  | .non, .tup _, _, _, h, ⟨l, its, k, kl⟩, _, _, _ => by rw [show _ = _ from h, k]; exact .none_tuple kl hA
  | .bl a, .tup _, _, _, h, ⟨l, its, k, kl⟩, _, _, _ => by rw [show _ = _ from h, k]; exact .bool_tuple a kl hA
  | .int a, .tup _, _, _, ⟨t, h⟩, ⟨l, its, k, kl⟩, _, _, _ => by rw [h, k]; exact .int_tuple a t kl hA
  | .str a, .tup _, _, _, ⟨t, h⟩, ⟨l, its, k, kl⟩, _, _, _ => by rw [h, k]; exact .str_tuple a t kl hA
  | .lst _, .non, _, _, ⟨l, its, k, kl⟩, h, _, _, _ => by rw [show _ = _ from h, k]; exact .list_none kl hA
  | .lst _, .bl a, _, _, ⟨l, its, k, kl⟩, h, _, _, _ => by rw [show _ = _ from h, k]; exact .list_bool a kl hA
  | .lst _, .int a, _, _, ⟨l, its, k, kl⟩, ⟨t, h⟩, _, _, _ => by rw [h, k]; exact .list_int a t kl hA
  | .lst _, .str a, _, _, ⟨l, its, k, kl⟩, ⟨t, h⟩, _, _, _ => by rw [h, k]; exact .list_str a t kl hA
  | .tup _, .non, _, _, ⟨l, its, k, kl⟩, h, _, _, _ => by rw [show _ = _ from h, k]; exact .tuple_none kl hA
  | .tup _, .bl a, _, _, ⟨l, its, k, kl⟩, h, _, _, _ => by rw [show _ = _ from h, k]; exact .tuple_bool a kl hA
  | .tup _, .int a, _, _, ⟨l, its, k, kl⟩, ⟨t, h⟩, _, _, _ => by rw [h, k]; exact .tuple_int a t kl hA
  | .tup _, .str a, _, _, ⟨l, its, k, kl⟩, ⟨t, h⟩, _, _, _ => by rw [h, k]; exact .tuple_str a t kl hA
  | .lst _, .tup _, _, _, ⟨l, its, k, kl⟩, ⟨l', its', h, kl'⟩, _, _, _ => by rw [h, k]; exact .list_tuple kl kl' hA
  | .tup _, .lst _, _, _, ⟨l, its, k, kl⟩, ⟨l', its', h, kl'⟩, _, _, _ => by rw [h, k]; exact .tuple_list kl kl' hA
  | .lst _, .lst _, _, _, _, _, _, _, h => by rcases h with h | h <;> simp [kn] at h
  | .tup _, .tup _, _, _, _, _, _, _, h => by rcases h with h | h <;> simp [kn] at h
  | .non, .dic _, _, _, h, ⟨l, k, kl⟩, _, _, _ => by rw [show _ = _ from h, k]; exact EqAtD.none_dict  kl hA
  | .dic _, .non, _, _, ⟨l, k, kl⟩, h, _, _, _ => by rw [show _ = _ from h, k]; exact EqAtD.dict_none  kl hA
  | .bl a, .dic _, _, _, h, ⟨l, k, kl⟩, _, _, _ => by rw [show _ = _ from h, k]; exact EqAtD.bool_dict a kl hA
  | .dic _, .bl a, _, _, ⟨l, k, kl⟩, h, _, _, _ => by rw [show _ = _ from h, k]; exact EqAtD.dict_bool a kl hA
  | .int a, .dic _, _, _, ⟨t, h⟩, ⟨l, k, kl⟩, _, _, _ => by rw [h, k]; exact EqAtD.int_dict a t kl hA
  | .dic _, .int a, _, _, ⟨l, k, kl⟩, ⟨t, h⟩, _, _, _ => by rw [h, k]; exact EqAtD.dict_int a t kl hA
  | .str a, .dic _, _, _, ⟨t, h⟩, ⟨l, k, kl⟩, _, _, _ => by rw [h, k]; exact EqAtD.str_dict a t kl hA
  | .dic _, .str a, _, _, ⟨l, k, kl⟩, ⟨t, h⟩, _, _, _ => by rw [h, k]; exact EqAtD.dict_str a t kl hA
  | .lst _, .dic _, _, _, ⟨l', its, h, hl⟩, ⟨l, k, kl⟩, _, _, _ => by rw [h, k]; exact EqAtD.list_dict kl hl hA
  | .dic _, .lst _, _, _, ⟨l, k, kl⟩, ⟨l', its, h, hl⟩, _, _, _ => by rw [h, k]; exact EqAtD.dict_list kl hl hA
  | .tup _, .dic _, _, _, ⟨l', its, h, hl⟩, ⟨l, k, kl⟩, _, _, _ => by rw [h, k]; exact EqAtD.tuple_dict kl hl hA
  | .dic _, .tup _, _, _, ⟨l, k, kl⟩, ⟨l', its, h, hl⟩, _, _, _ => by rw [h, k]; exact EqAtD.dict_tuple kl hl hA
  | .dic _, .dic _, _, _, _, _, _, _, h => by rcases h with h | h <;> simp [kn] at h
  | .pr _, _, _, _, _, _, h, _, _ => by simp [kn] at h
  | .ins _ _, _, _, _, _, _, h, _, _ => by simp [kn] at h
  | .exc _ _, _, _, _, _, _, h, _, _ => by simp [kn] at h
  | _, .pr _, _, _, _, _, _, h, _ => by simp [kn] at h
  | _, .ins _ _, _, _, _, _, _, h, _ => by simp [kn] at h
  | _, .exc _ _, _, _, _, _, _, h, _ => by simp [kn] at h
theorem eqB_seq : ∀ {a b : D}, kn b ≤ 3 → (kn a = 1 ∨ kn a = 2 ∨ kn a = 3) → eqB a b = false
  | .lst _, b, _, _ => by cases b <;> rfl
  | .tup _, b, _, _ => by cases b <;> rfl
  | .non, b, _, h => by rcases h with h | h | h <;> cases h
  | .bl _, b, _, h => by rcases h with h | h | h <;> cases h
  | .int _, b, _, h => by rcases h with h | h | h <;> cases h
  | .str _, b, _, h => by rcases h with h | h | h <;> cases h
  | .dic _, b, _, _ => by cases b <;> rfl
  | .pr _, b, _, h => by rcases h with h | h | h <;> cases h
  | .ins _ _, b, _, h => by rcases h with h | h | h <;> cases h
  | .exc _ _, b, _, h => by rcases h with h | h | h <;> cases h
theorem rd_one {a : Addr} {u u' : HO} (h : Rd H a u) (k : Rd H a u') (n : ∀ o v, u ≠ .frz o v) (n' : ∀ o v, u' ≠ .frz o v) : u = u' := by
  rcases h with h | ⟨o, h, _⟩ <;> rcases k with k | ⟨o', k, _⟩
  · exact Option.some.inj (h.symm.trans k)
  · exact absurd (Option.some.inj (h.symm.trans k)) (n _ _)
  · exact absurd (Option.some.inj (k.symm.trans h)) (n' _ _)
  · have := Option.some.inj (h.symm.trans k); cases this; rfl
theorem nodup_val {kvs : List (Key × V)} (hn : (kvs.map (·.1)).Nodup) {p : Key × V} (hp : p ∈ kvs) : valV kvs p.1 = some p.2 := by
  induction kvs with
  | nil => cases hp
  | cons q r ih =>
    rw [List.map_cons] at hn
    obtain ⟨h1, h2⟩ := List.nodup_cons.mp hn
    unfold valV
    rw [List.find?_cons]
    rcases List.mem_cons.mp hp with rfl | hp
    · simp
    · have hne : ¬ q.1 = p.1 := fun e => h1 (by rw [e]; exact List.mem_map.mpr ⟨p, hp, rfl⟩)
      rw [show decide (q.1 = p.1) = false from decide_eq_false hne]
      exact ih h2 hp
theorem keys_nodup (I : Inv X pins σ H s) {a : Addr} {kvs : List (Key × V)} (h : Rd H a (.dK kvs)) : (kvs.map (·.1)).Nodup := by
  obtain ⟨_, _, vs, rel, o, es, ep, _, _, _, _, _, nd⟩ := dk_rd I.hok h.l2
  rw [show kvs.map (·.1) = vs.map (·.1) from rel.keys]
  exact nd
mutual
theorem same_val (I : Inv X pins σ H s) {Z Z' : Addr → Prop} : ∀ (a b : D) {v : V} {r : Bool}, Rep mg Z H a v → Rep mg Z' H b v → eqO a b = some r → r = true
  | .lst xs, b, v, r, ra, rb, e => by
    cases b with
    | lst ys =>
      obtain ⟨p, vs, rfl, _, g, rr⟩ := ra
      obtain ⟨p', ws, e', _, g', rr'⟩ := rb
      cases e'
      have := rd_one g g' (fun _ _ => nofun) (fun _ _ => nofun)
      cases this
      unfold eqO at e
      simp only at e
      rw [if_pos (rr.length.trans rr'.length.symm)] at e
      exact same_vals I xs ys rr rr' e
    | non => obtain ⟨p, vs, rfl, _⟩ := ra; cases rb
    | bl _ => obtain ⟨p, vs, rfl, _⟩ := ra; cases rb
    | int _ => obtain ⟨p, vs, rfl, _⟩ := ra; cases rb
    | str _ => obtain ⟨p, vs, rfl, _⟩ := ra; cases rb
    | tup ys =>
      obtain ⟨p, vs, rfl, _, g, rr⟩ := ra
      obtain ⟨p', ws, o, e', _, _, g', rr'⟩ := rb
      cases e'
      rcases g with g | ⟨q, g, _⟩
      · cases g.symm.trans g'.frz
      · cases g.symm.trans g'.frz
    | dic ys =>
      obtain ⟨p, vs, rfl, _, g, rr⟩ := ra
      obtain ⟨p', ws, e', _, g', rr'⟩ := rb
      cases e'
      cases rd_one g g' (fun _ _ => nofun) (fun _ _ => nofun)
    | _ => unfold eqO at e; simp [kn] at e
  | .tup xs, b, v, r, ra, rb, e => by
    cases b with
    | tup ys =>
      obtain ⟨p, vs, o, rfl, _, _, g, rr⟩ := ra
      obtain ⟨p', ws, o', e', _, _, g', rr'⟩ := rb
      cases e'
      have := Option.some.inj (g.frz.symm.trans g'.frz)
      cases this
      unfold eqO at e
      simp only at e
      obtain ⟨c, e1, e2⟩ := map_some.mp e
      rw [same_vals I xs ys rr rr' e1, decide_eq_true (rr.length.trans rr'.length.symm)] at e2
      exact e2.symm
    | non => obtain ⟨p, vs, o, rfl, _⟩ := ra; cases rb
    | bl _ => obtain ⟨p, vs, o, rfl, _⟩ := ra; cases rb
    | int _ => obtain ⟨p, vs, o, rfl, _⟩ := ra; cases rb
    | str _ => obtain ⟨p, vs, o, rfl, _⟩ := ra; cases rb
    | lst ys =>
      obtain ⟨p', vs, o, rfl, _, _, g', rr⟩ := ra
      obtain ⟨p, ws, e', _, g, rr'⟩ := rb
      cases e'
      rcases g with g | ⟨q, g, _⟩
      · cases g.symm.trans g'.frz
      · cases g.symm.trans g'.frz
    | dic ys =>
      obtain ⟨p', vs, o, rfl, _, _, g', rr⟩ := ra
      obtain ⟨p, ws, e', _, g, rr'⟩ := rb
      cases e'
      rcases g with g | ⟨q, g, _⟩
      · cases g.symm.trans g'.frz
      · cases g.symm.trans g'.frz
    | _ => unfold eqO at e; simp [kn] at e
  | .dic xs, b, v, r, ra, rb, e => by
    cases b with
    | dic ys =>
      obtain ⟨p, vs, rfl, _, g, rr⟩ := ra
      obtain ⟨p', ws, e', _, g', rr'⟩ := rb
      cases e'
      have := rd_one g g' (fun _ _ => nofun) (fun _ _ => nofun)
      cases this
      unfold eqO at e
      simp only at e
      obtain ⟨c, e1, e2⟩ := map_some.mp e
      rw [same_valk I xs ys rr (fun q hq => nodup_val (keys_nodup I g) hq) rr' e1, decide_eq_true ((repK_len rr).trans (repK_len rr').symm)] at e2
      exact e2.symm
    | lst ys =>
      obtain ⟨p, vs, rfl, _, g, rr⟩ := ra
      obtain ⟨p', ws, e', _, g', rr'⟩ := rb
      cases e'
      cases rd_one g g' (fun _ _ => nofun) (fun _ _ => nofun)
    | tup ys =>
      obtain ⟨p, vs, rfl, _, g, rr⟩ := ra
      obtain ⟨p', ws, o, e', _, _, g', rr'⟩ := rb
      cases e'
      rcases g with g | ⟨q, g, _⟩
      · cases g.symm.trans g'.frz
      · cases g.symm.trans g'.frz
    | non => obtain ⟨p, vs, rfl, _⟩ := ra; cases rb
    | bl _ => obtain ⟨p, vs, rfl, _⟩ := ra; cases rb
    | int _ => obtain ⟨p, vs, rfl, _⟩ := ra; cases rb
    | str _ => obtain ⟨p, vs, rfl, _⟩ := ra; cases rb
    | _ => unfold eqO at e; simp [kn] at e
  | .non, b, v, r, ra, rb, e => by
    cases (show v = .non from ra)
    cases b with
    | non => cases e; rfl
    | bl _ => cases rb
    | int _ => cases rb
    | str _ => cases rb
    | lst _ => obtain ⟨p, vs, h, _⟩ := rb; cases h
    | tup _ => obtain ⟨p, vs, o, h, _⟩ := rb; cases h
    | dic _ => obtain ⟨p, vs, h, _⟩ := rb; cases h
    | _ => simp [eqO, kn] at e
  | .bl x, b, v, r, ra, rb, e => by
    cases (show v = .bl x from ra)
    cases b with
    | bl y => cases rb; cases e; simp [eqB]
    | non => cases rb
    | int _ => cases rb
    | str _ => cases rb
    | lst _ => obtain ⟨p, vs, h, _⟩ := rb; cases h
    | tup _ => obtain ⟨p, vs, o, h, _⟩ := rb; cases h
    | dic _ => obtain ⟨p, vs, h, _⟩ := rb; cases h
    | _ => simp [eqO, kn] at e
  | .int x, b, v, r, ra, rb, e => by
    cases (show v = .int x from ra)
    cases b with
    | int y => cases rb; cases e; simp [eqB]
    | non => cases rb
    | bl _ => cases rb
    | str _ => cases rb
    | lst _ => obtain ⟨p, vs, h, _⟩ := rb; cases h
    | tup _ => obtain ⟨p, vs, o, h, _⟩ := rb; cases h
    | dic _ => obtain ⟨p, vs, h, _⟩ := rb; cases h
    | _ => simp [eqO, kn] at e
  | .str x, b, v, r, ra, rb, e => by
    cases (show v = .str x from ra)
    cases b with
    | str y => cases rb; cases e; simp [eqB]
    | non => cases rb
    | bl _ => cases rb
    | int _ => cases rb
    | lst _ => obtain ⟨p, vs, h, _⟩ := rb; cases h
    | tup _ => obtain ⟨p, vs, o, h, _⟩ := rb; cases h
    | dic _ => obtain ⟨p, vs, h, _⟩ := rb; cases h
    | _ => simp [eqO, kn] at e
  | .pr x, b, v, r, ra, rb, e => by simp [eqO, kn] at e
  | .ins c x, b, v, r, ra, rb, e => by simp [eqO, kn] at e
  | .exc c x, b, v, r, ra, rb, e => by simp [eqO, kn] at e
theorem same_vals (I : Inv X pins σ H s) {Z Z' : Addr → Prop} : ∀ (xs ys : List D) {v : List V} {r : Bool}, Reps mg Z H xs v → Reps mg Z' H ys v → eqOs xs ys = some r → r = true
  | [], ys, v, r, ra, rb, e => by unfold eqOs at e; cases e; rfl
  | x :: t, [], v, r, ra, rb, e => by unfold eqOs at e; cases e; rfl
  | x :: t, y :: t', v, r, ⟨u, w, e1, r1, q1⟩, ⟨u', w', e2, r2, q2⟩, e => by
    subst e1
    cases e2
    unfold eqOs at e
    simp only at e
    obtain ⟨b, e3, e4⟩ := bind_some.mp e
    obtain ⟨c, e5, e6⟩ := map_some.mp e4
    rw [same_val I x y r1 r2 e3, same_vals I t t' q1 q2 e5] at e6
    exact e6.symm
theorem same_valk (I : Inv X pins σ H s) {Z Z' : Addr → Prop} : ∀ (xs ys : List (Key × D)) {us vs : List (Key × V)} {r : Bool}, RepK mg Z H xs us → (∀ p ∈ us, valV vs p.1 = some p.2) → RepK mg Z' H ys vs → eqOk xs ys = some r → r = true
  | [], ys, us, vs, r, ra, hv, rb, e => by unfold eqOk at e; cases e; rfl
  | (k, x) :: t, ys, us, vs, r, ⟨u, w, e1, r1, q1⟩, hv, rb, e => by
    subst e1
    unfold eqOk at e
    have h0 := hv (k, u) List.mem_cons_self
    rcases rb.get (k := k) with ⟨h1, h2⟩ | ⟨d', v', h1, h2, h3⟩
    · cases h2.symm.trans h0
    · cases h2.symm.trans h0
      rw [h1] at e
      simp only at e
      obtain ⟨b, e3, e4⟩ := bind_some.mp e
      obtain ⟨c, e5, e6⟩ := map_some.mp e4
      rw [same_val I x d' r1 h3 e3, same_valk I t ys q1 (fun p hp => hv p (List.mem_cons_of_mem _ hp)) rb e5] at e6
      exact e6.symm
end
end
end Tw
end
section
set_option maxRecDepth 100000
namespace Tw
open PySem PySem.Spec PyProof.Rows L2

theorem all_same {α : Type} {f g : α → Bool} : ∀ {l : List α}, (∀ p ∈ l, f p = g p) → l.all f = l.all g
  | [], _ => rfl
  | a :: r, h => by rw [List.all_cons, List.all_cons, h a List.mem_cons_self, all_same fun p hp => h p (List.mem_cons_of_mem _ hp)]
theorem all_range_succ (e : Nat → Bool) (n : Nat) : (List.range (n + 1)).all e = (e 0 && (List.range n).all fun j => e (j + 1)) := by
  rw [List.range_succ_eq_map, List.all_cons, List.all_map]
  rfl
section
variable {X : Cx} {pins : List (Addr × Obj)} {σ : Sg} {H : Hp} {s : Shared} {mg : Str → Option Value}
theorem leafTree (I : Inv X pins σ H s) {Z Z' : Addr → Prop} {a b : D} {v w : V} {u1 u2 : Value} {n : Nat} (ra : RepT mg Z H a v) (rb : RepT mg Z' H b w) (r1 : RelV v u1) (r2 : RelV w u2) (ha : kn a ≤ 3) (hb : kn b ≤ 3) (hn : kn a ≠ kn b ∨ kn a = 0) : PySem.W.EqTree X.prog X.w s n u1 u2 (eqB a b) :=
  .leaf fun A hA => leafEq (by omega) a b (vs_of I ra r1) (vs_of I rb r2) ha hb hn
mutual
theorem eqO_tree (I : Inv X pins σ H s) {Z Z' : Addr → Prop} : ∀ (a b : D) {v w : V} {u1 u2 : Value} {r : Bool} {n : Nat}, Rep mg Z H a v → Rep mg Z' H b w → RelV v u1 → RelV w u2 → eqO a b = some r → hgt a ≤ n → PySem.W.EqTree X.prog X.w s n u1 u2 r
  | .lst xs, b, v, w, u1, u2, r, n, ra, rb, r1, r2, e, hn => by
    by_cases hb : ∃ ys, b = .lst ys
    · obtain ⟨ys, rfl⟩ := hb
      have ra' := ra
      have rb' := rb
      obtain ⟨p, vs, rfl, _, g, rr⟩ := ra
      obtain ⟨p', ws, rfl, _, g', rr'⟩ := rb
      cases r1
      cases r2
      by_cases hp : p = p'
      · subst hp
        rw [same_val I _ _ ra' rb' e]
        exact .same
      · obtain ⟨i1, w1, l1, _⟩ := I.list (.inl g.l2)
        obtain ⟨i2, w2, l2, _⟩ := I.list (.inl g'.l2)
        unfold hgt at hn
        obtain ⟨m, rfl⟩ : ∃ m, n = m + 1 := ⟨n - 1, by omega⟩
        unfold eqO at e
        simp only at e
        by_cases hl : xs.length = ys.length
        · rw [if_pos hl] at e
          obtain ⟨f, hf, rfl⟩ := eqOs_tree I xs ys rr rr' w1 w2 e (n := m) (by omega)
          have hsz : i1.length = i2.length := by rw [← w1.length, ← w2.length, ← rr.length, ← rr'.length]; exact hl
          have q := PySem.W.EqTree.lists (e := f) hp l1.isList l2.isList (by simpa using hsz) (fun j h1 h2 => by simpa using hf j (by simpa using h1) (by simpa using h2))
          rw [List.size_toArray] at q
          rw [← hsz, Nat.min_self]
          exact q
        · rw [if_neg hl] at e
          cases e
          refine PySem.W.EqTree.listsLen hp l1.isList l2.isList ?_
          have hsz : i1.length ≠ i2.length := by rw [← w1.length, ← w2.length, ← rr.length, ← rr'.length]; exact hl
          simpa using hsz
    · unfold eqO at e
      have e' : kn b ≤ 3 ∧ r = false := by
        cases b with
        | lst ys => exact absurd ⟨ys, rfl⟩ hb
        | _ => first | (simp [kn] at e; done) | (simp only [kn] at e; exact ⟨by simp [kn], by simpa using e.symm⟩)
      obtain ⟨hk, rfl⟩ := e'
      rw [← eqB_seq (a := .lst xs) hk (.inl rfl)]
      exact leafTree I ra.t rb.t r1 r2 (by simp [kn]) hk (.inl fun h => hb (by
        cases b <;> first | exact ⟨_, rfl⟩ | cases h))
  | .tup xs, b, v, w, u1, u2, r, n, ra, rb, r1, r2, e, hn => by
    by_cases hb : ∃ ys, b = .tup ys
    · obtain ⟨ys, rfl⟩ := hb
      have ra' := ra
      have rb' := rb
      obtain ⟨p, vs, o, rfl, _, _, g, rr⟩ := ra
      obtain ⟨p', ws, o', rfl, _, _, g', rr'⟩ := rb
      cases r1
      cases r2
      by_cases hp : p = p'
      · subst hp
        rw [same_val I _ _ ra' rb' e]
        exact .same
      · obtain ⟨i1, w1, l1, _⟩ := I.tuple (.inl g.frz2)
        obtain ⟨i2, w2, l2, _⟩ := I.tuple (.inl g'.frz2)
        unfold hgt at hn
        obtain ⟨m, rfl⟩ : ∃ m, n = m + 1 := ⟨n - 1, by omega⟩
        unfold eqO at e
        simp only at e
        obtain ⟨c, e1, e2⟩ := map_some.mp e
        obtain ⟨f, hf, rfl⟩ := eqOs_tree I xs ys rr rr' w1 w2 e1 (n := m) (by omega)
        have q := PySem.W.EqTree.tuples (e := f) hp l1 l2 (fun j h1 h2 => by simpa using hf j (by simpa using h1) (by simpa using h2))
        rw [← e2]
        have hd : decide (xs.length = ys.length) = (i1.toArray.size == i2.toArray.size) := by
          rw [List.size_toArray, List.size_toArray, ← w1.length, ← w2.length, ← rr.length, ← rr'.length]
          by_cases h : xs.length = ys.length
          · simp [h]
          · simp [h]
        rw [hd]
        simpa using q
    · unfold eqO at e
      have e' : kn b ≤ 3 ∧ r = false := by
        cases b with
        | tup ys => exact absurd ⟨ys, rfl⟩ hb
        | _ => first | (simp [kn] at e; done) | (simp only [kn] at e; exact ⟨by simp [kn], by simpa using e.symm⟩)
      obtain ⟨hk, rfl⟩ := e'
      rw [← eqB_seq (a := .tup xs) hk (.inr (.inl rfl))]
      exact leafTree I ra.t rb.t r1 r2 (by simp [kn]) hk (.inl fun h => hb (by
        cases b <;> first | exact ⟨_, rfl⟩ | cases h))
  | .dic xs, b, v, w, u1, u2, r, n, ra, rb, r1, r2, e, hn => by
    cases b with
    | dic ys =>
      have ra' := ra
      have rb' := rb
      obtain ⟨p, vs, rfl, _, g, rr⟩ := ra
      obtain ⟨p', ws, rfl, _, g', rr'⟩ := rb
      cases r1
      cases r2
      by_cases hp : p = p'
      · subst hp
        rw [same_val I _ _ ra' rb' e]
        exact .same
      · obtain ⟨_, n1, k1, rel1, d1⟩ := dk_rd I.hok g.l2
        obtain ⟨_, n2, k2, rel2, d2⟩ := dk_rd I.hok g'.l2
        unfold hgt at hn
        obtain ⟨m, rfl⟩ : ∃ m, n = m + 1 := ⟨n - 1, by omega⟩
        unfold eqO at e
        simp only at e
        obtain ⟨c, e1, e2⟩ := map_some.mp e
        obtain ⟨f, hf, rfl⟩ := eqOk_tree I xs ys rr rel1 (keys_nodup I g) rr' rel2 e1 (n := m) (by omega)
        rw [← e2]
        have q := PySem.W.EqTree.dicts (e := f) hp n1 n2 d1 d2 hf
        have hd : decide (xs.length = ys.length) = (k1.length == k2.length) := by
          rw [← rel1.length, ← rel2.length, ← repK_len rr, ← repK_len rr']
          by_cases h : xs.length = ys.length
          · simp [h]
          · simp [h]
        rw [hd]
        exact q
    | _ =>
      unfold eqO at e
      first
        | (simp [kn] at e; done)
        | (have e' : r = false := by simpa [kn] using e.symm
           subst e'
           exact leafTree I ra.t rb.t r1 r2 (by simp [kn]) (by simp [kn]) (.inl (by simp [kn])))
  | .non, b, v, w, u1, u2, r, n, ra, rb, r1, r2, e, hn => by
    have e' : kn b ≤ 3 ∧ eqB .non b = r := by simpa [eqO, kn] using e
    rw [← e'.2]
    exact leafTree I ra.t rb.t r1 r2 (by decide) e'.1 (.inr rfl)
  | .bl x, b, v, w, u1, u2, r, n, ra, rb, r1, r2, e, hn => by
    have e' : kn b ≤ 3 ∧ eqB (.bl x) b = r := by simpa [eqO, kn] using e
    rw [← e'.2]
    exact leafTree I ra.t rb.t r1 r2 (by decide : (0 : Nat) ≤ 3) e'.1 (.inr rfl)
  | .int x, b, v, w, u1, u2, r, n, ra, rb, r1, r2, e, hn => by
    have e' : kn b ≤ 3 ∧ eqB (.int x) b = r := by simpa [eqO, kn] using e
    rw [← e'.2]
    exact leafTree I ra.t rb.t r1 r2 (by decide : (0 : Nat) ≤ 3) e'.1 (.inr rfl)
  | .str x, b, v, w, u1, u2, r, n, ra, rb, r1, r2, e, hn => by
    have e' : kn b ≤ 3 ∧ eqB (.str x) b = r := by simpa [eqO, kn] using e
    rw [← e'.2]
    exact leafTree I ra.t rb.t r1 r2 (by decide : (0 : Nat) ≤ 3) e'.1 (.inr rfl)
  | .pr x, b, v, w, u1, u2, r, n, ra, rb, r1, r2, e, hn => by simp [eqO, kn] at e
  | .ins c x, b, v, w, u1, u2, r, n, ra, rb, r1, r2, e, hn => by simp [eqO, kn] at e
  | .exc c x, b, v, w, u1, u2, r, n, ra, rb, r1, r2, e, hn => by simp [eqO, kn] at e
theorem eqOs_tree (I : Inv X pins σ H s) {Z Z' : Addr → Prop} : ∀ (xs ys : List D) {vs ws : List V} {us1 us2 : List Value} {r : Bool} {n : Nat}, Reps mg Z H xs vs → Reps mg Z' H ys ws → Vals vs us1 → Vals ws us2 → eqOs xs ys = some r → hgts xs ≤ n →
    ∃ f : Nat → Bool, (∀ j (h1 : j < us1.length) (h2 : j < us2.length), PySem.W.EqTree X.prog X.w s n us1[j] us2[j] (f j)) ∧ (List.range (min us1.length us2.length)).all f = r
  | [], ys, vs, ws, us1, us2, r, n, ra, rb, w1, w2, e, hn => by
    unfold eqOs at e
    cases e
    rw [show vs = [] from ra] at w1
    cases w1
    exact ⟨fun _ => true, fun j h1 => absurd h1 (by simp), by simp⟩
  | x :: t, [], vs, ws, us1, us2, r, n, ra, rb, w1, w2, e, hn => by
    unfold eqOs at e
    cases e
    rw [show ws = [] from rb] at w2
    cases w2
    exact ⟨fun _ => true, fun j _ h2 => absurd h2 (by simp), by simp⟩
  | x :: t, y :: t', vs, ws, us1, us2, r, n, ⟨v, vs', e1, q1, q2⟩, ⟨w, ws', e2, q3, q4⟩, w1, w2, e, hn => by
    subst e1
    subst e2
    cases w1 with
    | @cons _ a1 _ l1 h1 t1 =>
      cases w2 with
      | @cons _ a2 _ l2 h2 t2 =>
        unfold eqOs at e
        simp only at e
        obtain ⟨b, e3, e4⟩ := bind_some.mp e
        obtain ⟨c, e5, e6⟩ := map_some.mp e4
        unfold hgts at hn
        have T := eqO_tree I x y q1 q3 h1 h2 e3 (n := n) (by omega)
        obtain ⟨f, hf, rfl⟩ := eqOs_tree I t t' q2 q4 t1 t2 e5 (n := n) (by omega)
        refine ⟨fun j => match j with | 0 => b | j + 1 => f j, fun j g1 g2 => ?_, ?_⟩
        · cases j with
          | zero => exact T
          | succ j => exact hf j (by simpa using g1) (by simpa using g2)
        · rw [← e6]
          rw [List.length_cons, List.length_cons, show min (l1.length + 1) (l2.length + 1) = min l1.length l2.length + 1 by omega, all_range_succ]
theorem eqOk_tree (I : Inv X pins σ H s) {Z Z' : Addr → Prop} : ∀ (xs ys : List (Key × D)) {us ws : List (Key × V)} {ks kb : List (Key × Value)} {r : Bool} {n : Nat}, RepK mg Z H xs us → KV us ks → (us.map (·.1)).Nodup → RepK mg Z' H ys ws → KV ws kb → eqOk xs ys = some r → hgtk xs ≤ n →
    ∃ f : Key → Bool, (∀ k v y, (k, v) ∈ ks → valueAt kb k = some y → PySem.W.EqTree X.prog X.w s n v y (f k)) ∧ (ks.all fun p => (valueAt kb p.1).isSome && f p.1) = r
  | [], ys, us, ws, ks, kb, r, n, ra, rel, nd, rb, relb, e, hn => by
    unfold eqOk at e
    cases e
    rw [show us = [] from ra] at rel
    cases rel
    exact ⟨fun _ => true, fun k v y h => absurd h (by simp), rfl⟩
  | (k, x) :: t, ys, us, ws, ks, kb, r, n, ⟨u, us', e1, q1, q2⟩, rel, nd, rb, relb, e, hn => by
    subst e1
    cases rel with
    | @cons _ p2 _ ks' h1 t1 =>
      obtain ⟨k2, val⟩ := p2
      obtain ⟨hk, hv⟩ := h1
      have hk : k = k2 := hk
      subst hk
      unfold hgtk at hn
      rw [List.map_cons] at nd
      obtain ⟨nd1, nd2⟩ := List.nodup_cons.mp nd
      have nk : ∀ p ∈ ks', p.1 ≠ k := fun p hp e => nd1 (by
        rw [show us'.map (·.1) = ks'.map (·.1) from KV.keys t1]
        exact List.mem_map.mpr ⟨p, hp, e⟩)
      unfold eqOk at e
      rcases rb.get (k := k) with ⟨g1, g2⟩ | ⟨d', v', g1, g2, g3⟩
      · rw [g1] at e
        simp only at e
        obtain ⟨c, e5, e6⟩ := map_some.mp e
        obtain ⟨f, hf, _⟩ := eqOk_tree I t ys q2 t1 nd2 rb relb e5 (n := n) (by omega)
        have hn' : valueAt kb k = none := RelO.none_of (by rw [← g2]; exact relb.val k)
        refine ⟨f, fun k' v y h hy => ?_, ?_⟩
        · rcases List.mem_cons.mp h with h | h
          · cases h
            rw [hn'] at hy
            cases hy
          · exact hf k' v y h hy
        · rw [List.all_cons, hn', ← e6]
          rfl
      · rw [g1] at e
        simp only at e
        obtain ⟨b, e3, e4⟩ := bind_some.mp e
        obtain ⟨c, e5, e6⟩ := map_some.mp e4
        obtain ⟨y0, hy0, ry0⟩ := RelO.some_of (v := v') (o := valueAt kb k) (by rw [← g2]; exact relb.val k)
        have T := eqO_tree I x d' q1 g3 hv ry0 e3 (n := n) (by omega)
        obtain ⟨f, hf, rfl⟩ := eqOk_tree I t ys q2 t1 nd2 rb relb e5 (n := n) (by omega)
        refine ⟨fun k' => if k' = k then b else f k', fun k' v y h hy => ?_, ?_⟩
        · rcases List.mem_cons.mp h with h | h
          · cases h
            rw [hy0] at hy
            cases hy
            simp only [if_true]
            exact T
          · have := nk _ h
            show PySem.W.EqTree X.prog X.w s n v y (if k' = k then b else f k')
            rw [if_neg this]
            exact hf k' v y h hy
        · rw [List.all_cons, hy0, ← e6]
          simp only [if_true, Option.isSome_some, Bool.true_and]
          congr 1
          exact all_same fun p hp => by rw [if_neg (nk p hp)]
end
theorem leafNe {A : Around} (hA : A.units < cLine) : ∀ (a b : D) {u v : Value}, VS s a u → VS s b v → kn a ≤ 3 → kn b ≤ 3 → (kn a ≠ kn b ∨ kn a = 0) → SeqAt.RcNeAt A s u v (!eqB a b)
  | .non, .non, _, _, h, k, _, _, _ => by rw [show _ = _ from h, show _ = _ from k]; exact .none_none
  | .bl a, .bl b, _, _, h, k, _, _, _ => by rw [show _ = _ from h, show _ = _ from k]; exact .bool_bool a b
  | .int a, .int b, _, _, ⟨t, h⟩, ⟨t', k⟩, _, _, _ => by rw [h, k]; exact .int_int a t b t'
  | .str a, .str b, _, _, ⟨t, h⟩, ⟨t', k⟩, _, _, _ => by rw [h, k]; exact .str_str a t b t'
  | .bl a, .int b, _, _, h, ⟨t', k⟩, _, _, _ => by rw [show _ = _ from h, k]; exact .bool_int a b t'
  | .int a, .bl b, _, _, ⟨t, h⟩, k, _, _, _ => by rw [h, show _ = _ from k]; exact .int_bool a t b
  | .non, .bl b, _, _, h, k, _, _, _ => by rw [show _ = _ from h, show _ = _ from k]; exact .none_bool b
  | .non, .int b, _, _, h, ⟨t', k⟩, _, _, _ => by rw [show _ = _ from h, k]; exact .none_int b t'
  | .non, .str b, _, _, h, ⟨t', k⟩, _, _, _ => by rw [show _ = _ from h, k]; exact .none_str b t'
  | .bl a, .non, _, _, h, k, _, _, _ => by rw [show _ = _ from h, show _ = _ from k]; exact .bool_none a
  | .bl a, .str b, _, _, h, ⟨t', k⟩, _, _, _ => by rw [show _ = _ from h, k]; exact .bool_str a b t'
  | .int a, .non, _, _, ⟨t, h⟩, k, _, _, _ => by rw [h, show _ = _ from k]; exact .int_none a t
  | .int a, .str b, _, _, ⟨t, h⟩, ⟨t', k⟩, _, _, _ => by rw [h, k]; exact .int_str a t b t'
  | .str a, .non, _, _, ⟨t, h⟩, k, _, _, _ => by rw [h, show _ = _ from k]; exact .str_none a t
  | .str a, .bl b, _, _, ⟨t, h⟩, k, _, _, _ => by rw [h, show _ = _ from k]; exact .str_bool a t b
  | .str a, .int b, _, _, ⟨t, h⟩, ⟨t', k⟩, _, _, _ => by rw [h, k]; exact .str_int a t b t'
  | .non, .lst _, _, _, h, ⟨l, its, k, kl⟩, _, _, _ => by rw [show _ = _ from h, k]; exact .none_list kl hA
  | .bl a, .lst _, _, _, h, ⟨l, its, k, kl⟩, _, _, _ => by rw [show _ = _ from h, k]; exact .bool_list a kl hA
  | .int a, .lst _, _, _, ⟨t, h⟩, ⟨l, its, k, kl⟩, _, _, _ => by rw [h, k]; exact .int_list a t kl hA
  | .str a, .lst _, _, _, ⟨t, h⟩, ⟨l, its, k, kl⟩, _, _, _ => by rw [h, k]; exact .str_list a t kl hA
  | .non, .tup _, _, _, h, ⟨l, its, k, kl⟩, _, _, _ => by rw [show _ = _ from h, k]; exact .none_tuple kl hA
  | .bl a, .tup _, _, _, h, ⟨l, its, k, kl⟩, _, _, _ => by rw [show _ = _ from h, k]; exact .bool_tuple a kl hA
  | .int a, .tup _, _, _, ⟨t, h⟩, ⟨l, its, k, kl⟩, _, _, _ => by rw [h, k]; exact .int_tuple a t kl hA
  | .str a, .tup _, _, _, ⟨t, h⟩, ⟨l, its, k, kl⟩, _, _, _ => by rw [h, k]; exact .str_tuple a t kl hA
  | .lst _, .non, _, _, ⟨l, its, k, kl⟩, h, _, _, _ => by rw [show _ = _ from h, k]; exact .list_none kl hA
  | .lst _, .bl a, _, _, ⟨l, its, k, kl⟩, h, _, _, _ => by rw [show _ = _ from h, k]; exact .list_bool a kl hA
  | .lst _, .int a, _, _, ⟨l, its, k, kl⟩, ⟨t, h⟩, _, _, _ => by rw [h, k]; exact .list_int a t kl hA
  | .lst _, .str a, _, _, ⟨l, its, k, kl⟩, ⟨t, h⟩, _, _, _ => by rw [h, k]; exact .list_str a t kl hA
  | .tup _, .non, _, _, ⟨l, its, k, kl⟩, h, _, _, _ => by rw [show _ = _ from h, k]; exact .tuple_none kl hA
  | .tup _, .bl a, _, _, ⟨l, its, k, kl⟩, h, _, _, _ => by rw [show _ = _ from h, k]; exact .tuple_bool a kl hA
  | .tup _, .int a, _, _, ⟨l, its, k, kl⟩, ⟨t, h⟩, _, _, _ => by rw [h, k]; exact .tuple_int a t kl hA
  | .tup _, .str a, _, _, ⟨l, its, k, kl⟩, ⟨t, h⟩, _, _, _ => by rw [h, k]; exact .tuple_str a t kl hA
  | .lst _, .tup _, _, _, ⟨l, its, k, kl⟩, ⟨l', its', h, kl'⟩, _, _, _ => by rw [h, k]; exact .list_tuple kl kl' hA
  | .tup _, .lst _, _, _, ⟨l, its, k, kl⟩, ⟨l', its', h, kl'⟩, _, _, _ => by rw [h, k]; exact .tuple_list kl kl' hA
  | .lst _, .lst _, _, _, _, _, _, _, h => by rcases h with h | h <;> simp [kn] at h
  | .tup _, .tup _, _, _, _, _, _, _, h => by rcases h with h | h <;> simp [kn] at h
  | .non, .dic _, _, _, h, ⟨l, k, kl⟩, _, _, _ => by rw [show _ = _ from h, k]; exact RcNeAtD.none_dict  kl hA
  | .dic _, .non, _, _, ⟨l, k, kl⟩, h, _, _, _ => by rw [show _ = _ from h, k]; exact RcNeAtD.dict_none  kl hA
  | .bl a, .dic _, _, _, h, ⟨l, k, kl⟩, _, _, _ => by rw [show _ = _ from h, k]; exact RcNeAtD.bool_dict a kl hA
  | .dic _, .bl a, _, _, ⟨l, k, kl⟩, h, _, _, _ => by rw [show _ = _ from h, k]; exact RcNeAtD.dict_bool a kl hA
  | .int a, .dic _, _, _, ⟨t, h⟩, ⟨l, k, kl⟩, _, _, _ => by rw [h, k]; exact RcNeAtD.int_dict a t kl hA
  | .dic _, .int a, _, _, ⟨l, k, kl⟩, ⟨t, h⟩, _, _, _ => by rw [h, k]; exact RcNeAtD.dict_int a t kl hA
  | .str a, .dic _, _, _, ⟨t, h⟩, ⟨l, k, kl⟩, _, _, _ => by rw [h, k]; exact RcNeAtD.str_dict a t kl hA
  | .dic _, .str a, _, _, ⟨l, k, kl⟩, ⟨t, h⟩, _, _, _ => by rw [h, k]; exact RcNeAtD.dict_str a t kl hA
  | .lst _, .dic _, _, _, ⟨l', its, h, hl⟩, ⟨l, k, kl⟩, _, _, _ => by rw [h, k]; exact RcNeAtD.list_dict kl hl hA
  | .dic _, .lst _, _, _, ⟨l, k, kl⟩, ⟨l', its, h, hl⟩, _, _, _ => by rw [h, k]; exact RcNeAtD.dict_list kl hl hA
  | .tup _, .dic _, _, _, ⟨l', its, h, hl⟩, ⟨l, k, kl⟩, _, _, _ => by rw [h, k]; exact RcNeAtD.tuple_dict kl hl hA
  | .dic _, .tup _, _, _, ⟨l, k, kl⟩, ⟨l', its, h, hl⟩, _, _, _ => by rw [h, k]; exact RcNeAtD.dict_tuple kl hl hA
  | .dic _, .dic _, _, _, _, _, _, _, h => by rcases h with h | h <;> simp [kn] at h
  | .pr _, _, _, _, _, _, h, _, _ => by simp [kn] at h
  | .ins _ _, _, _, _, _, _, h, _, _ => by simp [kn] at h
  | .exc _ _, _, _, _, _, _, h, _, _ => by simp [kn] at h
  | _, .pr _, _, _, _, _, _, h, _ => by simp [kn] at h
  | _, .ins _ _, _, _, _, _, _, h, _ => by simp [kn] at h
  | _, .exc _ _, _, _, _, _, _, h, _ => by simp [kn] at h
/-- != over data -/
def neG : D → D → Option A := fun a b => if hgt a ≤ 100 then (eqO a b).map fun r => .d (.bl (!r)) else none
theorem o_neG (hu : X.A.units + 101 < cLine) : OpD X (compareOp .NotEq) neG := by
  intro pins s σ H x y v u Q I rx ry h
  obtain ⟨Z, a, b, r, hz, ra, rb, e, k⟩ := h
  unfold neG at e
  split at e
  case isFalse => cases e
  rename_i hh
  obtain ⟨c, e1, e2⟩ := map_some.mp e
  cases e2
  have fin : EP X pins σ Q (.bool (!c)) s := ⟨.bl (!c), H, I, rfl, k.sc rfl⟩
  have leaf : kn a ≤ 3 → kn b ≤ 3 → (kn a ≠ kn b ∨ kn a = 0) → eqB a b = c → wpAny (model X.prog X.w) X.A (compareOp .NotEq v u) (EP X pins σ Q) X.xe s := fun h1 h2 h3 h4 =>
    leafNe (by omega) a b (vs_of I ra rx) (vs_of I rb ry) h1 h2 h3 X.prog X.w X.xe _ (by rw [h4]; exact fin)
  by_cases hl : ∃ xs, a = .lst xs
  · obtain ⟨xs, rfl⟩ := hl
    by_cases hb : ∃ ys, b = .lst ys
    · obtain ⟨ys, rfl⟩ := hb
      obtain ⟨p, vs, rfl, g, rr⟩ := ra
      obtain ⟨p', ws, rfl, g', rr'⟩ := rb
      cases rx
      cases ry
      obtain ⟨i1, w1, l1, _⟩ := I.list (.inl g.l2)
      obtain ⟨i2, w2, l2, _⟩ := I.list (.inl g'.l2)
      unfold hgt at hh
      unfold eqO at e1
      simp only at e1
      by_cases hl : xs.length = ys.length
      · rw [if_pos hl] at e1
        obtain ⟨f, hf, rfl⟩ := eqOs_tree I xs ys rr rr' w1 w2 e1 (n := 99) (by omega)
        have hsz : i1.length = i2.length := by rw [← w1.length, ← w2.length, ← rr.length, ← rr'.length]; exact hl
        refine rcNe_lists (f := f) l1.isList l2.isList (by simpa using hsz) (by omega) (fun j h1 h2 => (show PySem.W.EqTree X.prog X.w s 99 _ _ (f j) by simpa using hf j (by simpa using h1) (by simpa using h2)).at X.A.in1 (by show X.A.units + 1 + _ < cLine; omega)) ?_
        rw [List.size_toArray]
        rw [← hsz, Nat.min_self] at fin
        exact fin
      · rw [if_neg hl] at e1
        cases e1
        refine SeqAt.RcNeAt.lists_lengths l1.isList l2.isList ?_ (by omega) X.prog X.w X.xe _ fin
        have hsz : i1.length ≠ i2.length := by rw [← w1.length, ← w2.length, ← rr.length, ← rr'.length]; exact hl
        simpa using hsz
    · unfold eqO at e1
      have e' : kn b ≤ 3 ∧ c = false := by
        cases b with
        | lst ys => exact absurd ⟨ys, rfl⟩ hb
        | _ => first | (simp [kn] at e1; done) | (simp only [kn] at e1; exact ⟨by simp [kn], by simpa using e1.symm⟩)
      obtain ⟨hk, rfl⟩ := e'
      exact leaf (by simp [kn]) hk (.inl fun h => hb (by
        cases b <;> first | exact ⟨_, rfl⟩ | cases h)) (eqB_seq hk (.inl rfl))
  by_cases ht : ∃ xs, a = .tup xs
  · obtain ⟨xs, rfl⟩ := ht
    by_cases hb : ∃ ys, b = .tup ys
    · obtain ⟨ys, rfl⟩ := hb
      obtain ⟨p, vs, o, rfl, _, _, g, rr⟩ := ra
      obtain ⟨p', ws, o', rfl, _, _, g', rr'⟩ := rb
      cases rx
      cases ry
      obtain ⟨i1, w1, l1, _⟩ := I.tuple (.inl g.frz2)
      obtain ⟨i2, w2, l2, _⟩ := I.tuple (.inl g'.frz2)
      unfold hgt at hh
      unfold eqO at e1
      simp only at e1
      obtain ⟨d, e3, e4⟩ := map_some.mp e1
      obtain ⟨f, hf, rfl⟩ := eqOs_tree I xs ys rr rr' w1 w2 e3 (n := 99) (by omega)
      refine rcNe_tuples (f := f) l1 l2 (by omega) (fun j h1 h2 => (show PySem.W.EqTree X.prog X.w s 99 _ _ (f j) by simpa using hf j (by simpa using h1) (by simpa using h2)).at X.A.in1 (by show X.A.units + 1 + _ < cLine; omega)) ?_
      have hd : decide (xs.length = ys.length) = (i1.toArray.size == i2.toArray.size) := by
        rw [List.size_toArray, List.size_toArray, ← w1.length, ← w2.length, ← rr.length, ← rr'.length]
        by_cases h : xs.length = ys.length
        · simp [h]
        · simp [h]
      rw [← e4, hd] at fin
      simpa using fin
    · unfold eqO at e1
      have e' : kn b ≤ 3 ∧ c = false := by
        cases b with
        | tup ys => exact absurd ⟨ys, rfl⟩ hb
        | _ => first | (simp [kn] at e1; done) | (simp only [kn] at e1; exact ⟨by simp [kn], by simpa using e1.symm⟩)
      obtain ⟨hk, rfl⟩ := e'
      exact leaf (by simp [kn]) hk (.inl fun h => hb (by
        cases b <;> first | exact ⟨_, rfl⟩ | cases h)) (eqB_seq hk (.inr (.inl rfl)))
  by_cases hd : ∃ xs, a = .dic xs
  · obtain ⟨xs, rfl⟩ := hd
    cases b with
    | dic ys =>
      obtain ⟨p, vs, rfl, g, rr⟩ := ra
      obtain ⟨p', ws, rfl, g', rr'⟩ := rb
      cases rx
      cases ry
      obtain ⟨_, n1, k1, rel1, d1⟩ := dk_rd I.hok g.l2
      obtain ⟨_, n2, k2, rel2, d2⟩ := dk_rd I.hok g'.l2
      unfold hgt at hh
      unfold eqO at e1
      simp only at e1
      obtain ⟨d, e3, e4⟩ := map_some.mp e1
      obtain ⟨f, hf, rfl⟩ := eqOk_tree I xs ys rr rel1 (keys_nodup I g) rr' rel2 e3 (n := 99) (by omega)
      refine rcNe_dicts n1 n2 d1 d2 (by omega) (fun _ => PySem.W.KeqHitsIn.of (e := f) _ fun k' v y hm hv => (hf k' v y hm hv).at X.A.in1 (by show X.A.units + 1 + _ < cLine; omega)) ?_
      have hd : decide (xs.length = ys.length) = (k1.length == k2.length) := by
        rw [← rel1.length, ← rel2.length, ← repK_len rr, ← repK_len rr']
        by_cases h : xs.length = ys.length
        · simp [h]
        · simp [h]
      rw [← e4, hd] at fin
      exact fin
    | _ =>
      unfold eqO at e1
      first
        | (simp [kn] at e1; done)
        | (have e' : c = false := by simpa [kn] using e1.symm
           subst e'
           exact leaf (by simp [kn]) (by simp [kn]) (.inl (by simp [kn])) (eqB_seq (by simp [kn]) (.inr (.inr rfl))))
  have h0 : kn a = 0 ∧ kn b ≤ 3 ∧ eqB a b = c := by
    cases a with
    | lst xs => exact absurd ⟨xs, rfl⟩ hl
    | tup xs => exact absurd ⟨xs, rfl⟩ ht
    | dic xs => exact absurd ⟨xs, rfl⟩ hd
    | _ => simp [eqO, kn] at e1 <;> exact ⟨rfl, e1⟩
  exact leaf (by omega) h0.2.1 (.inr h0.1) h0.2.2
end
end Tw
end
section
set_option maxRecDepth 100000
namespace Tw
open PySem PySem.Spec PyProof.Rows L2

/-- a def of the top -/
def DefT (K : PySem.W.Frag) (mg : Str → Option Value) (nm : Str) (st : Stmt) (ps : List Str) : Prop := ∃ f fd, mg nm = some (.ref f) ∧ Fun K nm nm st f fd ∧ Binds K fd ps []
/-- a method of a class -/
def MetT (K : PySem.W.Frag) (mg : Str → Option Value) (cn nm qual : Str) (st : Stmt) (ps : List Str) : Prop := ∃ C f fd, mg cn = some (.ref C) ∧ Cls K C ∧ Meth K C nm f ∧ Fun K nm qual st f fd ∧ Binds K fd ps []
section
variable (P : Program) (w : World) (K : PySem.W.Frag) (mg : Str → Option Value) (base : Heap)
/-- a def that keeps its promise with k calls below it -/
def Cal (nm : Str) (ps : List Str) (k : Nat) (F : F0) : Prop := ∃ f fd, mg nm = some (.ref f) ∧ PySem.W.keepIn K (.ref f) = true ∧ Binds K fd ps [] ∧ FnOk P w K mg base CX0 k f fd ps (sp0 mg F)
def Cal1 (nm : Str) (ps : List Str) (k : Nat) (F : F1) : Prop := ∃ f fd, mg nm = some (.ref f) ∧ PySem.W.keepIn K (.ref f) = true ∧ Binds K fd ps [] ∧ FnOk P w K mg base CX0 k f fd ps (sp1 mg F)
def CalM (cn nm : Str) (ps : List Str) (k : Nat) (F : F0) : Prop := ∃ C f fd, mg cn = some (.ref C) ∧ Cls K C ∧ Meth K C nm f ∧ Binds K fd ps [] ∧ FnOk P w K mg base CX0 k f fd ps (sp0 mg F)
def CalI (cn : Str) (ps : List Str) (k : Nat) (F : F1) : Prop := ∃ C f fd, mg cn = some (.ref C) ∧ Cls K C ∧ Mk K C f ∧ Binds K fd ps [] ∧ FnOk P w K mg base CX0 k f fd ps (sp1 mg F)
def CalE (cn : Str) (ps : List Str) (k : Nat) (F : F0) : Prop := ∃ C f fd, mg cn = some (.ref C) ∧ Cls K C ∧ PySem.W.findIn K (.ref C) "__eq__" = some (some (.ref f)) ∧ PySem.W.isFn K (.ref f) = true ∧ PySem.W.findIn K (.ref C) "__ne__" = some (some (.builtin "object.__ne__")) ∧
  PySem.W.mroIn K C (.type "object") = some true ∧ Binds K fd ps [] ∧ FnOk P w K mg base CX0 k f fd ps (sp0 mg F)
end
theorem no0 {P : Program} {w : World} {K : PySem.W.Frag} {mg : Str → Option Value} {base : Heap} {k : Nat} {f : Addr} {fd : FuncData} {ps : List Str} : FnOk P w K mg base CX0 k f fd ps (sp0 mg fun _ => none) := by
  have no : ∀ vs H Q E, ¬ sp0 mg (fun _ => none) vs H Q E := fun vs H Q E ⟨_, _, _, _, _, e, _⟩ => by cases e
  exact ⟨fun vs H Q E h => absurd h (no vs H Q E), fun A outer s H args us vs Q E _ _ _ _ h => absurd h (no vs H Q E)⟩
theorem no1 {P : Program} {w : World} {K : PySem.W.Frag} {mg : Str → Option Value} {base : Heap} {k : Nat} {f : Addr} {fd : FuncData} {ps : List Str} : FnOk P w K mg base CX0 k f fd ps (sp1 mg fun _ _ => none) := by
  have no : ∀ vs H Q E, ¬ sp1 mg (fun _ _ => none) vs H Q E := fun vs H Q E ⟨_, _, _, _, _, _, _, _, _, _, _, _, _, _, _, e, _⟩ => by cases e
  exact ⟨fun vs H Q E h => absurd h (no vs H Q E), fun A outer s H args us vs Q E _ _ _ _ h => absurd h (no vs H Q E)⟩
section
variable {P : Program} {w : World} {K : PySem.W.Frag} {mg : Str → Option Value} {base : Heap} {nm cn qual : Str} {st : Stmt} {ps N : List Str} {k : Nat} {b : SF} {F : F0} {G : F1}
theorem Cal1.none (T : DefT K mg nm st ps) : Cal1 P w K mg base nm ps k fun _ _ => none := let ⟨f, fd, m, F, bi⟩ := T; ⟨f, fd, m, F.kp, bi, no1⟩
theorem Cal.none (T : DefT K mg nm st ps) : Cal P w K mg base nm ps k fun _ => none := let ⟨f, fd, m, F, bi⟩ := T; ⟨f, fd, m, F.kp, bi, no0⟩
theorem CalM.none (T : MetT K mg cn nm qual st ps) : CalM P w K mg base cn nm ps k fun _ => none := let ⟨C, f, fd, m, c, me, F, bi⟩ := T; ⟨C, f, fd, m, c, me, bi, no0⟩
abbrev BodyOk (P : Program) (w : World) (K : PySem.W.Frag) (mg : Str → Option Value) (base : Heap) (qual : Str) (st : Stmt) (N : List Str) (k : Nat) (b : SF) : Prop :=
  ∀ (f : Addr) (cdv : Value) (A : Around) (outer : List Env) (s : Shared) (H : Hp) (E : XK), Room k (A.deeper (envOfC qual (defScope st) s.heap.objs.size f cdv)) → BI (cxOf CX0 P w K mg base N qual (defScope st) f cdv A outer s H E).nox (defBody st) b
theorem Cal.mk {k' : Nat} (T : DefT K mg nm st ps) (S : FnScope N ps (defScope st)) (hb : BodyOk P w K mg base nm st N k b) (hnp : ps.length ≤ N.length := by decide) (hk : k + 1 ≤ k' := by omega) : Cal P w K mg base nm ps k' (run0 N.length ps.length b) :=
  let ⟨f, fd, m, F, bi⟩ := T; ⟨f, fd, m, F.kp, bi, (ok0 F S hnp fun cdv A outer s H E hr => hb f cdv A outer s H E hr).mono hk⟩
theorem Cal1.mk {k' : Nat} (T : DefT K mg nm st ps) (S : FnScope N ps (defScope st)) (hb : BodyOk P w K mg base nm st N k b) (hnp : ps.length ≤ N.length := by decide) (hk : k + 1 ≤ k' := by omega) : Cal1 P w K mg base nm ps k' (run1 N.length ps.length b) :=
  let ⟨f, fd, m, F, bi⟩ := T; ⟨f, fd, m, F.kp, bi, (ok1 F S hnp fun cdv A outer s H E hr => hb f cdv A outer s H E hr).mono hk⟩
theorem CalM.mk {k' : Nat} (T : MetT K mg cn nm qual st ps) (S : FnScope N ps (defScope st)) (hb : BodyOk P w K mg base qual st N k b) (hnp : ps.length ≤ N.length := by decide) (hk : k + 1 ≤ k' := by omega) : CalM P w K mg base cn nm ps k' (run0 N.length ps.length b) :=
  let ⟨C, f, fd, m, c, me, F, bi⟩ := T; ⟨C, f, fd, m, c, me, bi, (ok0 F S hnp fun cdv A outer s H E hr => hb f cdv A outer s H E hr).mono hk⟩
theorem CalI.mk {k' : Nat} (T : MetT K mg cn "__init__" qual st ps) (hM : ∀ C, mg cn = some (.ref C) → PySem.W.makesIn K C = true ∧ PySem.W.keepIn K (.ref C) = true) (S : FnScope N ps (defScope st)) (hb : BodyOk P w K mg base qual st N k b) (hnp : ps.length ≤ N.length := by decide) (hk : k + 1 ≤ k' := by omega) :
    CalI P w K mg base cn ps k' (run1 N.length ps.length b) :=
  let ⟨C, f, fd, m, c, me, F, bi⟩ := T; ⟨C, f, fd, m, c, ⟨(hM C m).1, me.at_, me.fn, (hM C m).2⟩, bi, (ok1 F S hnp fun cdv A outer s H E hr => hb f cdv A outer s H E hr).mono hk⟩
theorem CalE.mk (c : CalM P w K mg base cn "__eq__" ps k F) (hne : ∀ C, mg cn = some (.ref C) → PySem.W.findIn K (.ref C) "__ne__" = some (some (.builtin "object.__ne__")) ∧ PySem.W.mroIn K C (.type "object") = some true) : CalE P w K mg base cn ps k F :=
  let ⟨C, f, fd, m, c, me, bi, G⟩ := c; ⟨C, f, fd, m, c, me.at_, me.fn, (hne C m).1, (hne C m).2, bi, G⟩
end
section
variable {X : Cx} {k k' : Nat} {ps : List Str} {x cn fn : Str} {p pos apos cpos : Pos} {e a b value : Expr} {es : List Expr} {os : List Opd} {o q : Opd} {f g : EF} {F : F0} {G : F1}
theorem e_callC (c : Cal X.prog X.w X.K X.mg X.base x ps k F) (hr : Room k' X.A) (ha : AI X (e :: es) os) (hk : k ≤ k' := by omega) (hg : Gl X x := by rfl) (hdb : (x == ("__debug__" : Str)) = false := by decide)
    (he : starEach (e :: es) X.env = (false, eval e X.env) :: starEach es X.env := by rfl) (hpl : (backTo pos (starEach es X.env)).any (·.1) = false := by rfl) : EI X (.Call (.Name x p) (e :: es) [] pos) (cal0 os F) :=
  let ⟨_, _, m, kp, bi, G⟩ := c; e_call G (hr.mono hk) m kp bi ha hg hdb he hpl
theorem e_call1C (i : Nat) {y : Str} {py : Pos} (c : Cal1 X.prog X.w X.K X.mg X.base x ps k G) (hr : Room k' X.A) (ha : AI X es os) (hk : k ≤ k' := by omega) (hN : X.N[i]? = some y := by rfl) (hv : Vis X.env.scope y := by first | exact Or.inl rfl | exact Or.inr (Or.inl rfl) | exact Or.inr (Or.inr rfl))
    (hd : (y == ("__debug__" : Str)) = false := by decide) (hcd : (y == ("__classdict__" : Str)) = false := by decide) (hg : Gl X x := by rfl) (hs1 : starEach (.Name y py :: es) X.env = (false, eval (.Name y py) X.env) :: starEach es X.env := by rfl)
    (hdb : (x == ("__debug__" : Str)) = false := by decide) (hpl : (backTo pos (starEach es X.env)).any (·.1) = false := by rfl) : EI X (.Call (.Name x p) (.Name y py :: es) [] pos) (cal1 i os G) :=
  let ⟨_, _, m, kp, bi, G⟩ := c; e_call1 i G (hr.mono hk) m kp bi ha hN hv hd hcd hg hs1 hdb hpl
def get2E (o p q : Opd) : EF := fun ρ => (ev1 o ρ).bind fun x => (res x.2 x.1).bind fun d0 => if isDic d0 = true then (ev1 p x.2).bind fun y => (ev1 q y.2).bind fun z => (inlD z.1).bind fun dd => (res z.2 x.1).bind fun d => (dicD d).bind fun kvs => (res z.2 y.1).bind fun kd => (toKey kd).map fun k => (.d ((Tw.getD kvs k).getD dd), z.2) else none
theorem EI.or {e : Expr} (h : EI X e f) (k : EI X e g) : EI X e (fun ρ => (f ρ).or (g ρ)) := (PE.or h k).imp fun σ H Q w => by
  obtain ⟨c, ρ, ts, tv, r, ρ', s, e, kk⟩ := w
  cases e1 : f ρ with
  | some y =>
    have e : (f ρ).or (g ρ) = some (r, ρ') := e
    rw [e1] at e
    cases e
    exact .inl ⟨c, ρ, ts, tv, r, ρ', s, e1, kk⟩
  | none =>
    have e : (f ρ).or (g ρ) = some (r, ρ') := e
    rw [e1] at e
    exact .inr ⟨c, ρ, ts, tv, r, ρ', s, e, kk⟩
theorem SI.or {st : Stmt} {f g : SF} (h : SI X st f) (k : SI X st g) : SI X st (fun ρ => (f ρ).or (g ρ)) := (PS.or h k).imp fun D σ H w => by
  obtain ⟨c, ρ, ts, tv, o, ρ', s, e, kk⟩ := w
  cases e1 : f ρ with
  | some y =>
    have e : (f ρ).or (g ρ) = some (o, ρ') := e
    rw [e1] at e
    cases e
    exact .inl ⟨c, ρ, ts, tv, o, ρ', s, e1, kk⟩
  | none =>
    have e : (f ρ).or (g ρ) = some (o, ρ') := e
    rw [e1] at e
    exact .inr ⟨c, ρ, ts, tv, o, ρ', s, e, kk⟩
theorem TI.or {e : Expr} {f g : TF} (h : TI X e f) (k : TI X e g) : TI X e (fun ρ => (f ρ).or (g ρ)) := (show PT X e fun σ H Q => tTst X.mg f σ H Q ∨ tTst X.mg g σ H Q from ⟨fun pins s σ H D I w => by
  rcases w with w | w
  · exact PT.run h pins s σ H D I w
  · exact PT.run k pins s σ H D I w⟩).imp fun σ H Q w => by
  obtain ⟨c, ρ, ts, tv, r, ρ', s, e, kk⟩ := w
  cases e1 : f ρ with
  | some y =>
    have e : (f ρ).or (g ρ) = some (r, ρ') := e
    rw [e1] at e
    cases e
    exact .inl ⟨c, ρ, ts, tv, r, ρ', s, e1, kk⟩
  | none =>
    have e : (f ρ).or (g ρ) = some (r, ρ') := e
    rw [e1] at e
    exact .inr ⟨c, ρ, ts, tv, r, ρ', s, e, kk⟩
end
end Tw
end
section
set_option maxRecDepth 100000
namespace Tw
open PySem PySem.Spec PyProof.Rows L2

section
variable {X : Cx}
variable {a : Expr} {o : Opd} {pos : Pos}
def tupDO : D → Option (List D)
  | .tup xs => some xs
  | _ => none
/-- t[lo:hi] of a tuple -/
def slT (o : Opd) (l h : Part) : EF := fun ρ => (ev1 o ρ).bind fun x => (part l x.2).bind fun i => (part h i.2).bind fun j => (res j.2 x.1).bind fun d => (tupDO d).map fun xs => (.d (.tup (cutD xs i.1 j.1)), j.2)
end
end Tw
end
section
set_option maxRecDepth 100000
namespace Tw
open PySem PySem.Spec PyProof.Rows L2

def mulL : D → D → Option A
  | .lst xs, .int k => if (-(2 ^ 63) ≤ k ∧ k < 2 ^ 63) ∧ xs.length * k.toNat ≤ 16777216 then some (.l false (List.replicate k.toNat xs).flatten) else none
  | _, _ => none
theorem Reps.rep {mg : Str → Option Value} {Z : Addr → Prop} {H : Hp} {xs : List D} {vs : List V} (h : Reps mg Z H xs vs) : ∀ n : Nat, Reps mg Z H (List.replicate n xs).flatten (List.replicate n vs).flatten
  | 0 => rfl
  | n + 1 => by
    rw [List.replicate_succ, List.replicate_succ, List.flatten_cons, List.flatten_cons]
    exact h.append (h.rep n)
variable {X : Cx}
/-- products of ints, repeated lists -/
abbrev mulX := orD mulI mulL
end Tw
end
section
namespace Tw
open PySem PySem.Spec PyProof.Rows L2
/-- sorted of texts, any number -/
def sortBD : List D → Option A
  | [.lst xs] => (mapO strD xs).map fun ss => .l false ((sortS ss).map D.str)
  | [.dic kvs] => (mapO (fun kv : Key × D => strK kv.1) kvs).map fun ss => .l false ((sortS ss).map D.str)
  | _ => none
end Tw
end
section
set_option maxRecDepth 100000
set_option maxHeartbeats 4000000
namespace Tw
open PySem PySem.Spec PyProof.Rows L2
def S_EffectU_initU  : SF := (seqS (fldS 0 "Effect" "kind" (var 1)) (seqS (fldS 0 "Effect" "atom" (ifE (asB (isiE (.pk 2) "list")) (app [(.pk 2)] tupleD) (var 2))) (seqS (setS 4 (app [(.ev (lcE (seqW (var 3)) (tupG 2 (consG (nameG 5) (consG (nameG 6) nilG))) tstY (tupE [(.ev (var 5)), (.ev (var 6))]) [5, 6]))] dictD)) (fldS 0 "Effect" "members" (app [(.ev (lcE (seqW (app [(.pk 4)] sortBD)) (nameG 5) tstY (tupE [(.ev (var 5)), (.ev (bin (.pk 4) (.pk 5) ixX))]) [5]))] tupleD)))))
def G_EffectU_initU (n : Nat) : F1 := run1 7 4 (S_EffectU_initU )
def S_drop (F_EffectU_initU : F1) : SF := (retS (mkE "Effect" [(.ev (cst (.str "drop"))), (.ev (cst .non)), (.ev (lstE []))] (F_EffectU_initU)))
def G_drop (n : Nat) : F0 := run0 0 0 (S_drop (G_EffectU_initU n))
def S_of_patch (F_EffectU_initU : F1) (F_drop : F0) (F_of_patch : F0) : SF := (seqS (ifS (asB (isiE (.pk 0) "dict")) (retS (mkE "Effect" [(.ev (cst (.str "merge"))), (.ev (cst .non)), (.ev (lcD 0 mItems (tupG 2 (consG (nameG 2) (consG (nameG 3) nilG))) tstY (tupE [(.ev (var 2)), (.ev (cal0 [(.ev (var 3)), (.ev (cst (.bl true)))] (F_of_patch)))]) [2, 3]))] (F_EffectU_initU))) nxS) (seqS (ifS (andT (asB (bin (.pk 0) (.ev (cst .non)) isN)) (asB (var 1))) (retS (cal0 [] (F_drop))) nxS) (retS (mkE "Effect" [(.ev (cst (.str "set"))), (.ev (var 0)), (.ev (lstE []))] (F_EffectU_initU)))))
def G_of_patch : Nat → F0
  | 0 => fun _ => none
  | n + 1 => run0 4 2 (S_of_patch (G_EffectU_initU n) (G_drop n) (G_of_patch n))
def S_keep (F_EffectU_initU : F1) : SF := (retS (mkE "Effect" [(.ev (cst (.str "keep"))), (.ev (cst .non)), (.ev (lstE []))] (F_EffectU_initU)))
def G_keep (n : Nat) : F0 := run0 0 0 (S_keep (G_EffectU_initU n))
def S_built (F_EffectU_initU : F1) (F_built : F0) : SF := (seqS (ifS (asB (bin (.ev (fldE "Effect" "kind" (.pk 0))) (.ev (tupE [(.ev (cst (.str "keep"))), (.ev (cst (.str "drop")))])) (inL false))) (retS (cst .non)) nxS) (seqS (ifS (asB (bin (.ev (fldE "Effect" "kind" (.pk 0))) (.ev (cst (.str "merge"))) neS)) (retV 0) nxS) (seqS (setS 1 (lcE (seqW (fldE "Effect" "members" (.pk 0))) (tupG 2 (consG (nameG 2) (consG (nameG 3) nilG))) tstY (tupE [(.ev (var 2)), (.ev (cal0 [(.ev (var 3))] (F_built)))]) [2, 3])) (retS (mkE "Effect" [(.ev (cst (.str "build"))), (.ev (cst .non)), (.ev (lcE (seqW (var 1)) (tupG 2 (consG (nameG 2) (consG (nameG 3) nilG))) (asB (bin (.pk 3) (.ev (cst .non)) notN)) (tupE [(.ev (var 2)), (.ev (var 3))]) [2, 3]))] (F_EffectU_initU))))))
def G_built : Nat → F0
  | 0 => fun _ => none
  | n + 1 => run0 4 1 (S_built (G_EffectU_initU n) (G_built n))
def S_joined (F_EffectU_initU : F1) (F_joined : F0) (F_keep : F0) (F_drop : F0) (F_built : F0) : SF := (seqS (ifS (asB (bin (.ev (fldE "Effect" "kind" (.pk 1))) (.ev (cst (.str "keep"))) eqS)) (retV 0) nxS) (seqS (ifS (orT (asB (bin (.ev (fldE "Effect" "kind" (.pk 1))) (.ev (cst (.str "merge"))) neS)) (asB (bin (.ev (fldE "Effect" "kind" (.pk 0))) (.ev (cst (.str "keep"))) eqS))) (retV 1) nxS) (seqS (ifS (asB (bin (.ev (fldE "Effect" "kind" (.pk 0))) (.ev (tupE [(.ev (cst (.str "set"))), (.ev (cst (.str "drop")))])) (inL false))) (retS (cal0 [(.ev (var 1))] (F_built))) nxS) (seqS (setS 2 (ifE (asB (bin (.ev (fldE "Effect" "kind" (.pk 0))) (.ev (cst (.str "merge"))) eqS)) (cal0 [] (F_keep)) (cal0 [] (F_drop)))) (seqS (asgS (tupE [(.ev (app [(.ev (fldE "Effect" "members" (.pk 0)))] dictD)), (.ev (app [(.ev (fldE "Effect" "members" (.pk 1)))] dictD))]) (tupG 2 (consG (nameG 3) (consG (nameG 4) nilG)))) (seqS (setS 5 (lcD 4 mKeys (nameG 6) tstY (tupE [(.ev (var 6)), (.ev (cal0 [(.ev (get2E (.pk 3) (.pk 6) (.ev (var 2)))), (.ev (bin (.pk 4) (.pk 6) ixX))] (F_joined)))]) [6])) (seqS (setS 5 (bin (.pk 5) (.ev (lcE (seqW (fldE "Effect" "members" (.pk 0))) (tupG 2 (consG (nameG 6) (consG (nameG 7) nilG))) (asB (bin (.pk 6) (.pk 4) (inK true))) (tupE [(.ev (var 6)), (.ev (var 7))]) [6, 7])) addX)) (seqS (ifS (asB (bin (.ev (fldE "Effect" "kind" (.pk 0))) (.ev (cst (.str "build"))) eqS)) (setS 5 (lcE (seqW (var 5)) (tupG 2 (consG (nameG 6) (consG (nameG 7) nilG))) (asB (bin (.ev (fldE "Effect" "kind" (.pk 7))) (.ev (cst (.str "drop"))) neS)) (tupE [(.ev (var 6)), (.ev (var 7))]) [6, 7])) nxS) (retS (mkE "Effect" [(.ev (fldE "Effect" "kind" (.pk 0))), (.ev (cst .non)), (.ev (var 5))] (F_EffectU_initU)))))))))))
def G_joined : Nat → F0
  | 0 => fun _ => none
  | n + 1 => run0 8 2 (S_joined (G_EffectU_initU n) (G_joined n) (G_keep n) (G_drop n) (G_built n))
end Tw
end
section
set_option maxRecDepth 100000
set_option maxHeartbeats 4000000
namespace Tw
open PySem PySem.Spec PyProof.Rows L2

def frA : D → D
  | .lst xs => .tup xs
  | d => d
def pairE (p : Str × D) : D := .tup [.str p.1, p.2]
def dctE (ms : List (Str × D)) : List (Key × D) := ms.map fun p => (Sum.inr p.1, p.2)
def lkE (ms : List (Str × D)) (k : Str) : Option D := (ms.find? fun p => decide (p.1 = k)).map (·.2)
def memE (ms : List (Str × D)) : List (Str × D) := (sortS (ms.map (·.1))).map fun k => (k, (lkE ms k).getD .non)
def ND (ms : List (Str × D)) : Prop := (ms.map (·.1)).Nodup
theorem putD_new {acc : List (Key × D)} {k : Key} {v : D} (h : k ∉ acc.map (·.1)) : putD acc k v = acc ++ [(k, v)] := by
  unfold putD
  rw [if_neg]
  intro h1
  obtain ⟨p, hp, e⟩ := List.any_eq_true.mp h1
  exact h (List.mem_map.mpr ⟨p, hp, of_decide_eq_true e⟩)
theorem mergeD_nodup : ∀ {more acc : List (Key × D)}, ((acc ++ more).map (·.1)).Nodup → mergeD acc more = acc ++ more
  | [], acc, _ => by simp [mergeD]
  | p :: r, acc, h => by
    show mergeD (putD acc p.1 p.2) r = _
    rw [putD_new, mergeD_nodup]
    · simp
    · simpa using h
    · intro hm
      rw [List.map_append, List.map_cons] at h
      have := (List.nodup_append.mp h).2.2 _ hm p.1 List.mem_cons_self
      exact this rfl
theorem inr_nodup {ms : List (Str × D)} (h : ND ms) : ((dctE ms).map (·.1)).Nodup := by
  unfold dctE
  rw [List.map_map]
  have : ((fun x : Key × D => x.1) ∘ fun p : Str × D => ((Sum.inr p.1 : Key), p.2)) = (fun s : Str => (Sum.inr s : Key)) ∘ fun p => p.1 := rfl
  rw [this, ← List.map_map]
  exact List.Pairwise.map _ (fun a b hab e => hab (Sum.inr.inj e)) h
theorem getD_dct (k : Str) : ∀ ms : List (Str × D), getD (dctE ms) (.inr k) = lkE ms k
  | [] => rfl
  | p :: r => by
    have ih := getD_dct k r
    unfold getD dctE lkE at *
    rw [List.map_cons, List.find?_cons, List.find?_cons]
    by_cases h : p.1 = k
    · simp [h]
    · simp only [h, Sum.inr.injEq, decide_false]
      exact ih
theorem lkE_some {ms : List (Str × D)} {k : Str} (h : k ∈ ms.map (·.1)) : ∃ d, lkE ms k = some d := by
  obtain ⟨p, hp, rfl⟩ := List.mem_map.mp h
  unfold lkE
  cases hf : ms.find? (fun q => decide (q.1 = p.1)) with
  | none => exact absurd (List.find?_eq_none.mp hf p hp) (by simp)
  | some q => exact ⟨q.2, rfl⟩
def effD (k : Str) (a : D) (ms : List (Str × D)) : D := .ins "Effect" [("kind", .str k), ("atom", a), ("members", .tup (ms.map pairE))]
theorem mapO_pairs : ∀ ms : List (Str × D), mapO pairD (ms.map pairE) = some (ms.map fun p => (Sum.inr p.1, p.2))
  | [] => rfl
  | p :: r => by
    simp only [List.map_cons, mapO]
    rw [show pairD (pairE p) = some (Sum.inr p.1, p.2) from rfl, Option.bind_some, mapO_pairs r]
    rfl
theorem dictD_lst {ms : List (Str × D)} (h : ND ms) : dictD [.lst (ms.map pairE)] = some (.k false (dctE ms)) := by
  unfold dictD
  simp only
  rw [mapO_pairs, Option.map_some]
  have := mergeD_nodup (acc := []) (more := dctE ms) (by simpa using inr_nodup h)
  rw [show (ms.map fun p => (Sum.inr p.1, p.2)) = dctE ms from rfl, this]
  rfl
end Tw
end
section
set_option maxRecDepth 100000
set_option maxHeartbeats 4000000
namespace Tw
open PySem PySem.Spec PyProof.Rows L2

end Tw
end
section
set_option maxRecDepth 100000
set_option maxHeartbeats 4000000
namespace Tw
open PySem PySem.Spec PyProof.Rows L2

def nonB : D → Bool
  | .non => true
  | _ => false
theorem nd_filter {p : Str × D → Bool} {ms : List (Str × D)} (nd : ND ms) : ND (ms.filter p) := List.Pairwise.sublist (List.filter_sublist.map _) nd
end Tw
end
section
set_option maxRecDepth 100000
set_option maxHeartbeats 4000000
namespace Tw
open PySem PySem.Spec PyProof.Rows L2

theorem lkE_find {ms : List (Str × D)} (nd : ND ms) {p : Str × D} (hp : p ∈ ms) : lkE ms p.1 = some p.2 := by
  unfold lkE
  induction ms with
  | nil => cases hp
  | cons q r ih =>
    unfold ND at nd
    rw [List.map_cons] at nd
    obtain ⟨h1, h2⟩ := List.nodup_cons.mp nd
    rw [List.find?_cons]
    rcases List.mem_cons.mp hp with rfl | hp
    · simp
    · have : q.1 ≠ p.1 := fun e => h1 (by rw [e]; exact List.mem_map.mpr ⟨p, hp, rfl⟩)
      simp only [this, decide_false]
      exact ih h2 hp
end Tw
end
section
set_option maxRecDepth 100000
set_option maxHeartbeats 4000000
namespace Tw
open PySem PySem.Spec PyProof.Rows L2

def plainB : D → Bool
  | .non => true
  | .int _ => true
  | .str _ => true
  | _ => false
def atomB : D → Bool
  | .lst xs => xs.all plainB && decide (xs.length < 1000)
  | .non => true
  | .int _ => true
  | .str _ => true
  | _ => false
inductive Doc : Nat → D → Prop
  | atom {n : Nat} {d : D} (h : atomB d = true) : Doc n d
  | dic {n : Nat} {ms : List (Str × D)} (h64 : ms.length < 2048) (nd : ND ms) (hm : ∀ p ∈ ms, Doc n p.2) : Doc (n + 1) (.dic (dctE ms))
mutual
def prtD : D → Nat
  | .dic kvs => 1 + prtK kvs
  | _ => 1
def prtK : List (Key × D) → Nat
  | [] => 0
  | (_, d) :: r => prtD d + prtK r
end
end Tw
end
section
set_option maxRecDepth 100000
set_option maxHeartbeats 4000000
namespace Tw
open PySem PySem.Spec PyProof.Rows L2

/-- the row's patches one after the other -/
inductive Steps (m : Nat) : D → List D → D → Prop
  | nil {c : D} : Steps m c [] c
  | cons {c x o c' f : D} {xs : List D} {r r2 : A} (h1 : G_of_patch m [x, .bl false] = some r) (h2 : r.toD = some o) (h3 : G_joined m [c, o] = some r2) (h4 : r2.toD = some c') (h5 : r2.bor = false) (h6 : Steps m c' xs f) : Steps m c (x :: xs) f
theorem Steps.app {m : Nat} {c d e : D} {xs ys : List D} (h : Steps m c xs d) (k : Steps m d ys e) : Steps m c (xs ++ ys) e := by
  induction h with
  | nil => exact k
  | cons h1 h2 h3 h4 h5 _ ih => exact .cons h1 h2 h3 h4 h5 (ih k)
end Tw
end
section
set_option maxRecDepth 100000
set_option maxHeartbeats 4000000
namespace Tw
open PySem PySem.Spec PyProof.Rows L2

mutual
def dataD : D → Bool
  | .non => true
  | .bl _ => true
  | .int _ => true
  | .str _ => true
  | .lst xs => datas xs
  | .tup xs => datas xs
  | _ => false
def datas : List D → Bool
  | [] => true
  | d :: r => dataD d && datas r
end
mutual
theorem eqO_self : ∀ d : D, dataD d = true → eqO d d = some true
  | .non, _ => by simp [eqO, kn, eqB]
  | .bl _, _ => by simp [eqO, kn, eqB]
  | .int _, _ => by simp [eqO, kn, eqB]
  | .str _, _ => by simp [eqO, kn, eqB]
  | .lst xs, h => by
    unfold eqO
    simp only [if_true]
    exact eqOs_self xs (by unfold dataD at h; exact h)
  | .tup xs, h => by
    unfold eqO
    simp only
    rw [eqOs_self xs (by unfold dataD at h; exact h)]
    simp
  | .dic _, h => by simp [dataD] at h
  | .pr _, h => by simp [dataD] at h
  | .ins _ _, h => by simp [dataD] at h
  | .exc _ _, h => by simp [dataD] at h
theorem eqOs_self : ∀ xs : List D, datas xs = true → eqOs xs xs = some true
  | [], _ => by simp [eqOs]
  | x :: r, h => by
    unfold datas at h
    rw [Bool.and_eq_true] at h
    unfold eqOs
    simp only
    rw [eqO_self x h.1, eqOs_self r h.2]
    rfl
end
/-- effects whose members are so deep -/
inductive EffT : Nat → D → Prop
  | mk {n : Nat} {k : Str} {a : D} {ms : List (Str × D)} (ha : dataD a = true) (hh : hgt a ≤ 3) (h64 : ms.length < 2048) (hm : ∀ p ∈ ms, EffT n p.2) : EffT (n + 1) (effD k a ms)
end Tw
end
section
set_option maxRecDepth 100000
namespace Tw
open PySem PySem.Spec

/-- a document, or a missing one -/
inductive T where
  | miss
  | atom (a : D)
  | obj (m : Str → T)
/-- an effect -/
inductive E where
  | keep
  | drop
  | set (a : D)
  | merge (m : Str → E)
  | build (m : Str → E)
namespace T
def ch : T → Str → T
  | .obj m, k => m k
  | _, _ => .miss
end T
def act : E → T → T
  | .keep, d => d
  | .drop, _ => .miss
  | .set a, _ => .atom a
  | .merge m, d => .obj fun k => act (m k) (d.ch k)
  | .build m, _ => .obj fun k => act (m k) .miss
/-- what an effect makes where nothing is -/
def bu : E → E
  | .keep => .drop
  | .drop => .drop
  | .set a => .set a
  | .merge m => .build fun k => bu (m k)
  | .build m => .build m
/-- one effect and then another one -/
def jn : E → E → E
  | e, .keep => e
  | _, .drop => .drop
  | _, .set a => .set a
  | _, .build m => .build m
  | .keep, .merge m => .merge m
  | .merge m1, .merge m => .merge fun k => jn (m1 k) (m k)
  | .build m1, .merge m => .build fun k => jn (m1 k) (m k)
  | .drop, .merge m => .build fun k => bu (m k)
  | .set _, .merge m => .build fun k => bu (m k)
/-- the effect of a member of a patch -/
def eff : T → E
  | .miss => .keep
  | .atom a => if nonB a then .drop else .set a
  | .obj m => .merge fun k => eff (m k)
/-- the effect of a patch -/
def effR : T → E
  | .miss => .keep
  | .atom a => .set a
  | .obj m => .merge fun k => eff (m k)
def effs (ps : List T) : E := ps.foldl (fun e p => jn e (effR p)) .keep
def runT (d : T) (ps : List T) : T := ps.foldl (fun d p => act (effR p) d) d
/-- what stands in a build -/
inductive Bd : E → Prop
  | drop : Bd .drop
  | set {a : D} : Bd (.set a)
  | build {m : Str → E} (h : ∀ k, Bd (m k)) : Bd (.build m)
inductive Wf : E → Prop
  | keep : Wf .keep
  | bd {e : E} (h : Bd e) : Wf e
  | merge {m : Str → E} (h : ∀ k, Wf (m k)) : Wf (.merge m)
theorem bd_bu : ∀ {e : E}, Wf e → Bd (bu e)
  | .keep, _ => .drop
  | .drop, _ => .drop
  | .set a, _ => .set
  | .merge m, h => .build fun k => bd_bu (match h with | .merge h => h k | .bd h => nomatch h)
  | .build m, h => match h with | .bd h => h
theorem wf_jn : ∀ {e f : E}, Wf e → Wf f → Wf (jn e f)
  | e, .keep, h, _ => by cases e <;> exact h
  | e, .drop, _, h => by cases e <;> exact h
  | e, .set a, _, h => by cases e <;> exact h
  | e, .build m, _, h => by cases e <;> exact h
  | .keep, .merge m, _, h => h
  | .drop, .merge m, _, h => .bd (.build fun k => bd_bu (match h with | .merge h => h k | .bd h => nomatch h))
  | .set a, .merge m, _, h => .bd (.build fun k => bd_bu (match h with | .merge h => h k | .bd h => nomatch h))
  | .merge m1, .merge m, h1, h => .merge fun k => wf_jn (match h1 with | .merge h => h k | .bd h => nomatch h) (match h with | .merge h => h k | .bd h => nomatch h)
  | .build m1, .merge m, h1, h => .bd (.build fun k => bd_jn (match h1 with | .bd (.build h) => h k) (match h with | .merge h => h k | .bd h => nomatch h))
where bd_jn : ∀ {e f : E}, Bd e → Wf f → Bd (jn e f)
  | e, .keep, h, _ => by cases e <;> exact h
  | e, .drop, _, h => by cases e <;> exact .drop
  | e, .set a, _, h => by cases e <;> exact .set
  | e, .build m, _, h => by cases h with | bd h => cases e <;> exact h
  | .keep, .merge m, h, _ => nomatch h
  | .drop, .merge m, _, h => .build fun k => bd_bu (match h with | .merge h => h k | .bd h => nomatch h)
  | .set a, .merge m, _, h => .build fun k => bd_bu (match h with | .merge h => h k | .bd h => nomatch h)
  | .merge m1, .merge m, h1, h => nomatch h1
  | .build m1, .merge m, h1, h => .build fun k => bd_jn (match h1 with | .build h => h k) (match h with | .merge h => h k | .bd h => nomatch h)
theorem wf_eff : ∀ t : T, Wf (eff t)
  | .miss => .keep
  | .atom a => by
    unfold eff
    split
    · exact .bd .drop
    · exact .bd .set
  | .obj m => .merge fun k => wf_eff (m k)
theorem wf_effR : ∀ t : T, Wf (effR t)
  | .miss => .keep
  | .atom a => .bd .set
  | .obj m => .merge fun k => wf_eff (m k)
theorem wf_foldl : ∀ (ps : List T) {e : E}, Wf e → Wf (ps.foldl (fun e p => jn e (effR p)) e)
  | [], e, h => h
  | p :: r, e, h => wf_foldl r (wf_jn h (wf_effR p))
theorem wf_effs (ps : List T) : Wf (effs ps) := wf_foldl ps .keep

/-- a path is one of an effect: at each key that leads on, something is done -/
def onE : List Str → E → Prop
  | [], _ => True
  | k :: r, .merge m => m k ≠ .keep ∧ onE r (m k)
  | k :: r, .build m => m k ≠ .drop ∧ onE r (m k)
  | _ :: _, _ => False
def sing (k : Str) (d : T) : T := .obj fun j => if j = k then d else .miss
/-- the ends of the tried documents: two atoms, an empty object, an object with a key that is not used -/
structure Ends (S : T → Prop) (z : Str) : Prop where
  two : ∃ a b : D, a ≠ b ∧ S (.atom a) ∧ S (.atom b)
  emp : S (.obj fun _ => .miss)
  unu : ∃ a : D, S (sing z (.atom a))
end Tw
end
section
set_option maxRecDepth 100000
set_option maxHeartbeats 4000000
namespace Tw
open PySem PySem.Spec PyProof.Rows L2

mutual
def den : D → T
  | .dic kvs => .obj fun s => denK kvs s
  | d => .atom d
def denK : List (Key × D) → Str → T
  | [], _ => .miss
  | (k, d) :: r, s => if k = Sum.inr s then den d else denK r s
end
theorem den_ne : ∀ d : D, den d ≠ .miss
  | .dic _, h => by simp [den] at h
  | .non, h => by simp [den] at h
  | .bl _, h => by simp [den] at h
  | .int _, h => by simp [den] at h
  | .str _, h => by simp [den] at h
  | .lst _, h => by simp [den] at h
  | .tup _, h => by simp [den] at h
  | .pr _, h => by simp [den] at h
  | .ins _ _, h => by simp [den] at h
  | .exc _ _, h => by simp [den] at h
def denO : Option D → T
  | some d => den d
  | none => .miss
theorem lkE_cons (p : Str × D) (r : List (Str × D)) (k : Str) : lkE (p :: r) k = if p.1 = k then some p.2 else lkE r k := by
  unfold lkE
  rw [List.find?_cons]
  by_cases h : p.1 = k
  · simp [h]
  · simp [h]
theorem denK_dct : ∀ (ms : List (Str × D)) (k : Str), denK (dctE ms) k = denO (lkE ms k)
  | [], k => rfl
  | p :: r, k => by
    show (if (Sum.inr p.1 : Key) = .inr k then den p.2 else denK (dctE r) k) = _
    rw [lkE_cons, denK_dct r k]
    by_cases h : p.1 = k
    · rw [if_pos h, if_pos (by rw [h])]; rfl
    · rw [if_neg h, if_neg (fun e => h (Sum.inr.inj e))]
theorem den_dct (ms : List (Str × D)) : den (.dic (dctE ms)) = .obj fun k => denO (lkE ms k) := by
  show T.obj (fun s => denK (dctE ms) s) = _
  exact congrArg T.obj (funext fun k => denK_dct ms k)
theorem nodup_len {α : Type} [DecidableEq α] : ∀ {xs ys : List α}, xs.Nodup → (∀ x ∈ xs, x ∈ ys) → xs.length ≤ ys.length
  | [], ys, _, _ => Nat.zero_le _
  | x :: r, ys, h, hs => by
    obtain ⟨h1, h2⟩ := List.nodup_cons.mp h
    have hx := hs x List.mem_cons_self
    have ih := nodup_len (xs := r) (ys := ys.erase x) h2 fun y hy => (List.mem_erase_of_ne (fun e => by subst e; exact h1 hy)).mpr (hs y (List.mem_cons_of_mem _ hy))
    rw [List.length_erase_of_mem hx] at ih
    have : 0 < ys.length := List.length_pos_of_mem hx
    rw [List.length_cons]
    omega
theorem lkE_none {ms : List (Str × D)} {k : Str} : lkE ms k = none ↔ k ∉ ms.map (·.1) := by
  constructor
  · intro h hk
    obtain ⟨d, e⟩ := lkE_some hk
    rw [h] at e
    cases e
  · intro h
    cases e : lkE ms k with
    | none => rfl
    | some d =>
      exfalso
      unfold lkE at e
      obtain ⟨p, hp, _⟩ := map_some.mp e
      have h1 : decide (p.1 = k) = true := List.find?_some (p := fun q : Str × D => decide (q.1 = k)) hp
      have h2 := List.mem_of_find?_eq_some hp
      exact h (List.mem_map.mpr ⟨p, h2, of_decide_eq_true h1⟩)
theorem lkE_mem {ms : List (Str × D)} {k : Str} {d : D} (h : lkE ms k = some d) : (k, d) ∈ ms := by
  unfold lkE at h
  obtain ⟨p, hp, e⟩ := map_some.mp h
  have h1 : p.1 = k := of_decide_eq_true (List.find?_some (p := fun q : Str × D => decide (q.1 = k)) hp)
  have h2 := List.mem_of_find?_eq_some hp
  rw [← h1, ← e]
  exact h2
end Tw
end
section
set_option maxRecDepth 100000
set_option maxHeartbeats 4000000
namespace Tw
open PySem PySem.Spec PyProof.Rows L2

theorem lk_ext {ms ms' : List (Str × D)} (nd : ND ms) (nd' : ND ms') (h : ∀ p, p ∈ ms ↔ p ∈ ms') (k : Str) : lkE ms k = lkE ms' k := by
  cases e : lkE ms k with
  | some d =>
    have := (h _).mp (lkE_mem e)
    exact (lkE_find nd' this).symm
  | none =>
    refine (lkE_none.mpr fun hk => ?_).symm
    obtain ⟨d, hd⟩ := lkE_some hk
    have := (h _).mpr (lkE_mem hd)
    exact lkE_none.mp e (List.mem_map.mpr ⟨_, this, rfl⟩)
/-- two orders of the same members are one -/
theorem memE_ext {ms ms' : List (Str × D)} (nd : ND ms) (nd' : ND ms') (h : ∀ p, p ∈ ms ↔ p ∈ ms') : memE ms = memE ms' := by
  have hk : sortS (ms.map (·.1)) = sortS (ms'.map (·.1)) := by
    refine pw_uniq ?_ (sortS_pw _) (sortS_pw _)
    refine (sortS_perm _).trans (List.Perm.trans ?_ (sortS_perm _).symm)
    refine (List.perm_ext_iff_of_nodup nd nd').mpr fun k => ?_
    constructor
    · intro hk; obtain ⟨p, hp, rfl⟩ := List.mem_map.mp hk; exact List.mem_map.mpr ⟨p, (h p).mp hp, rfl⟩
    · intro hk; obtain ⟨p, hp, rfl⟩ := List.mem_map.mp hk; exact List.mem_map.mpr ⟨p, (h p).mpr hp, rfl⟩
  unfold memE
  rw [hk]
  exact List.map_congr_left fun k _ => by rw [lk_ext nd nd' h k]
inductive DocK (ks : List Str) : Nat → D → Prop
  | atom {n : Nat} {d : D} (h : atomB d = true) : DocK ks n d
  | dic {n : Nat} {ms : List (Str × D)} (nd : ND ms) (hk : ∀ p ∈ ms, p.1 ∈ ks) (hm : ∀ p ∈ ms, DocK ks n p.2) : DocK ks (n + 1) (.dic (dctE ms))
theorem len_ks {ks : List Str} {ms : List (Str × D)} (nd : ND ms) (hk : ∀ p ∈ ms, p.1 ∈ ks) : ms.length ≤ ks.length := by
  have := nodup_len (xs := ms.map fun q => q.1) (ys := ks) (show (ms.map fun q : Str × D => q.1).Nodup from nd) fun x hx => by
    obtain ⟨p, hp, rfl⟩ := List.mem_map.mp hx
    exact hk p hp
  simpa using this
theorem DocK.doc {ks : List Str} (h32 : ks.length < 1024) {n : Nat} {d : D} (h : DocK ks n d) : Doc n d := by
  induction h with
  | atom h => exact .atom h
  | dic nd hk hm ih => exact .dic (by have := len_ks nd hk; omega) nd ih
theorem DocK.mono {ks : List Str} {n m : Nat} {d : D} (h : DocK ks n d) (hn : n ≤ m) : DocK ks m d := by
  induction h generalizing m with
  | atom h => exact .atom h
  | dic nd hk hm ih =>
    obtain ⟨m', rfl⟩ : ∃ m', m = m' + 1 := ⟨m - 1, by omega⟩
    exact .dic nd hk fun p hp => ih p hp (by omega)
inductive Ef (ks : List Str) : Nat → E → D → Prop
  | keep {n : Nat} : Ef ks (n + 1) .keep (effD "keep" .non [])
  | drop {n : Nat} : Ef ks (n + 1) .drop (effD "drop" .non [])
  | set {n : Nat} {a : D} (h : atomB a = true) : Ef ks (n + 1) (.set a) (effD "set" (frA a) [])
  | merge {n : Nat} {m : Str → E} {ms : List (Str × D)} (nd : ND ms) (so : memE ms = ms) (hk : ∀ p ∈ ms, p.1 ∈ ks) (hne : ∀ p ∈ ms, m p.1 ≠ .keep) (hm : ∀ p ∈ ms, Ef ks n (m p.1) p.2) (ho : ∀ k, k ∉ ms.map (·.1) → m k = .keep) : Ef ks (n + 1) (.merge m) (effD "merge" .non ms)
  | build {n : Nat} {m : Str → E} {ms : List (Str × D)} (nd : ND ms) (so : memE ms = ms) (hk : ∀ p ∈ ms, p.1 ∈ ks) (hne : ∀ p ∈ ms, m p.1 ≠ .drop) (hm : ∀ p ∈ ms, Ef ks n (m p.1) p.2) (ho : ∀ k, k ∉ ms.map (·.1) → m k = .drop) : Ef ks (n + 1) (.build m) (effD "build" .non ms)
variable {ks : List Str}
theorem Ef.mono {n m : Nat} {e : E} {d : D} (h : Ef ks n e d) (hn : n ≤ m) : Ef ks m e d := by
  induction h generalizing m with
  | keep => obtain ⟨m', rfl⟩ : ∃ m', m = m' + 1 := ⟨m - 1, by omega⟩; exact .keep
  | drop => obtain ⟨m', rfl⟩ : ∃ m', m = m' + 1 := ⟨m - 1, by omega⟩; exact .drop
  | set h => obtain ⟨m', rfl⟩ : ∃ m', m = m' + 1 := ⟨m - 1, by omega⟩; exact .set h
  | merge nd so hk hne hm ho ih => obtain ⟨m', rfl⟩ : ∃ m', m = m' + 1 := ⟨m - 1, by omega⟩; exact .merge nd so hk hne (fun p hp => ih p hp (by omega)) ho
  | build nd so hk hne hm ho ih => obtain ⟨m', rfl⟩ : ∃ m', m = m' + 1 := ⟨m - 1, by omega⟩; exact .build nd so hk hne (fun p hp => ih p hp (by omega)) ho
theorem effD_inj {k k' : Str} {a a' : D} {ms ms' : List (Str × D)} (h : effD k a ms = effD k' a' ms') : k = k' ∧ a = a' ∧ ms = ms' := by
  unfold effD at h
  simp only [D.ins.injEq, List.cons.injEq, Prod.mk.injEq, D.str.injEq, D.tup.injEq, true_and, and_true] at h
  refine ⟨h.1, h.2.1, ?_⟩
  have := h.2.2
  clear h
  induction ms generalizing ms' with
  | nil => cases ms' with
    | nil => rfl
    | cons _ _ => simp at this
  | cons p r ih => cases ms' with
    | nil => simp at this
    | cons q t =>
      rw [List.map_cons, List.map_cons, List.cons.injEq] at this
      rw [ih this.2]
      have h1 := this.1
      unfold pairE at h1
      simp at h1
      congr 1
      exact Prod.ext h1.1 h1.2
theorem frA_inj {a b : D} (ha : atomB a = true) (hb : atomB b = true) (h : frA a = frA b) : a = b := by
  cases a <;> first | (cases ha; done) | (cases b <;> first | (cases hb; done) | (simp [frA] at h; done) | (simp [frA] at h; subst h; rfl) | rfl)
theorem kd_ne : ¬ (("keep" : Str) = "drop") ∧ ¬ (("keep" : Str) = "set") ∧ ¬ (("keep" : Str) = "merge") ∧ ¬ (("keep" : Str) = "build") ∧ ¬ (("drop" : Str) = "set") ∧ ¬ (("drop" : Str) = "merge") ∧ ¬ (("drop" : Str) = "build") ∧ ¬ (("set" : Str) = "merge") ∧ ¬ (("set" : Str) = "build") ∧ ¬ (("merge" : Str) = "build") := by decide +kernel
/-- an effect is told by what stands in the program -/
theorem Ef.inj {n : Nat} {e : E} {d : D} (h : Ef ks n e d) : ∀ {n' : Nat} {e' : E}, Ef ks n' e' d → e = e' := by
  obtain ⟨n1, n2, n3, n4, n5, n6, n7, n8, n9, n10⟩ := kd_ne
  induction h with
  | keep => intro n' e' h'; generalize hx : effD "keep" .non [] = x at h'; cases h' <;> first | rfl | (have := (effD_inj hx).1; first | exact absurd this n1 | exact absurd this n2 | exact absurd this n3 | exact absurd this n4)
  | drop => intro n' e' h'; generalize hx : effD "drop" .non [] = x at h'; cases h' <;> first | rfl | (have := (effD_inj hx).1; first | exact absurd this.symm n1 | exact absurd this n5 | exact absurd this n6 | exact absurd this n7)
  | set h =>
    intro n' e' h'
    generalize hx : effD "set" _ [] = x at h'
    cases h' with
    | set h' => rw [frA_inj h h' (effD_inj hx).2.1]
    | _ => have := (effD_inj hx).1; first | exact absurd this.symm n2 | exact absurd this.symm n5 | exact absurd this n8 | exact absurd this n9
  | @merge n m ms nd so hk hne hm ho ih =>
    intro n' e' h'
    generalize hx : effD "merge" _ ms = x at h'
    cases h' with
    | @merge n' m' ms' nd' so' hk' hne' hm' ho' =>
      obtain rfl := (effD_inj hx).2.2
      congr 1
      funext k
      by_cases hkm : k ∈ ms.map (·.1)
      · obtain ⟨p, hp, rfl⟩ := List.mem_map.mp hkm
        exact ih p hp (hm' p hp)
      · rw [ho k hkm, ho' k hkm]
    | _ => have := (effD_inj hx).1; first | exact absurd this.symm n3 | exact absurd this.symm n6 | exact absurd this.symm n8 | exact absurd this n10
  | @build n m ms nd so hk hne hm ho ih =>
    intro n' e' h'
    generalize hx : effD "build" _ ms = x at h'
    cases h' with
    | @build n' m' ms' nd' so' hk' hne' hm' ho' =>
      obtain rfl := (effD_inj hx).2.2
      congr 1
      funext k
      by_cases hkm : k ∈ ms.map (·.1)
      · obtain ⟨p, hp, rfl⟩ := List.mem_map.mp hkm
        exact ih p hp (hm' p hp)
      · rw [ho k hkm, ho' k hkm]
    | _ => have := (effD_inj hx).1; first | exact absurd this.symm n4 | exact absurd this.symm n7 | exact absurd this.symm n9 | exact absurd this.symm n10
/-- .. and tells it -/
theorem Ef.uniq {n : Nat} {e : E} {d : D} (h : Ef ks n e d) : ∀ {n' : Nat} {d' : D}, Ef ks n' e d' → d = d' := by
  induction h with
  | keep => intro n' d' h'; cases h'; rfl
  | drop => intro n' d' h'; cases h'; rfl
  | set h => intro n' d' h'; cases h'; rfl
  | @merge n m ms nd so hk hne hm ho ih =>
    intro n' d' h'
    cases h' with
    | @merge n' _ ms' nd' so' hk' hne' hm' ho' =>
      have : ms = ms' := by
        rw [← so, ← so']
        refine memE_ext nd nd' fun p => ⟨fun hp => ?_, fun hp => ?_⟩
        · have hin : p.1 ∈ ms'.map (·.1) := Classical.byContradiction fun hn => hne p hp (ho' _ hn)
          obtain ⟨q, hq, e⟩ := List.mem_map.mp hin
          have := ih p hp (d' := q.2) (by rw [← e]; exact hm' q hq)
          have : p = q := Prod.ext e.symm this
          rw [this]; exact hq
        · have hin : p.1 ∈ ms.map (·.1) := Classical.byContradiction fun hn => hne' p hp (ho _ hn)
          obtain ⟨q, hq, e⟩ := List.mem_map.mp hin
          have := ih q hq (d' := p.2) (by rw [e]; exact hm' p hp)
          have : q = p := Prod.ext e this
          rw [← this]; exact hq
      rw [this]
  | @build n m ms nd so hk hne hm ho ih =>
    intro n' d' h'
    cases h' with
    | @build n' _ ms' nd' so' hk' hne' hm' ho' =>
      have : ms = ms' := by
        rw [← so, ← so']
        refine memE_ext nd nd' fun p => ⟨fun hp => ?_, fun hp => ?_⟩
        · have hin : p.1 ∈ ms'.map (·.1) := Classical.byContradiction fun hn => hne p hp (ho' _ hn)
          obtain ⟨q, hq, e⟩ := List.mem_map.mp hin
          have := ih p hp (d' := q.2) (by rw [← e]; exact hm' q hq)
          have : p = q := Prod.ext e.symm this
          rw [this]; exact hq
        · have hin : p.1 ∈ ms.map (·.1) := Classical.byContradiction fun hn => hne' p hp (ho _ hn)
          obtain ⟨q, hq, e⟩ := List.mem_map.mp hin
          have := ih q hq (d' := p.2) (by rw [e]; exact hm' p hp)
          have : q = p := Prod.ext e this
          rw [← this]; exact hq
      rw [this]
end Tw
end
section
set_option maxRecDepth 100000
set_option maxHeartbeats 4000000
namespace Tw
open PySem PySem.Spec PyProof.Rows L2
variable {ks : List Str}

theorem Ef.pos {n : Nat} {e : E} {d : D} (h : Ef ks n e d) : 1 ≤ n := by cases h <;> omega
end Tw
end
section
set_option maxRecDepth 100000
set_option maxHeartbeats 4000000
namespace Tw
open PySem PySem.Spec PyProof.Rows L2
variable {ks : List Str}

/-- a row that the package takes -/
structure Row (ks : List Str) (k : Nat) (xs : List D) : Prop where
  doc : ∀ x ∈ xs, DocK ks k x
  sum : (xs.map prtD).sum ≤ 200
/-- the facts of an effect -/
inductive Fc : D → D → Prop
  | mk {k : Str} {a : D} {ms : List (Str × D)} {g : Str × D → D} (h : ∀ p ∈ ms, Fc p.2 (g p)) : Fc (effD k a ms) (.tup [.str k, a, .tup (ms.map fun p => .tup [.str p.1, g p])])
theorem Fc.inj {d f : D} (h : Fc d f) : ∀ {d' : D}, Fc d' f → d = d' := by
  induction h with
  | @mk k a ms g h ih =>
    intro d' h'
    generalize hx : D.tup [.str k, a, .tup (ms.map fun p => .tup [.str p.1, g p])] = x at h'
    cases h' with
    | @mk k' a' ms' g' h' =>
      simp only [D.tup.injEq, List.cons.injEq, D.str.injEq, and_true] at hx
      obtain ⟨rfl, rfl, hx⟩ := hx
      have : ms = ms' := by
        clear h
        induction ms generalizing ms' with
        | nil => cases ms' with
          | nil => rfl
          | cons _ _ => simp at hx
        | cons p r ihl => cases ms' with
          | nil => simp at hx
          | cons q t =>
            simp only [List.map_cons, List.cons.injEq, D.tup.injEq, D.str.injEq, and_true] at hx
            obtain ⟨⟨e1, e2⟩, e3⟩ := hx
            have := ih p List.mem_cons_self (d' := q.2) (by rw [e2]; exact h' q List.mem_cons_self)
            have e : p = q := Prod.ext e1 this
            rw [e, ihl (fun p hp => ih p (List.mem_cons_of_mem _ hp)) (fun p hp => h' p (List.mem_cons_of_mem _ hp)) e3]
      rw [this]
end Tw
end
section
set_option maxRecDepth 100000
set_option maxHeartbeats 4000000
namespace Tw
open PySem PySem.Spec PyProof.Rows L2
variable {ks : List Str}
theorem Ef.on {n : Nat} {e : E} {d : D} (h : Ef ks n e d) : ∀ {p : List Str}, onE p e → p.length < n ∧ ∀ k ∈ p, k ∈ ks := by
  induction h with
  | keep => intro p hp; cases p with
    | nil => simp
    | cons k r => exact hp.elim
  | drop => intro p hp; cases p with
    | nil => simp
    | cons k r => exact hp.elim
  | set h => intro p hp; cases p with
    | nil => simp
    | cons k r => exact hp.elim
  | @merge n m ms nd so hk hne hm ho ih =>
    intro p hp
    cases p with
    | nil => simp
    | cons k r =>
      obtain ⟨h1, h2⟩ := hp
      have hkm : k ∈ ms.map (·.1) := Classical.byContradiction fun h => h1 (ho k h)
      obtain ⟨q, hq, rfl⟩ := List.mem_map.mp hkm
      obtain ⟨h3, h4⟩ := ih q hq h2
      refine ⟨by rw [List.length_cons]; omega, fun j hj => ?_⟩
      rcases List.mem_cons.mp hj with rfl | hj
      · exact hk q hq
      · exact h4 j hj
  | @build n m ms nd so hk hne hm ho ih =>
    intro p hp
    cases p with
    | nil => simp
    | cons k r =>
      obtain ⟨h1, h2⟩ := hp
      have hkm : k ∈ ms.map (·.1) := Classical.byContradiction fun h => h1 (ho k h)
      obtain ⟨q, hq, rfl⟩ := List.mem_map.mp hkm
      obtain ⟨h3, h4⟩ := ih q hq h2
      refine ⟨by rw [List.length_cons]; omega, fun j hj => ?_⟩
      rcases List.mem_cons.mp hj with rfl | hj
      · exact hk q hq
      · exact h4 j hj
end Tw
end
section
set_option maxRecDepth 100000
set_option maxHeartbeats 4000000
namespace Tw
open PySem PySem.Spec PyProof.Rows L2

end Tw
end
section
set_option maxRecDepth 100000
set_option maxHeartbeats 4000000
namespace Tw
open PySem PySem.Spec PyProof.Rows L2

def WP {α : Type} (o : Option α) (Q : α → Prop) : Prop := ∃ x, o = some x ∧ Q x
section
variable {α β : Type}
theorem WP.mono {o : Option α} {P Q : α → Prop} (h : WP o P) (k : ∀ x, P x → Q x) : WP o Q := let ⟨x, e, p⟩ := h; ⟨x, e, k x p⟩
theorem WP.of {o : Option α} {x : α} {Q : α → Prop} (e : o = some x) (q : Q x) : WP o Q := ⟨x, e, q⟩
@[simp ↓] theorem WP_some {x : α} {Q : α → Prop} : WP (some x) Q ↔ Q x := ⟨fun ⟨y, e, q⟩ => by cases e; exact q, fun q => ⟨x, rfl, q⟩⟩
@[simp ↓] theorem WP_none {Q : α → Prop} : WP (none : Option α) Q ↔ False := ⟨fun h => let ⟨_, e, _⟩ := h; (nomatch e), False.elim⟩
@[simp ↓] theorem WP_bind {o : Option α} {f : α → Option β} {Q : β → Prop} : WP (o.bind f) Q ↔ WP o fun x => WP (f x) Q := by
  constructor
  · rintro ⟨y, e, q⟩
    obtain ⟨x, e1, e2⟩ := bind_some.mp e
    exact ⟨x, e1, y, e2, q⟩
  · rintro ⟨x, e1, y, e2, q⟩
    exact ⟨y, bind_some.mpr ⟨x, e1, e2⟩, q⟩
@[simp ↓] theorem WP_map {o : Option α} {f : α → β} {Q : β → Prop} : WP (o.map f) Q ↔ WP o fun x => Q (f x) := by
  constructor
  · rintro ⟨y, e, q⟩
    obtain ⟨x, e1, e2⟩ := map_some.mp e
    exact ⟨x, e1, show Q (f x) by rw [e2]; exact q⟩
  · rintro ⟨x, e1, q⟩
    exact ⟨f x, map_some.mpr ⟨x, e1, rfl⟩, q⟩
@[simp ↓] theorem WP_ite {c : Prop} [Decidable c] {a b : Option α} {Q : α → Prop} : WP (if c then a else b) Q ↔ (c → WP a Q) ∧ (¬ c → WP b Q) := by
  by_cases h : c
  · simp [h]
  · simp [h]
end
@[simp] theorem at_zero (x : Option A) (ρ : Ro) : at_ (x :: ρ) 0 = x := by cases x <;> rfl
@[simp] theorem at_succ (x : Option A) (ρ : Ro) (n : Nat) : at_ (x :: ρ) (n + 1) = at_ ρ n := rfl
@[simp] theorem toD_d' (x : D) : (A.d x).toD = some x := rfl
@[simp] theorem toD_l' (x : List D) : (A.l false x).toD = some (.lst x) := rfl
@[simp] theorem toD_k' (x : List (Key × D)) : (A.k false x).toD = some (.dic x) := rfl
@[simp] theorem bor_d (x : D) : (A.d x).bor = false := rfl
@[simp] theorem bor_l (b : Bool) (x : List D) : (A.l b x).bor = b := rfl
@[simp] theorem bor_k (b : Bool) (x : List (Key × D)) : (A.k b x).bor = b := rfl
@[simp] theorem bor_i (b : Bool) (c : Str) (x : List (Str × A)) : (A.i b c x).bor = b := rfl
@[simp] theorem toP_d (x : D) : (A.d x).toP = some x := rfl
@[simp] theorem toP_l (b : Bool) (x : List D) : (A.l b x).toP = some (.lst x) := rfl
@[simp] theorem toP_k (b : Bool) (x : List (Key × D)) : (A.k b x).toP = some (.dic x) := rfl
@[simp] theorem lend_l (b : Bool) (x : List D) : (A.l b x).lend = some (.l true x) := rfl
@[simp] theorem lend_k (b : Bool) (x : List (Key × D)) : (A.k b x).lend = some (.k true x) := rfl
@[simp] theorem mark_l (b c : Bool) (x : List D) : (A.l b x).mark c = .l c x := rfl
@[simp] theorem mark_k (b c : Bool) (x : List (Key × D)) : (A.k b x).mark c = .k c x := rfl
def okO (x : Option A) (n i : Nat) : Bool := match x with | some x => !x.bor | none => decide (i < n)
@[simp] theorem okOld_eq (ρ : Ro) (i : Nat) : okOld ρ i = okO (at_ ρ i) ρ.length i := rfl
@[simp] theorem okO_some (x : A) (n i : Nat) : okO (some x) n i = !x.bor := rfl
@[simp] theorem okO_none (n i : Nat) : okO none n i = decide (i < n) := rfl
section
variable {ρ : Ro}
@[simp ↓] theorem WP_dv {f : EF} {Q : D × Ro → Prop} : WP (dv f ρ) Q ↔ WP (f ρ) fun x => WP x.1.toD fun d => Q (d, x.2) := by unfold dv; simp only [WP_bind, WP_map]
@[simp ↓] theorem WP_ev {f : EF} {Q : Sum D Nat × Ro → Prop} : WP (ev1 (.ev f) ρ) Q ↔ WP (f ρ) fun x => WP x.1.toD fun d => Q (.inl d, x.2) := by unfold ev1; simp only [WP_map, WP_dv]
@[simp ↓] theorem WP_pk {i : Nat} {Q : Sum D Nat × Ro → Prop} : WP (ev1 (.pk i) ρ) Q ↔ (at_ ρ i).isSome = true ∧ Q (.inr i, ρ) := by
  unfold ev1
  by_cases h : (at_ ρ i).isSome = true
  · simp [h]
  · simp [h]
@[simp] theorem res_inl (d : D) : res ρ (.inl d) = some d := rfl
@[simp] theorem res_inr (i : Nat) : res ρ (.inr i) = (at_ ρ i).bind A.toP := rfl
@[simp ↓] theorem WP_res_inl {d : D} {Q : D → Prop} : WP (res ρ (.inl d)) Q ↔ Q d := by simp only [res_inl, WP_some]
@[simp ↓] theorem WP_res_inr {i : Nat} {Q : D → Prop} : WP (res ρ (.inr i)) Q ↔ WP (at_ ρ i) fun x => WP x.toP Q := by simp only [res_inr, WP_bind]
@[simp ↓] theorem WP_cst {x : D} {Q : A × Ro → Prop} : WP (cst x ρ) Q ↔ Q (.d x, ρ) := WP_some
@[simp ↓] theorem WP_var {i : Nat} {Q : A × Ro → Prop} : WP (var i ρ) Q ↔ WP (at_ ρ i) fun x => WP x.toD fun d => Q (.d d, ρ.set i (some (.d d))) := by unfold var; simp only [WP_bind, WP_map]
@[simp ↓] theorem WP_bin {o p : Opd} {op : D → D → Option A} {Q : A × Ro → Prop} : WP (bin o p op ρ) Q ↔ WP (ev1 o ρ) fun x => WP (ev1 p x.2) fun y => WP (res y.2 x.1) fun a => WP (res y.2 y.1) fun b => WP (op a b) fun r => Q (r, y.2) := by unfold bin; simp only [WP_bind, WP_map]
@[simp ↓] theorem WP_un {f : EF} {op : D → Option A} {Q : A × Ro → Prop} : WP (un f op ρ) Q ↔ WP (dv f ρ) fun x => WP (op x.1) fun r => Q (r, x.2) := by unfold un; simp only [WP_bind, WP_map]
@[simp ↓] theorem WP_evs_nil {Q : List (Sum D Nat) × Ro → Prop} : WP (evs [] ρ) Q ↔ Q ([], ρ) := WP_some
@[simp ↓] theorem WP_evs_cons {o : Opd} {r : List Opd} {Q : List (Sum D Nat) × Ro → Prop} : WP (evs (o :: r) ρ) Q ↔ WP (ev1 o ρ) fun x => WP (evs r x.2) fun y => Q (x.1 :: y.1, y.2) := by
  show WP ((ev1 o ρ).bind _) Q ↔ _
  simp only [WP_bind, WP_map]
@[simp] theorem onlyD_nil : onlyD [] = some [] := rfl
@[simp] theorem onlyD_inl (d : D) (r : List (Sum D Nat)) : onlyD (.inl d :: r) = (onlyD r).map fun y => d :: y := rfl
@[simp ↓] theorem WP_onlyD_nil {Q : List D → Prop} : WP (onlyD []) Q ↔ Q [] := WP_some
@[simp ↓] theorem WP_onlyD_inl {d : D} {r : List (Sum D Nat)} {Q : List D → Prop} : WP (onlyD (.inl d :: r)) Q ↔ WP (onlyD r) fun y => Q (d :: y) := by simp only [onlyD_inl, WP_map]
@[simp ↓] theorem WP_ress_nil {Q : List D → Prop} : WP (ress ρ []) Q ↔ Q [] := WP_some
@[simp ↓] theorem WP_ress_cons {a : Sum D Nat} {r : List (Sum D Nat)} {Q : List D → Prop} : WP (ress ρ (a :: r)) Q ↔ WP (res ρ a) fun x => WP (ress ρ r) fun y => Q (x :: y) := by
  show WP ((res ρ a).bind _) Q ↔ _
  simp only [WP_bind, WP_map]
@[simp ↓] theorem WP_app {os : List Opd} {op : List D → Option A} {Q : A × Ro → Prop} : WP (app os op ρ) Q ↔ WP (evs os ρ) fun x => WP (ress x.2 x.1) fun ds => WP (op ds) fun r => Q (r, x.2) := by unfold app; simp only [WP_bind, WP_map]
@[simp ↓] theorem WP_cal0 {os : List Opd} {F : F0} {Q : A × Ro → Prop} : WP (cal0 os F ρ) Q ↔ WP (evs os ρ) fun x => WP (onlyD x.1) fun ds => WP (F ds) fun r => Q (r, x.2) := by unfold cal0; simp only [WP_bind, WP_map]
@[simp ↓] theorem WP_cal1 {i : Nat} {os : List Opd} {F : F1} {Q : A × Ro → Prop} : WP (cal1 i os F ρ) Q ↔ WP (at_ ρ i) fun _ => WP (evs os ρ) fun x => WP (onlyD x.1) fun ds => WP (at_ x.2 i) fun a => WP a.lend fun l => WP (F l ds) fun y => y.2.bor = true ∧ Q (y.1, x.2.set i (some (y.2.mark a.bor))) := by
  unfold cal1
  simp only [WP_bind, WP_ite, WP_some, WP_none, imp_false, Classical.not_not]
  constructor
  · intro h
    refine h.mono fun _ h => h.mono fun _ h => h.mono fun _ h => h.mono fun _ h => h.mono fun _ h => h.mono fun y h => ⟨h.2, h.1 h.2⟩
  · intro h
    refine h.mono fun _ h => h.mono fun _ h => h.mono fun _ h => h.mono fun _ h => h.mono fun _ h => h.mono fun y h => ⟨fun _ => h.2, h.1⟩
@[simp ↓] theorem WP_lstE {os : List Opd} {Q : A × Ro → Prop} : WP (lstE os ρ) Q ↔ WP (evs os ρ) fun x => WP (onlyD x.1) fun ds => WP (if ds.length ≤ 16777216 then some (A.l false ds, x.2) else none) Q := by unfold lstE; simp only [WP_bind]
@[simp ↓] theorem WP_tupE {os : List Opd} {Q : A × Ro → Prop} : WP (tupE os ρ) Q ↔ WP (evs os ρ) fun x => WP (onlyD x.1) fun ds => WP (if ds.length ≤ 16777216 then some (A.d (.tup ds), x.2) else none) Q := by unfold tupE; simp only [WP_bind]
@[simp ↓] theorem WP_dic0 {Q : A × Ro → Prop} : WP (dic0 ρ) Q ↔ Q (.k false [], ρ) := WP_some
@[simp ↓] theorem WP_pairs_nil {Q : List (Key × D) × Ro → Prop} : WP (pairsE [] ρ) Q ↔ Q ([], ρ) := WP_some
@[simp ↓] theorem WP_pairs_cons {f g : EF} {r : List (EF × EF)} {Q : List (Key × D) × Ro → Prop} : WP (pairsE ((f, g) :: r) ρ) Q ↔ WP (dv f ρ) fun x => WP (toKey x.1) fun k => WP (dv g x.2) fun y => WP (pairsE r y.2) fun z => Q ((k, y.1) :: z.1, z.2) := by
  show WP ((dv f ρ).bind _) Q ↔ _
  simp only [WP_bind, WP_map]
@[simp ↓] theorem WP_dicE {ps : List (EF × EF)} {Q : A × Ro → Prop} : WP (dicE ps ρ) Q ↔ WP (pairsE ps ρ) fun x => WP (if x.1.length ≤ 15 then some (A.k false (mergeD [] x.1), x.2) else none) Q := by unfold dicE; simp only [WP_bind]
@[simp ↓] theorem WP_fldE {cn f : Str} {o : Opd} {Q : A × Ro → Prop} : WP (fldE cn f o ρ) Q ↔ WP (ev1 o ρ) fun x => WP (res x.2 x.1) fun d => WP (insD d) fun y => WP (if y.1 = cn then (y.2.lookup f).map fun r => (A.d r, x.2) else none) Q := by unfold fldE; simp only [WP_bind]
@[simp ↓] theorem WP_isiE {o : Opd} {T : String} {Q : A × Ro → Prop} : WP (isiE o T ρ) Q ↔ WP (ev1 o ρ) fun x => WP (res x.2 x.1) fun d => WP (tyD d) fun t => Q (.d (.bl (subT t T)), x.2) := by unfold isiE; simp only [WP_bind, WP_map]
@[simp ↓] theorem WP_getE {o p : Opd} {Q : A × Ro → Prop} : WP (getE o p ρ) Q ↔ WP (ev1 o ρ) fun x => WP (res x.2 x.1) fun d0 => WP (if isDic d0 = true then (ev1 p x.2).bind fun y => (res y.2 x.1).bind fun d => (dicD d).bind fun kvs => (res y.2 y.1).bind fun kd => (toKey kd).map fun k => (A.d ((Tw.getD kvs k).getD .non), y.2) else none) Q := by unfold getE; simp only [WP_bind]
@[simp ↓] theorem WP_appE {i : Nat} {p : Opd} {Q : A × Ro → Prop} : WP (appE i p ρ) Q ↔ WP (lstA (at_ ρ i)) fun _ => WP (ev1 p ρ) fun x => WP (inlD x.1) fun d => WP (lstA (at_ x.2 i)) fun y => WP (if y.2.length < 16777216 then some (A.d .non, x.2.set i (some (.l y.1 (y.2 ++ [d])))) else none) Q := by unfold appE; simp only [WP_bind]
@[simp] theorem lstA_l (b : Bool) (xs : List D) : lstA (some (.l b xs)) = some (b, xs) := rfl
@[simp ↓] theorem WP_lstA {b : Bool} {xs : List D} {Q : Bool × List D → Prop} : WP (lstA (some (.l b xs))) Q ↔ Q (b, xs) := WP_some
@[simp ↓] theorem WP_inlD {d : D} {Q : D → Prop} : WP (inlD (.inl d)) Q ↔ Q d := WP_some
@[simp] theorem isDic_dic (kvs : List (Key × D)) : isDic (.dic kvs) = true := rfl
@[simp] theorem dicD_dic (kvs : List (Key × D)) : dicD (.dic kvs) = some kvs := rfl
@[simp] theorem toKey_str (x : Str) : toKey (.str x) = some (.inr x) := rfl
@[simp] theorem toKey_int (x : Int) : toKey (.int x) = some (.inl x) := rfl
def lstD : D → Option (List D)
  | .lst xs => some xs
  | _ => none
@[simp] theorem lstD_lst (xs : List D) : lstD (.lst xs) = some xs := rfl
@[simp ↓] theorem WP_slL {o : Opd} {l h : Part} {Q : A × Ro → Prop} : WP (slL o l h ρ) Q ↔ WP (ev1 o ρ) fun x => WP (part l x.2) fun i => WP (part h i.2) fun j => WP (res j.2 x.1) fun d => WP (lstD d) fun xs => Q (.l false (cutD xs i.1 j.1), j.2) := by
  unfold slL
  simp only [WP_bind]
  refine iff_of_eq (congrArg _ (funext fun x => congrArg _ (funext fun i => congrArg _ (funext fun j => congrArg _ (funext fun d => ?_)))))
  cases d <;> simp [lstD]
@[simp ↓] theorem WP_part_no {Q : Option Int × Ro → Prop} : WP (part .no ρ) Q ↔ Q (none, ρ) := WP_some
def intO : D → Option Int
  | .int i => some i
  | _ => none
@[simp] theorem intO_int (i : Int) : intO (.int i) = some i := rfl
@[simp ↓] theorem WP_part_ev {f : EF} {Q : Option Int × Ro → Prop} : WP (part (.ev f) ρ) Q ↔ WP (dv f ρ) fun x => WP (intO x.1) fun i => Q (some i, x.2) := by
  unfold part
  simp only [WP_bind]
  refine iff_of_eq (congrArg _ (funext fun x => ?_))
  obtain ⟨d, ρ'⟩ := x
  cases d <;> simp [intO]
def blO : A → Option Bool
  | .d (.bl b) => some b
  | _ => none
@[simp] theorem blO_bl (b : Bool) : blO (.d (.bl b)) = some b := rfl
@[simp ↓] theorem WP_blO {b : Bool} {Q : Bool → Prop} : WP (blO (.d (.bl b))) Q ↔ Q b := WP_some
@[simp ↓] theorem WP_asB {f : EF} {Q : Bool × Ro → Prop} : WP (asB f ρ) Q ↔ WP (f ρ) fun x => WP (blO x.1) fun b => Q (b, x.2) := by
  unfold asB
  simp only [WP_bind]
  refine iff_of_eq (congrArg _ (funext fun x => ?_))
  obtain ⟨d, ρ'⟩ := x
  cases d with
  | d d => cases d <;> simp [blO]
  | _ => simp [blO]
@[simp ↓] theorem WP_notT {f : TF} {Q : Bool × Ro → Prop} : WP (notT f ρ) Q ↔ WP (f ρ) fun x => Q (!x.1, x.2) := by unfold notT; simp only [WP_map]
@[simp ↓] theorem WP_andT {f g : TF} {Q : Bool × Ro → Prop} : WP (andT f g ρ) Q ↔ WP (f ρ) fun x => (x.1 = true → WP (g x.2) Q) ∧ (x.1 = false → Q (false, x.2)) := by
  unfold andT; simp only [WP_bind, WP_ite, WP_some, Bool.not_eq_true]
@[simp ↓] theorem WP_orT {f g : TF} {Q : Bool × Ro → Prop} : WP (orT f g ρ) Q ↔ WP (f ρ) fun x => (x.1 = true → Q (true, x.2)) ∧ (x.1 = false → WP (g x.2) Q) := by
  unfold orT; simp only [WP_bind, WP_ite, WP_some, Bool.not_eq_true]
@[simp ↓] theorem WP_tstY {Q : Bool × Ro → Prop} : WP (tstY ρ) Q ↔ Q (true, ρ) := WP_some
@[simp ↓] theorem WP_toV {f : TF} {Q : A × Ro → Prop} : WP (toV f ρ) Q ↔ WP (f ρ) fun x => Q (.d (.bl x.1), x.2) := by unfold toV; simp only [WP_map]
@[simp ↓] theorem WP_ifE {t : TF} {f g : EF} {Q : A × Ro → Prop} : WP (ifE t f g ρ) Q ↔ WP (t ρ) fun x => (x.1 = true → WP (f x.2) Q) ∧ (x.1 = false → WP (g x.2) Q) := by
  unfold ifE; simp only [WP_bind, WP_ite, Bool.not_eq_true]
@[simp ↓] theorem WP_andV {f g : EF} {Q : A × Ro → Prop} : WP (andV f g ρ) Q ↔ WP (asB f ρ) fun x => (x.1 = true → WP (g x.2) Q) ∧ (x.1 = false → Q (.d (.bl false), x.2)) := by
  unfold andV; simp only [WP_bind, WP_ite, WP_some, Bool.not_eq_true]
@[simp ↓] theorem WP_orV {f g : EF} {Q : A × Ro → Prop} : WP (orV f g ρ) Q ↔ WP (asB f ρ) fun x => (x.1 = true → Q (.d (.bl true), x.2)) ∧ (x.1 = false → WP (g x.2) Q) := by
  unfold orV; simp only [WP_bind, WP_ite, WP_some, Bool.not_eq_true]
def seqK (g : SF) (Q : Out × Ro → Prop) : Out × Ro → Prop
  | (.nx, ρ) => WP (g ρ) Q
  | (o, ρ) => Q (o, ρ)
@[simp ↓] theorem seqK_nx {g : SF} {Q : Out × Ro → Prop} : seqK g Q (.nx, ρ) ↔ WP (g ρ) Q := Iff.rfl
@[simp ↓] theorem seqK_rt {g : SF} {Q : Out × Ro → Prop} {r : A} : seqK g Q (.rt r, ρ) ↔ Q (.rt r, ρ) := Iff.rfl
@[simp ↓] theorem seqK_bk {g : SF} {Q : Out × Ro → Prop} : seqK g Q (.bk, ρ) ↔ Q (.bk, ρ) := Iff.rfl
@[simp ↓] theorem seqK_ct {g : SF} {Q : Out × Ro → Prop} : seqK g Q (.ct, ρ) ↔ Q (.ct, ρ) := Iff.rfl
@[simp ↓] theorem WP_seqS {f g : SF} {Q : Out × Ro → Prop} : WP (seqS f g ρ) Q ↔ WP (f ρ) (seqK g Q) := by
  unfold seqS
  simp only [WP_bind]
  refine iff_of_eq (congrArg _ (funext fun x => ?_))
  obtain ⟨o, ρ'⟩ := x
  cases o <;> simp [seqK]
@[simp ↓] theorem WP_nxS {Q : Out × Ro → Prop} : WP (nxS ρ) Q ↔ Q (.nx, ρ) := WP_some
@[simp ↓] theorem WP_retS {f : EF} {Q : Out × Ro → Prop} : WP (retS f ρ) Q ↔ WP (f ρ) fun x => Q (.rt x.1, x.2) := by unfold retS; simp only [WP_map]
@[simp ↓] theorem WP_retN {Q : Out × Ro → Prop} : WP (retN ρ) Q ↔ Q (.rt (.d .non), ρ) := WP_some
@[simp ↓] theorem WP_retV {i : Nat} {Q : Out × Ro → Prop} : WP (retV i ρ) Q ↔ WP (at_ ρ i) fun x => x.bor = false ∧ Q (.rt x, ρ.set i none) := by
  unfold retV
  simp only [WP_bind, WP_ite, WP_some, WP_none, imp_false, Bool.not_eq_true]
  constructor
  · exact fun h => h.mono fun x h => ⟨h.1, h.2 h.1⟩
  · exact fun h => h.mono fun x h => ⟨h.1, fun _ => h.2⟩
@[simp ↓] theorem WP_exprS {f : EF} {Q : Out × Ro → Prop} : WP (exprS f ρ) Q ↔ WP (f ρ) fun x => Q (.nx, x.2) := by unfold exprS; simp only [WP_map]
@[simp ↓] theorem WP_ifS {t : TF} {f g : SF} {Q : Out × Ro → Prop} : WP (ifS t f g ρ) Q ↔ WP (t ρ) fun x => (x.1 = true → WP (f x.2) Q) ∧ (x.1 = false → WP (g x.2) Q) := by
  unfold ifS; simp only [WP_bind, WP_ite, Bool.not_eq_true]
@[simp ↓] theorem WP_setS {i : Nat} {f : EF} {Q : Out × Ro → Prop} : WP (setS i f ρ) Q ↔ WP (f ρ) fun x => okOld x.2 i = true ∧ Q (.nx, x.2.set i (some x.1)) := by
  unfold setS
  simp only [WP_bind, WP_ite, WP_some, WP_none, imp_false, Classical.not_not]
  constructor
  · exact fun h => h.mono fun x h => ⟨h.2, h.1 h.2⟩
  · exact fun h => h.mono fun x h => ⟨fun _ => h.2, h.1⟩
@[simp ↓] theorem WP_stS {i : Nat} {p : Opd} {f : EF} {Q : Out × Ro → Prop} : WP (stS i p f ρ) Q ↔ WP (dv f ρ) fun v => WP (at_ v.2 i) fun _ => WP (ev1 p v.2) fun j => WP (res j.2 j.1) fun jd => WP (putA (at_ j.2 i) jd v.1) fun x => Q (.nx, j.2.set i (some x)) := by unfold stS; simp only [WP_bind, WP_map]
@[simp ↓] theorem WP_parS {i j : Nat} {f g : EF} {Q : Out × Ro → Prop} : WP (parS i j (.ev f) (.ev g) ρ) Q ↔ WP (dv f ρ) fun x => WP (dv g x.2) fun y => okOld y.2 i = true ∧ okOld (y.2.set i (some (.d x.1))) j = true ∧ Q (.nx, (y.2.set i (some (.d x.1))).set j (some (.d y.1))) := by
  unfold parS
  simp only [WP_bind, WP_evs_cons, WP_ev, WP_evs_nil, WP_onlyD_inl, WP_onlyD_nil, WP_dv]
  refine iff_of_eq (congrArg _ (funext fun x => congrArg _ (funext fun d => congrArg _ (funext fun y => congrArg _ (funext fun e => ?_)))))
  refine propext ?_
  simp only [WP_ite, WP_some, WP_none, imp_false, Classical.not_not]
  constructor
  · rintro ⟨h1, h2⟩
    exact ⟨h2, (h1 h2).2, (h1 h2).1 (h1 h2).2⟩
  · rintro ⟨h1, h2, h3⟩
    exact ⟨fun _ => ⟨fun _ => h3, h2⟩, h1⟩
@[simp ↓] theorem WP_asgS {f : EF} {g : GF} {Q : Out × Ro → Prop} : WP (asgS f g ρ) Q ↔ WP (dv f ρ) fun x => WP (g x.1 x.2) fun ρ' => Q (.nx, ρ') := by unfold asgS; simp only [WP_bind, WP_map]
@[simp ↓] theorem WP_nameG {i : Nat} {d : D} {Q : Ro → Prop} : WP (nameG i d ρ) Q ↔ okOld ρ i = true ∧ Q (ρ.set i (some (.d d))) := by
  unfold nameG
  simp only [WP_ite, WP_some, WP_none, imp_false, Classical.not_not]
  exact ⟨fun h => ⟨h.2, h.1 h.2⟩, fun h => ⟨fun _ => h.2, h.1⟩⟩
@[simp ↓] theorem WP_tupG {n : Nat} {f : GsF} {ds : List D} {Q : Ro → Prop} : WP (tupG n f (.tup ds) ρ) Q ↔ ds.length = n ∧ WP (f ds ρ) Q := by
  show WP (if ds.length = n then f ds ρ else none) Q ↔ _
  simp only [WP_ite, WP_none, imp_false, Classical.not_not]
  exact ⟨fun h => ⟨h.2, h.1 h.2⟩, fun h => ⟨fun _ => h.2, h.1⟩⟩
@[simp ↓] theorem WP_tupGp {n : Nat} {f : GsF} {ds : List D} {Q : Ro → Prop} : WP (tupG n f (.pr ds) ρ) Q ↔ ds.length = n ∧ WP (f ds ρ) Q := by
  show WP (if ds.length = n then f ds ρ else none) Q ↔ _
  simp only [WP_ite, WP_none, imp_false, Classical.not_not]
  exact ⟨fun h => ⟨h.2, h.1 h.2⟩, fun h => ⟨fun _ => h.2, h.1⟩⟩
@[simp ↓] theorem WP_consG {f : GF} {g : GsF} {d : D} {r : List D} {Q : Ro → Prop} : WP (consG f g (d :: r) ρ) Q ↔ WP (f d ρ) fun ρ1 => WP (g r ρ1) Q := by
  show WP ((f d ρ).bind _) Q ↔ _
  simp only [WP_bind]
@[simp ↓] theorem WP_nilG {Q : Ro → Prop} : WP (nilG [] ρ) Q ↔ Q ρ := WP_some
@[simp ↓] theorem WP_forget_nil {Q : Ro → Prop} : WP (forget [] ρ) Q ↔ Q ρ := WP_some
@[simp ↓] theorem WP_forget_cons {i : Nat} {r : List Nat} {Q : Ro → Prop} : WP (forget (i :: r) ρ) Q ↔ okOld ρ i = true ∧ WP (forget r (ρ.set i none)) Q := by
  show WP (if okOld ρ i = true then forget r (ρ.set i none) else none) Q ↔ _
  simp only [WP_ite, WP_none, imp_false, Classical.not_not]
  exact ⟨fun h => ⟨h.2, h.1 h.2⟩, fun h => ⟨fun _ => h.2, h.1⟩⟩
def rt0K (Q : A → Prop) : Out × Ro → Prop
  | (.rt r, _) => Q r
  | (.nx, _) => Q (.d .non)
  | _ => False
@[simp ↓] theorem rt0K_rt {Q : A → Prop} {r : A} : rt0K Q (.rt r, ρ) ↔ Q r := Iff.rfl
@[simp ↓] theorem rt0K_nx {Q : A → Prop} : rt0K Q (.nx, ρ) ↔ Q (.d .non) := Iff.rfl
theorem WP_run0 {n np : Nat} {b : SF} {ds : List D} {Q : A → Prop} : WP (run0 n np b ds) Q ↔ ds.length = np ∧ WP (b (ro0 n ds)) (rt0K Q) := by
  unfold run0
  simp only [WP_ite, WP_none, imp_false, Classical.not_not, WP_bind]
  have : ∀ x : Out × Ro, WP (match x.1 with | .rt r => some r | .nx => some (A.d .non) | _ => none) Q ↔ rt0K Q x := fun ⟨o, ρ'⟩ => by cases o <;> simp [rt0K]
  constructor
  · exact fun h => ⟨h.2, (h.1 h.2).mono fun x hx => (this x).mp hx⟩
  · exact fun h => ⟨fun _ => h.2.mono fun x hx => (this x).mpr hx, h.1⟩
def rt1K (Q : A × A → Prop) : Out × Ro → Prop
  | (.rt r, ρ) => WP (at_ ρ 0) fun x => x.bor = true ∧ Q (r, x)
  | (.nx, ρ) => WP (at_ ρ 0) fun x => x.bor = true ∧ Q (.d .non, x)
  | _ => False
@[simp ↓] theorem rt1K_rt {Q : A × A → Prop} {r : A} : rt1K Q (.rt r, ρ) ↔ WP (at_ ρ 0) fun x => x.bor = true ∧ Q (r, x) := Iff.rfl
@[simp ↓] theorem rt1K_nx {Q : A × A → Prop} : rt1K Q (.nx, ρ) ↔ WP (at_ ρ 0) fun x => x.bor = true ∧ Q (.d .non, x) := Iff.rfl
theorem WP_run1 {n np : Nat} {b : SF} {x : A} {ds : List D} {Q : A × A → Prop} : WP (run1 n np b x ds) Q ↔ ds.length + 1 = np ∧ WP (b (ro1 n x ds)) (rt1K Q) := by
  unfold run1
  simp only [WP_ite, WP_none, imp_false, Classical.not_not, WP_bind]
  have : ∀ y : Out × Ro, WP (at_ y.2 0) (fun x' => (x'.bor = true → WP (match y.1 with | .rt r => some (r, x') | .nx => some (A.d .non, x') | _ => none) Q) ∧ x'.bor = true) ↔ rt1K Q y := fun ⟨o, ρ'⟩ => by
    cases o with
    | nx => exact ⟨fun h => h.mono fun x h => ⟨h.2, by simpa using h.1 h.2⟩, fun h => h.mono fun x h => ⟨fun _ => by simpa using h.2, h.1⟩⟩
    | rt r => exact ⟨fun h => h.mono fun x h => ⟨h.2, by simpa using h.1 h.2⟩, fun h => h.mono fun x h => ⟨fun _ => by simpa using h.2, h.1⟩⟩
    | bk => exact ⟨fun ⟨x, _, h⟩ => by simpa using h.1 h.2, False.elim⟩
    | ct => exact ⟨fun ⟨x, _, h⟩ => by simpa using h.1 h.2, False.elim⟩
  constructor
  · exact fun h => ⟨h.2, (h.1 h.2).mono fun x hx => (this x).mp hx⟩
  · exact fun h => ⟨fun _ => h.2.mono fun x hx => (this x).mpr hx, h.1⟩
@[simp] theorem ro1_eq (n : Nat) (x : A) (ds : List D) : ro1 n x ds = some x :: ro0 (n - 1) ds := rfl
@[simp] theorem ro0_eq (n : Nat) (ds : List D) : ro0 n ds = ds.map (fun d => some (.d d)) ++ List.replicate (n - ds.length) none := rfl
end
end Tw
end
section
set_option maxRecDepth 100000
set_option maxHeartbeats 4000000
namespace Tw
open PySem PySem.Spec PyProof.Rows L2

@[simp ↓] theorem WP_onII {C : Int → Int → Bool} {g : Int → Int → D} {i j : Int} {Q : A → Prop} : WP (onII C g (.int i) (.int j)) Q ↔ C i j = true ∧ Q (.d (g i j)) := by
  show WP (if C i j = true then some _ else none) Q ↔ _
  by_cases h : C i j = true <;> simp [h]
@[simp ↓] theorem WP_add_int {i j : Int} {Q : A → Prop} : WP (addX (.int i) (.int j)) Q ↔ Q (.d (.int (i + j))) := WP_some
@[simp ↓] theorem WP_add_lst {x y : List D} {Q : A → Prop} : WP (addX (.lst x) (.lst y)) Q ↔ x.length + y.length ≤ 16777216 ∧ Q (.l false (x ++ y)) := by
  have : addX (.lst x) (.lst y) = if x.length + y.length ≤ 16777216 then some (.l false (x ++ y)) else none := by
    show (none : Option A).or ((none : Option A).or ((if x.length + y.length ≤ 16777216 then some (A.l false (x ++ y)) else none).or none)) = _
    simp
  rw [this]
  by_cases h : x.length + y.length ≤ 16777216 <;> simp [h]
@[simp ↓] theorem WP_add_tup {x y : List D} {Q : A → Prop} : WP (addX (.tup x) (.tup y)) Q ↔ x.length + y.length ≤ 16777216 ∧ Q (.d (.tup (x ++ y))) := by
  have : addX (.tup x) (.tup y) = if x.length + y.length ≤ 16777216 then some (.d (.tup (x ++ y))) else none := by
    show (none : Option A).or ((none : Option A).or ((none : Option A).or (if x.length + y.length ≤ 16777216 then some (A.d (.tup (x ++ y))) else none))) = _
    simp
  rw [this]
  by_cases h : x.length + y.length ≤ 16777216 <;> simp [h]
@[simp ↓] theorem WP_add_str {x y : Str} {Q : A → Prop} : WP (addX (.str x) (.str y)) Q ↔ x.length + y.length ≤ 16777216 ∧ Q (.d (.str (x ++ y))) := by
  have : addX (.str x) (.str y) = if x.length + y.length ≤ 16777216 then some (.d (.str (x ++ y))) else none := by
    show (none : Option A).or ((if x.length + y.length ≤ 16777216 then some (A.d (.str (x ++ y))) else none).or ((none : Option A).or none)) = _
    simp
  rw [this]
  by_cases h : x.length + y.length ≤ 16777216 <;> simp [h]
@[simp] theorem negI_int (i : Int) : negI (.int i) = some (.d (.int (-i))) := rfl
@[simp ↓] theorem WP_ix_lst {xs : List D} {i : Int} {Q : A → Prop} : WP (ixX (.lst xs) (.int i)) Q ↔ WP (atI xs i) fun d => Q (.d d) := by
  have : ixX (.lst xs) (.int i) = (atI xs i).map A.d := by
    show ((none : Option A).or (((atI xs i).map A.d).or none)) = _
    rw [Option.none_or, Option.or_none]
  rw [this, WP_map]
@[simp ↓] theorem WP_ix_tup {xs : List D} {i : Int} {Q : A → Prop} : WP (ixX (.tup xs) (.int i)) Q ↔ WP (atI xs i) fun d => Q (.d d) := by
  have : ixX (.tup xs) (.int i) = (atI xs i).map A.d := by
    show ((none : Option A).or (((atI xs i).map A.d).or none)) = _
    rw [Option.none_or, Option.or_none]
  rw [this, WP_map]
@[simp ↓] theorem WP_ix_dic {kvs : List (Key × D)} {k : D} {Q : A → Prop} : WP (ixX (.dic kvs) k) Q ↔ WP (toKey k) fun k => WP (Tw.getD kvs k) fun d => Q (.d d) := by
  have : ixX (.dic kvs) k = (toKey k).bind fun k => (Tw.getD kvs k).map A.d := by
    show ((ixK (.dic kvs) k).or ((ixL (.dic kvs) k).or (ixS (.dic kvs) k))) = _
    have h1 : ixS (.dic kvs) k = none := by cases k <;> rfl
    have h2 : ixL (.dic kvs) k = none := by cases k <;> rfl
    rw [h1, h2, Option.or_none, Option.or_none]
    rfl
  rw [this]
  simp only [WP_bind, WP_map]
@[simp] theorem atI_0 (x : D) (r : List D) : atI (x :: r) 0 = some x := by simp [atI, ixN]
theorem WP_atI {xs : List D} {i : Int} {Q : D → Prop} (h0 : 0 ≤ i) (h1 : i < xs.length) (h : ∀ d ∈ xs, Q d) : WP (atI xs i) Q := by
  have hr : i.toNat < xs.length := by omega
  refine .of (x := xs[i.toNat]) ?_ (h _ (List.getElem_mem hr))
  unfold atI ixN
  rw [if_pos h0, if_pos (by omega), Option.bind_some, List.getElem?_eq_getElem hr]
@[simp] theorem atI3_1 (x y z : D) : atI [x, y, z] 1 = some y := rfl
@[simp] theorem atI3_2 (x y z : D) : atI [x, y, z] 2 = some z := rfl
@[simp ↓] theorem WP_eqS {a b : D} {Q : A → Prop} : WP (eqS a b) Q ↔ WP (scD a b) fun r => Q (.d (.bl r)) := by unfold eqS; simp only [WP_map]
@[simp ↓] theorem WP_neS {a b : D} {Q : A → Prop} : WP (neS a b) Q ↔ WP (scD a b) fun r => Q (.d (.bl (!r))) := by unfold neS; simp only [WP_map]
@[simp] theorem scD_int (i j : Int) : scD (.int i) (.int j) = some (decide (i = j)) := rfl
@[simp] theorem scD_str (i j : Str) : scD (.str i) (.str j) = some (decide (i = j)) := rfl
@[simp] theorem scD_bl (i j : Bool) : scD (.bl i) (.bl j) = some (decide (i = j)) := rfl
@[simp] theorem isN_eq (x : D) : isN x .non = some (.d (.bl (nonD x))) := rfl
@[simp] theorem notN_eq (x : D) : notN x .non = some (.d (.bl (!nonD x))) := rfl
@[simp ↓] theorem WP_inK {neg : Bool} {k : D} {kvs : List (Key × D)} {Q : A → Prop} : WP (inK neg k (.dic kvs)) Q ↔ WP (toKey k) fun k => Q (.d (.bl (if neg = true then !(Tw.getD kvs k).isSome else (Tw.getD kvs k).isSome))) := by
  show WP ((toKey k).map _) Q ↔ _
  simp only [WP_map]
@[simp] theorem lenD_lst (xs : List D) : lenD [.lst xs] = some (.d (.int xs.length)) := rfl
@[simp] theorem lenD_tup (xs : List D) : lenD [.tup xs] = some (.d (.int xs.length)) := rfl
@[simp] theorem lenD_dic (xs : List (Key × D)) : lenD [.dic xs] = some (.d (.int xs.length)) := rfl
@[simp] theorem absD_int (i : Int) : absD [.int i] = some (.d (.int (if i < 0 then -i else i))) := rfl
@[simp] theorem intC_int (i : Int) : intC [.int i] = some (.d (.int i)) := rfl
@[simp] theorem intC_bl (b : Bool) : intC [.bl b] = some (.d (.int (if b then 1 else 0))) := rfl
@[simp] theorem listD_lst (xs : List D) : listD [.lst xs] = some (.l false xs) := rfl
@[simp] theorem listD_tup (xs : List D) : listD [.tup xs] = some (.l false xs) := rfl
@[simp] theorem tupleD_lst (xs : List D) : tupleD [.lst xs] = some (.d (.tup xs)) := rfl
@[simp] theorem tupleD_tup (xs : List D) : tupleD [.tup xs] = some (.d (.tup xs)) := rfl
@[simp] theorem items_lst (xs : List D) : itemsOf (.lst xs) = some xs := rfl
@[simp] theorem items_tup (xs : List D) : itemsOf (.tup xs) = some xs := rfl
@[simp] theorem tyD_non : tyD .non = some "NoneType" := rfl
@[simp] theorem tyD_bl (b : Bool) : tyD (.bl b) = some "bool" := rfl
@[simp] theorem tyD_int (b : Int) : tyD (.int b) = some "int" := rfl
@[simp] theorem tyD_str (b : Str) : tyD (.str b) = some "str" := rfl
@[simp] theorem tyD_lst (b : List D) : tyD (.lst b) = some "list" := rfl
@[simp] theorem tyD_tup (b : List D) : tyD (.tup b) = some "tuple" := rfl
@[simp] theorem tyD_dic (b : List (Key × D)) : tyD (.dic b) = some "dict" := rfl
@[simp] theorem sub_NoneType_bool : subT "NoneType" "bool" = false := by decide
@[simp] theorem sub_NoneType_int : subT "NoneType" "int" = false := by decide
@[simp] theorem sub_NoneType_str : subT "NoneType" "str" = false := by decide
@[simp] theorem sub_NoneType_list : subT "NoneType" "list" = false := by decide
@[simp] theorem sub_NoneType_tuple : subT "NoneType" "tuple" = false := by decide
@[simp] theorem sub_NoneType_dict : subT "NoneType" "dict" = false := by decide
@[simp] theorem sub_bool_bool : subT "bool" "bool" = true := by decide
@[simp] theorem sub_bool_int : subT "bool" "int" = true := by decide
@[simp] theorem sub_bool_str : subT "bool" "str" = false := by decide
@[simp] theorem sub_bool_list : subT "bool" "list" = false := by decide
@[simp] theorem sub_bool_tuple : subT "bool" "tuple" = false := by decide
@[simp] theorem sub_bool_dict : subT "bool" "dict" = false := by decide
@[simp] theorem sub_int_bool : subT "int" "bool" = false := by decide
@[simp] theorem sub_int_int : subT "int" "int" = true := by decide
@[simp] theorem sub_int_str : subT "int" "str" = false := by decide
@[simp] theorem sub_int_list : subT "int" "list" = false := by decide
@[simp] theorem sub_int_tuple : subT "int" "tuple" = false := by decide
@[simp] theorem sub_int_dict : subT "int" "dict" = false := by decide
@[simp] theorem sub_str_bool : subT "str" "bool" = false := by decide
@[simp] theorem sub_str_int : subT "str" "int" = false := by decide
@[simp] theorem sub_str_str : subT "str" "str" = true := by decide
@[simp] theorem sub_str_list : subT "str" "list" = false := by decide
@[simp] theorem sub_str_tuple : subT "str" "tuple" = false := by decide
@[simp] theorem sub_str_dict : subT "str" "dict" = false := by decide
@[simp] theorem sub_list_bool : subT "list" "bool" = false := by decide
@[simp] theorem sub_list_int : subT "list" "int" = false := by decide
@[simp] theorem sub_list_str : subT "list" "str" = false := by decide
@[simp] theorem sub_list_list : subT "list" "list" = true := by decide
@[simp] theorem sub_list_tuple : subT "list" "tuple" = false := by decide
@[simp] theorem sub_list_dict : subT "list" "dict" = false := by decide
@[simp] theorem sub_tuple_bool : subT "tuple" "bool" = false := by decide
@[simp] theorem sub_tuple_int : subT "tuple" "int" = false := by decide
@[simp] theorem sub_tuple_str : subT "tuple" "str" = false := by decide
@[simp] theorem sub_tuple_list : subT "tuple" "list" = false := by decide
@[simp] theorem sub_tuple_tuple : subT "tuple" "tuple" = true := by decide
@[simp] theorem sub_tuple_dict : subT "tuple" "dict" = false := by decide
@[simp] theorem sub_dict_bool : subT "dict" "bool" = false := by decide
@[simp] theorem sub_dict_int : subT "dict" "int" = false := by decide
@[simp] theorem sub_dict_str : subT "dict" "str" = false := by decide
@[simp] theorem sub_dict_list : subT "dict" "list" = false := by decide
@[simp] theorem sub_dict_tuple : subT "dict" "tuple" = false := by decide
@[simp] theorem sub_dict_dict : subT "dict" "dict" = true := by decide
section
variable {ρ : Ro}
def loopK (fg : List Nat) (J : Ro → Prop) (Q : Out × Ro → Prop) : Out × Ro → Prop
  | (.nx, ρ) => WP (forget fg ρ) J
  | (.ct, ρ) => WP (forget fg ρ) J
  | (.bk, ρ) => WP (forget fg ρ) fun ρ' => Q (.nx, ρ')
  | (.rt a, ρ) => Q (.rt a, ρ)
@[simp ↓] theorem loopK_nx {fg : List Nat} {J : Ro → Prop} {Q : Out × Ro → Prop} : loopK fg J Q (.nx, ρ) ↔ WP (forget fg ρ) J := Iff.rfl
@[simp ↓] theorem loopK_ct {fg : List Nat} {J : Ro → Prop} {Q : Out × Ro → Prop} : loopK fg J Q (.ct, ρ) ↔ WP (forget fg ρ) J := Iff.rfl
@[simp ↓] theorem loopK_bk {fg : List Nat} {J : Ro → Prop} {Q : Out × Ro → Prop} : loopK fg J Q (.bk, ρ) ↔ WP (forget fg ρ) fun ρ' => Q (.nx, ρ') := Iff.rfl
@[simp ↓] theorem loopK_rt {fg : List Nat} {J : Ro → Prop} {Q : Out × Ro → Prop} {a : A} : loopK fg J Q (.rt a, ρ) ↔ Q (.rt a, ρ) := Iff.rfl
theorem loop_inv {g : GF} {b : SF} {fg : List Nat} (I : List D → Ro → Prop) {Q : Out × Ro → Prop} : ∀ {ds : List D} {ρ : Ro}, I [] ρ →
    (∀ pre d suf ρ, ds = pre ++ d :: suf → I pre ρ → WP (g d ρ) fun ρ1 => WP (b ρ1) (loopK fg (I (pre ++ [d])) Q)) → (∀ ρ, I ds ρ → Q (.nx, ρ)) → WP (loopS g b fg ds ρ) Q := by
  have key : ∀ (ds : List D) (pre : List D) (all : List D) (ρ : Ro), all = pre ++ ds → I pre ρ → (∀ pre d suf ρ, all = pre ++ d :: suf → I pre ρ → WP (g d ρ) fun ρ1 => WP (b ρ1) (loopK fg (I (pre ++ [d])) Q)) → (∀ ρ, I all ρ → Q (.nx, ρ)) → WP (loopS g b fg ds ρ) Q := by
    intro ds
    induction ds with
    | nil =>
      intro pre all ρ ha h0 _ fin
      rw [List.append_nil] at ha
      subst ha
      exact .of rfl (fin ρ h0)
    | cons d r ih =>
      intro pre all ρ ha h0 step fin
      obtain ⟨ρ1, e1, ⟨o, ρ2⟩, e2, h2⟩ := step pre d r ρ ha h0
      unfold loopS
      rw [e1, Option.bind_some, e2, Option.bind_some]
      cases o with
      | nx =>
        obtain ⟨ρ3, e3, h3⟩ := h2
        simp only
        rw [e3, Option.bind_some]
        exact ih (pre ++ [d]) all ρ3 (by rw [ha]; simp) h3 step fin
      | ct =>
        obtain ⟨ρ3, e3, h3⟩ := h2
        simp only
        rw [e3, Option.bind_some]
        exact ih (pre ++ [d]) all ρ3 (by rw [ha]; simp) h3 step fin
      | bk =>
        obtain ⟨ρ3, e3, h3⟩ := h2
        simp only
        rw [e3]
        exact .of rfl h3
      | rt a => exact .of rfl h2
  exact fun {ds ρ} h0 step fin => key ds [] ds ρ rfl h0 step fin
@[simp ↓] theorem WP_forS {w : WF} {g : GF} {b : SF} {fg : List Nat} {Q : Out × Ro → Prop} : WP (forS w g b fg ρ) Q ↔ WP (w ρ) fun x => WP (forget fg x.2) fun ρ2 => WP (loopS g b fg x.1 ρ2) Q := by unfold forS; simp only [WP_bind]
@[simp ↓] theorem WP_forD {i : Nat} {m : Md} {g : GF} {b : SF} {fg : List Nat} {Q : Out × Ro → Prop} : WP (forD i m g b fg ρ) Q ↔ WP (dv (var i) ρ) fun x => WP (dicD x.1) fun kvs => WP (forget fg x.2) fun ρ2 => WP (loopS g b fg (m kvs) ρ2) Q := by
  unfold forD
  rw [WP_bind]
  refine iff_of_eq (congrArg _ (funext fun x => ?_))
  obtain ⟨d, ρ'⟩ := x
  cases d <;> simp [dicD]
@[simp ↓] theorem WP_seqW {f : EF} {Q : List D × Ro → Prop} : WP (seqW f ρ) Q ↔ WP (dv f ρ) fun x => WP (itemsOf x.1) fun ds => Q (ds, x.2) := by unfold seqW; simp only [WP_bind, WP_map]
@[simp ↓] theorem WP_rng1W {f : EF} {Q : List D × Ro → Prop} : WP (rng1W f ρ) Q ↔ WP (dv f ρ) fun x => WP (intO x.1) fun n => (-(2 ^ 62) ≤ n ∧ n < 2 ^ 62) ∧ Q (rngL 0 n.toNat, x.2) := by
  unfold rng1W
  rw [WP_bind]
  refine iff_of_eq (congrArg _ (funext fun x => ?_))
  obtain ⟨d, ρ'⟩ := x
  cases d with
  | int n =>
    simp only [intO, WP_ite, WP_some, WP_none, imp_false, Classical.not_not]
    exact propext ⟨fun h => ⟨h.2, h.1 h.2⟩, fun h => ⟨fun _ => h.2, h.1⟩⟩
  | _ => simp [intO]
@[simp ↓] theorem WP_lcE {w : WF} {g : GF} {t : TF} {f : EF} {own : List Nat} {Q : A × Ro → Prop} : WP (lcE w g t f own ρ) Q ↔ WP (w ρ) fun x => WP (forget own x.2) fun ρ1 => WP (lcL g t f own x.1 [] ρ1) fun y => Q (.l false y.1, y.2) := by unfold lcE; simp only [WP_bind, WP_map]
@[simp ↓] theorem WP_lcD {i : Nat} {m : Md} {g : GF} {t : TF} {f : EF} {own : List Nat} {Q : A × Ro → Prop} : WP (lcD i m g t f own ρ) Q ↔ WP (dv (var i) ρ) fun x => WP (dicD x.1) fun kvs => WP (forget own x.2) fun ρ1 => WP (lcL g t f own (m kvs) [] ρ1) fun y => Q (.l false y.1, y.2) := by
  unfold lcD
  rw [WP_bind]
  refine iff_of_eq (congrArg _ (funext fun x => ?_))
  obtain ⟨d, ρ'⟩ := x
  cases d <;> simp [dicD]
@[simp ↓] theorem WP_dcE {w : WF} {g : GF} {t : TF} {fk fv : EF} {own : List Nat} {Q : A × Ro → Prop} : WP (dcE w g t fk fv own ρ) Q ↔ WP (w ρ) fun x => WP (forget own x.2) fun ρ1 => WP (dcL g t fk fv own x.1 [] ρ1) fun y => Q (.k false y.1, y.2) := by unfold dcE; simp only [WP_bind, WP_map]
end
end Tw
end
section
set_option maxRecDepth 100000
set_option maxHeartbeats 4000000
namespace Tw
open PySem PySem.Spec PyProof.Rows L2

/-- the state of the draws -/
def stV (b : Bool) (x y z : Int) : A := .l b [.int x, .int y, .int z]
@[simp] theorem stV_bor (b : Bool) (x y z : Int) : (stV b x y z).bor = b := rfl
@[simp] theorem stV_lend (b : Bool) (x y z : Int) : (stV b x y z).lend = some (stV true x y z) := rfl
@[simp] theorem stV_mark (b c : Bool) (x y z : Int) : (stV b x y z).mark c = stV c x y z := rfl
@[simp] theorem stV_toP (b : Bool) (x y z : Int) : (stV b x y z).toP = some (.lst [.int x, .int y, .int z]) := rfl
@[simp] theorem stV_put0 (b : Bool) (x y z : Int) (v : Int) : putA (some (stV b x y z)) (.int 0) (.int v) = some (stV b v y z) := rfl
@[simp] theorem stV_put1 (b : Bool) (x y z : Int) (v : Int) : putA (some (stV b x y z)) (.int 1) (.int v) = some (stV b x v z) := rfl
/-- a state as it is met -/
def St3 (b : Bool) (s : A) : Prop := ∃ x y z, s = stV b x y z ∧ 0 ≤ y ∧ y < 4294967296
theorem St3.bor {b : Bool} {s : A} (h : St3 b s) : s.bor = b := by obtain ⟨x, y, z, rfl, _⟩ := h; rfl
theorem St3.lend {b : Bool} {s : A} (h : St3 b s) : ∃ t, s.lend = some t ∧ St3 true t := by obtain ⟨x, y, z, rfl, h⟩ := h; exact ⟨_, rfl, x, y, z, rfl, h⟩
theorem St3.mark {b c : Bool} {s : A} (h : St3 b s) : St3 c (s.mark c) := by obtain ⟨x, y, z, rfl, h⟩ := h; exact ⟨x, y, z, rfl, h⟩
def setE (ms : List (Str × D)) (k : Str) (v : D) : List (Str × D) := if (ms.any fun p => decide (p.1 = k)) = true then ms.map (fun p => if p.1 = k then (p.1, v) else p) else ms ++ [(k, v)]
def delE (ms : List (Str × D)) (k : Str) : List (Str × D) := ms.filter fun p => decide (p.1 ≠ k)
theorem any_key {ms : List (Str × D)} {k : Str} : (ms.any fun p => decide (p.1 = k)) = true ↔ k ∈ ms.map (·.1) := by
  rw [List.any_eq_true, List.mem_map]
  exact ⟨fun ⟨p, hp, e⟩ => ⟨p, hp, of_decide_eq_true e⟩, fun ⟨p, hp, e⟩ => ⟨p, hp, decide_eq_true e⟩⟩
theorem put_dct (ms : List (Str × D)) (k : Str) (v : D) : putD (dctE ms) (.inr k) v = dctE (setE ms k v) := by
  unfold putD setE
  have h1 : ((dctE ms).any fun kv => decide (kv.1 = Sum.inr k)) = ms.any fun p => decide (p.1 = k) := by
    unfold dctE
    rw [List.any_map]
    congr 1
    funext p
    simp
  rw [h1]
  split
  · simp only [dctE, List.map_map]
    refine List.map_congr_left fun p _ => ?_
    by_cases h : p.1 = k
    · simp [h]
    · simp [h]
  · simp [dctE]
theorem set_nd {ms : List (Str × D)} {k : Str} {v : D} (nd : ND ms) : ND (setE ms k v) := by
  unfold setE
  split
  · have : (ms.map fun p => if p.1 = k then (p.1, v) else p).map (·.1) = ms.map (·.1) := by
      rw [List.map_map]
      refine List.map_congr_left fun p _ => ?_
      by_cases e : p.1 = k <;> simp [e]
    unfold ND
    rw [this]
    exact nd
  · rename_i h
    unfold ND
    rw [List.map_append]
    refine List.nodup_append.mpr ⟨nd, by simp, fun a ha b hb => ?_⟩
    simp at hb
    subst hb
    exact fun e => h (any_key.mpr (e ▸ ha))
theorem set_mem {ms : List (Str × D)} {k : Str} {v : D} {p : Str × D} (h : p ∈ setE ms k v) : p ∈ ms ∨ p = (k, v) := by
  unfold setE at h
  split at h
  · obtain ⟨q, hq, rfl⟩ := List.mem_map.mp h
    by_cases e : q.1 = k
    · rw [if_pos e]; exact .inr (by rw [e])
    · rw [if_neg e]; exact .inl hq
  · rcases List.mem_append.mp h with h | h
    · exact .inl h
    · exact .inr (List.mem_singleton.mp h)
theorem lkE_append {ms ms' : List (Str × D)} {j : Str} : lkE (ms ++ ms') j = (lkE ms j).or (lkE ms' j) := by
  induction ms with
  | nil => simp [lkE]
  | cons p r ih =>
    rw [List.cons_append, lkE_cons, lkE_cons, ih]
    by_cases h : p.1 = j <;> simp [h]
theorem lkE_rep {ms : List (Str × D)} {k : Str} {v : D} (j : Str) : lkE (ms.map fun p => if p.1 = k then (p.1, v) else p) j = if j = k then (lkE ms j).map fun _ => v else lkE ms j := by
  induction ms with
  | nil => simp [lkE]
  | cons p r ih =>
    rw [List.map_cons, lkE_cons, lkE_cons, ih]
    by_cases h : p.1 = k
    · rw [if_pos h]
      by_cases hj : j = k
      · simp [hj, h]
      · rw [if_neg hj, if_neg hj, if_neg (fun e => hj (e.symm.trans h)), if_neg (fun e => hj (e.symm.trans h))]
    · rw [if_neg h]
      by_cases hj : j = k
      · subst hj; simp [h]
      · by_cases hp : p.1 = j <;> simp [hj, hp]
theorem set_lk {ms : List (Str × D)} {k : Str} {v : D} (j : Str) : lkE (setE ms k v) j = if j = k then some v else lkE ms j := by
  unfold setE
  split
  · rename_i h
    rw [lkE_rep]
    by_cases hj : j = k
    · rw [if_pos hj, if_pos hj]
      obtain ⟨d, e⟩ := lkE_some (any_key.mp h)
      rw [hj, e]
      rfl
    · rw [if_neg hj, if_neg hj]
  · rename_i h
    rw [lkE_append, lkE_cons]
    by_cases hj : j = k
    · subst hj
      rw [lkE_none.mpr (fun e => h (any_key.mpr e))]
      simp
    · rw [if_neg (fun e => hj e.symm), if_neg hj]
      simp [lkE]
theorem del_nd {ms : List (Str × D)} {k : Str} (nd : ND ms) : ND (delE ms k) := nd_filter nd
theorem del_mem {ms : List (Str × D)} {k : Str} {p : Str × D} (h : p ∈ delE ms k) : p ∈ ms := (List.mem_filter.mp h).1
theorem del_lk {ms : List (Str × D)} {k : Str} (j : Str) : lkE (delE ms k) j = if j = k then none else lkE ms j := by
  induction ms with
  | nil => simp [delE, lkE]
  | cons p r ih =>
    unfold delE at ih ⊢
    rw [List.filter_cons]
    by_cases h : p.1 = k
    · rw [if_neg (by simp [h]), ih, lkE_cons]
      by_cases hj : j = k
      · simp [hj]
      · rw [if_neg hj, if_neg hj, if_neg (fun e => hj (e.symm.trans h))]
    · rw [if_pos (by simp [h]), lkE_cons, lkE_cons, ih]
      by_cases hj : j = k
      · subst hj; simp [h]
      · simp [hj]
@[simp ↓] theorem WP_putK {b : Bool} {ms : List (Str × D)} {k : Str} {v : D} {Q : A → Prop} : WP (putA (some (.k b (dctE ms))) (.str k) v) Q ↔ ms.length < 16777216 ∧ Q (.k b (dctE (setE ms k v))) := by
  have : putA (some (.k b (dctE ms))) (.str k) v = if (dctE ms).length < 16777216 then some (.k b (putD (dctE ms) (.inr k) v)) else none := rfl
  rw [this, put_dct, show (dctE ms).length = ms.length by simp [dctE]]
  simp only [WP_ite, WP_some, WP_none, imp_false, Classical.not_not]
  exact ⟨fun h => ⟨h.2, h.1 h.2⟩, fun h => ⟨fun _ => h.2, h.1⟩⟩
@[simp ↓] theorem WP_revL {ρ : Ro} {o : Opd} {Q : A × Ro → Prop} : WP (revL o ρ) Q ↔ WP (ev1 o ρ) fun x => WP (res x.2 x.1) fun d => WP (lstD d) fun xs => Q (.l false xs.reverse, x.2) := by
  unfold revL
  simp only [WP_bind]
  refine iff_of_eq (congrArg _ (funext fun x => congrArg _ (funext fun d => ?_)))
  cases d <;> simp [lstD]
@[simp] theorem tupDO_tup (xs : List D) : tupDO (.tup xs) = some xs := rfl
@[simp ↓] theorem WP_slT {ρ : Ro} {o : Opd} {l h : Part} {Q : A × Ro → Prop} : WP (slT o l h ρ) Q ↔ WP (ev1 o ρ) fun x => WP (part l x.2) fun i => WP (part h i.2) fun j => WP (res j.2 x.1) fun d => WP (tupDO d) fun xs => Q (.d (.tup (cutD xs i.1 j.1)), j.2) := by
  unfold slT
  simp only [WP_bind, WP_map]
@[simp ↓] theorem WP_mulX_lst {xs : List D} {k : Int} {Q : A → Prop} : WP (mulX (.lst xs) (.int k)) Q ↔ ((-(2 ^ 63) ≤ k ∧ k < 2 ^ 63) ∧ xs.length * k.toNat ≤ 16777216) ∧ Q (.l false (List.replicate k.toNat xs).flatten) := by
  have : mulX (.lst xs) (.int k) = if (-(2 ^ 63) ≤ k ∧ k < 2 ^ 63) ∧ xs.length * k.toNat ≤ 16777216 then some (.l false (List.replicate k.toNat xs).flatten) else none := rfl
  rw [this]
  simp only [WP_ite, WP_some, WP_none, imp_false, Classical.not_not]
  exact ⟨fun h => ⟨h.2, h.1 h.2⟩, fun h => ⟨fun _ => h.2, h.1⟩⟩
end Tw
end
section
set_option maxRecDepth 100000
set_option maxHeartbeats 4000000
namespace Tw
open PySem PySem.Spec PyProof.Rows L2

@[simp] theorem mKeys_dct (ms : List (Str × D)) : mKeys (dctE ms) = ms.map fun p => .str p.1 := by simp [mKeys, dctE, Function.comp_def, kD]
@[simp] theorem mVals_dct (ms : List (Str × D)) : mVals (dctE ms) = ms.map fun p => p.2 := by simp [mVals, dctE, Function.comp_def]
@[simp] theorem mItems_dct (ms : List (Str × D)) : mItems (dctE ms) = ms.map fun p => .pr [.str p.1, p.2] := by simp [mItems, dctE, Function.comp_def, kD]
@[simp] theorem getD_dct' (ms : List (Str × D)) (k : Str) : Tw.getD (dctE ms) (.inr k) = lkE ms k := getD_dct k ms
@[simp ↓] theorem WP_dictD {ms : List (Str × D)} {Q : A → Prop} (nd : ND ms) : WP (dictD [.lst (ms.map pairE)]) Q ↔ Q (.k false (dctE ms)) := by rw [dictD_lst nd, WP_some]
/-- what a copy answers -/
def thaw : D → A
  | .lst xs => .l false xs
  | .dic kvs => .k false kvs
  | d => .d d
@[simp] theorem thaw_toD (d : D) : (thaw d).toD = some d := by cases d <;> rfl
@[simp] theorem thaw_bor (d : D) : (thaw d).bor = false := by cases d <;> rfl
@[simp] theorem thaw_dic (kvs : List (Key × D)) : thaw (.dic kvs) = .k false kvs := rfl
theorem act_atom {t : T} (a : D) (h : t ≠ .miss) : act (effR t) (.atom a) = act (effR t) .miss := by
  cases t with
  | miss => exact absurd rfl h
  | atom b => rfl
  | obj m => rfl
theorem eff_effR {d : D} (h : nonB d = false) : eff (den d) = effR (den d) := by
  cases d <;> first | (cases h; done) | rfl
/-- the members, while a patch is merged in: pre is done -/
structure MInv (ks : List Str) (n : Nat) (f0 : Str → T) (pms : List (Str × D)) (pre : List Str) (ms : List (Str × D)) : Prop where
  nd : ND ms
  hk : ∀ p ∈ ms, p.1 ∈ ks
  hm : ∀ p ∈ ms, DocK ks n p.2
  hv : ∀ k, denO (lkE ms k) = if k ∈ pre then act (eff (denO (lkE pms k))) (f0 k) else f0 k
section
variable {ks : List Str} {n : Nat} {f0 : Str → T} {pms ms : List (Str × D)} {pre : List Str}
theorem MInv.start (nd : ND ms) (hk : ∀ p ∈ ms, p.1 ∈ ks) (hm : ∀ p ∈ ms, DocK ks n p.2) (h : ∀ k, denO (lkE ms k) = f0 k) : MInv ks n f0 pms [] ms := ⟨nd, hk, hm, fun k => by simp [h]⟩
theorem MInv.del (h : MInv ks n f0 pms pre ms) {p : Str × D} (hp : lkE pms p.1 = some p.2) (hn : nonB p.2 = true) : MInv ks n f0 pms (pre ++ [p.1]) (delE ms p.1) := by
  have hd : p.2 = .non := by cases hq : p.2 <;> rw [hq] at hn <;> first | rfl | cases hn
  refine ⟨del_nd h.nd, fun q hq => h.hk q (del_mem hq), fun q hq => h.hm q (del_mem hq), fun k => ?_⟩
  rw [del_lk]
  by_cases hk : k = p.1
  · subst hk
    rw [if_pos rfl, if_pos (by simp), hp, hd]
    rfl
  · rw [if_neg hk, h.hv k]
    simp [hk]
theorem MInv.skip (h : MInv ks n f0 pms pre ms) {p : Str × D} (hp : lkE pms p.1 = some p.2) (hn : nonB p.2 = true) (hm : lkE ms p.1 = none) : MInv ks n f0 pms (pre ++ [p.1]) ms := by
  have hd : p.2 = .non := by cases hq : p.2 <;> rw [hq] at hn <;> first | rfl | cases hn
  refine ⟨h.nd, h.hk, h.hm, fun k => ?_⟩
  by_cases hk : k = p.1
  · subst hk
    rw [if_pos (by simp), hp, hd, hm]
    rfl
  · rw [h.hv k]
    simp [hk]
theorem MInv.put (h : MInv ks n f0 pms pre ms) {p : Str × D} (hp : lkE pms p.1 = some p.2) (hn : nonB p.2 = false) (hpre : p.1 ∉ pre) (hkp : p.1 ∈ ks) {v : D} (hv : DocK ks n v) (e : den v = act (effR (den p.2)) (den ((lkE ms p.1).getD .non))) : MInv ks n f0 pms (pre ++ [p.1]) (setE ms p.1 v) := by
  refine ⟨set_nd h.nd, fun q hq => (set_mem hq).elim (h.hk q) fun e => by rw [e]; exact hkp, fun q hq => (set_mem hq).elim (h.hm q) fun e => by rw [e]; exact hv, fun k => ?_⟩
  rw [set_lk]
  by_cases hk : k = p.1
  · subst hk
    rw [if_pos rfl, if_pos (by simp), hp]
    show den v = act (eff (den p.2)) _
    rw [e, eff_effR hn]
    have h0 := h.hv p.1
    rw [if_neg hpre] at h0
    rw [← h0]
    cases hl : lkE ms p.1 with
    | some d => rfl
    | none => exact act_atom _ (den_ne _)
  · rw [if_neg hk, h.hv k]
    simp [hk]
theorem MInv.fin (h : MInv ks n f0 pms (pms.map (·.1)) ms) : den (.dic (dctE ms)) = .obj fun k => act (eff (denO (lkE pms k))) (f0 k) := by
  rw [den_dct]
  congr 1
  funext k
  rw [h.hv k]
  split
  · rfl
  · rename_i hk
    rw [lkE_none.mpr hk]
    rfl
end
end Tw
end
section
set_option maxRecDepth 100000
set_option maxHeartbeats 4000000
namespace Tw
open PySem PySem.Spec PyProof.Rows L2

/-- a def's promise where no repr is under way -/
structure FnG (P : Program) (w : World) (K : PySem.W.Frag) (mg : Str → Option Value) (base : Heap) (k : Nat) (f : Addr) (fd : FuncData) (ps : List Str) (sp : Sp) : Prop where
  len : ∀ vs H Q E, sp vs H Q E → vs.length = ps.length
  go : ∀ (A : Around) (outer : List Env) (s : Shared) (H : Hp) (args : Args) (us : List Value) (vs : List V) (Q : VK) (E : XK), A.guards = some [] → Room k A → Env0 P w K mg base A outer s H → BindsTo s fd args (ps.zip us) → Vals vs us → sp vs H Q E →
    codeAny (model P w) A (.call (.ref f) args) (CR CX0 outer P w H s Q E) s
section
variable {P : Program} {w : World} {K : PySem.W.Frag} {mg : Str → Option Value} {base : Heap} {k : Nat} {f : Addr} {fd : FuncData} {ps N : List Str} {sp sp' : Sp} {x qual : Str} {st : Stmt}
theorem FnG.of (F : FnOk P w K mg base CX0 k f fd ps sp) : FnG P w K mg base k f fd ps sp := ⟨F.len, fun A o s H a us vs Q E _ => F.run A o s H a us vs Q E⟩
theorem FnG.up {j : Nat} (F : FnG P w K mg base j f fd ps sp) (h : j ≤ k) : FnG P w K mg base k f fd ps sp := ⟨F.len, fun A o s H a us vs Q E g r => F.go A o s H a us vs Q E g (r.mono h)⟩
theorem FnG.less (F : FnG P w K mg base k f fd ps sp) (h : ∀ vs H Q E, sp' vs H Q E → sp vs H Q E) : FnG P w K mg base k f fd ps sp' :=
  ⟨fun vs H Q E q => F.len vs H Q E (h _ _ _ _ q), fun A o s H a us vs Q E g r e b v q => F.go A o s H a us vs Q E g r e b v (h _ _ _ _ q)⟩
theorem par_kind {sc : Scope} (S : FnScope N ps sc) (us : List Value) (n : Nat) : ∀ y ∈ ps.zip us, sc.names.lookup y.1 = some .local ∨ (sc.names.lookup y.1 = some .cell ∧ ((cellsFrom n sc.names []).lookup y.1).isSome = true) := by
  rintro ⟨y, v⟩ hy
  exact (S.par y (List.of_mem_zip hy).1).imp id fun q => ⟨q, PySem.W.cellsFrom_some _ _ _ (.inl q)⟩
theorem Fun.okG (F : Fun K x qual st f fd) (S : FnScope N ps (defScope st)) (len : ∀ vs H Q E, sp vs H Q E → vs.length = ps.length)
    (hbody : ∀ (cdv : Value) (A : Around) (outer : List Env) (s : Shared) (H : Hp) (vs : List V) (Q : VK) (E : XK), A.guards = some [] → Room k (A.deeper (envOfC qual (defScope st) s.heap.objs.size f cdv)) → sp vs H Q E →
      ∃ t, PSs (cxOf CX0 P w K mg base N qual (defScope st) f cdv A outer s H E).nox (defBody st) t ∧ t { nx := fun _ H' => Q .non H', rt := Q } (start N vs) H) : FnG P w K mg base (k + 1) f fd ps sp := by
  obtain ⟨oc, od, kV, doc, pm, an, cdv, ct, osl, rfl, lk, hcd⟩ := F.ex
  constructor
  · exact len
  · intro A outer s H args us vs Q E hg hr e0 hb r hsp
    have kin : K.In s.heap := e0.mod.kin.keeps fun b o e => (e0.bs b o e).1
    have nol : s.heap.NoLimit := e0.mod.nolimit.keeps fun b o e => (e0.bs b o e).1
    apply codeAny_call_function hr.depth (kin _ _ lk) rfl S.co S.gen rfl (PySem.W.codeRec_of kin hcd)
    apply hb
    apply wpAny_newFunctionEnv_cells S.kind (par_kind S us _)
    rintro env rfl s1 x1
    refine ⟨nol.keeps x1.toInCall.keep, codeAny_func ?_⟩
    obtain ⟨t, ht, hq⟩ := hbody cdv A outer s H vs Q E hg (hr.deeper _) hsp
    have I0 := inv_start (CX := CX0) (E := E) S hr.hd e0 (len _ _ _ _ hsp) r x1
    apply wpAny_mono (ht.nox.run [] s1 (start N vs) H _ I0 hq)
    · intro fl s' hs
      match fl, hs with
      | .next, ⟨σ', H', J, q⟩ => exact ⟨.non, H', J.os, J.bare, J.base, J.hok, rfl, q⟩
      | .ret u, ⟨v, σ', H', J, rv, q⟩ => exact ⟨v, H', J.os, J.bare, J.base, J.hok, rv, q⟩
      | .brk, ⟨_, _, _, q⟩ => exact q.elim
      | .cont, ⟨_, _, _, q⟩ => exact q.elim
    · exact fun e s' h => h
end
end Tw
end
section
set_option maxRecDepth 100000
set_option maxHeartbeats 4000000
namespace Tw
open PySem PySem.Spec PyProof.Rows L2

section
variable (P : Program) (w : World) (h : Heap)
def Shw (u : Value) (p : PyData) : Prop := ∃ as bs, Reads h u p as ∧ ReadAtMost h p.depth bs ∧ ReprK P w bs h p.depth u p.shown
def Shws (us : List Value) (ps : List PyData) : Prop := ∃ as bs, ReadsAll h us ps as ∧ ReadAtMost h (PyData.depthAll ps) bs ∧ ReprAllK P w bs h (PyData.depthAll ps) us (PyData.shownAll ps)
end
section
variable {P : Program} {w : World} {h : Heap}
theorem Shws.nil : Shws P w h [] [] := ⟨[], [], .nil, fun _ z => (nomatch z), by simp only [PyData.shownAll]; exact .nil⟩
theorem Shws.cons {u : Value} {us : List Value} {p : PyData} {ps : List PyData} (a : Shw P w h u p) (b : Shws P w h us ps) : Shws P w h (u :: us) (p :: ps) := by
  obtain ⟨as, bs, r, m, k⟩ := a
  obtain ⟨cs, ds, r', m', k'⟩ := b
  have l1 : p.depth ≤ PyData.depthAll (p :: ps) := by simp only [PyData.depthAll]; exact Nat.le_max_left _ _
  have l2 : PyData.depthAll ps ≤ PyData.depthAll (p :: ps) := by simp only [PyData.depthAll]; exact Nat.le_max_right _ _
  refine ⟨_, bs ++ ds, .cons r r', (m.mono l1).append (m'.mono l2), ?_⟩
  simp only [PyData.shownAll]
  exact .cons ((k.more fun b hb => List.mem_append_left _ hb).level_le l1) (k'.more_le (fun b hb => List.mem_append_right _ hb) l2)
/-- a list over its parts -/
theorem Shws.list {us : List Value} {ps : List PyData} {a : Addr} {o : Obj} {n : Nat} (b : Shws P w h us ps) (h1 : h.get? a = some o) (h2 : o.cls = .type "list") (h3 : o.data = .seq us.toArray n) : Shw P w h (.ref a) (.list ps) := by
  obtain ⟨as, bs, r, m, k⟩ := b
  have R : Reads h (.ref a) (.list ps) (a :: as) := .list h1 h2 h3 r
  have na : a ∉ bs := not_mem_of_deeper R (by simp only [PyData.depth]; omega) m
  refine ⟨_, a :: bs, R, .cons R (by simp only [PyData.depth]; omega) m, ?_⟩
  simp only [PyData.depth, PyData.shown]
  match us, ps, r, k, h3 with
  | [], [], _, _, h3 =>
    simp only [PyData.shownAll, listText_nil]
    exact ReprK.listEmpty h1 h2 h3
  | x :: l, ps, _, k, h3 => exact ReprK.list h1 h2 h3 na (by simpa using k.length_eq) fun i y e => k.item i y (by simpa using e)
theorem Shws.tuple {us : List Value} {ps : List PyData} {a : Addr} {o : Obj} {n : Nat} (b : Shws P w h us ps) (h1 : h.get? a = some o) (h2 : o.cls = .type "tuple") (h3 : o.data = .seq us.toArray n) : Shw P w h (.ref a) (.tuple ps) := by
  obtain ⟨as, bs, r, m, k⟩ := b
  have R : Reads h (.ref a) (.tuple ps) as := .tuple h1 h2 h3 r
  have na : a ∉ bs := not_mem_of_deeper R (by simp only [PyData.depth]; omega) m
  refine ⟨_, a :: bs, R, .cons R (by simp only [PyData.depth]; omega) m, ?_⟩
  simp only [PyData.depth, PyData.shown]
  exact ReprK.tuple h1 h2 h3 na k
theorem Shws.dict {kvs : List (PyData × PyData)} {a : Addr} {o : Obj} {es : Array DictEntry} {n : Nat} (b : Shws P w h (es.toList.map (·.key)) (kvs.map (·.1))) (c : Shws P w h (es.toList.map (·.val)) (kvs.map (·.2)))
    (h1 : h.get? a = some o) (h2 : o.cls = .type "dict") (h3 : o.data = .dict es n) (hs : (a == sysModules) = false) : Shw P w h (.ref a) (.dict kvs) := by
  obtain ⟨as, bs, r, m, k⟩ := b
  obtain ⟨cs, ds, r', m', k'⟩ := c
  have R : Reads h (.ref a) (.dict kvs) (a :: as ++ cs) := .dict h1 h2 h3 r r'
  have l1 := PyData.depthAll_keys_le kvs
  have l2 := PyData.depthAll_vals_le kvs
  have mm := (m.mono l1).append (m'.mono l2)
  have na : a ∉ bs ++ ds := not_mem_of_deeper R (by simp only [PyData.depth]; omega) mm
  refine ⟨_, a :: (bs ++ ds), R, .cons R (by simp only [PyData.depth]; omega) mm, ?_⟩
  simp only [PyData.depth, PyData.shown, PyData.shownKv_eq]
  exact ReprK.dict h1 h2 h3 hs na (ReprEntriesK.of_two _ _ _ (k.more_le (fun b hb => List.mem_append_left _ hb) l1) (k'.more_le (fun b hb => List.mem_append_right _ hb) l2))
end
section
variable {X : Cx} {pins : List (Addr × Obj)} {σ : Sg} {H : Hp} {s : Shared} {mg : Str → Option Value} {Z : Addr → Prop}
end
section
variable {P : Program} {w : World} {A : Around} {E : Value → Shared → Prop} {s : Shared} {Q : Value → Shared → Prop} {a : Addr} {o : Obj}
end
end Tw
end
section
set_option maxRecDepth 100000
set_option maxHeartbeats 4000000
namespace Tw
open PySem PySem.Spec PyProof.Rows L2
section
variable {mg : Str → Option Value}
theorem len0 {vs : List V} {H : Hp} {Q : VK} {E : XK} {N ps : List Str} {b : SF} (h : sp0 mg (run0 N.length ps.length b) vs H Q E) : vs.length = ps.length := by
  obtain ⟨Z, ds, r, _, hr, e, _⟩ := h
  unfold run0 at e
  split at e
  · rename_i h1; rw [← h1, hr.length]
  · cases e
theorem body0 {X : Cx} {sts : List Stmt} {vs : List V} {H : Hp} {Q : VK} {E : XK} {N ps : List Str} {b : SF} (hnp : ps.length ≤ N.length) (hb : BI X sts b) (h : sp0 X.mg (run0 N.length ps.length b) vs H Q E) : ∃ t, PSs X sts t ∧ t { nx := fun _ H' => Q .non H', rt := Q } (start N vs) H := by
  obtain ⟨Z, ds, r, hz, hrep, e, ret⟩ := h
  unfold run0 at e
  split at e
  case isFalse => cases e
  rename_i hl
  obtain ⟨⟨o, ρ'⟩, e1, e2⟩ := bind_some.mp e
  refine ⟨_, hb, ⟨Z, H, fun _ => [], fun _ => .non⟩, _, [], [], o, ρ', ⟨_, good0 hz hrep (by omega)⟩, e1, ?_⟩
  have fin : ∀ σ' v H' y, SR X.mg ⟨Z, H, fun _ => [], fun _ => .non⟩ σ' H' ρ' [] [] (some y) v → y = r → Q v H' := fun σ' v H' y ⟨fp, g⟩ hy => by
    subst hy
    obtain ⟨u, e3, own⟩ := g.ent none _ rfl
    cases e3
    refine ret v H' (fp none) (fun b o e => g.keep b o e fun _ h => by cases h) (fun a ha => ?_) (g.nd none) (own.mono (fun a u z h => ⟨fun w => ?_, h⟩) fun _ _ => rfl) (g.rnb _ rfl)
    · rcases g.new none a ha with h | h
      · cases h
      · exact h
    · rcases w with w | w
      · exact z (.inl w)
      · exact z (.inr ⟨none, w⟩)
  cases o with
  | nx =>
    cases e2
    exact fun σ' H' ⟨fp, g⟩ => fin σ' .non H' _ ⟨_, g.put (x := .non) (u := .non) rfl⟩ rfl
  | rt y =>
    cases e2
    exact fun σ' v H' s => fin σ' v H' _ s rfl
  | bk => cases e2
  | ct => cases e2
theorem len1 {vs : List V} {H : Hp} {Q : VK} {E : XK} {N ps : List Str} {b : SF} (h : sp1 mg (run1 N.length ps.length b) vs H Q E) : vs.length = ps.length := by
  obtain ⟨Z, x, u, fx, ds, us, r, x', rfl, _, _, _, _, _, hr, e, _⟩ := h
  unfold run1 at e
  split at e
  · rename_i h1; rw [← h1, hr.length]; rfl
  · cases e
theorem body1 {X : Cx} {sts : List Stmt} {vs : List V} {H : Hp} {Q : VK} {E : XK} {N ps : List Str} {b : SF} (hnp : ps.length ≤ N.length) (hb : BI X sts b) (h : sp1 X.mg (run1 N.length ps.length b) vs H Q E) : ∃ t, PSs X sts t ∧ t { nx := fun _ H' => Q .non H', rt := Q } (start N vs) H := by
  obtain ⟨Z, x, u, fx, ds, us, r, x', rfl, hx, hxb, nd, hfz, hz, hrep, e, ret⟩ := h
  unfold run1 at e
  split at e
  case isFalse => cases e
  rename_i hl
  obtain ⟨⟨o, ρ'⟩, e1, e2⟩ := bind_some.mp e
  obtain ⟨y0, e3, e4⟩ := bind_some.mp e2
  simp only at e3 e4
  by_cases hyb : y0.bor = true
  case neg => rw [if_neg hyb] at e4; cases e4
  rw [if_pos hyb] at e4
  refine ⟨_, hb, _, _, [], [], o, ρ', ⟨_, good1 hz hx hxb nd hfz hrep (by omega)⟩, e1, ?_⟩
  have fin : ∀ σ' v H' y, SR X.mg ⟨Z, H, fun i => if i = 0 then fx else [], fun _ => u⟩ σ' H' ρ' [] [] (some y) v → y = r → y0 = x' → Q v H' := fun σ' v H' y ⟨fp, g⟩ hy hy0 => by
    subst hy; subst hy0
    obtain ⟨u1, e5, own⟩ := g.ent none _ rfl
    cases e5
    obtain ⟨u2, e6, own2⟩ := g.ent (some 0) _ e3
    have e7 := g.bvs 0 _ e3 hyb
    cases e6.symm.trans e7
    have zz : ∀ a, (Z a ∨ a ∈ fp (some 0) ∨ a ∈ fp none) → Zof ⟨Z, H, fun i => if i = 0 then fx else [], fun _ => u⟩ fp a := fun a h => by
      rcases h with h | h | h
      · exact .inl h
      · exact .inr ⟨_, h⟩
      · exact .inr ⟨_, h⟩
    refine ret v H' (fp none) (fp (some 0)) (fun b o e hb => g.keep b o e fun i h => ?_) (fun b h => g.mor b h) (fun a ha => ?_) (g.nd _) (fun a ha => ?_) (g.nd none) (fun a h1 h2 => ?_) (own2.mono (fun a u z h => ⟨fun w => z (zz a w), h⟩) fun _ _ => rfl) (own.mono (fun a u z h => ⟨fun w => z (zz a w), h⟩) fun _ _ => rfl) hyb (g.rnb _ rfl)
    · have h : b ∈ (if i = 0 then fx else []) := h
      split at h
      · exact hb h
      · cases h
    · exact g.new (some 0) a ha
    · rcases g.new none a ha with h | h
      · cases h
      · exact h
    · cases g.ap _ _ a h1 h2
  cases o with
  | nx =>
    cases e4
    exact fun σ' H' ⟨fp, g⟩ => fin σ' .non H' _ ⟨_, g.put (x := .non) (u := .non) rfl⟩ rfl rfl
  | rt y =>
    cases e4
    exact fun σ' v H' s => fin σ' v H' _ s rfl rfl
  | bk => cases e4
  | ct => cases e4
end
section
variable (P : Program) (w : World) (K : PySem.W.Frag) (mg : Str → Option Value) (base : Heap)
def CalG (nm : Str) (ps : List Str) (k : Nat) (F : F0) : Prop := ∃ f fd, mg nm = some (.ref f) ∧ PySem.W.keepIn K (.ref f) = true ∧ Binds K fd ps [] ∧ FnG P w K mg base k f fd ps (sp0 mg F)
def CalG1 (nm : Str) (ps : List Str) (k : Nat) (F : F1) : Prop := ∃ f fd, mg nm = some (.ref f) ∧ PySem.W.keepIn K (.ref f) = true ∧ Binds K fd ps [] ∧ FnG P w K mg base k f fd ps (sp1 mg F)
end
section
variable {P : Program} {w : World} {K : PySem.W.Frag} {mg : Str → Option Value} {base : Heap} {nm cn qual : Str} {st : Stmt} {ps N : List Str} {k : Nat} {b : SF} {F : F0} {G : F1}
theorem CalG.none (T : DefT K mg nm st ps) : CalG P w K mg base nm ps k fun _ => none := let ⟨f, fd, m, F, bi⟩ := T; ⟨f, fd, m, F.kp, bi, .of no0⟩
theorem CalG1.none (T : DefT K mg nm st ps) : CalG1 P w K mg base nm ps k fun _ _ => none := let ⟨f, fd, m, F, bi⟩ := T; ⟨f, fd, m, F.kp, bi, .of no1⟩
abbrev BodyG (P : Program) (w : World) (K : PySem.W.Frag) (mg : Str → Option Value) (base : Heap) (qual : Str) (st : Stmt) (N : List Str) (k : Nat) (b : SF) : Prop :=
  ∀ (f : Addr) (cdv : Value) (A : Around) (outer : List Env) (s : Shared) (H : Hp) (E : XK), A.guards = some [] → Room k (A.deeper (envOfC qual (defScope st) s.heap.objs.size f cdv)) → BI (cxOf CX0 P w K mg base N qual (defScope st) f cdv A outer s H E).nox (defBody st) b
theorem okG0 {x : Str} {f : Addr} {fd : FuncData} (F : Fun K x qual st f fd) (S : FnScope N ps (defScope st)) (hnp : ps.length ≤ N.length) (hb : BodyG P w K mg base qual st N k b) :
    FnG P w K mg base (k + 1) f fd ps (sp0 mg (run0 N.length ps.length b)) :=
  Tw.Fun.okG F S (fun vs H Q E h => len0 h) fun cdv A outer s H vs Q E hg hr h => body0 hnp (hb f cdv A outer s H E hg hr) h
theorem okG1 {x : Str} {f : Addr} {fd : FuncData} (F : Fun K x qual st f fd) (S : FnScope N ps (defScope st)) (hnp : ps.length ≤ N.length) (hb : BodyG P w K mg base qual st N k b) :
    FnG P w K mg base (k + 1) f fd ps (sp1 mg (run1 N.length ps.length b)) :=
  Tw.Fun.okG F S (fun vs H Q E h => len1 h) fun cdv A outer s H vs Q E hg hr h => body1 hnp (hb f cdv A outer s H E hg hr) h
theorem CalG.mk {k' : Nat} (T : DefT K mg nm st ps) (S : FnScope N ps (defScope st)) (hb : BodyG P w K mg base nm st N k b) (hnp : ps.length ≤ N.length := by decide) (hk : k + 1 ≤ k' := by omega) : CalG P w K mg base nm ps k' (run0 N.length ps.length b) :=
  let ⟨f, fd, m, F, bi⟩ := T; ⟨f, fd, m, F.kp, bi, (okG0 F S hnp hb).up hk⟩
theorem CalG1.mk {k' : Nat} (T : DefT K mg nm st ps) (S : FnScope N ps (defScope st)) (hb : BodyG P w K mg base nm st N k b) (hnp : ps.length ≤ N.length := by decide) (hk : k + 1 ≤ k' := by omega) : CalG1 P w K mg base nm ps k' (run1 N.length ps.length b) :=
  let ⟨f, fd, m, F, bi⟩ := T; ⟨f, fd, m, F.kp, bi, (okG1 F S hnp hb).up hk⟩
end
section
variable {X : Cx} {k k' : Nat} {ps : List Str} {x : Str} {p pos : Pos} {e : Expr} {es : List Expr} {os : List Opd} {f : Addr} {fd : FuncData} {sp : Sp} {F : F0} {G : F1} {t : TA}
end
def noL (K : PySem.W.Frag) : Bool := K.all fun p => !(p.2.cls == Value.type "list")
theorem noL_at {K : PySem.W.Frag} (h : noL K = true) {a : Addr} {o : Obj} (e : K.lookup a = some o) : o.cls ≠ .type "list" := by
  induction K with
  | nil => cases e
  | cons p r ih =>
    obtain ⟨b, u⟩ := p
    unfold noL at h
    rw [List.all_cons, Bool.and_eq_true] at h
    rw [List.lookup_cons] at e
    cases hb : a == b with
    | true =>
      rw [hb] at e
      cases e
      intro hc
      have h1 := h.1
      rw [hc] at h1
      simp at h1
    | false =>
      rw [hb] at e
      exact ih h.2 e
/-- what law(script) promises -/
def spLaw : Sp := fun vs H Q _ => ∃ (a : Addr) (ns : List Int), vs = [.ref a] ∧ Rd H a (.lst (ns.map V.int)) ∧ ns.length ≤ 63 ∧ ∀ H', Q (.bl true) H'
theorem ints_rep {mg : Str → Option Value} {Z : Addr → Prop} {H : Hp} : ∀ ns : List Int, Reps mg Z H (ns.map D.int) (ns.map V.int)
  | [] => rfl
  | n :: r => ⟨_, _, rfl, rfl, ints_rep r⟩
/-- only the script is known, and it is locked -/
def Hscr (a : Addr) (o : Obj) (ns : List Int) : Hp := fun b => if b = a then some (.frz o (.lst (ns.map V.int))) else none
theorem Hscr_none {a b : Addr} {o : Obj} {ns : List Int} (h : b ≠ a) : Hscr a o ns b = none := if_neg h
theorem law_entry {P : Program} {w : World} {K : PySem.W.Frag} {mg mb : Str → Option Value} {k : Nat} {fa a : Addr} {fd : FuncData} {x : Str} {s₁ : Shared} {vs : List Value} {ns : List Int}
    (KX : K.In s₁.heap) (hL : noL K = true) (hns : s₁.heap.Ns mainGlobals mg) (hb : s₁.heap.Ns builtinsNs mb) (hbb : ∀ x : Str, x ≠ "__name__" → mb x = bootBuiltins x) (hlim : s₁.heap.NoLimit) (hg : s₁.gens = #[])
    (ha : s₁.heap.get? a = some { cls := .type "list", data := .seq vs.toArray }) (hi : IntsAre vs ns) (hl : ns.length ≤ 63) (hr : Room k callerA)
    (F : ∀ base : Heap, K.In base → base.Ns mainGlobals mg → FnG P w K mg base k fa fd [x] spLaw) (hbind : ∀ (s : Shared) (u : Value), BindsTo s fd ⟨[u], []⟩ [(x, u)]) :
    codeAny (model P w) callerA (.call (.ref fa) ⟨[.ref a], []⟩) (fun r s' => r = .ok (.ret (.bool true)) ∧ OldK s₁.heap s'.heap ∧ s'.os = s₁.os ∧ AllBare s'.gens) s₁ := by
  have hK : K.lookup a = none := by
    cases e : K.lookup a with
    | none => rfl
    | some o => exact absurd (by rw [KX a o e] at ha; cases ha; rfl) (noL_at hL e)
  have rv : Vals (ns.map V.int) vs := vals_ints hi
  let H : Hp := Hscr a { cls := .type "list", data := .seq vs.toArray } ns
  have Ha : H a = some (.frz { cls := .type "list", data := .seq vs.toArray } (.lst (ns.map V.int))) := if_pos rfl
  have hz : (ns.map V.int).length ≤ sizeLine := by rw [List.length_map]; exact Nat.le_trans hl (by decide)
  have hok : HOk P w H s₁.heap := fun b u z => by
    by_cases e : b = a
    · subst e
      rw [Ha] at z
      cases z
      exact ⟨ha, hz, vs, _, rv, ha⟩
    · rw [show H b = none from Hscr_none e] at z; cases z
  have isnt : ∀ {b : Addr} {o : Obj} {es : Array DictEntry} {ep : Nat}, s₁.heap.get? b = some o → o.data = .dict es ep → H b = none := fun {b o es ep} e d => Hscr_none fun z => by
    subst z
    rw [ha] at e
    cases e
    cases d
  have carry : ∀ {b : Addr} {m : Str → Option Value}, s₁.heap.Ns b m → (hidT s₁.heap H).Ns b m := fun {b m} ⟨o, es, ep, e, d, r⟩ => ⟨o, es, ep, hidT_get e (isnt e d), d, r⟩
  have kb : K.In (hidT s₁.heap H) := fun b o e => hidT_get (KX b o e) (Hscr_none fun z => by subst z; rw [hK] at e; cases e)
  have md : Mod K mg (hidT s₁.heap H) := ⟨kb, carry hns, ⟨mb, carry hb, hbb⟩, let ⟨mc, h1, h2⟩ := hlim; ⟨mc, carry h1, h2⟩⟩
  have env : Env0 P w K mg (hidT s₁.heap H) callerA [] s₁ H := ⟨rfl, md, fun b o e => of_hidT e, Nat.le_of_eq (hidT_size _ _), trivial, fun b z => (nomatch z), hok, .of_eq hg⟩
  have run := (F _ kb (carry hns)).go callerA [] s₁ H ⟨[.ref a], []⟩ [.ref a] [.ref a] (fun v _ => v = .bl true) (fun _ _ _ => False) rfl hr env (hbind s₁ (.ref a)) (.cons rfl .nil) ⟨a, ns, rfl, .inr ⟨_, Ha, rfl⟩, hl, fun _ => rfl⟩
  apply codeAny_mono run
  intro r s' q
  match r, q with
  | .error _, q => exact q.elim
  | .ok (.ret u), ⟨v, H', os, bare, un, hok', rr, qv⟩ =>
    cases (show v = V.bl true from qv)
    cases (show u = Value.bool true from rr)
    refine ⟨rfl, .of_keep fun b o e => ?_, os, bare⟩
    by_cases z : b = a
    · subst z
      obtain ⟨e1, _⟩ := hok' b _ (un.frzs b _ _ Ha)
      rw [ha] at e
      cases e
      exact e1
    · exact un.keep b o e (Hscr_none z) (fun y => (nomatch y)) (fun y => (nomatch y))
/-- the law's promise, from its def's own -/
theorem walk_g {l : PySem.W.OpenLaw} {k : Nat} {q : Program} {loose : List Str} {XP : (Str → Option Value) → Heap → Prop} {YP : World → Heap → Prop} {d : DefRec} {K : Params → PySem.W.Frag} (hn : l.most = some 63) (hdf : d.params.defaults = []) (hr : Room k callerA)
    (hY : ∀ (w : World) (h : Heap), YP w h → (K w.params).In h) (hL : ∀ w : World, noL (K w.params) = true)
    (F : ∀ (w : World) (mg : Str → Option Value) (fa : Addr) (h : Heap), (K w.params).In h → h.Ns mainGlobals mg → mg d.name = some (.ref fa) →
      ∃ fd : FuncData, (∀ (s : Shared) (u : Value), BindsTo s fd ⟨[u], []⟩ [("_law_script", u)]) ∧ ∀ base : Heap, (K w.params).In base → base.Ns mainGlobals mg → FnG l.prog w (K w.params) mg base k fa fd ["_law_script"] spLaw) :
    PySem.W.WalkO q loose XP YP l.row.toRowW d [] (fun f vs => PySem.call f vs) :=
  Att.attach_call hn hdf fun w s₀ s₁ mg mb fa o pm cd doc a vs ns G Y ho hd hcd hmg hobj hints hlen hg =>
    let ⟨_, hb, hF⟩ := F w mg fa _ (hY w _ Y) G.T.g hmg
    law_entry (hY w _ Y) (hL w) G.T.g G.T.b G.T.builtins G.T.nolimit hg hobj hints hlen hr hF hb
end Tw
end
section
set_option maxRecDepth 100000
set_option maxHeartbeats 4000000
namespace Tw
open PySem PySem.Spec PyProof.Rows L2

inductive AtT (S : D → Prop) : T → Prop
  | miss : AtT S .miss
  | atom {a : D} (h : S a) : AtT S (.atom a)
  | obj {m : Str → T} (h : ∀ k, AtT S (m k)) : AtT S (.obj m)
inductive AtE (S : D → Prop) : E → Prop
  | keep : AtE S .keep
  | drop : AtE S .drop
  | set {a : D} (h : S a) : AtE S (.set a)
  | merge {m : Str → E} (h : ∀ k, AtE S (m k)) : AtE S (.merge m)
  | build {m : Str → E} (h : ∀ k, AtE S (m k)) : AtE S (.build m)
section
variable {S : D → Prop}
theorem AtE.mm {m : Str → E} (h : AtE S (.merge m)) (k : Str) : AtE S (m k) := by cases h with | merge h => exact h k
theorem AtE.bb {m : Str → E} (h : AtE S (.build m)) (k : Str) : AtE S (m k) := by cases h with | build h => exact h k
theorem AtE.bu : ∀ {e : E}, AtE S e → AtE S (bu e)
  | .keep, _ => .drop
  | .drop, _ => .drop
  | .set a, h => h
  | .merge m, h => .build fun k => (h.mm k).bu
  | .build m, h => h
theorem AtE.jn : ∀ {e f : E}, AtE S e → AtE S f → AtE S (jn e f)
  | e, .keep, h, _ => by cases e <;> exact h
  | e, .drop, _, h => by cases e <;> exact .drop
  | e, .set a, _, h => by cases e <;> exact h
  | e, .build m, _, h => by cases e <;> exact h
  | .keep, .merge m, _, h => h
  | .drop, .merge m, _, h => .build fun k => (h.mm k).bu
  | .set a, .merge m, _, h => .build fun k => (h.mm k).bu
  | .merge m1, .merge m, h1, h => .merge fun k => (h1.mm k).jn (h.mm k)
  | .build m1, .merge m, h1, h => .build fun k => (h1.bb k).jn (h.mm k)
theorem AtT.eff : ∀ {t : T}, AtT S t → AtE S (eff t)
  | .miss, _ => .keep
  | .atom a, h => by
    cases h with
    | atom h =>
      unfold Tw.eff
      split
      · exact .drop
      · exact .set h
  | .obj m, h => .merge fun k => AtT.eff (match h with | .obj h => h k)
theorem AtT.effR : ∀ {t : T}, AtT S t → AtE S (effR t)
  | .miss, _ => .keep
  | .atom a, h => by cases h with | atom h => exact .set h
  | .obj m, h => .merge fun k => AtT.eff (match h with | .obj h => h k)
end
theorem Fc.fn {d f : D} (h : Fc d f) : ∀ {f' : D}, Fc d f' → f = f' := by
  induction h with
  | @mk k a ms g h ih =>
    intro f' h'
    generalize hx : effD k a ms = x at h'
    cases h' with
    | @mk k' a' ms' g' h' =>
      obtain ⟨rfl, rfl, rfl⟩ := effD_inj hx
      have : ms.map (fun p => D.tup [.str p.1, g p]) = ms.map fun p => .tup [.str p.1, g' p] := List.map_congr_left fun p hp => by rw [ih p hp (h' p hp)]
      rw [this]
end Tw
end
section
set_option maxRecDepth 100000
set_option maxHeartbeats 4000000
namespace Tw
open PySem PySem.Spec PyProof.Rows L2

/-- what a result must be, to be no NotImplemented: data or an object -/
def plusI (cn : Str) (F : F0) : D → D → Option A := fun a b => (insD a).bind fun x => (insD b).bind fun y => if x.1 = cn ∧ y.1 = cn then F [a, b] else none
section
variable {X : Cx} {k k' : Nat} {f C : Addr} {fd : FuncData} {ps : List Str} {cn : Str}
end
section
variable {P : Program} {w : World} {A : Around} {s : Shared} {K : PySem.W.Frag} {x C dx f : Addr} {od : Option Obj} {us : List Value} {R : Result → Shared → Prop}
end
/-- x(e, ..) of an instance whose class has an own __call__ -/
def callI (cn : Str) (f : EF) (os : List Opd) (F : F0) : EF := fun ρ => (dv f ρ).bind fun x => (insD x.1).bind fun y => if y.1 = cn then (evs os x.2).bind fun z => (onlyD z.1).bind fun ds => (F (x.1 :: ds)).map fun r => (r, z.2) else none
section
variable {X : Cx} {k k' : Nat} {g C : Addr} {fd : FuncData} {ps : List Str} {cn qual : Str} {st : Stmt} {a e : Expr} {es : List Expr} {os : List Opd} {f : EF} {pos : Pos} {F : F0}
end
end Tw
end
section
set_option maxRecDepth 100000
set_option maxHeartbeats 4000000
namespace Tw
open PySem PySem.Spec PyProof.Rows L2

/-- the pairs of a list's items with their places -/
def enumF : Nat → List D → List D
  | _, [] => []
  | k, d :: r => .pr [.int (k : Nat), d] :: enumF (k + 1) r
def enumW (f : EF) : WF := fun ρ => (dv f ρ).bind fun x => (lstD x.1).map fun ds => (enumF 0 ds, x.2)
section
variable {mg : Str → Option Value}
end
section
variable {X : Cx} {e : Expr} {elts : List Expr} {kk : Nat} {tpos p pos : Pos} {f : EF}
end
@[simp ↓] theorem WP_enumW {f : EF} {ρ : Ro} {Q : List D × Ro → Prop} : WP (enumW f ρ) Q ↔ WP (dv f ρ) fun x => WP (lstD x.1) fun ds => Q (enumF 0 ds, x.2) := by unfold enumW; simp only [WP_bind, WP_map]
end Tw
end
section
set_option maxRecDepth 100000
set_option maxHeartbeats 4000000
namespace Tw
open PySem PySem.Spec PyProof.Rows L2

section
variable {X : Cx} {pos : Pos} {cnd : Expr} {body : List Stmt} {t : TF} {b : SF}
end
end Tw
end
section
set_option maxRecDepth 100000
set_option maxHeartbeats 4000000
namespace Tw
open PySem PySem.Spec PyProof.Rows L2

section
variable {X : Cx}
/-- x.extend(e) -/
def extE (i : Nat) (p : Opd) : EF := fun ρ => (lstA (at_ ρ i)).bind fun _ => (ev1 p ρ).bind fun x => (inlD x.1).bind fun d => (lstD d).bind fun zs => (lstA (at_ x.2 i)).bind fun y => if y.2.length + zs.length ≤ 16777216 then some (.d .non, x.2.set i (some (.l y.1 (y.2 ++ zs)))) else none
end
@[simp ↓] theorem WP_extE {i : Nat} {p : Opd} {ρ : Ro} {Q : A × Ro → Prop} : WP (extE i p ρ) Q ↔ WP (lstA (at_ ρ i)) fun _ => WP (ev1 p ρ) fun x => WP (inlD x.1) fun d => WP (lstD d) fun zs => WP (lstA (at_ x.2 i)) fun y => WP (if y.2.length + zs.length ≤ 16777216 then some (A.d .non, x.2.set i (some (.l y.1 (y.2 ++ zs)))) else none) Q := by
  unfold extE
  simp only [WP_bind]
end Tw
end
section
set_option maxRecDepth 100000
set_option maxHeartbeats 4000000
namespace Tw
open PySem PySem.Spec PyProof.Rows L2
open PySem.SeqAt PySem.MeetsSeq PySem.MeetsSeq2 PySem.MeetsSeq3 PySem.SeqRoads2
open AutoSeq1 (wpAny_loadPart')
section
variable {prog : Program} {w : World}
variable {A : Around} {E : Value → Shared → Prop} {s : Shared}
end
end Tw
end
section
set_option maxRecDepth 100000
set_option maxHeartbeats 4000000
namespace Tw
open PySem PySem.Spec PyProof.Rows L2

theorem RepT.free {mg : Str → Option Value} {Z : Addr → Prop} {H : Hp} {d : D} {v : V} (h : RepT mg Z H d v) : Rep mg (fun _ => False) H d v := by
  have m : ∀ a u, ¬ Z a → Rd H a u → ¬ False ∧ Rd H a u := fun a u _ g => ⟨fun h => h, g⟩
  cases d with
  | lst ds => obtain ⟨a, vs, e, g, r⟩ := h; exact ⟨a, vs, e, fun h => h, g, r.mono m⟩
  | dic ds => obtain ⟨a, vs, e, g, r⟩ := h; exact ⟨a, vs, e, fun h => h, g, RepK.mono m r⟩
  | _ => exact Rep.mono m (show Rep mg Z H _ v from h)
/-- x in xs, over data -/
def inG (neg : Bool) : D → D → Option A := fun a b => (lstD b).bind fun ys => if hgts ys ≤ 90 then (mapO (fun y => eqO y a) ys).map fun bs => .d (.bl (if neg = true then !bs.any id else bs.any id)) else none
section
variable {X : Cx}
end
end Tw
end
section
set_option maxRecDepth 100000
set_option maxHeartbeats 4000000
namespace Tw
open PySem PySem.Spec PyProof.Rows L2

mutual
def ht : D → Nat
  | .lst xs => hts xs + 1
  | .tup xs => hts xs + 1
  | .pr xs => hts xs + 1
  | .dic xs => htk xs + 1
  | .ins _ fs => htf fs + 1
  | .exc _ fs => htf fs + 1
  | _ => 0
def hts : List D → Nat
  | [] => 0
  | d :: r => max (ht d) (hts r)
def htk : List (Key × D) → Nat
  | [] => 0
  | (_, d) :: r => max (ht d) (htk r)
def htf : List (Str × D) → Nat
  | [] => 0
  | (_, d) :: r => max (ht d) (htf r)
end
/-- what stands there, locked or not -/
def und : HO → HO
  | .frz _ u => u
  | u => u
theorem und_lst {H : Hp} {a : Addr} {vs : List V} (h : Rd H a (.lst vs)) : ∃ o, H a = some o ∧ und o = .lst vs := by
  rcases h with h | ⟨o, h, _⟩
  · exact ⟨_, h, rfl⟩
  · exact ⟨_, h, rfl⟩
theorem und_pr {H : Hp} {a : Addr} {vs : List V} (h : Rd H a (.tup vs)) : ∃ o, H a = some o ∧ und o = .tup vs := by
  rcases h with h | ⟨o, h, _⟩
  · exact ⟨_, h, rfl⟩
  · exact ⟨_, h, rfl⟩
theorem und_dK {H : Hp} {a : Addr} {vs : List (Key × V)} (h : Rd H a (.dK vs)) : ∃ o, H a = some o ∧ und o = .dK vs := by
  rcases h with h | ⟨o, h, _⟩
  · exact ⟨_, h, rfl⟩
  · exact ⟨_, h, rfl⟩
theorem und_tup {H : Hp} {a : Addr} {ob : Obj} {vs : List V} (h : Rd H a (.frz ob (.tup vs))) : ∃ o, H a = some o ∧ und o = .tup vs := ⟨_, h.frz, rfl⟩
theorem und_ins {H : Hp} {a C dx : Addr} {vs : List (Str × V)} (h : Rd H a (.ins C dx vs)) : ∃ o, H a = some o ∧ und o = .ins C dx vs := ⟨_, h.ins, rfl⟩
def exvP (C : Addr) (dd : Option Addr) (a : Addr) : Heap → Prop := fun h => ∃ (oe : Obj) (vs : Array Value), h.get? a = some oe ∧ oe.cls = .ref C ∧ oe.dict = dd ∧ oe.data = .fields vs
theorem exvP_dd {C C' a : Addr} {dd dd' : Option Addr} (e : exvP C dd a = exvP C' dd' a) : dd = dd' := by
  have g : (⟨Array.replicate (a + 1) { cls := .ref C, dict := dd, data := .fields #[] }, {}⟩ : Heap).get? a = some { cls := .ref C, dict := dd, data := .fields #[] } := by
    unfold Heap.get?
    simp
  have h1 : exvP C dd a ⟨Array.replicate (a + 1) { cls := .ref C, dict := dd, data := .fields #[] }, {}⟩ := ⟨_, _, g, rfl, rfl, rfl⟩
  rw [e] at h1
  obtain ⟨oe, vs, g', _, d', _⟩ := h1
  cases g.symm.trans g'
  exact d'
theorem und_exc {H : Hp} {a C : Addr} {dd : Option Addr} (h : Rd H a (exv C dd a)) : ∃ o, H a = some o ∧ und o = .ext (exvP C dd a) := by
  rcases h with h | ⟨o, h, l⟩
  · exact ⟨_, h, rfl⟩
  · cases l
theorem rd_xd {H : Hp} {a : Addr} {vs : List (Str × V)} (h : Rd H a (.xd vs)) : H a = some (.xd vs) := by
  rcases h with h | ⟨o, _, l⟩
  · exact h
  · cases l
section
variable {mg : Str → Option Value} {Z Z' : Addr → Prop} {H : Hp}
mutual
theorem ht_det : ∀ {d d' : D} {v : V}, Rep mg Z H d v → Rep mg Z' H d' v → ht d = ht d'
  | .non, d', v, r, r' => by
    cases (show v = .non from r)
    cases d' <;> first | rfl | (cases (show V.non = _ from r'); done) | (obtain ⟨_, _, e, _⟩ := r'; cases e; done) | (obtain ⟨_, _, _, e, _⟩ := r'; cases e; done) | (obtain ⟨_, _, _, _, e, _⟩ := r'; cases e; done)
  | .bl b, d', v, r, r' => by
    cases (show v = .bl b from r)
    cases d' <;> first | rfl | (cases (show V.bl b = _ from r'); done) | (obtain ⟨_, _, e, _⟩ := r'; cases e; done) | (obtain ⟨_, _, _, e, _⟩ := r'; cases e; done) | (obtain ⟨_, _, _, _, e, _⟩ := r'; cases e; done)
  | .int b, d', v, r, r' => by
    cases (show v = .int b from r)
    cases d' <;> first | rfl | (cases (show V.int b = _ from r'); done) | (obtain ⟨_, _, e, _⟩ := r'; cases e; done) | (obtain ⟨_, _, _, e, _⟩ := r'; cases e; done) | (obtain ⟨_, _, _, _, e, _⟩ := r'; cases e; done)
  | .str b, d', v, r, r' => by
    cases (show v = .str b from r)
    cases d' <;> first | rfl | (cases (show V.str b = _ from r'); done) | (obtain ⟨_, _, e, _⟩ := r'; cases e; done) | (obtain ⟨_, _, _, e, _⟩ := r'; cases e; done) | (obtain ⟨_, _, _, _, e, _⟩ := r'; cases e; done)
  | .lst ds, d', v, ⟨a, vs, e, _, g, rr⟩, r' => by
    subst e
    obtain ⟨o, h1, h2⟩ := und_lst g
    cases d' with
    | lst ds' =>
      obtain ⟨a', vs', e, _, g', rr'⟩ := r'
      cases e
      obtain ⟨o', h1', h2'⟩ := und_lst g'
      cases h1.symm.trans h1'
      cases h2.symm.trans h2'
      simp only [ht, hts_det rr rr']
    | tup ds' => obtain ⟨a', vs', ob, e, _, _, g', _⟩ := r'; cases e; obtain ⟨o', h1', h2'⟩ := und_tup g'; cases h1.symm.trans h1'; cases h2.symm.trans h2'
    | pr ds' => obtain ⟨a', vs', e, _, g', _⟩ := r'; cases e; obtain ⟨o', h1', h2'⟩ := und_pr g'; cases h1.symm.trans h1'; cases h2.symm.trans h2'
    | dic ds' => obtain ⟨a', vs', e, _, g', _⟩ := r'; cases e; obtain ⟨o', h1', h2'⟩ := und_dK g'; cases h1.symm.trans h1'; cases h2.symm.trans h2'
    | ins c fs => obtain ⟨a', C, dx, vs', e, _, _, g', _⟩ := r'; cases e; obtain ⟨o', h1', h2'⟩ := und_ins g'; cases h1.symm.trans h1'; cases h2.symm.trans h2'
    | exc c fs => obtain ⟨a', C, dd, vs', e, _, _, g', _⟩ := r'; cases e; obtain ⟨o', h1', h2'⟩ := und_exc g'; cases h1.symm.trans h1'; cases h2.symm.trans h2'
    | _ => cases (show V.ref a = _ from r')
  | .tup ds, d', v, ⟨a, vs, ob, e, _, _, g, rr⟩, r' => by
    subst e
    obtain ⟨o, h1, h2⟩ := und_tup g
    cases d' with
    | lst ds' => obtain ⟨a', vs', e, _, g', rr'⟩ := r'; cases e; obtain ⟨o', h1', h2'⟩ := und_lst g'; cases h1.symm.trans h1'; cases h2.symm.trans h2'
    | tup ds' => obtain ⟨a', vs', ob, e, _, _, g', rr'⟩ := r'; cases e; obtain ⟨o', h1', h2'⟩ := und_tup g'; cases h1.symm.trans h1'; cases h2.symm.trans h2'; simp only [ht, hts_det rr rr']
    | pr ds' => obtain ⟨a', vs', e, _, g', rr'⟩ := r'; cases e; obtain ⟨o', h1', h2'⟩ := und_pr g'; cases h1.symm.trans h1'; cases h2.symm.trans h2'; simp only [ht, hts_det rr rr']
    | dic ds' => obtain ⟨a', vs', e, _, g', _⟩ := r'; cases e; obtain ⟨o', h1', h2'⟩ := und_dK g'; cases h1.symm.trans h1'; cases h2.symm.trans h2'
    | ins c fs => obtain ⟨a', C, dx, vs', e, _, _, g', _⟩ := r'; cases e; obtain ⟨o', h1', h2'⟩ := und_ins g'; cases h1.symm.trans h1'; cases h2.symm.trans h2'
    | exc c fs => obtain ⟨a', C, dd, vs', e, _, _, g', _⟩ := r'; cases e; obtain ⟨o', h1', h2'⟩ := und_exc g'; cases h1.symm.trans h1'; cases h2.symm.trans h2'
    | _ => cases (show V.ref a = _ from r')
  | .pr ds, d', v, ⟨a, vs, e, _, g, rr⟩, r' => by
    subst e
    obtain ⟨o, h1, h2⟩ := und_pr g
    cases d' with
    | lst ds' => obtain ⟨a', vs', e, _, g', rr'⟩ := r'; cases e; obtain ⟨o', h1', h2'⟩ := und_lst g'; cases h1.symm.trans h1'; cases h2.symm.trans h2'
    | tup ds' => obtain ⟨a', vs', ob, e, _, _, g', rr'⟩ := r'; cases e; obtain ⟨o', h1', h2'⟩ := und_tup g'; cases h1.symm.trans h1'; cases h2.symm.trans h2'; simp only [ht, hts_det rr rr']
    | pr ds' => obtain ⟨a', vs', e, _, g', rr'⟩ := r'; cases e; obtain ⟨o', h1', h2'⟩ := und_pr g'; cases h1.symm.trans h1'; cases h2.symm.trans h2'; simp only [ht, hts_det rr rr']
    | dic ds' => obtain ⟨a', vs', e, _, g', _⟩ := r'; cases e; obtain ⟨o', h1', h2'⟩ := und_dK g'; cases h1.symm.trans h1'; cases h2.symm.trans h2'
    | ins c fs => obtain ⟨a', C, dx, vs', e, _, _, g', _⟩ := r'; cases e; obtain ⟨o', h1', h2'⟩ := und_ins g'; cases h1.symm.trans h1'; cases h2.symm.trans h2'
    | exc c fs => obtain ⟨a', C, dd, vs', e, _, _, g', _⟩ := r'; cases e; obtain ⟨o', h1', h2'⟩ := und_exc g'; cases h1.symm.trans h1'; cases h2.symm.trans h2'
    | _ => cases (show V.ref a = _ from r')
  | .dic ds, d', v, ⟨a, vs, e, _, g, rr⟩, r' => by
    subst e
    obtain ⟨o, h1, h2⟩ := und_dK g
    cases d' with
    | lst ds' => obtain ⟨a', vs', e, _, g', rr'⟩ := r'; cases e; obtain ⟨o', h1', h2'⟩ := und_lst g'; cases h1.symm.trans h1'; cases h2.symm.trans h2'
    | tup ds' => obtain ⟨a', vs', ob, e, _, _, g', rr'⟩ := r'; cases e; obtain ⟨o', h1', h2'⟩ := und_tup g'; cases h1.symm.trans h1'; cases h2.symm.trans h2'
    | pr ds' => obtain ⟨a', vs', e, _, g', rr'⟩ := r'; cases e; obtain ⟨o', h1', h2'⟩ := und_pr g'; cases h1.symm.trans h1'; cases h2.symm.trans h2'
    | dic ds' => obtain ⟨a', vs', e, _, g', rr'⟩ := r'; cases e; obtain ⟨o', h1', h2'⟩ := und_dK g'; cases h1.symm.trans h1'; cases h2.symm.trans h2'; simp only [ht, htk_det rr rr']
    | ins c fs => obtain ⟨a', C, dx, vs', e, _, _, g', _⟩ := r'; cases e; obtain ⟨o', h1', h2'⟩ := und_ins g'; cases h1.symm.trans h1'; cases h2.symm.trans h2'
    | exc c fs => obtain ⟨a', C, dd, vs', e, _, _, g', _⟩ := r'; cases e; obtain ⟨o', h1', h2'⟩ := und_exc g'; cases h1.symm.trans h1'; cases h2.symm.trans h2'
    | _ => cases (show V.ref a = _ from r')
  | .ins c ds, d', v, ⟨a, C, dx, vs, e, _, _, g, rr⟩, r' => by
    subst e
    obtain ⟨o, h1, h2⟩ := und_ins g
    cases d' with
    | lst ds' => obtain ⟨a', vs', e, _, g', rr'⟩ := r'; cases e; obtain ⟨o', h1', h2'⟩ := und_lst g'; cases h1.symm.trans h1'; cases h2.symm.trans h2'
    | tup ds' => obtain ⟨a', vs', ob, e, _, _, g', rr'⟩ := r'; cases e; obtain ⟨o', h1', h2'⟩ := und_tup g'; cases h1.symm.trans h1'; cases h2.symm.trans h2'
    | pr ds' => obtain ⟨a', vs', e, _, g', rr'⟩ := r'; cases e; obtain ⟨o', h1', h2'⟩ := und_pr g'; cases h1.symm.trans h1'; cases h2.symm.trans h2'
    | dic ds' => obtain ⟨a', vs', e, _, g', rr'⟩ := r'; cases e; obtain ⟨o', h1', h2'⟩ := und_dK g'; cases h1.symm.trans h1'; cases h2.symm.trans h2'
    | ins c' fs => obtain ⟨a', C', dx', vs', e, _, _, g', rr'⟩ := r'; cases e; obtain ⟨o', h1', h2'⟩ := und_ins g'; cases h1.symm.trans h1'; cases h2.symm.trans h2'; simp only [ht, htf_det rr rr']
    | exc c fs => obtain ⟨a', C, dd, vs', e, _, _, g', _⟩ := r'; cases e; obtain ⟨o', h1', h2'⟩ := und_exc g'; cases h1.symm.trans h1'; cases h2.symm.trans h2'
    | _ => cases (show V.ref a = _ from r')
  | .exc c ds, d', v, ⟨a, C, dd, vs, e, _, _, g, w, wn, rr⟩, r' => by
    subst e
    obtain ⟨o, h1, h2⟩ := und_exc g
    cases d' with
    | lst ds' => obtain ⟨a', vs', e, _, g', rr'⟩ := r'; cases e; obtain ⟨o', h1', h2'⟩ := und_lst g'; cases h1.symm.trans h1'; cases h2.symm.trans h2'
    | tup ds' => obtain ⟨a', vs', ob, e, _, _, g', rr'⟩ := r'; cases e; obtain ⟨o', h1', h2'⟩ := und_tup g'; cases h1.symm.trans h1'; cases h2.symm.trans h2'
    | pr ds' => obtain ⟨a', vs', e, _, g', rr'⟩ := r'; cases e; obtain ⟨o', h1', h2'⟩ := und_pr g'; cases h1.symm.trans h1'; cases h2.symm.trans h2'
    | dic ds' => obtain ⟨a', vs', e, _, g', rr'⟩ := r'; cases e; obtain ⟨o', h1', h2'⟩ := und_dK g'; cases h1.symm.trans h1'; cases h2.symm.trans h2'
    | ins c' fs => obtain ⟨a', C', dx', vs', e, _, _, g', rr'⟩ := r'; cases e; obtain ⟨o', h1', h2'⟩ := und_ins g'; cases h1.symm.trans h1'; cases h2.symm.trans h2'
    | exc c' fs =>
      obtain ⟨a', C', dd', vs', e, _, _, g', w', wn', rr'⟩ := r'
      cases e
      obtain ⟨o', h1', h2'⟩ := und_exc g'
      cases h1.symm.trans h1'
      have q := h2.symm.trans h2'
      have q := exvP_dd (HO.ext.inj q)
      subst q
      have : vs = vs' := by
        cases dd with
        | none => rw [wn rfl, wn' rfl]
        | some d =>
          have h1 := rd_xd (w d rfl).2
          have h2 := rd_xd (w' d rfl).2
          cases h1.symm.trans h2
          rfl
      subst this
      simp only [ht, htf_det rr rr']
    | _ => cases (show V.ref a = _ from r')
theorem hts_det : ∀ {ds ds' : List D} {vs : List V}, Reps mg Z H ds vs → Reps mg Z' H ds' vs → hts ds = hts ds'
  | [], ds', vs, r, r' => by
    cases (show vs = [] from r)
    cases ds' with
    | nil => rfl
    | cons _ _ => obtain ⟨_, _, e, _⟩ := r'; cases e
  | d :: t, ds', vs, ⟨v, w, e, r1, r2⟩, r' => by
    subst e
    cases ds' with
    | nil => cases (show v :: w = [] from r')
    | cons d' t' =>
      obtain ⟨v', w', e, r1', r2'⟩ := r'
      cases e
      simp only [hts, ht_det r1 r1', hts_det r2 r2']
theorem htk_det : ∀ {ds ds' : List (Key × D)} {vs : List (Key × V)}, RepK mg Z H ds vs → RepK mg Z' H ds' vs → htk ds = htk ds'
  | [], ds', vs, r, r' => by
    cases (show vs = [] from r)
    cases ds' with
    | nil => rfl
    | cons p _ => obtain ⟨_, _⟩ := p; obtain ⟨_, _, e, _⟩ := r'; cases e
  | (k, d) :: t, ds', vs, ⟨v, w, e, r1, r2⟩, r' => by
    subst e
    cases ds' with
    | nil => cases (show (k, v) :: w = [] from r')
    | cons p t' =>
      obtain ⟨k', d'⟩ := p
      obtain ⟨v', w', e, r1', r2'⟩ := r'
      cases e
      simp only [htk, ht_det r1 r1', htk_det r2 r2']
theorem htf_det : ∀ {ds ds' : List (Str × D)} {vs : List (Str × V)}, RepF mg Z H ds vs → RepF mg Z' H ds' vs → htf ds = htf ds'
  | [], ds', vs, r, r' => by
    cases (show vs = [] from r)
    cases ds' with
    | nil => rfl
    | cons p _ => obtain ⟨_, _⟩ := p; obtain ⟨_, _, e, _⟩ := r'; cases e
  | (k, d) :: t, ds', vs, ⟨v, w, e, r1, r2⟩, r' => by
    subst e
    cases ds' with
    | nil => cases (show (k, v) :: w = [] from r')
    | cons p t' =>
      obtain ⟨k', d'⟩ := p
      obtain ⟨v', w', e, r1', r2'⟩ := r'
      cases e
      simp only [htf, ht_det r1 r1', htf_det r2 r2']
end
end
end Tw
end
section
set_option maxRecDepth 100000
set_option maxHeartbeats 4000000
namespace Tw
open PySem PySem.Spec PyProof.Rows L2
section
variable {mg : Str → Option Value} {Z Z0 : Addr → Prop} {H : Hp} {a0 : Addr} {vs0 : List V} {xs0 : List D}
mutual
theorem Rep.off (h0 : H a0 = some (.lst vs0)) (r0 : Reps mg Z0 H xs0 vs0) : ∀ {y : D} {v : V}, ht y ≤ hts xs0 → Rep mg Z H y v → Rep mg (fun b => Z b ∨ b = a0) H y v
  | .non, v, _, r => r
  | .bl _, v, _, r => r
  | .int _, v, _, r => r
  | .str _, v, _, r => r
  | .lst ds, v, hy, ⟨a, vs, e, z, g, rr⟩ => by
    simp only [ht] at hy
    refine ⟨a, vs, e, fun h => ?_, g, Reps.off h0 r0 (by omega) rr⟩
    rcases h with h | h
    · exact z h
    · subst h
      obtain ⟨o, h1, h2⟩ := und_lst g
      cases h1.symm.trans h0
      cases h2
      have := hts_det rr r0
      omega
  | .tup ds, v, hy, ⟨a, vs, ob, e, z, n, g, rr⟩ => by
    simp only [ht] at hy
    refine ⟨a, vs, ob, e, fun h => ?_, n, g, Reps.off h0 r0 (by omega) rr⟩
    rcases h with h | h
    · exact z h
    · subst h
      obtain ⟨o, h1, h2⟩ := und_tup g
      cases h1.symm.trans h0
      cases h2
  | .pr ds, v, hy, ⟨a, vs, e, z, g, rr⟩ => by
    simp only [ht] at hy
    refine ⟨a, vs, e, fun h => ?_, g, Reps.off h0 r0 (by omega) rr⟩
    rcases h with h | h
    · exact z h
    · subst h
      obtain ⟨o, h1, h2⟩ := und_pr g
      cases h1.symm.trans h0
      cases h2
  | .dic ds, v, hy, ⟨a, vs, e, z, g, rr⟩ => by
    simp only [ht] at hy
    refine ⟨a, vs, e, fun h => ?_, g, RepK.off h0 r0 (by omega) rr⟩
    rcases h with h | h
    · exact z h
    · subst h
      obtain ⟨o, h1, h2⟩ := und_dK g
      cases h1.symm.trans h0
      cases h2
  | .ins c ds, v, hy, ⟨a, C, dx, vs, e, z, m, g, rr⟩ => by
    simp only [ht] at hy
    refine ⟨a, C, dx, vs, e, fun h => ?_, m, g, RepF.off h0 r0 (by omega) rr⟩
    rcases h with h | h
    · exact z h
    · subst h
      obtain ⟨o, h1, h2⟩ := und_ins g
      cases h1.symm.trans h0
      cases h2
  | .exc c ds, v, hy, ⟨a, C, dd, vs, e, z, m, g, w, wn, rr⟩ => by
    simp only [ht] at hy
    refine ⟨a, C, dd, vs, e, fun h => ?_, m, g, fun d q => ⟨fun h => ?_, (w d q).2⟩, wn, RepF.off h0 r0 (by omega) rr⟩
    · rcases h with h | h
      · exact z h
      · subst h
        obtain ⟨o, h1, h2⟩ := und_exc g
        cases h1.symm.trans h0
        cases h2
    · rcases h with h | h
      · exact (w d q).1 h
      · subst h
        have h1 := rd_xd (w _ q).2
        cases h1.symm.trans h0
theorem Reps.off (h0 : H a0 = some (.lst vs0)) (r0 : Reps mg Z0 H xs0 vs0) : ∀ {ys : List D} {vs : List V}, hts ys ≤ hts xs0 → Reps mg Z H ys vs → Reps mg (fun b => Z b ∨ b = a0) H ys vs
  | [], vs, _, r => r
  | d :: t, vs, hy, ⟨v, w, e, r1, r2⟩ => by
    simp only [hts] at hy
    exact ⟨v, w, e, Rep.off h0 r0 (by omega) r1, Reps.off h0 r0 (by omega) r2⟩
theorem RepK.off (h0 : H a0 = some (.lst vs0)) (r0 : Reps mg Z0 H xs0 vs0) : ∀ {ys : List (Key × D)} {vs : List (Key × V)}, htk ys ≤ hts xs0 → RepK mg Z H ys vs → RepK mg (fun b => Z b ∨ b = a0) H ys vs
  | [], vs, _, r => r
  | (k, d) :: t, vs, hy, ⟨v, w, e, r1, r2⟩ => by
    simp only [htk] at hy
    exact ⟨v, w, e, Rep.off h0 r0 (by omega) r1, RepK.off h0 r0 (by omega) r2⟩
theorem RepF.off (h0 : H a0 = some (.lst vs0)) (r0 : Reps mg Z0 H xs0 vs0) : ∀ {ys : List (Str × D)} {vs : List (Str × V)}, htf ys ≤ hts xs0 → RepF mg Z H ys vs → RepF mg (fun b => Z b ∨ b = a0) H ys vs
  | [], vs, _, r => r
  | (k, d) :: t, vs, hy, ⟨v, w, e, r1, r2⟩ => by
    simp only [htf] at hy
    exact ⟨v, w, e, Rep.off h0 r0 (by omega) r1, RepF.off h0 r0 (by omega) r2⟩
end
end
end Tw
end
section
set_option maxRecDepth 100000
set_option maxHeartbeats 4000000
namespace Tw
open PySem PySem.Spec PyProof.Rows L2

def listA : A → Option (List D)
  | .l _ xs => some xs
  | _ => none
def dataA : A → Option D
  | .d x => some x
  | _ => none
def cal1P (i j : Nat) (F : F1) : EF := fun ρ => if i = j then none else (at_ ρ i).bind fun a => a.lend.bind fun l => (lstA (at_ ρ j)).bind fun y => (F l [.lst y.2]).bind fun z => if z.2.bor = true then
  (dataA z.1).bind fun d => (listA z.2).bind fun ws => if ht d ≤ hts y.2 ∧ hts ws ≤ hts y.2 then some (.d d, ρ.set i (some (z.2.mark a.bor))) else none else none
section
variable {mg : Str → Option Value} {σ : Sg} {H : Hp}
end
section
variable {X : Cx} {k' k : Nat} {ps : List Str} {x : Str} {p pos : Pos} {FF : F1}
end
end Tw
end
section
set_option maxRecDepth 100000
set_option maxHeartbeats 4000000
namespace Tw
open PySem PySem.Spec PyProof.Rows L2
section
variable {ρ : Ro}
@[simp] theorem listA_l (b : Bool) (xs : List D) : listA (.l b xs) = some xs := rfl
@[simp] theorem dataA_d (d : D) : dataA (.d d) = some d := rfl
@[simp ↓] theorem WP_cal1P {i j : Nat} {F : F1} {Q : A × Ro → Prop} : WP (cal1P i j F ρ) Q ↔ i ≠ j ∧ WP (at_ ρ i) fun a => WP a.lend fun l => WP (lstA (at_ ρ j)) fun y => WP (F l [.lst y.2]) fun z => z.2.bor = true ∧ WP (dataA z.1) fun d => WP (listA z.2) fun ws => (ht d ≤ hts y.2 ∧ hts ws ≤ hts y.2) ∧ Q (.d d, ρ.set i (some (z.2.mark a.bor))) := by
  have sw : ∀ {p : Prop} [Decidable p] {o : Option (A × Ro)}, WP (if p then o else none) Q ↔ p ∧ WP o Q := fun {p _ o} => by
    by_cases h : p <;> simp [h]
  unfold cal1P
  by_cases hij : i = j
  · simp [hij]
  · rw [if_neg hij]
    simp only [WP_bind, sw, WP_some, ne_eq, hij, not_false_iff, true_and]
@[simp ↓] theorem WP_callI {cn : Str} {f : EF} {os : List Opd} {F : F0} {Q : A × Ro → Prop} : WP (callI cn f os F ρ) Q ↔ WP (dv f ρ) fun x => WP (insD x.1) fun y => WP (if y.1 = cn then (evs os x.2).bind fun z => (onlyD z.1).bind fun ds => (F (x.1 :: ds)).map fun r => (r, z.2) else none) Q := by unfold callI; simp only [WP_bind]
@[simp ↓] theorem WP_plusI {cn : Str} {F : F0} {a b : D} {Q : A → Prop} : WP (plusI cn F a b) Q ↔ WP (insD a) fun x => WP (insD b) fun y => WP (if x.1 = cn ∧ y.1 = cn then F [a, b] else none) Q := by unfold plusI; simp only [WP_bind]
@[simp ↓] theorem WP_inG {neg : Bool} {a : D} {ys : List D} {Q : A → Prop} : WP (inG neg a (.lst ys)) Q ↔ hgts ys ≤ 90 ∧ WP (mapO (fun y => eqO y a) ys) fun bs => Q (.d (.bl (if neg = true then !bs.any id else bs.any id))) := by
  show WP (if hgts ys ≤ 90 then _ else none) Q ↔ _
  by_cases h : hgts ys ≤ 90 <;> simp [h]
end
end Tw
end
section
set_option maxRecDepth 100000
set_option maxHeartbeats 4000000
namespace Tw
open PySem PySem.Spec PyProof.Rows L2

/-- what stands at q is set aside -/
def Fx.pk (c : Fx) (q : List Addr) (G : Hp) : Fx := { c with Z0 := fun b => c.Z0 b ∨ b ∈ q, H0 := fun b => if b ∈ q then G b else c.H0 b }
/-- what a frame's constants keep to -/
structure Fx.ok (c : Fx) : Prop where
  z0 : ∀ b, c.Z0 b → c.H0 b ≠ none
  bz : ∀ i a, a ∈ c.bor i → c.Z0 a
section
variable {mg : Str → Option Value} {c c' : Fx} {σ σ' : Sg} {H H' G : Hp} {ρ ρ' : Ro} {ts : List D} {tv : List V} {r : Option A} {v u : V} {fp : Pl → List Addr} {q : List Addr} {x : A}
theorem Good.ok (g : Good mg c σ H ρ ts tv r v fp) : c.ok := ⟨g.z0, g.bz⟩
theorem SR.ok (g : SR mg c σ H ρ ts tv r v) : c.ok := let ⟨_, g⟩ := g; g.ok
theorem Fx.pk_nil : c.pk [] G = c := by
  unfold Fx.pk
  cases c
  simp
end
end Tw
end
section
set_option maxRecDepth 100000
set_option maxHeartbeats 4000000
namespace Tw
open PySem PySem.Spec PyProof.Rows L2

def leafD : D → Bool
  | .non => true
  | .bl _ => true
  | .int _ => true
  | .str _ => true
  | _ => false
def A.toT : A → A
  | .d x => if leafD x = true then .t false x else .d x
  | .l false xs => if xs.all leafD = true then .t false (.lst xs) else .l false xs
  | .k false [] => .t false (.dic [])
  | a => a
section
variable {mg : Str → Option Value} {c c' : Fx} {σ σ' : Sg} {Z : Addr → Prop} {H H' G : Hp} {ρ ρ' : Ro} {ts : List D} {tv : List V} {r : Option A} {v u : V} {fp : Pl → List Addr} {q : List Addr} {x : A}
theorem leaf_own {d : D} {v : V} {q : List Addr} (h : leafD d = true) (r : Rep mg Z H d v) (e : q = []) : OwnT H d v q := by
  cases d <;> first | cases h; done | exact ⟨r, e⟩
theorem leaf_owns : ∀ {xs : List D} {vs : List V}, xs.all leafD = true → Reps mg Z H xs vs → OwnTs H xs vs []
  | [], vs, _, r => ⟨r, rfl⟩
  | d :: t, vs, h, ⟨v, w, e, r, s⟩ => by
    simp only [List.all_cons, Bool.and_eq_true] at h
    exact ⟨v, w, [], [], e, rfl, leaf_own h.1 r rfl, leaf_owns h.2 s⟩
theorem Own.toT {x : A} (h : Own mg Z H x v q) : Own mg Z H x.toT v q := by
  cases x with
  | d y =>
    show Own mg Z H (if leafD y = true then _ else _) v q
    split
    · exact leaf_own ‹_› h.2 h.1
    · exact h
  | l b xs =>
    cases b with
    | true => exact h
    | false =>
      show Own mg Z H (if xs.all leafD = true then _ else _) v q
      split
      · obtain ⟨a, vs, e1, e2, e3, e4⟩ := h
        exact ⟨a, vs, [], e1, e2, e3, leaf_owns ‹_› e4⟩
      · exact h
  | k b kvs =>
    cases b with
    | true => exact h
    | false =>
      cases kvs with
      | nil =>
        obtain ⟨a, vs, e1, e2, e3, e4⟩ := h
        exact ⟨a, vs, [], e1, e2, e3, e4, rfl⟩
      | cons _ _ => exact h
  | i _ _ _ => exact h
  | t _ _ => exact h
  | p _ _ _ => exact h
  | ex _ _ _ => exact h
  | box _ _ _ => exact h
  | hole _ => exact h
theorem toT_bor {x : A} (h : x.bor = false) : x.toT.bor = false := by
  cases x with
  | d y => show (if leafD y = true then _ else _ : A).bor = false; split <;> rfl
  | l b xs => cases b with
    | true => cases h
    | false => show (if xs.all leafD = true then _ else _ : A).bor = false; split <;> rfl
  | k b kvs => cases b with
    | true => cases h
    | false => cases kvs <;> rfl
  | i _ _ _ => exact h
  | t _ _ => exact h
  | p _ _ _ => exact h
  | ex _ _ _ => exact h
  | box _ _ _ => exact h
  | hole _ => exact h
theorem Good.reown {x y : A} (g : Good mg c σ H ρ ts tv (some x) v fp) (h : ∀ {u q}, Own mg (Zof c fp) H x u q → Own mg (Zof c fp) H y u q) (hb : y.bor = false) : Good mg c σ H ρ ts tv (some y) v fp := by
  refine ⟨g.len, fun p z e => ?_, fun p e => ?_, g.nd, g.ap, g.new, g.tmp, g.keep, g.mor, g.z0, g.bz, g.bst, g.bvs, fun z e => by cases e; exact hb, g.bnb⟩
  · cases p with
    | none =>
      cases e
      obtain ⟨u, e1, o⟩ := g.ent none x rfl
      exact ⟨u, e1, h o⟩
    | some i => exact g.ent (some i) z e
  · cases p with
    | none => cases e
    | some i => exact g.off (some i) e
theorem SR.toT {x : A} (s : SR mg c σ H ρ ts tv (some x) v) : SR mg c σ H ρ ts tv (some x.toT) v := by
  obtain ⟨fp, g⟩ := s
  exact ⟨fp, g.reown Own.toT (toT_bor (g.rnb x rfl))⟩
def toT (f : EF) : EF := fun ρ => (f ρ).map fun x => (x.1.toT, x.2)
/-- the value as a tree of the frame's own -/
def trA : A → Option D
  | .t false d => some d
  | _ => none
def tvl (f : EF) : Ro → Option (D × Ro) := fun ρ => (f ρ).bind fun x => (trA x.1.toT).map fun d => (d, x.2)
theorem OwnTs.append : ∀ {x y : List D} {v w : List V} {p q : List Addr}, OwnTs H x v p → OwnTs H y w q → OwnTs H (x ++ y) (v ++ w) (p ++ q)
  | [], y, v, w, p, q, ⟨e1, e2⟩, s => by rw [e1, e2]; exact s
  | d :: t, y, v, w, p, q, ⟨a, b, p1, p2, e, f, r, s⟩, k => by
    rw [e, f]
    exact ⟨a, b ++ w, p1, p2 ++ q, rfl, by rw [List.append_assoc], r, OwnTs.append s k⟩
theorem OwnTk.append : ∀ {x y : List (Key × D)} {v w : List (Key × V)} {p q : List Addr}, OwnTk H x v p → OwnTk H y w q → OwnTk H (x ++ y) (v ++ w) (p ++ q)
  | [], y, v, w, p, q, ⟨e1, e2⟩, s => by rw [e1, e2]; exact s
  | (k, d) :: t, y, v, w, p, q, ⟨a, b, p1, p2, e, f, r, s⟩, z => by
    rw [e, f]
    exact ⟨a, b ++ w, p1, p2 ++ q, rfl, by rw [List.append_assoc], r, OwnTk.append s z⟩
theorem OwnTs.one {d : D} {v : V} (h : OwnT H d v q) : OwnTs H [d] [v] q := ⟨v, [], q, [], rfl, by rw [List.append_nil], h, rfl, rfl⟩
theorem OwnTk.one {k : Key} {d : D} {v : V} (h : OwnT H d v q) : OwnTk H [(k, d)] [(k, v)] q := ⟨v, [], q, [], rfl, by rw [List.append_nil], h, rfl, rfl⟩
theorem OwnTs.len : ∀ {x : List D} {v : List V} {q : List Addr}, OwnTs H x v q → x.length = v.length
  | [], v, q, ⟨e, _⟩ => by rw [e]; rfl
  | d :: t, v, q, ⟨a, b, p1, p2, e, f, r, s⟩ => by rw [e, List.length_cons, List.length_cons, OwnTs.len s]
theorem OwnTk.keys : ∀ {x : List (Key × D)} {v : List (Key × V)} {q : List Addr}, OwnTk H x v q → x.map (·.1) = v.map (·.1)
  | [], v, q, ⟨e, _⟩ => by rw [e]; rfl
  | (k, d) :: t, v, q, ⟨a, b, p1, p2, e, f, r, s⟩ => by rw [e, List.map_cons, List.map_cons, OwnTk.keys s]
end

def lcLT (g : GF) (t : TF) (f : EF) (own : List Nat) : List D → List D → Ro → Option (List D × Ro)
  | [], acc, ρ => some (acc, ρ)
  | d :: r, acc, ρ => (g d ρ).bind fun ρ1 => (t ρ1).bind fun x =>
    if x.1 then (tvl f x.2).bind fun y => (forget own y.2).bind fun ρ2 => if acc.length < 16777216 then lcLT g t f own r (acc ++ [y.1]) ρ2 else none
    else (forget own x.2).bind fun ρ2 => lcLT g t f own r acc ρ2
section
variable {mg : Str → Option Value} {c c' : Fx} {σ σ' : Sg} {H H' : Hp} {ρ ρ' : Ro} {ts : List D} {tv : List V} {r : Option A} {v : V} {fp : Pl → List Addr}
end
def lcT (w : WF) (g : GF) (t : TF) (f : EF) (own : List Nat) : EF := fun ρ => (w ρ).bind fun x => (forget own x.2).bind fun ρ1 => (lcLT g t f own x.1 [] ρ1).map fun y => (.t false (.lst y.1), y.2)
section
variable {X : Cx} {elt tg iter : Expr} {ifs : List Expr} {scope : Scope} {own : List (Str × Nat)} {pos : Pos} {w : WF} {js : List Nat} {g : GF} {t : TF} {f : EF}
end

def dcLT (g : GF) (t : TF) (fk fv : EF) (own : List Nat) : List D → List (Key × D) → Ro → Option (List (Key × D) × Ro)
  | [], acc, ρ => some (acc, ρ)
  | d :: r, acc, ρ => (g d ρ).bind fun ρ1 => (t ρ1).bind fun x =>
    if x.1 then (dv fk x.2).bind fun y => (toKey y.1).bind fun k => if leafD y.1 = true ∧ (acc.any fun kv => decide (kv.1 = k)) = false then (tvl fv y.2).bind fun z => (forget own z.2).bind fun ρ2 => if acc.length < 16777216 then dcLT g t fk fv own r (acc ++ [(k, z.1)]) ρ2 else none else none
    else (forget own x.2).bind fun ρ2 => dcLT g t fk fv own r acc ρ2
section
variable {mg : Str → Option Value} {c c' : Fx} {σ σ' : Sg} {H H' : Hp} {ρ ρ' : Ro} {ts : List D} {tv : List V} {r : Option A} {v : V} {fp : Pl → List Addr}
theorem any_keys {k : Key} : ∀ {x : List (Key × D)} {w : List (Key × V)}, x.map (·.1) = w.map (·.1) → (x.any fun kv => decide (kv.1 = k)) = (w.any fun kv => decide (kv.1 = k))
  | [], [], _ => rfl
  | [], _ :: _, h => by simp at h
  | _ :: _, [], h => by simp at h
  | (k1, d) :: t, (k2, v) :: w, h => by
    simp only [List.map_cons, List.cons.injEq] at h
    obtain ⟨h1, h2⟩ := h
    subst h1
    rw [List.any_cons, List.any_cons, any_keys h2]
end
def dcT (w : WF) (g : GF) (t : TF) (fk fv : EF) (own : List Nat) : EF := fun ρ => (w ρ).bind fun x => (forget own x.2).bind fun ρ1 => (dcLT g t fk fv own x.1 [] ρ1).map fun y => (.t false (.dic y.1), y.2)
def dcTD (i : Nat) (m : Md) (g : GF) (t : TF) (fk fv : EF) (own : List Nat) : EF := fun ρ => (dv (var i) ρ).bind fun x => match x.1 with
  | .dic kvs => (forget own x.2).bind fun ρ1 => (dcLT g t fk fv own (m kvs) [] ρ1).map fun y => (.t false (.dic y.1), y.2)
  | _ => none
section
variable {X : Cx} {kx vx tg iter : Expr} {ifs : List Expr} {scope : Scope} {own : List (Str × Nat)} {pos : Pos} {w : WF} {js : List Nat} {g : GF} {t : TF} {fk fv : EF}
end
end Tw
end
section
set_option maxRecDepth 100000
set_option maxHeartbeats 4000000
namespace Tw
open PySem PySem.Spec PyProof.Rows L2

section
variable {mg : Str → Option Value} {c c' : Fx} {σ σ' : Sg} {Z : Addr → Prop} {H H' G : Hp} {ρ ρ' : Ro} {ts : List D} {tv : List V} {r : Option A} {v u : V} {fp : Pl → List Addr} {q : List Addr}
def replD (kvs : List (Key × D)) (k : Key) (d : D) : List (Key × D) := kvs.map fun kv => if kv.1 = k then (kv.1, d) else kv
theorem repl_id {α : Type} {k : Key} {d : α} : ∀ {x : List (Key × α)}, k ∉ x.map (·.1) → (x.map fun kv => if kv.1 = k then (kv.1, d) else kv) = x
  | [], _ => rfl
  | (k', d') :: t, h => by
    simp only [List.map_cons, List.mem_cons, not_or] at h
    rw [List.map_cons, if_neg (fun e => h.1 e.symm), repl_id h.2]
theorem OwnTk.repl {k : Key} {d : D} {v : V} {p : List Addr} (hd : OwnT H d v p) (np : p.Nodup) : ∀ {x : List (Key × D)} {w : List (Key × V)} {q : List Addr}, (x.map (·.1)).Nodup → OwnTk H x w q → q.Nodup → (∀ a ∈ p, a ∉ q) →
    ∃ q', OwnTk H (x.map fun kv => if kv.1 = k then (kv.1, d) else kv) (w.map fun kv => if kv.1 = k then (kv.1, v) else kv) q' ∧ q'.Nodup ∧ ∀ a ∈ q', a ∈ q ∨ a ∈ p
  | [], w, q, _, ⟨e, f⟩, _, _ => by rw [e, f]; exact ⟨[], ⟨rfl, rfl⟩, List.nodup_nil, fun a h => by cases h⟩
  | (k', d') :: t, w, q, hk, ⟨y, w', p1, p2, e, f, r, s⟩, nq, dj => by
    subst e; subst f
    rw [List.map_cons, List.nodup_cons] at hk
    obtain ⟨n1, n2, n3⟩ := List.nodup_append.mp nq
    rw [List.map_cons, List.map_cons]
    by_cases h : k' = k
    · subst h
      have hw : k' ∉ w'.map (·.1) := by rw [← s.keys]; exact hk.1
      rw [if_pos rfl, if_pos rfl, repl_id hk.1, repl_id hw]
      refine ⟨p ++ p2, ⟨v, w', p, p2, rfl, rfl, hd, s⟩, List.nodup_append.mpr ⟨np, n2, fun a h1 b h2 e => dj a h1 (List.mem_append_right _ (e ▸ h2))⟩, fun a ha => ?_⟩
      rcases List.mem_append.mp ha with h | h
      · exact .inr h
      · exact .inl (List.mem_append_right _ h)
    · rw [if_neg h, if_neg h]
      obtain ⟨q2, o2, nd2, i2⟩ := OwnTk.repl hd np hk.2 s n2 fun a ha hm => dj a ha (List.mem_append_right _ hm)
      refine ⟨p1 ++ q2, ⟨y, _, p1, q2, rfl, rfl, r, o2⟩, List.nodup_append.mpr ⟨n1, nd2, fun a h1 b h2 e => ?_⟩, fun a ha => ?_⟩
      · subst e
        rcases i2 a h2 with h | h
        · exact n3 a h1 a h rfl
        · exact dj a h (List.mem_append_left _ h1)
      · rcases List.mem_append.mp ha with h | h
        · exact .inl (List.mem_append_left _ h)
        · rcases i2 a h with h | h
          · exact .inl (List.mem_append_right _ h)
          · exact .inr h
theorem OwnTk.put {k : Key} {d : D} {v : V} {p : List Addr} {x : List (Key × D)} {w : List (Key × V)} {q : List Addr} (h : OwnTk H x w q) (hk : (x.map (·.1)).Nodup) (nq : q.Nodup) (hd : OwnT H d v p) (np : p.Nodup) (dj : ∀ a ∈ p, a ∉ q) :
    ∃ q', OwnTk H (putD x k d) (putK w k v) q' ∧ q'.Nodup ∧ ∀ a ∈ q', a ∈ q ∨ a ∈ p := by
  unfold putD putK
  rw [any_keys h.keys]
  split
  · exact h.repl hd np hk nq dj
  · exact ⟨q ++ p, h.append (OwnTk.one hd), List.nodup_append.mpr ⟨nq, np, fun a h1 b h2 e => dj b h2 (e ▸ h1)⟩, fun a ha => List.mem_append.mp ha⟩
theorem OwnTk.del {k : Key} : ∀ {x : List (Key × D)} {w : List (Key × V)} {q : List Addr}, OwnTk H x w q → ∃ q', OwnTk H (delD x k) (dropK w k) q' ∧ q'.Sublist q
  | [], w, q, ⟨e, f⟩ => by rw [e, f]; exact ⟨[], ⟨rfl, rfl⟩, List.Sublist.refl _⟩
  | (k', d') :: t, w, q, ⟨y, w', p1, p2, e, f, r, s⟩ => by
    subst e; subst f
    obtain ⟨q2, o2, s2⟩ := OwnTk.del (k := k) s
    unfold delD dropK
    rw [List.filter_cons, List.filter_cons]
    by_cases h : k' = k
    · rw [if_neg (by simpa using h), if_neg (by simpa using h)]; exact ⟨q2, o2, s2.trans (List.sublist_append_right _ _)⟩
    · rw [if_pos (by simpa using h), if_pos (by simpa using h)]; exact ⟨p1 ++ q2, ⟨y, _, p1, q2, rfl, rfl, r, o2⟩, List.Sublist.append_left s2 p1⟩
theorem OwnTk.val {k : Key} {x : List (Key × D)} {w : List (Key × V)} {q : List Addr} (h : OwnTk H x w q) : (Tw.getD x k = none ∧ valV w k = none) ∨ ∃ d v, Tw.getD x k = some d ∧ valV w k = some v := by
  rcases (OwnTk.rep (mg := fun _ => none) (Z := fun _ => False) (fun _ _ h => h) h).get (k := k) with ⟨h1, h2⟩ | ⟨d, v, h1, h2, _⟩
  · exact .inl ⟨h1, h2⟩
  · exact .inr ⟨d, v, h1, h2⟩
end

inductive KO where
  | sl (j : Nat)
  | cs (k : Key)
def keyA : Option A → Option Key
  | some (.d d) => if leafD d = true then toKey d else none
  | _ => none
def keyO : KO → Ro → Option Key
  | .sl j, ρ => keyA (at_ ρ j)
  | .cs k, _ => some k
section
variable {X : Cx} {a b value : Expr} {o p : Opd} {f : EF} {pos : Pos} {ko : KO}
end

def treeA : Option A → Option (Bool × D)
  | some (.t b x) => some (b, x)
  | _ => none
def dlst : D → Option (List D)
  | .lst xs => some xs
  | _ => none
def stT (i : Nat) (ko : KO) (f : EF) : SF := fun ρ => (tvl f ρ).bind fun v => (treeA (at_ v.2 i)).bind fun x => (dicD x.2).bind fun kvs => (keyO ko v.2).bind fun k =>
  if kvs.length < 16777216 ∧ (kvs.map (·.1)).Nodup then some (.nx, v.2.set i (some (.t x.1 (.dic (putD kvs k v.1))))) else none
def apT (i : Nat) (f : EF) : EF := fun ρ => (treeA (at_ ρ i)).bind fun x0 => (dlst x0.2).bind fun _ => (tvl f ρ).bind fun v => (treeA (at_ v.2 i)).bind fun x => (dlst x.2).bind fun xs =>
  if xs.length < 16777216 then some (.d .non, v.2.set i (some (.t x.1 (.lst (xs ++ [v.1]))))) else none
def popT (i : Nat) (ko : KO) : SF := fun ρ => (treeA (at_ ρ i)).bind fun x => (dicD x.2).bind fun kvs => (keyO ko ρ).map fun k => (.nx, if (Tw.getD kvs k).isSome = true then ρ.set i (some (.t x.1 (.dic (delD kvs k)))) else ρ)
def outC : A × A → Option D
  | (.d .non, .t true d) => some d
  | _ => none
def calC (i : Nat) (ko : KO) (F : F1) : EF := fun ρ => (treeA (at_ ρ i)).bind fun x => (dicD x.2).bind fun kvs => (keyO ko ρ).bind fun k => (Tw.getD kvs k).bind fun d =>
  if (kvs.map (·.1)).Nodup then (F (.t true d) []).bind fun z => (outC z).map fun d' => (.d .non, ρ.set i (some (.t x.1 (.dic (replD kvs k d'))))) else none
section
variable {X : Cx} {a b value : Expr} {o p : Opd} {f : EF} {pos : Pos} {ko : KO}
end
end Tw
end
section
set_option maxRecDepth 100000
set_option maxHeartbeats 4000000
namespace Tw
open PySem PySem.Spec PyProof.Rows L2

def A.toPT : A → Option D
  | .t _ x => some x
  | a => a.toP
def peekP (ρ : Ro) (i : Nat) : Option D := (at_ ρ i).bind A.toPT
def resP (ρ : Ro) : Sum D Nat → Option D
  | .inl d => some d
  | .inr i => peekP ρ i
/-- an answer without data that stand elsewhere -/
def pureA : A → Bool
  | .d x => leafD x
  | .l false xs => xs.all leafD
  | .t false _ => true
  | _ => false
/-- what stands still, less the trees of the slots -/
def Zp (c : Fx) (fp : Pl → List Addr) (ρ : Ro) : Addr → Prop := fun b => Zof c fp b ∧ ∀ i bb x, at_ ρ i = some (.t bb x) → b ∉ fp (some i)
section
variable {mg : Str → Option Value} {c : Fx} {σ : Sg} {Z Z' : Addr → Prop} {H H' : Hp} {ρ ρ' : Ro} {ts : List D} {tv : List V} {r : Option A} {v u : V} {fp : Pl → List Addr} {q : List Addr}
theorem leaf_rep {d : D} {v : V} (h : leafD d = true) (r : Rep mg Z H d v) : Rep mg Z' H d v := by
  cases d <;> first | cases h; done | exact r
theorem leaf_reps : ∀ {xs : List D} {vs : List V}, xs.all leafD = true → Reps mg Z H xs vs → Reps mg Z' H xs vs
  | [], vs, _, r => r
  | d :: t, vs, h, ⟨v, w, e, r, s⟩ => by
    simp only [List.all_cons, Bool.and_eq_true] at h
    exact ⟨v, w, e, leaf_rep h.1 r, leaf_reps h.2 s⟩
theorem Own.pure {x : A} (hp : pureA x = true) (h : Own mg Z H x v q) : Own mg Z' H x v q := by
  cases x with
  | d y => exact ⟨h.1, leaf_rep hp h.2⟩
  | l b xs => cases b with
    | true => cases hp
    | false => obtain ⟨a, vs, e1, e2, e3, e4⟩ := h; exact ⟨a, vs, e1, e2, e3, leaf_reps hp e4⟩
  | k _ _ => cases hp
  | i _ _ _ => cases hp
  | p _ _ _ => cases hp
  | ex _ _ _ => cases hp
  | box _ _ _ => cases hp
  | hole _ => cases hp
  | t b y => exact h
theorem zp_sub : ∀ a u, ¬ Zof c fp a → Rd H a u → ¬ Zp c fp ρ a ∧ Rd H a u := fun a u z h => ⟨fun w => z w.1, h⟩
theorem RepT.mono (h : ∀ a u, ¬ Z a → Rd H a u → ¬ Z' a ∧ Rd H a u) {d : D} {v : V} (r : RepT mg Z H d v) : RepT mg Z' H d v := by
  cases d with
  | lst ds => obtain ⟨a, vs, e, g, r⟩ := r; exact ⟨a, vs, e, g, r.mono h⟩
  | dic ds => obtain ⟨a, vs, e, g, r⟩ := r; exact ⟨a, vs, e, g, r.mono h⟩
  | _ => exact Rep.mono h r
theorem Good.treeRep {i : Nat} {bb : Bool} {x : D} (g : Good mg c σ H ρ ts tv r v fp) (e : at_ ρ i = some (.t bb x)) (hu : atS σ i = some u) : Rep mg (Zp c fp ρ) H x u := by
  obtain ⟨u', e1, o⟩ := g.ent (some i) _ e
  have e2 : some u = some u' := hu.symm.trans e1
  cases e2
  exact OwnT.rep (fun a ha w => w.2 i bb x e ha) o
theorem Good.peekP {i : Nat} {d : D} (g : Good mg c σ H ρ ts tv r v fp) (h : peekP ρ i = some d) (hu : atS σ i = some u) : RepT mg (Zp c fp ρ) H d u := by
  obtain ⟨x, e1, e2⟩ := bind_some.mp (show (at_ ρ i).bind A.toPT = some d from h)
  cases x with
  | t b y => cases e2; exact (g.treeRep e1 hu).t
  | _ => exact (g.peek (show (at_ ρ i).bind A.toP = some d from by rw [e1]; exact e2) hu).mono zp_sub
theorem Good.resP {a : Sum D Nat} {d : D} (g : Good mg c σ H ρ ts tv r v fp) (h : RA mg (Zof c fp) σ H a u) (e : resP ρ a = some d) : RepT mg (Zp c fp ρ) H d u := by
  cases a with
  | inl x => cases e; exact (Rep.mono zp_sub h).t
  | inr i => exact g.peekP e h
end

def binP (o p : Opd) (op : D → D → Option A) : EF := fun ρ => (ev1 o ρ).bind fun x => (ev1 p x.2).bind fun y => (resP y.2 x.1).bind fun a => (resP y.2 y.1).bind fun b => (op a b).bind fun r => if pureA r = true then some (r, y.2) else none
def isiP (o : Opd) (T : String) : EF := fun ρ => (ev1 o ρ).bind fun x => (resP x.2 x.1).bind fun d => (tyD d).map fun t => (.d (.bl (subT t T)), x.2)
def ressP (ρ : Ro) : List (Sum D Nat) → Option (List D)
  | [] => some []
  | a :: r => (resP ρ a).bind fun x => (ressP ρ r).map fun y => x :: y
def appP (os : List Opd) (op : List D → Option A) : EF := fun ρ => (evs os ρ).bind fun x => (ressP x.2 x.1).bind fun ds => (op ds).bind fun r => if pureA r = true then some (r, x.2) else none
section
variable {mg : Str → Option Value} {σ : Sg} {H : Hp} {o p : Opd}
end
section
variable {X : Cx} {a b e : Expr} {es : List Expr} {o p : Opd} {os : List Opd} {pos p0 : Pos} {x : Str}
end

inductive PkO where
  | sl (i : Nat)
  | gt (i : Nat) (ko : KO)
  | ix (i : Nat) (ko : KO)
  | cs (x : D)
  | px (i : Nat) (k : Int)
def seqD : D → Option (List D)
  | .lst xs => some xs
  | .tup xs => some xs
  | _ => none
/-- part k of a list or tuple -/
def partD (x : D) (k : Int) : Option D := (seqD x).bind fun xs => (ixN xs.length k).bind fun n => xs[n]?
def datA : A → Option D
  | .d x => some x
  | .t _ x => some x
  | _ => none
def pkD : PkO → Ro → Option D
  | .sl i, ρ => (at_ ρ i).bind datA
  | .gt i ko, ρ => ((at_ ρ i).bind datA).bind fun x => (dicD x).bind fun kvs => (keyO ko ρ).map fun k => (Tw.getD kvs k).getD .non
  | .ix i ko, ρ => ((at_ ρ i).bind datA).bind fun x => (dicD x).bind fun kvs => (keyO ko ρ).bind fun k => Tw.getD kvs k
  | .cs x, _ => some x
  | .px i k, ρ => ((at_ ρ i).bind datA).bind fun x => partD x k
def cstV : D → Option V
  | .non => some .non
  | .bl b => some (.bl b)
  | .int i => some (.int i)
  | .str x => some (.str x)
  | _ => none
def pkDs : List PkO → Ro → Option (List D)
  | [], _ => some []
  | p :: r, ρ => (pkD p ρ).bind fun d => (pkDs r ρ).map fun ds => d :: ds
def allCs : List PkO → Bool
  | [] => true
  | .cs x :: r => (cstV x).isSome && allCs r
  | _ :: r => allCs r
def calP (ps : List PkO) (F : F0) : EF := fun ρ => if allCs ps = true then (pkDs ps ρ).bind fun ds => (F ds).bind fun r => if pureA r = true then some (r, ρ) else none else none
section
variable {mg : Str → Option Value} {c : Fx} {σ : Sg} {H H' : Hp} {ρ ρ' : Ro} {ts : List D} {tv : List V} {r : Option A} {v u : V} {fp : Pl → List Addr} {q : List Addr}
end
section
variable {X : Cx} {k k' : Nat} {ps : List Str} {x : Str} {p0 pos : Pos} {a e : Expr} {es : List Expr} {F : F0} {p : PkO} {pks : List PkO} {ko : KO}
end
end Tw
end
section
set_option maxRecDepth 100000
set_option maxHeartbeats 4000000
namespace Tw
open PySem PySem.Spec PyProof.Rows L2

@[simp] theorem toD_t' (x : D) : (A.t false x).toD = some x := rfl
@[simp] theorem bor_t (b : Bool) (x : D) : (A.t b x).bor = b := rfl
@[simp] theorem lend_t (b : Bool) (x : D) : (A.t b x).lend = some (.t true x) := rfl
@[simp] theorem mark_t (b c : Bool) (x : D) : (A.t b x).mark c = .t c x := rfl
@[simp] theorem toPT_t (b : Bool) (x : D) : (A.t b x).toPT = some x := rfl
@[simp] theorem toPT_d (x : D) : (A.d x).toPT = some x := rfl
@[simp] theorem toPT_l (b : Bool) (x : List D) : (A.l b x).toPT = some (.lst x) := rfl
@[simp] theorem toPT_k (b : Bool) (x : List (Key × D)) : (A.k b x).toPT = some (.dic x) := rfl
@[simp] theorem datA_t (b : Bool) (x : D) : datA (A.t b x) = some x := rfl
@[simp] theorem datA_d' (x : D) : datA (A.d x) = some x := rfl
@[simp] theorem toT_t (b : Bool) (x : D) : (A.t b x).toT = .t b x := rfl
@[simp] theorem toT_d (x : D) : (A.d x).toT = if leafD x = true then .t false x else .d x := rfl
@[simp] theorem toT_l (xs : List D) : (A.l false xs).toT = if xs.all leafD = true then .t false (.lst xs) else .l false xs := rfl
@[simp] theorem toT_k : (A.k false []).toT = .t false (.dic []) := rfl
@[simp] theorem trA_t (x : D) : trA (.t false x) = some x := rfl
@[simp] theorem treeA_t (b : Bool) (x : D) : treeA (some (.t b x)) = some (b, x) := rfl
@[simp] theorem dlst_lst (xs : List D) : dlst (.lst xs) = some xs := rfl
@[simp] theorem leaf_non : leafD .non = true := rfl
@[simp] theorem leaf_bl (b : Bool) : leafD (.bl b) = true := rfl
@[simp] theorem leaf_int (b : Int) : leafD (.int b) = true := rfl
@[simp] theorem leaf_str (b : Str) : leafD (.str b) = true := rfl
@[simp] theorem leaf_lst (b : List D) : leafD (.lst b) = false := rfl
@[simp] theorem leaf_dic (b : List (Key × D)) : leafD (.dic b) = false := rfl
@[simp] theorem pure_t (x : D) : pureA (.t false x) = true := rfl
@[simp] theorem pure_d (x : D) : pureA (.d x) = leafD x := rfl
@[simp] theorem pure_l (xs : List D) : pureA (.l false xs) = xs.all leafD := rfl
@[simp] theorem keyO_cs (k : Key) (ρ : Ro) : keyO (.cs k) ρ = some k := rfl
@[simp] theorem keyO_sl (j : Nat) (ρ : Ro) : keyO (.sl j) ρ = keyA (at_ ρ j) := rfl
@[simp] theorem keyA_str (x : Str) : keyA (some (.d (.str x))) = some (.inr x) := rfl
@[simp] theorem outC_t (x : D) : outC (.d .non, .t true x) = some x := rfl
@[simp] theorem allCs_nil : allCs [] = true := rfl
@[simp] theorem allCs_sl (i : Nat) (r : List PkO) : allCs (.sl i :: r) = allCs r := rfl
@[simp] theorem allCs_gt (i : Nat) (ko : KO) (r : List PkO) : allCs (.gt i ko :: r) = allCs r := rfl
@[simp] theorem allCs_ix (i : Nat) (ko : KO) (r : List PkO) : allCs (.ix i ko :: r) = allCs r := rfl
section
variable {ρ : Ro}
@[simp ↓] theorem WP_tvl {f : EF} {Q : D × Ro → Prop} : WP (tvl f ρ) Q ↔ WP (f ρ) fun x => WP (trA x.1.toT) fun d => Q (d, x.2) := by unfold tvl; simp only [WP_bind, WP_map]
@[simp ↓] theorem WP_toT {f : EF} {Q : A × Ro → Prop} : WP (toT f ρ) Q ↔ WP (f ρ) fun x => Q (x.1.toT, x.2) := by unfold toT; simp only [WP_map]
@[simp ↓] theorem WP_stT {i : Nat} {ko : KO} {f : EF} {Q : Out × Ro → Prop} : WP (stT i ko f ρ) Q ↔ WP (tvl f ρ) fun v => WP (treeA (at_ v.2 i)) fun x => WP (dicD x.2) fun kvs => WP (keyO ko v.2) fun k =>
    (kvs.length < 16777216 ∧ (kvs.map (·.1)).Nodup) ∧ Q (.nx, v.2.set i (some (.t x.1 (.dic (putD kvs k v.1))))) := by
  unfold stT
  simp only [WP_bind, WP_ite, WP_some, WP_none, imp_false, Classical.not_not]
  exact ⟨fun h => h.mono fun _ h => h.mono fun _ h => h.mono fun _ h => h.mono fun _ h => ⟨h.2, h.1 h.2⟩, fun h => h.mono fun _ h => h.mono fun _ h => h.mono fun _ h => h.mono fun _ h => ⟨fun _ => h.2, h.1⟩⟩
@[simp ↓] theorem WP_apT {i : Nat} {f : EF} {Q : A × Ro → Prop} : WP (apT i f ρ) Q ↔ WP (treeA (at_ ρ i)) fun x0 => WP (dlst x0.2) fun _ => WP (tvl f ρ) fun v => WP (treeA (at_ v.2 i)) fun x => WP (dlst x.2) fun xs =>
    xs.length < 16777216 ∧ Q (.d .non, v.2.set i (some (.t x.1 (.lst (xs ++ [v.1]))))) := by
  unfold apT
  simp only [WP_bind, WP_ite, WP_some, WP_none, imp_false, Classical.not_not]
  exact ⟨fun h => h.mono fun _ h => h.mono fun _ h => h.mono fun _ h => h.mono fun _ h => h.mono fun _ h => ⟨h.2, h.1 h.2⟩, fun h => h.mono fun _ h => h.mono fun _ h => h.mono fun _ h => h.mono fun _ h => h.mono fun _ h => ⟨fun _ => h.2, h.1⟩⟩
@[simp ↓] theorem WP_popT {i : Nat} {ko : KO} {Q : Out × Ro → Prop} : WP (popT i ko ρ) Q ↔ WP (treeA (at_ ρ i)) fun x => WP (dicD x.2) fun kvs => WP (keyO ko ρ) fun k => Q (.nx, if (Tw.getD kvs k).isSome = true then ρ.set i (some (.t x.1 (.dic (delD kvs k)))) else ρ) := by
  unfold popT
  simp only [WP_bind, WP_map]
@[simp ↓] theorem WP_calC {i : Nat} {ko : KO} {F : F1} {Q : A × Ro → Prop} : WP (calC i ko F ρ) Q ↔ WP (treeA (at_ ρ i)) fun x => WP (dicD x.2) fun kvs => WP (keyO ko ρ) fun k => WP (Tw.getD kvs k) fun d => (kvs.map (·.1)).Nodup ∧ WP (F (.t true d) []) fun z => WP (outC z) fun d' =>
    Q (.d .non, ρ.set i (some (.t x.1 (.dic (replD kvs k d'))))) := by
  unfold calC
  simp only [WP_bind, WP_map, WP_ite, WP_none, imp_false, Classical.not_not]
  exact ⟨fun h => h.mono fun _ h => h.mono fun _ h => h.mono fun _ h => h.mono fun _ h => ⟨h.2, h.1 h.2⟩, fun h => h.mono fun _ h => h.mono fun _ h => h.mono fun _ h => h.mono fun _ h => ⟨fun _ => h.2, h.1⟩⟩
@[simp] theorem resP_inl (d : D) : resP ρ (.inl d) = some d := rfl
@[simp ↓] theorem WP_resP_inl {d : D} {Q : D → Prop} : WP (resP ρ (.inl d)) Q ↔ Q d := by simp only [resP_inl, WP_some]
@[simp ↓] theorem WP_resP_inr {i : Nat} {Q : D → Prop} : WP (resP ρ (.inr i)) Q ↔ WP (at_ ρ i) fun x => WP x.toPT Q := by
  show WP ((at_ ρ i).bind A.toPT) Q ↔ _
  simp only [WP_bind]
theorem pite {α : Type} {r : α} {p : Prop} [Decidable p] {Q : α → Prop} : WP (if p then some r else none) Q ↔ p ∧ Q r := by
  by_cases h : p
  · simp [h]
  · simp [h]
@[simp ↓] theorem WP_binP {o p : Opd} {op : D → D → Option A} {Q : A × Ro → Prop} : WP (binP o p op ρ) Q ↔ WP (ev1 o ρ) fun x => WP (ev1 p x.2) fun y => WP (resP y.2 x.1) fun a => WP (resP y.2 y.1) fun b => WP (op a b) fun r => pureA r = true ∧ Q (r, y.2) := by
  unfold binP
  simp only [WP_bind, pite]
@[simp ↓] theorem WP_isiP {o : Opd} {T : String} {Q : A × Ro → Prop} : WP (isiP o T ρ) Q ↔ WP (ev1 o ρ) fun x => WP (resP x.2 x.1) fun d => WP (tyD d) fun t => Q (.d (.bl (subT t T)), x.2) := by unfold isiP; simp only [WP_bind, WP_map]
@[simp ↓] theorem WP_ressP_nil {Q : List D → Prop} : WP (ressP ρ []) Q ↔ Q [] := WP_some
@[simp ↓] theorem WP_ressP_cons {a : Sum D Nat} {r : List (Sum D Nat)} {Q : List D → Prop} : WP (ressP ρ (a :: r)) Q ↔ WP (resP ρ a) fun x => WP (ressP ρ r) fun y => Q (x :: y) := by
  show WP ((resP ρ a).bind _) Q ↔ _
  simp only [WP_bind, WP_map]
@[simp ↓] theorem WP_appP {os : List Opd} {op : List D → Option A} {Q : A × Ro → Prop} : WP (appP os op ρ) Q ↔ WP (evs os ρ) fun x => WP (ressP x.2 x.1) fun ds => WP (op ds) fun r => pureA r = true ∧ Q (r, x.2) := by
  unfold appP
  simp only [WP_bind, pite]
@[simp ↓] theorem WP_pk_sl {i : Nat} {Q : D → Prop} : WP (pkD (.sl i) ρ) Q ↔ WP (at_ ρ i) fun x => WP (datA x) Q := by
  show WP ((at_ ρ i).bind datA) Q ↔ _
  simp only [WP_bind]
@[simp ↓] theorem WP_pk_gt {i : Nat} {ko : KO} {Q : D → Prop} : WP (pkD (.gt i ko) ρ) Q ↔ WP (at_ ρ i) fun x => WP (datA x) fun d => WP (dicD d) fun kvs => WP (keyO ko ρ) fun k => Q ((Tw.getD kvs k).getD .non) := by
  show WP (((at_ ρ i).bind datA).bind _) Q ↔ _
  simp only [WP_bind, WP_map]
@[simp ↓] theorem WP_pk_ix {i : Nat} {ko : KO} {Q : D → Prop} : WP (pkD (.ix i ko) ρ) Q ↔ WP (at_ ρ i) fun x => WP (datA x) fun d => WP (dicD d) fun kvs => WP (keyO ko ρ) fun k => WP (Tw.getD kvs k) Q := by
  show WP (((at_ ρ i).bind datA).bind _) Q ↔ _
  simp only [WP_bind, WP_map]
@[simp ↓] theorem WP_pkDs_nil {Q : List D → Prop} : WP (pkDs [] ρ) Q ↔ Q [] := WP_some
@[simp ↓] theorem WP_pkDs_cons {p : PkO} {r : List PkO} {Q : List D → Prop} : WP (pkDs (p :: r) ρ) Q ↔ WP (pkD p ρ) fun d => WP (pkDs r ρ) fun ds => Q (d :: ds) := by
  show WP ((pkD p ρ).bind _) Q ↔ _
  simp only [WP_bind, WP_map]
@[simp ↓] theorem WP_calP {ps : List PkO} {F : F0} {Q : A × Ro → Prop} : WP (calP ps F ρ) Q ↔ allCs ps = true ∧ WP (pkDs ps ρ) fun ds => WP (F ds) fun r => pureA r = true ∧ Q (r, ρ) := by
  unfold calP
  by_cases h : allCs ps = true
  · simp only [h, if_true, WP_bind, pite, true_and]
  · simp [h]
@[simp ↓] theorem WP_lcT {w : WF} {g : GF} {t : TF} {f : EF} {own : List Nat} {Q : A × Ro → Prop} : WP (lcT w g t f own ρ) Q ↔ WP (w ρ) fun x => WP (forget own x.2) fun ρ1 => WP (lcLT g t f own x.1 [] ρ1) fun y => Q (.t false (.lst y.1), y.2) := by unfold lcT; simp only [WP_bind, WP_map]
@[simp ↓] theorem WP_dcT {w : WF} {g : GF} {t : TF} {fk fv : EF} {own : List Nat} {Q : A × Ro → Prop} : WP (dcT w g t fk fv own ρ) Q ↔ WP (w ρ) fun x => WP (forget own x.2) fun ρ1 => WP (dcLT g t fk fv own x.1 [] ρ1) fun y => Q (.t false (.dic y.1), y.2) := by unfold dcT; simp only [WP_bind, WP_map]
@[simp ↓] theorem WP_dcTD {i : Nat} {m : Md} {g : GF} {t : TF} {fk fv : EF} {own : List Nat} {Q : A × Ro → Prop} : WP (dcTD i m g t fk fv own ρ) Q ↔ WP (dv (var i) ρ) fun x => WP (dicD x.1) fun kvs => WP (forget own x.2) fun ρ1 => WP (dcLT g t fk fv own (m kvs) [] ρ1) fun y => Q (.t false (.dic y.1), y.2) := by
  unfold dcTD
  simp only [WP_bind]
  refine iff_of_eq (congrArg _ (funext fun x => ?_))
  obtain ⟨d, ρ'⟩ := x
  cases d <;> simp [dicD]
end
end Tw
end
section
set_option maxRecDepth 100000
set_option maxHeartbeats 4000000
namespace Tw
open PySem PySem.Spec PyProof.Rows L2
end Tw
end
section
set_option maxRecDepth 100000
set_option maxHeartbeats 4000000
namespace Tw
open PySem PySem.Spec PyProof.Rows L2

end Tw
end
section
set_option maxRecDepth 100000
set_option maxHeartbeats 4000000
namespace Tw
open PySem PySem.Spec PyProof.Rows L2

end Tw
end
section
set_option maxRecDepth 100000
set_option maxHeartbeats 4000000
namespace Tw
open PySem PySem.Spec PyProof.Rows L2

@[simp] theorem insD_effD (k : Str) (a : D) (ms : List (Str × D)) : insD (effD k a ms) = some (("Effect" : Str), [(("kind" : Str), .str k), ("atom", a), ("members", .tup (ms.map pairE))]) := rfl
@[simp] theorem toD_effD (k : Str) (a : D) (ms : List (Str × D)) : (A.d (effD k a ms)).toD = some (effD k a ms) := rfl
/-- the members, while an effect happens to them: pre is done -/
structure AInv (ks : List Str) (n : Nat) (f0 : Str → T) (m : Str → E) (pre : List Str) (ms : List (Str × D)) : Prop where
  nd : ND ms
  hk : ∀ p ∈ ms, p.1 ∈ ks
  hm : ∀ p ∈ ms, DocK ks n p.2
  hv : ∀ k, denO (lkE ms k) = if k ∈ pre then act (m k) (f0 k) else f0 k
section
variable {ks : List Str} {n : Nat} {f0 : Str → T} {m : Str → E} {ms : List (Str × D)} {pre : List Str}
theorem AInv.start (nd : ND ms) (hk : ∀ p ∈ ms, p.1 ∈ ks) (hm : ∀ p ∈ ms, DocK ks n p.2) (h : ∀ k, denO (lkE ms k) = f0 k) : AInv ks n f0 m [] ms := ⟨nd, hk, hm, fun k => by simp [h]⟩
theorem AInv.del (h : AInv ks n f0 m pre ms) {k0 : Str} (hd : m k0 = .drop) : AInv ks n f0 m (pre ++ [k0]) (delE ms k0) := by
  refine ⟨del_nd h.nd, fun q hq => h.hk q (del_mem hq), fun q hq => h.hm q (del_mem hq), fun k => ?_⟩
  rw [del_lk]
  by_cases hk : k = k0
  · subst hk
    rw [if_pos rfl, if_pos (by simp), hd]
    rfl
  · rw [if_neg hk, h.hv k]
    simp [hk]
theorem AInv.skip (h : AInv ks n f0 m pre ms) {k0 : Str} (hd : m k0 = .drop) (hm : lkE ms k0 = none) : AInv ks n f0 m (pre ++ [k0]) ms := by
  refine ⟨h.nd, h.hk, h.hm, fun k => ?_⟩
  by_cases hk : k = k0
  · subst hk
    rw [if_pos (by simp), hd, hm]
    rfl
  · rw [h.hv k]
    simp [hk]
theorem AInv.put (h : AInv ks n f0 m pre ms) {k0 : Str} (hpre : k0 ∉ pre) (hkp : k0 ∈ ks) {v : D} (hv : DocK ks n v) (e : den v = act (m k0) (f0 k0)) : AInv ks n f0 m (pre ++ [k0]) (setE ms k0 v) := by
  refine ⟨set_nd h.nd, fun q hq => (set_mem hq).elim (h.hk q) fun e => by rw [e]; exact hkp, fun q hq => (set_mem hq).elim (h.hm q) fun e => by rw [e]; exact hv, fun k => ?_⟩
  rw [set_lk]
  by_cases hk : k = k0
  · subst hk
    rw [if_pos rfl, if_pos (by simp)]
    exact e
  · rw [if_neg hk, h.hv k]
    simp [hk]
theorem AInv.get (h : AInv ks n f0 m pre ms) (k : Str) : DocK ks n ((lkE ms k).getD .non) := by
  cases e : lkE ms k with
  | none => exact .atom rfl
  | some d => exact h.hm _ (lkE_mem e)
end
/-- a missing member is acted on as None -/
theorem act_non {e : E} (h1 : e ≠ .keep) (h2 : e ≠ .drop) : act e (.atom .non) = act e .miss := by
  cases e with
  | keep => exact absurd rfl h1
  | drop => exact absurd rfl h2
  | _ => rfl
theorem AInv.at {ks : List Str} {n : Nat} {f0 : Str → T} {m : Str → E} {ms : List (Str × D)} {pre : List Str} (h : AInv ks n f0 m pre ms) {k : Str} (hpre : k ∉ pre) (h1 : m k ≠ .keep) (h2 : m k ≠ .drop) : act (m k) (den ((lkE ms k).getD .non)) = act (m k) (f0 k) := by
  have := h.hv k
  rw [if_neg hpre] at this
  rw [← this]
  cases e : lkE ms k with
  | none => exact act_non h1 h2
  | some d => rfl
def knd (d : D) : Str := match d with | .ins _ ((_, .str k) :: _) => k | _ => ""
theorem AInv.fin {ks : List Str} {n : Nat} {f0 : Str → T} {m : Str → E} {ms ems : List (Str × D)} (h : AInv ks n f0 m (ems.map (·.1)) ms) (hr : ∀ k, k ∉ ems.map (·.1) → act (m k) (f0 k) = f0 k) : den (.dic (dctE ms)) = .obj fun k => act (m k) (f0 k) := by
  rw [den_dct]
  congr 1
  funext k
  rw [h.hv k]
  split
  · rfl
  · exact (hr k ‹_›).symm
theorem effs_ne_drop (ps : List T) (h : ∀ p ∈ ps, p ≠ .miss) : effs ps ≠ .drop := by
  have key : ∀ (ps : List T) (e : E), e ≠ .drop → (∀ p ∈ ps, p ≠ .miss) → ps.foldl (fun e p => jn e (effR p)) e ≠ .drop := by
    intro ps
    induction ps with
    | nil => intro e he _; exact he
    | cons p r ih =>
      intro e he hp
      refine ih _ ?_ fun q hq => hp q (List.mem_cons_of_mem _ hq)
      have := hp p List.mem_cons_self
      cases p with
      | miss => exact absurd rfl this
      | atom a => cases e <;> simp [effR, jn]
      | obj m => cases e <;> simp [effR, jn]
  exact key ps .keep (by simp) h
end Tw
end
section
set_option maxRecDepth 100000
set_option maxHeartbeats 4000000
namespace Tw
open PySem PySem.Spec PyProof.Rows L2
section
variable {mg : Str → Option Value} {c c' : Fx} {σ σ' : Sg} {H H' G : Hp} {ρ ρ' : Ro} {ts : List D} {tv : List V} {r : Option A} {v u : V} {fp : Pl → List Addr} {q : List Addr} {x : A}
end
/-- x, y = [], e -/
def parL (i j : Nat) (f : EF) : SF := fun ρ => (f ρ).bind fun x => if okOld x.2 i = true then (if okOld (x.2.set j (some x.1)) i = true ∧ okOld x.2 j = true then some (.nx, (x.2.set j (some x.1)).set i (some (.l false []))) else none) else none
section
variable {X : Cx} {b : Expr} {f : EF} {pos : Pos}
end
section
variable {ρ : Ro}
@[simp ↓] theorem WP_parL {i j : Nat} {f : EF} {Q : Out × Ro → Prop} : WP (parL i j f ρ) Q ↔ WP (f ρ) fun x => okOld x.2 i = true ∧ (okOld (x.2.set j (some x.1)) i = true ∧ okOld x.2 j = true) ∧ Q (.nx, (x.2.set j (some x.1)).set i (some (.l false []))) := by
  unfold parL
  simp only [WP_bind]
  refine iff_of_eq (congrArg _ (funext fun x => propext ?_))
  simp only [WP_ite, WP_some, WP_none, imp_false, Classical.not_not]
  constructor
  · rintro ⟨h1, h2⟩
    exact ⟨h2, (h1 h2).2, (h1 h2).1 (h1 h2).2⟩
  · rintro ⟨h1, h2, h3⟩
    exact ⟨fun _ => ⟨fun _ => h3, h2⟩, h1⟩
end
end Tw
end
section
set_option maxRecDepth 100000
set_option maxHeartbeats 4000000
namespace HT
open PySem PySem.Spec PyProof.Rows
section
variable {prog : Program} {w : World} {A : Around} {E : Value → Shared → Prop} {s : Shared}
end
end HT
namespace L2
open PySem PySem.Spec PyProof.Rows
section
variable {X : Cx}
end
end L2
namespace Tw
open PySem PySem.Spec PyProof.Rows L2
/-- t[::-1] of a tuple -/
def revT (o : Opd) : EF := fun ρ => (ev1 o ρ).bind fun x => (res x.2 x.1).bind fun d => (tupDO d).map fun xs => (.d (.tup xs.reverse), x.2)
section
variable {X : Cx} {a : Expr} {o : Opd} {pos : Pos}
end
@[simp ↓] theorem WP_revT {ρ : Ro} {o : Opd} {Q : A × Ro → Prop} : WP (revT o ρ) Q ↔ WP (ev1 o ρ) fun x => WP (res x.2 x.1) fun d => WP (tupDO d) fun xs => Q (.d (.tup xs.reverse), x.2) := by
  unfold revT
  simp only [WP_bind, WP_map]
end Tw
end
section
set_option maxRecDepth 100000
set_option maxHeartbeats 4000000
namespace PySem
open Sem (wp)
open AutoSeq1 (wpAny_loadPart')
section
variable {prog : Program} {w : World} {A : Around} {E : Value → Shared → Prop} {s : Shared}
theorem nextOf_tuple_item {it l : Addr} {i : Nat} {items} {x : Value} {Q : Value → Shared → Prop} (hit : s.heap.IsTupleIter it l i)
    (hl : s.heap.IsTuple l items) (hx : items[i]? = some x)
    (hQ : ∀ h', h'.IsTupleIter it l (i + 1) → Heap.SameBut it s.heap h' → Q x { s with heap := h' }) :
    wpAny (model prog w) A (Builtin.SmallTypes.nextOf (.ref it)) Q E s := by
  obtain ⟨o, ho, hc, hd⟩ := id hit
  obtain ⟨ol, hol, _, nl, hdl⟩ := hl
  unfold Builtin.SmallTypes.nextOf
  refine wpAny_bind (wpAny_callSpecial?_slot (name := Str.ofString "__next__") hit.typeIs F.slot_tuple_iterator_next
    (wpAny_call_entry F.slot_tuple_iterator_next hit.typeIs F.entry_tuple_iterator_next ?_ (F.args_tuple_iterator_next_1 _)))
  show wpAny _ _ (field (.ref it) 0 >>= _) _ _ s
  refine wpAny_bind (wpAny_field ho hd (x := .ref l) rfl ?_)
  show wpAny _ _ (if (Value.ref l == Value.none) = true then _ else _) _ _ s
  rw [if_neg (show ¬ ((Value.ref l == Value.none) = true) from Bool.false_ne_true)]
  show wpAny _ _ (field (.ref it) 1 >>= _) _ _ s
  refine wpAny_bind (wpAny_field ho hd (x := .int i 0) rfl ?_)
  show wpAny _ _ (seqItems? (.ref l) >>= _) _ _ s
  refine wpAny_bind (wpAny_seqItems hol hdl ?_)
  simp only [Int.toNat_natCast, hx]
  refine wpAny_bind (wpAny_setField ho hd (by simp) (wpAny_pure ⟨x, rfl, wpAny_pure (hQ _ ?_ (Heap.SameBut.update ..))⟩))
  exact ⟨_, Heap.get?_update_self _ ho (Obj.isFreed_of_fields (Obj.data_mapFields hd _)), (Obj.cls_mapFields ..).trans hc, by
    rw [Obj.data_mapFields hd]; simp [rawInt]⟩
theorem nextOf_tuple_end {it l : Addr} {i : Nat} {items} {Q : Value → Shared → Prop} (hh : A.handled = none)
    (hit : s.heap.IsTupleIter it l i) (hl : s.heap.IsTuple l items) (hx : items[i]? = none)
    (hE : ∀ h' e, Heap.ExtBut it s.heap h' → (∃ o, h'.get? e = some o ∧ o.cls = .type "StopIteration") → E (.ref e) { s with heap := h' }) :
    wpAny (model prog w) A (Builtin.SmallTypes.nextOf (.ref it)) Q E s := by
  obtain ⟨o, ho, hc, hd⟩ := id hit
  obtain ⟨ol, hol, _, nl, hdl⟩ := hl
  unfold Builtin.SmallTypes.nextOf
  refine wpAny_bind (wpAny_callSpecial?_slot (name := Str.ofString "__next__") hit.typeIs F.slot_tuple_iterator_next
    (wpAny_call_entry F.slot_tuple_iterator_next hit.typeIs F.entry_tuple_iterator_next ?_ (F.args_tuple_iterator_next_1 _)))
  show wpAny _ _ (field (.ref it) 0 >>= _) _ _ s
  refine wpAny_bind (wpAny_field ho hd (x := .ref l) rfl ?_)
  show wpAny _ _ (if (Value.ref l == Value.none) = true then _ else _) _ _ s
  rw [if_neg (show ¬ ((Value.ref l == Value.none) = true) from Bool.false_ne_true)]
  show wpAny _ _ (field (.ref it) 1 >>= _) _ _ s
  refine wpAny_bind (wpAny_field ho hd (x := .int i 0) rfl ?_)
  show wpAny _ _ (seqItems? (.ref l) >>= _) _ _ s
  refine wpAny_bind (wpAny_seqItems hol hdl ?_)
  simp only [Int.toNat_natCast, hx]
  refine wpAny_bind (wpAny_rule (wpAny_bind (wpAny_setField ho hd (by simp) ?_)))
  show wpAny _ _ (newExc (.type "StopIteration") [] >>= _) _ _ _
  refine wpAny_bind ?_
  simp only [newExc, newTuple]
  refine wpAny_bind (wpAny_newObj_type ?_ (by size_fits))
  refine wpAny_bind (m := firstArgMember _ _) (wpAny_of_eq (a := Value.none) (by first | rfl | (simp only [firstArgMember]; rfl)) ?_)
  refine wpAny_newObj_type ?_ (by size_fits)
  refine wpAny_bind (wpAny_handled ?_)
  first | rw [show A.in1.handled = none from hh] | rw [hh]
  refine wpAny_bind (wpAny_pure (wpAny_throw ?_))
  exact hE _ _ (((Heap.SameBut.update ..).extBut.push _).push _) ⟨_, Heap.get?_push_size _ rfl, rfl⟩
end
theorem Draws.tuple {prog : Program} {w : World} {A : Around} (hh : A.handled = none) (it l : Addr) (hne : l ≠ it) (items : Array Value) :
    Draws prog w A it [it, l] items.size (fun i v => items[i]? = some v) (fun i h => h.IsTupleIter it l i ∧ h.IsTuple l items) where
  live := fun _ _ st => let ⟨o, ho, _⟩ := st.1; ⟨o, ho⟩
  frame := fun _ _ _ st hk => ⟨st.1.at fun o e => hk it (by simp) o e, st.2.at fun o e => hk l (by simp) o e⟩
  item := fun i s Q E hi st hQ => by
    refine nextOf_tuple_item st.1 st.2 (x := items[i]) (by simp [hi]) fun h' hit' hs' => ?_
    exact hQ _ h' s.toks (by simp [hi]) ⟨hit', st.2.extBut hs'.extBut hne⟩ hs'
  done := fun s Q E st hE => nextOf_tuple_end hh st.1 st.2 (by simp) hE
section
variable {prog : Program} {w : World} {A : Around} {E : Value → Shared → Prop} {s : Shared}
end
end PySem
namespace L2
open PySem PySem.Spec PyProof.Rows
end L2
namespace Tw
open PySem PySem.Spec PyProof.Rows L2
/-- the pairs of a list's or a tuple's items with their places -/
def enumY (f : EF) : WF := fun ρ => (dv f ρ).bind fun x => (itemsOf x.1).map fun ds => (enumF 0 ds, x.2)
section
variable {mg : Str → Option Value}
end
section
variable {X : Cx} {tg e : Expr} {elts : List Expr} {kk : Nat} {tpos p pos : Pos} {f : EF}
theorem PI.or {t t' : L2.TI} (h : PI X tg e t) (k : PI X tg e t') : PI X tg e (fun σ H R => t σ H R ∨ t' σ H R) := ⟨fun pins s σ H Q I w => by
  rcases w with w | w
  · exact h.run pins s σ H Q I w
  · exact k.run pins s σ H Q I w⟩
end
@[simp ↓] theorem WP_enumY {f : EF} {ρ : Ro} {Q : List D × Ro → Prop} : WP (enumY f ρ) Q ↔ WP (dv f ρ) fun x => WP (itemsOf x.1) fun ds => Q (enumF 0 ds, x.2) := by unfold enumY; simp only [WP_bind, WP_map]
end Tw
end
section
set_option maxRecDepth 100000
set_option maxHeartbeats 4000000
namespace Tw
open PySem PySem.Spec PyProof.Rows L2
def treesO : List EF → Ro → Option (List D × Ro)
  | [], ρ => some ([], ρ)
  | f :: r, ρ => (tvl f ρ).bind fun x => (treesO r x.2).map fun y => (x.1 :: y.1, y.2)
def lstT (fs : List EF) : EF := fun ρ => if fs.length < 1000 then (treesO fs ρ).map fun x => (.t false (.lst x.1), x.2) else none
section
variable {mg : Str → Option Value} {c : Fx} {σ : Sg} {H H' : Hp} {ρ ρ' : Ro} {ts : List D} {tv : List V} {r : Option A} {v u : V} {fp : Pl → List Addr} {q : List Addr}
end
section
variable {X : Cx} {e : Expr} {es : List Expr} {f : EF} {fs : List EF} {pos : Pos}
end
@[simp] theorem WP_treesO0 {ρ : Ro} {Q : List D × Ro → Prop} : WP (treesO [] ρ) Q ↔ Q ([], ρ) := WP_some
@[simp] theorem WP_treesO1 {ρ : Ro} {f : EF} {r : List EF} {Q : List D × Ro → Prop} : WP (treesO (f :: r) ρ) Q ↔ WP (f ρ) fun x => WP (trA x.1.toT) fun d => WP (treesO r x.2) fun y => Q (d :: y.1, y.2) := by
  show WP (((f ρ).bind _).bind _) Q ↔ _
  simp only [WP_bind, WP_map]
@[simp ↓] theorem WP_lstT {ρ : Ro} {fs : List EF} {Q : A × Ro → Prop} (h : fs.length < 1000) : WP (lstT fs ρ) Q ↔ WP (treesO fs ρ) fun x => Q (.t false (.lst x.1), x.2) := by
  unfold lstT
  rw [if_pos h, WP_map]
end Tw
end
section
set_option maxRecDepth 100000
set_option maxHeartbeats 4000000
namespace L2
open PySem PySem.Spec PyProof.Rows
def pthX (ks : List (List Str)) (bs : List Addr) : List (List Key × Addr × Value) := (ks.zip bs).map fun x => (x.1.map Sum.inr, x.2, Value.bool true)
/-- at a: the keys ks, in order, their tuples at bs -/
def PthD (P : Program) (w : World) (a : Addr) (bs : List Addr) (ks : List (List Str)) (h : Heap) : Prop :=
  ks.length ≤ sizeLine ∧ (a == sysModules) = false ∧ ks.Nodup ∧ ks.length = bs.length ∧ ∃ o es ep, h.get? a = some o ∧ o.ExactDict ∧ o.data = .dict es ep ∧ es.toList = (pthX ks bs).map (entryOfKey (tupleKind (mixKind P w)))
def pthO (P : Program) (w : World) (a : Addr) (bs : List Addr) (ks : List (List Str)) : HO := .ext (PthD P w a bs ks)
section
variable {X : Cx} {pins : List (Addr × Obj)} {σ : St} {H : Hp} {s : Shared} {a b : Addr} {k : List Str} {ks : List (List Str)} {bs : List Addr}
variable {o i value : Expr} {pos pos' : Pos} {td ty tv : TE}
end
end L2
end
section
set_option maxRecDepth 100000
set_option maxHeartbeats 4000000
namespace PySem
open PySem.Spec PyProof.Rows
section
variable {prog : Program} {w : World} {K : Type} [DecidableEq K] {knd : HeapKind prog w K} {A : Around} {E : Value → Shared → Prop} {s : Shared}
end
end PySem
namespace L2
open PySem PySem.Spec PyProof.Rows
section
variable {X : Cx}
end
end L2
end
section
set_option maxRecDepth 100000
set_option maxHeartbeats 4000000
namespace TuS
open PySem PySem.Spec PyProof.Rows PySem.W PySem.Calls PySem.SeqAt
/-- v is a tuple of these texts -/
def IsTT (h : Heap) (v : Value) (k : List Str) : Prop := ∃ (a : Addr) (items : Array Value), v = .ref a ∧ h.IsTuple a items ∧ L2.Vals (k.map L2.V.str) items.toList
section
variable {prog : Program} {w : World} {A : Around} {E : Value → Shared → Prop} {s : Shared}
end
open Tw (leS leS_iff leS_trans leS_anti leS_total)
section
variable {M : Model} {A : Around} {E : Value → Shared → Prop} {s : Shared}
end
section
variable {prog : Program} {w : World} {A : Around} {E : Value → Shared → Prop} {s : Shared}
theorem IsTT.keeps {h h' : Heap} {v : Value} {k : List Str} (x : IsTT h v k) (kp : ∀ b o, v = .ref b → h.get? b = some o → h'.get? b = some o) : IsTT h' v k := by
  obtain ⟨a, xs, rfl, ⟨o, ho, r⟩, g⟩ := x
  exact ⟨a, xs, rfl, ⟨o, kp a o rfl ho, r⟩, g⟩
end
end TuS
end
section
set_option maxRecDepth 100000
set_option maxHeartbeats 4000000
namespace L2
open PySem PySem.Spec PyProof.Rows
section
variable {X : Cx}
end
end L2
namespace Tw
open PySem PySem.Spec PyProof.Rows L2
def txtK : D → Option (List Str)
  | .tup xs => mapO strD xs
  | _ => none
section
variable {mg : Str → Option Value} {Z : Addr → Prop} {H : Hp}
end
section
variable {X : Cx}
end
end Tw
end
section
set_option maxRecDepth 100000
set_option maxHeartbeats 4000000
namespace Tw
open PySem PySem.Spec PyProof.Rows L2
abbrev DO := Addr → List Addr → List (List Str) → HO
/-- {k: True} -/
def dpE (O : DO) (f : EF) : EF := fun ρ => (dv f ρ).bind fun x => (txtK x.1).map fun k => (.p false O [k], x.2)
open Classical in
open Classical in
section
variable {X : Cx} {ke ve : Expr} {pos pos' p : Pos} {f : EF}
end
open Classical in
noncomputable def anyO (G : DO → F0) : F0 := fun ds => if h : ∃ r, ∀ O, G O ds = some r then some h.choose else none
theorem anyO_some {G : DO → F0} {ds : List D} {r : A} (e : anyO G ds = some r) (O : DO) : G O ds = some r := by
  unfold anyO at e
  split at e
  · rename_i h
    cases e
    exact h.choose_spec O
  · cases e
theorem Cal.any {P : Program} {w : World} {K : PySem.W.Frag} {mg : Str → Option Value} {base : Heap} {nm : Str} {ps : List Str} {k : Nat} {G : DO → F0} (c : Cal P w K mg base nm ps k (G (pthO P w))) : Cal P w K mg base nm ps k (anyO G) := by
  obtain ⟨f, fd, h1, h2, h3, h4⟩ := c
  refine ⟨f, fd, h1, h2, h3, h4.imp fun vs H Q E ⟨Z, ds, r, g1, g2, g3, g4⟩ => ⟨Z, ds, r, g1, g2, anyO_some g3 _, g4⟩⟩
section
variable {ρ : Ro}
@[simp ↓] theorem WP_dpE {O : DO} {f : EF} {Q : A × Ro → Prop} : WP (dpE O f ρ) Q ↔ WP (dv f ρ) fun x => WP (txtK x.1) fun k => Q (.p false O [k], x.2) := by
  unfold dpE
  simp only [WP_bind, WP_map]
@[simp] theorem txtK_tup (k : List Str) : txtK (.tup (k.map D.str)) = some k := by
  show mapO strD (k.map D.str) = some k
  induction k with
  | nil => rfl
  | cons x k ih =>
    show ((strD (D.str x)).bind _) = _
    show ((mapO strD (k.map D.str)).map _) = _
    rw [ih]
    rfl
@[simp] theorem txtK_nil : txtK (.tup []) = some [] := rfl
end
end Tw
end
section
set_option maxRecDepth 100000
set_option maxHeartbeats 4000000
namespace Tw
open PySem PySem.Spec PyProof.Rows L2
def clrT (i : Nat) : EF := fun ρ => (treeA (at_ ρ i)).bind fun x => (dlst x.2).map fun _ => (.d .non, ρ.set i (some (.t x.1 (.lst []))))
section
variable {X : Cx}
end
@[simp ↓] theorem WP_clrT {ρ : Ro} {i : Nat} {Q : A × Ro → Prop} : WP (clrT i ρ) Q ↔ WP (treeA (at_ ρ i)) fun x => WP (dlst x.2) fun _ => Q (.d .non, ρ.set i (some (.t x.1 (.lst [])))) := by
  unfold clrT
  simp only [WP_bind, WP_map]
end Tw
end
section
set_option maxRecDepth 100000
set_option maxHeartbeats 4000000
namespace Tw
open PySem PySem.Spec PyProof.Rows L2
def spoilL (F : F1) : List D → Option (List D)
  | [] => some []
  | x :: r => (F (.t true x) []).bind fun z => (outC z).bind fun d => (spoilL F r).map fun r' => d :: r'
def forC (i j : Nat) (F : F1) : SF := fun ρ => if i ≠ j ∧ okOld ρ j = true then (treeA (at_ ρ i)).bind fun x => (dlst x.2).bind fun xs => (spoilL F xs).map fun ys => (.nx, (ρ.set j none).set i (some (.t x.1 (.lst ys)))) else none
section
variable {X : Cx} {pos : Pos}
end
@[simp ↓] theorem WP_forC {ρ : Ro} {i j : Nat} {F : F1} {Q : Out × Ro → Prop} : WP (forC i j F ρ) Q ↔ (i ≠ j ∧ okOld ρ j = true) ∧ WP (treeA (at_ ρ i)) fun x => WP (dlst x.2) fun xs => WP (spoilL F xs) fun ys => Q (.nx, (ρ.set j none).set i (some (.t x.1 (.lst ys)))) := by
  unfold forC
  rw [WP_ite]
  simp only [WP_none, WP_bind, WP_map, imp_false, Classical.not_not]
  constructor
  · rintro ⟨h1, h2⟩; exact ⟨h2, h1 h2⟩
  · rintro ⟨h1, h2⟩; exact ⟨fun _ => h2, h1⟩
end Tw
end
section
set_option maxRecDepth 100000
set_option maxHeartbeats 4000000
namespace Tw
open PySem PySem.Spec PyProof.Rows L2
def spoilAt (i : Nat) (t : TF) (k : Int) (F : F1) : SF := fun ρ => (t ρ).bind fun x => if x.1 = true then (treeA (at_ x.2 i)).bind fun y => (dlst y.2).bind fun xs => (ixN xs.length k).bind fun n => (xs[n]?).bind fun d => (F (.t true d) []).bind fun z => (outC z).map fun d' => (.nx, x.2.set i (some (.t y.1 (.lst (xs.set n d'))))) else (F (.t true (.lst [])) []).map fun _ => (.nx, x.2)
section
variable {X : Cx} {pos : Pos}
end
@[simp ↓] theorem WP_spoilAt {ρ : Ro} {i : Nat} {t : TF} {k : Int} {F : F1} {Q : Out × Ro → Prop} : WP (spoilAt i t k F ρ) Q ↔ WP (t ρ) fun x => (x.1 = true → WP (treeA (at_ x.2 i)) fun y => WP (dlst y.2) fun xs => WP (ixN xs.length k) fun n => WP (xs[n]?) fun d => WP (F (.t true d) []) fun z => WP (outC z) fun d' => Q (.nx, x.2.set i (some (.t y.1 (.lst (xs.set n d')))))) ∧ (x.1 = false → WP (F (.t true (.lst [])) []) fun _ => Q (.nx, x.2)) := by
  unfold spoilAt
  simp only [WP_bind, WP_ite, WP_map, Bool.not_eq_true]
end Tw
end
section
set_option maxRecDepth 100000
set_option maxHeartbeats 400000
namespace Tw
open PySem PySem.Spec PyProof.Rows L2
def lstN : D → Option Int
  | .lst ys => some (ys.length : Nat)
  | _ => none
def lenF (F : F0) (d : D) : Option Int := (F [d, .tup []]).bind fun r => r.toD.bind lstN
def lcLen (i j : Nat) (F : F0) (own : List Nat) : EF := fun ρ => if i ∈ own then none else (forget own ρ).bind fun ρ1 => (treeA (at_ ρ1 i)).bind fun x => (dlst x.2).bind fun xs => if xs.length < 1000 ∧ j < ρ1.length then (mapO (lenF F) xs).map fun ns => (.l false (ns.map D.int), ρ1) else none
section
variable {X : Cx} {pos : Pos}
end
@[simp ↓] theorem WP_lcLen {ρ : Ro} {i j : Nat} {F : F0} {own : List Nat} {Q : A × Ro → Prop} : WP (lcLen i j F own ρ) Q ↔ i ∉ own ∧ WP (forget own ρ) fun ρ1 => WP (treeA (at_ ρ1 i)) fun x => WP (dlst x.2) fun xs => (xs.length < 1000 ∧ j < ρ1.length) ∧ WP (mapO (lenF F) xs) fun ns => Q (.l false (ns.map D.int), ρ1) := by
  unfold lcLen
  simp only [WP_ite, WP_bind, WP_map, WP_none, imp_false, Classical.not_not]
  constructor
  · rintro ⟨h1, h2⟩
    obtain ⟨ρ1, e1, x, e2, xs, e3, h3, h4⟩ := h2 h1
    exact ⟨h1, ρ1, e1, x, e2, xs, e3, h4, h3 h4⟩
  · rintro ⟨h1, ρ1, e1, x, e2, xs, e3, h3, h2⟩
    exact ⟨h1, fun _ => ⟨ρ1, e1, x, e2, xs, e3, fun _ => h2, h3⟩⟩
end Tw
end
section
set_option maxRecDepth 100000
set_option maxHeartbeats 400000
namespace Tw
open PySem PySem.Spec PyProof.Rows L2
def Locked2 (mg : Str → Option Value) (i n : Nat) (c : Fx) (σ : Sg) (H : Hp) (ρ : Ro) (ts : List D) (tv : List V) (kvs : List (Key × D)) : Prop :=
  ∃ t vs a od kws, atS σ i = some (.ref t) ∧ L2.Rd H t (.tup vs) ∧ vs[n]? = some (.ref a) ∧ c.H0 a = some (.frz od (.dK kws)) ∧ ¬ c.Z0 a ∧ kvs.map (·.1) = kws.map (·.1) ∧ SR mg c σ H ρ (kvs.map (·.2) ++ ts) (kws.map (·.2) ++ tv) none .non
structure DX (X : Cx) (tg e : Expr) (i n : Nat) (m : Md) : Prop where
  ex : ∃ wi, PI X tg e wi ∧ ∀ c σ H ρ ts tv kvs R, Locked2 X.mg i n c σ H ρ ts tv kvs → (∀ J P T TV, SR X.mg c σ H ρ T TV none .non → Pins c P → Gives X.mg P T TV J (m kvs) → Back X.mg c T TV c ts tv → R J H) → wi σ H R
section
variable {X : Cx} {tg : Expr} {x : Str} {px apos cpos pos : Pos}
end
section
variable {mg : Str → Option Value} {c : Fx} {σ : Sg} {H : Hp} {ρ ρ' : Ro} {ts : List D} {tv : List V}
end
def dicN : Option D → Option (List (Key × D))
  | some (.dic kvs) => some kvs
  | _ => none
def tupsD : D → Option (List D)
  | .tup ds => some ds
  | _ => none
@[simp] theorem tupsD_tup (ds : List D) : tupsD (.tup ds) = some ds := rfl
def lcX (i n : Nat) (m : Md) (g : GF) (t : TF) (f : EF) (own : List Nat) : EF := fun ρ => (dv (var i) ρ).bind fun x => (tupsD x.1).bind fun ds => (dicN ds[n]?).bind fun kvs => (forget own x.2).bind fun ρ2 => (lcL g t f own (m kvs) [] ρ2).map fun (y : List D × Ro) => (.l false y.1, y.2)
section
variable {X : Cx} {elt tg iter : Expr} {ifs : List Expr} {scope : Scope} {own : List (Str × Nat)} {pos : Pos} {js : List Nat} {g : GF} {t : TF} {f : EF}
end
@[simp ↓] theorem WP_lcX {ρ : Ro} {i n : Nat} {m : Md} {g : GF} {t : TF} {f : EF} {own : List Nat} {Q : A × Ro → Prop} : WP (lcX i n m g t f own ρ) Q ↔ WP (dv (var i) ρ) fun x => WP (tupsD x.1) fun ds => WP (dicN ds[n]?) fun kvs => WP (forget own x.2) fun ρ2 => WP (lcL g t f own (m kvs) [] ρ2) fun y => Q (.l false y.1, y.2) := by
  unfold lcX
  simp only [WP_bind, WP_map]
@[simp] theorem dicN_dic {kvs : List (Key × D)} : dicN (some (.dic kvs)) = some kvs := rfl
end Tw
end
section
set_option maxRecDepth 100000
set_option maxHeartbeats 1000000
namespace Tw
open PySem PySem.Spec PyProof.Rows L2
/-- an exception: its class, its fields -/
structure Xc where
  cls : Str
  fs : List (Str × D)
abbrev XF := Ro → Option (Xc × Ro)
/-- the exception x leaves, the frame as ρ tells -/
def Lvs (mg : Str → Option Value) (c : Fx) (ts : List D) (tv : List V) (W : WX) (ρ : Ro) (x : Xc) : Prop := ∀ C d us σ H fp, mg x.cls = some (.ref C) → Good mg c σ H ρ ts tv none .non fp → H d = some (.xd us) → ¬ Zof c fp d → c.H0 d = none → RepF mg (Zof c fp) H x.fs us → W (.ref C) (some d) σ H
def tX (mg : Str → Option Value) (W : WX) (f : XF) : TS := fun _ σ H => ∃ c ρ ts tv x ρ', SR mg c σ H ρ ts tv none .non ∧ f ρ = some (x, ρ') ∧ Lvs mg c ts tv W ρ' x
def XB (X : Cx) (W : WX) (sts : List Stmt) (f : XF) : Prop := PSs X sts (tX X.mg W f)
def nvX : XF := fun _ => none
def thX (s : SF) (f : XF) : XF := fun ρ => (s ρ).bind fun z => match z.1 with | .nx => f z.2 | _ => none
def ifX (t : TF) (f g : XF) : XF := fun ρ => (t ρ).bind fun y => if y.1 then f y.2 else g y.2
/-- a def that raises -/
abbrev G0 := List D → Option Xc
def spX (mg : Str → Option Value) (G : G0) : Sp := fun vs H _ E => ∃ Z ds x, (∀ p, Z p → H p ≠ none) ∧ Reps mg Z H ds vs ∧ G ds = some x ∧ ∀ C d us H', mg x.cls = some (.ref C) → Sm H H' → H d = none → H' d = some (.xd us) → RepF mg Z H' x.fs us → E (.ref C) (some d) H'
def runX (n np : Nat) (b : XF) : G0 := fun ds => if ds.length = np then (b (ro0 n ds)).map (·.1) else none
def CalX (P : Program) (w : World) (K : PySem.W.Frag) (mg : Str → Option Value) (base : Heap) (nm : Str) (ps : List Str) (k : Nat) (G : G0) : Prop := ∃ f fd, mg nm = some (.ref f) ∧ PySem.W.keepIn K (.ref f) = true ∧ Binds K fd ps [] ∧ FnOk P w K mg base (L2N.CX P w) k f fd ps (spX mg G)
/-- the args, the call -/
def calX (os : List Opd) (G : G0) : XF := fun ρ => (evs os ρ).bind fun x => (onlyD x.1).bind fun ds => (G ds).map fun y => (y, x.2)
/-- raise C(e), the class' one field fl -/
def raiseX (cn fl : Str) (f : EF) : XF := fun ρ => (dv f ρ).map fun y => (⟨cn, [(fl, y.1)]⟩, y.2)
/-- what making an exception of the class gives -/
def tMkF (fl : Str) (C : Addr) (ta : TA) : L2.St → Hp → XK → Prop := fun σ H Q => ta σ H fun vs H1 => ∃ v, vs = [v] ∧ ∀ d, H1 d = none → Q (.ref C) (some d) (upd H1 d (.xd [(fl, v)]))
section
variable {X : Cx} {W : WX} {st : Stmt} {rest a b : List Stmt} {f g : XF} {sf : SF} {t : TF} {u : TS} {pos : Pos}
end
section
variable {P : Program} {w : World} {K : PySem.W.Frag} {mg : Str → Option Value} {base : Heap}
/-- a def whose body raises -/
theorem okXN {x qual : Str} {st : Stmt} {f : Addr} {fd : FuncData} {N ps : List Str} {k : Nat} {sp : Sp} (F : Fun K x qual st f fd) (S : FnScope N ps (defScope st)) (len : ∀ vs H Q E, sp vs H Q E → vs.length = ps.length)
    (hbody : ∀ (cdv : Value) (A : Around) (outer : List Env) (s : Shared) (H : Hp) (vs : List V) (Q : VK) (E : XK), Room k (A.deeper (envOfC qual (defScope st) s.heap.objs.size f cdv)) → sp vs H Q E →
      ∃ t, PSs (cxOf (L2N.CX P w) P w K mg base N qual (defScope st) f cdv A outer s H E) (defBody st) t ∧ t { nx := fun _ H' => Q .non H', rt := Q } (L2.start N vs) H) : FnOk P w K mg base (L2N.CX P w) (k + 1) f fd ps sp := by
  obtain ⟨oc, od, kV, doc, pm, an, cdv, ct, osl, rfl, lk, hcd⟩ := F.ex
  exact fn_of lk hcd S len fun A outer s H vs Q E hr hsp => hbody cdv A outer s H vs Q E hr hsp
theorem okX {x qual : Str} {st : Stmt} {f : Addr} {fd : FuncData} {N ps : List Str} {k : Nat} {b : XF} (F : Fun K x qual st f fd) (S : FnScope N ps (defScope st)) (hnp : ps.length ≤ N.length)
    (hb : ∀ (cdv : Value) (A : Around) (outer : List Env) (s : Shared) (H : Hp) (E : XK), Room k (A.deeper (envOfC qual (defScope st) s.heap.objs.size f cdv)) → XB (cxOf (L2N.CX P w) P w K mg base N qual (defScope st) f cdv A outer s H E) (fun cls d _ H' => E cls d H') (defBody st) b) :
    FnOk P w K mg base (L2N.CX P w) (k + 1) f fd ps (spX mg (runX N.length ps.length b)) := by
  refine okXN F S (fun vs H Q E h => ?_) (fun cdv A outer s H vs Q E hr h => ?_)
  · obtain ⟨Z, ds, r, _, hr, e, _⟩ := h
    unfold runX at e
    split at e
    · rename_i h1; rw [← h1, hr.length]
    · cases e
  · obtain ⟨Z, ds, r, hz, hrep, e, ret⟩ := h
    unfold runX at e
    split at e
    case isFalse => cases e
    rename_i hl
    obtain ⟨⟨y, ρ'⟩, e1, e2⟩ := map_some.mp e
    cases e2
    refine ⟨_, hb cdv A outer s H E hr, ⟨Z, H, fun _ => [], fun _ => .non⟩, _, [], [], y, ρ', ⟨_, good0 hz hrep (by omega)⟩, e1, ?_⟩
    intro C d us σ' H' fp hm g hx hzd hd hrep'
    exact ret C d us H' hm (fun b o e => g.keep b o e fun _ h => by cases h) hd hx (hrep'.mono fun a u z w => ⟨fun h => z (.inl h), w⟩)
end
end Tw
end
section
set_option maxRecDepth 100000
set_option maxHeartbeats 1000000
namespace Tw
open PySem PySem.Spec PyProof.Rows L2
/-- e.fl, e the caught exception: at a, of the class cn, its dict at dd -/
def exF (a dd : Addr) (i : Nat) (fl : Str) : EF := fun ρ => match at_ ρ i with
  | some (.ex a' d' fs) => if a' = a ∧ d' = dd then (fs.lookup fl).map fun y => (.d y, ρ) else none
  | _ => none
theorem RepF.look {mg : Str → Option Value} {Z : Addr → Prop} {H : Hp} {fl : Str} {y : D} : ∀ {fs : List (Str × D)} {us : List (Str × V)}, RepF mg Z H fs us → fs.lookup fl = some y → ∃ v, us.lookup fl = some v ∧ Rep mg Z H y v
  | [], us, h, e => by cases e
  | (k, d) :: r, us, ⟨v, w, e1, h1, h2⟩, e => by
    subst e1
    by_cases hk : fl = k
    · subst hk
      simp [List.lookup] at e ⊢
      subst e
      exact h1
    · have : (fl == k) = false := by simpa using hk
      simp [List.lookup, this] at e ⊢
      exact RepF.look h2 e
section
variable {X : Cx} {a C dd : Addr} {oe : Obj} {pn : List (Addr × Obj)} {x fl : Str} {px pos : Pos}
end
section
variable {X : Cx} {x n : Str} {C : Addr} {body suite : List Stmt} {b₀ : Stmt} {np pos pos' : Pos} {sf : SF} {xf : XF} {sfs : Addr → Addr → Str → SF} {mt : Str → Bool}
end
end Tw
end
section
set_option maxRecDepth 100000
set_option maxHeartbeats 1000000
namespace Tw
open PySem PySem.Spec PyProof.Rows L2
def CalMX (P : Program) (w : World) (K : PySem.W.Frag) (mg : Str → Option Value) (base : Heap) (cn nm : Str) (ps : List Str) (k : Nat) (G : G0) : Prop := ∃ C f fd, mg cn = some (.ref C) ∧ Cls K C ∧ Meth K C nm f ∧ Binds K fd ps [] ∧ FnOk P w K mg base (L2N.CX P w) k f fd ps (spX mg G)
/-- x(..) -/
def callX (cn : Str) (f : EF) (os : List Opd) (G : G0) : XF := fun ρ => (dv f ρ).bind fun d => (insD d.1).bind fun c => if c.1 = cn then (evs os d.2).bind fun x => (onlyD x.1).bind fun ds => match x.2 with | ρ2 => (G (d.1 :: ds)).map fun y => (y, ρ2) else none
section
variable {P : Program} {w : World} {K : PySem.W.Frag} {mg : Str → Option Value} {base : Heap}
theorem CalX.mk {nm : Str} {st : Stmt} {ps N : List Str} {k k' : Nat} {b : XF} (T : DefT K mg nm st ps) (S : FnScope N ps (defScope st)) (hb : ∀ (f : Addr) (cdv : Value) (A : Around) (outer : List Env) (s : Shared) (H : Hp) (E : XK), Room k (A.deeper (envOfC nm (defScope st) s.heap.objs.size f cdv)) → XB (cxOf (L2N.CX P w) P w K mg base N nm (defScope st) f cdv A outer s H E) (fun cls d _ H' => E cls d H') (defBody st) b)
    (hnp : ps.length ≤ N.length := by decide) (hk : k + 1 ≤ k' := by omega) : CalX P w K mg base nm ps k' (runX N.length ps.length b) :=
  let ⟨f, fd, m, F, bi⟩ := T; ⟨f, fd, m, F.kp, bi, (okX F S hnp fun cdv A outer s H E hr => hb f cdv A outer s H E hr).mono hk⟩
theorem CalMX.mk {cn nm qual : Str} {st : Stmt} {ps N : List Str} {k k' : Nat} {b : XF} (T : MetT K mg cn nm qual st ps) (S : FnScope N ps (defScope st)) (hb : ∀ (f : Addr) (cdv : Value) (A : Around) (outer : List Env) (s : Shared) (H : Hp) (E : XK), Room k (A.deeper (envOfC qual (defScope st) s.heap.objs.size f cdv)) → XB (cxOf (L2N.CX P w) P w K mg base N qual (defScope st) f cdv A outer s H E) (fun cls d _ H' => E cls d H') (defBody st) b)
    (hnp : ps.length ≤ N.length := by decide) (hk : k + 1 ≤ k' := by omega) : CalMX P w K mg base cn nm ps k' (runX N.length ps.length b) :=
  let ⟨C, f, fd, m, c, me, F, bi⟩ := T; ⟨C, f, fd, m, c, me, bi, (okX F S hnp fun cdv A outer s H E hr => hb f cdv A outer s H E hr).mono hk⟩
end
section
variable {X : Cx} {W : WX} {a e : Expr} {es : List Expr} {f : EF} {os : List Opd} {G : G0} {cn qual : Str} {st : Stmt} {ps : List Str} {k k' : Nat} {pos ep : Pos}
end
end Tw
end
section
set_option maxRecDepth 100000
set_option maxHeartbeats 2000000

namespace PySem
namespace XcNoDocument
open PySem.W PySem.Calls PyProof.Rows PySem.HandSPX
def iA (p1 p2 : Pos) : Arguments := { posonlyargs := [], args := [{ arg := "self", annotation := none, pos := p1 }, { arg := "path", annotation := none, pos := p2 }], vararg := none, kwonlyargs := [], kw_defaults := [], kwarg := none, defaults := [] }
def iB (q1 q2 q3 q4 : Pos) : List Stmt := [.Assign [.Attribute (.Name "self" q1) "path" q2] (.Name "path" q3) q4]
def iS : Scope := { kind := .function, names := [(PySem.Str.ofString "self", .local), (PySem.Str.ofString "path", .local)], isGenerator := false, isCoroutine := false, more := [] }
/-- what the written part says of NoDocument, at C, and of its __init__, at fI -/
structure NoDocumentTxt (K : Frag) (mg : Str → Option Value) (C fI : Addr) : Prop where
  gC : mg "NoDocument" = some (.ref C)
  cls : ∃ nm q N bs bm sn sub ab col dd k0 k1 k2 k3 k5, K.lookup C = some (excClassObj nm q C N bs bm true sn sub ab col dd k0 k1 k2 k3 k5 "ValueError.__new__") ∧ refsVE bm = true
  sa : findIn K (.ref C) "__setattr__" = some (some (.builtin "object.__setattr__"))
  ga : findIn K (.ref C) "__getattribute__" = some (some (.builtin "BaseException.__getattribute__"))
  gg : findIn K (.ref C) "__getattr__" = some none
  noN : findIn K (.ref C) "path" = some none
  iC : findIn K (.ref C) "__init__" = some (some (.ref fI))
  tC : typeIn K (.ref fI) = some (.type "function")
  kC : keepIn K (.ref C) = true
  exC : subIn K (.ref C) (.type "BaseException") = some true
  tyC : typeIn K (.ref C) = some (.type "type")
  hdC : hasDictIn K C = true
  te : exmOne K (.ref C) (.ref C) = some true
  fn : ∃ (oc : Value) (od : Option Addr) (doc pm : Value) (an : Option Addr) (cdv ct : Value) (osl : Array (Option Value)) (p1 p2 q1 q2 q3 q4 : Pos),
    K.lookup fI = some ⟨oc, od, .func (fnOf "__init__" "NoDocument.__init__" (iA p1 p2) (iB q1 q2 q3 q4) iS .none .none doc pm an cdv ct), osl⟩ ∧ codeIn K cdv "NoDocument.__init__" = true
theorem one_size (v : Value) : [v].length ≤ sizeLine := by
  rw [sizeLine_eq]
  exact (by decide : 1 ≤ 16777216)
theorem kept_but {K : Frag} {h h' : Heap} {x : Addr} (X : K.In h) (hx : K.lookup x = none) (k : ∀ b o, b ≠ x → h.get? b = some o → h'.get? b = some o) : K.In h' := fun a o e =>
  k a o (fun z => by rw [z, hx] at e; cases e) (X a o e)
theorem ldC {M : Model} {s : Shared} {name : Str} {scope : Scope} {L a : Addr} {cd : Value} {m : Str → Option Value} {x : Str} {pos : Pos} {v : Value} {Q : Value → Shared → Prop} {A : Around} {E : Value → Shared → Prop} (hn : s.heap.Ns L m) (hv : m x = some v) (h : Q v s)
    (hk : scope.kind = .function := by rfl) (hl : (envOfC name scope L a cd).kindOf x = some .local := by rfl) (hd : (x == ("__debug__" : Str)) = false := by decide) :
    wpAny M A (eval (.Name x pos) (envOfC name scope L a cd)) Q E s := wpAny_Name (wpAny_loadName_local hk hl hn hv h) hd
/-- what __init__ leaves of a fresh exception at x -/
structure InitEnd (h h' : Heap) (x C dx t1 : Addr) (v : Value) : Prop where
  keep : ∀ b o, b ≠ x → h.get? b = some o → h'.get? b = some o
  obj : h'.get? x = some { cls := .ref C, dict := some dx, data := .fields #[.ref t1, .none, .none, .none, .bool false, .none] }
  dbig : h.objs.size ≤ dx
  dne : dx ≠ x
  ns : h'.Ns1 dx (fun y => if y = "path" then some v else none)
/-- a made NoDocument -/
structure OwnMade (h h' : Heap) (e C d : Addr) (v : Value) : Prop where
  keep : ∀ b o, h.get? b = some o → h'.get? b = some o
  new : h.objs.size ≤ e
  obj : ∃ oe vs, h'.get? e = some oe ∧ oe.cls = .ref C ∧ oe.dict = some d ∧ oe.data = .fields vs ∧ vs[1]? = some .none ∧ vs[2]? = some .none
  dbig : h.objs.size ≤ d
  dne : d ≠ e
  ns : h'.Ns1 d (fun y => if y = "path" then some v else none)
section
variable {prog : Program} {w : World} {A : Around} {E : Value → Shared → Prop} {R : Result → Shared → Prop} {s : Shared} {K : Frag} {mg : Str → Option Value} {C fI : Addr}
end
end XcNoDocument
end PySem
namespace L2
open PySem PySem.Spec PyProof.Rows
section
variable {X : Cx} {C fI : Addr}
end
end L2

namespace PySem
namespace XcLarge
open PySem.W PySem.Calls PyProof.Rows PySem.HandSPX
def iA (p1 p2 : Pos) : Arguments := { posonlyargs := [], args := [{ arg := "self", annotation := none, pos := p1 }, { arg := "what", annotation := none, pos := p2 }], vararg := none, kwonlyargs := [], kw_defaults := [], kwarg := none, defaults := [] }
def iB (q1 q2 q3 q4 : Pos) : List Stmt := [.Assign [.Attribute (.Name "self" q1) "what" q2] (.Name "what" q3) q4]
def iS : Scope := { kind := .function, names := [(PySem.Str.ofString "self", .local), (PySem.Str.ofString "what", .local)], isGenerator := false, isCoroutine := false, more := [] }
/-- what the written part says of Large, at C, and of its __init__, at fI -/
structure LargeTxt (K : Frag) (mg : Str → Option Value) (C fI : Addr) : Prop where
  gC : mg "Large" = some (.ref C)
  cls : ∃ nm q N bs bm sn sub ab col dd k0 k1 k2 k3 k5, K.lookup C = some (excClassObj nm q C N bs bm true sn sub ab col dd k0 k1 k2 k3 k5 "ValueError.__new__") ∧ refsVE bm = true
  sa : findIn K (.ref C) "__setattr__" = some (some (.builtin "object.__setattr__"))
  ga : findIn K (.ref C) "__getattribute__" = some (some (.builtin "BaseException.__getattribute__"))
  gg : findIn K (.ref C) "__getattr__" = some none
  noN : findIn K (.ref C) "what" = some none
  iC : findIn K (.ref C) "__init__" = some (some (.ref fI))
  tC : typeIn K (.ref fI) = some (.type "function")
  kC : keepIn K (.ref C) = true
  exC : subIn K (.ref C) (.type "BaseException") = some true
  tyC : typeIn K (.ref C) = some (.type "type")
  hdC : hasDictIn K C = true
  te : exmOne K (.ref C) (.ref C) = some true
  fn : ∃ (oc : Value) (od : Option Addr) (doc pm : Value) (an : Option Addr) (cdv ct : Value) (osl : Array (Option Value)) (p1 p2 q1 q2 q3 q4 : Pos),
    K.lookup fI = some ⟨oc, od, .func (fnOf "__init__" "Large.__init__" (iA p1 p2) (iB q1 q2 q3 q4) iS .none .none doc pm an cdv ct), osl⟩ ∧ codeIn K cdv "Large.__init__" = true
theorem one_size (v : Value) : [v].length ≤ sizeLine := by
  rw [sizeLine_eq]
  exact (by decide : 1 ≤ 16777216)
theorem kept_but {K : Frag} {h h' : Heap} {x : Addr} (X : K.In h) (hx : K.lookup x = none) (k : ∀ b o, b ≠ x → h.get? b = some o → h'.get? b = some o) : K.In h' := fun a o e =>
  k a o (fun z => by rw [z, hx] at e; cases e) (X a o e)
theorem ldC {M : Model} {s : Shared} {name : Str} {scope : Scope} {L a : Addr} {cd : Value} {m : Str → Option Value} {x : Str} {pos : Pos} {v : Value} {Q : Value → Shared → Prop} {A : Around} {E : Value → Shared → Prop} (hn : s.heap.Ns L m) (hv : m x = some v) (h : Q v s)
    (hk : scope.kind = .function := by rfl) (hl : (envOfC name scope L a cd).kindOf x = some .local := by rfl) (hd : (x == ("__debug__" : Str)) = false := by decide) :
    wpAny M A (eval (.Name x pos) (envOfC name scope L a cd)) Q E s := wpAny_Name (wpAny_loadName_local hk hl hn hv h) hd
/-- what __init__ leaves of a fresh exception at x -/
structure InitEnd (h h' : Heap) (x C dx t1 : Addr) (v : Value) : Prop where
  keep : ∀ b o, b ≠ x → h.get? b = some o → h'.get? b = some o
  obj : h'.get? x = some { cls := .ref C, dict := some dx, data := .fields #[.ref t1, .none, .none, .none, .bool false, .none] }
  dbig : h.objs.size ≤ dx
  dne : dx ≠ x
  ns : h'.Ns1 dx (fun y => if y = "what" then some v else none)
/-- a made Large -/
structure OwnMade (h h' : Heap) (e C d : Addr) (v : Value) : Prop where
  keep : ∀ b o, h.get? b = some o → h'.get? b = some o
  new : h.objs.size ≤ e
  obj : ∃ oe vs, h'.get? e = some oe ∧ oe.cls = .ref C ∧ oe.dict = some d ∧ oe.data = .fields vs ∧ vs[1]? = some .none ∧ vs[2]? = some .none
  dbig : h.objs.size ≤ d
  dne : d ≠ e
  ns : h'.Ns1 d (fun y => if y = "what" then some v else none)
section
variable {prog : Program} {w : World} {A : Around} {E : Value → Shared → Prop} {R : Result → Shared → Prop} {s : Shared} {K : Frag} {mg : Str → Option Value} {C fI : Addr}
end
end XcLarge
end PySem
namespace L2
open PySem PySem.Spec PyProof.Rows
section
variable {X : Cx} {C fI : Addr}
end
end L2
end
section
set_option maxRecDepth 100000
set_option maxHeartbeats 1000000
namespace L2
open PySem PySem.Spec PyProof.Rows
/-- what the class D must say, so that isinstance asks its instances rightly -/
structure ExcD (K : PySem.W.Frag) (D : Addr) : Prop where
  hc : (PySem.W.clsIn K D).isSome = true
  hg : PySem.W.findIn K (.ref D) "__getattribute__" = some (some (.builtin "BaseException.__getattribute__"))
  hk : PySem.W.findIn K (.ref D) "__getattr__" = some none
  hs : PySem.W.subIn K (.ref D) (.type "BaseException") = some true
  ha : PySem.W.findIn K (.ref D) "__class__" = some (some (.builtin "object.__class__"))
  hn : PySem.W.specialIn K (.builtin "object.__class__") "__get__" = some (some (.builtin "getset_descriptor.__get__"))
  ht : PySem.W.takesIn K (.builtin "object.__class__") = some true
  hm : PySem.W.mroIn K D (.type "object") = some true
end L2
namespace Tw
open PySem PySem.Spec PyProof.Rows L2
/-- isinstance(e, C): b, for the class of the exception that the suite holds -/
def isX (a dd : Addr) (i : Nat) (b : Bool) : EF := fun ρ => match at_ ρ i with
  | some (.ex a' d' _) => if a' = a ∧ d' = dd then some (.d (.bl b), ρ) else none
  | _ => none
section
variable {X : Cx} {a C D dd : Addr} {oe : Obj} {pn : List (Addr × Obj)} {x cn : Str} {b : Bool} {px p1 p2 pos : Pos}
end
/-- facts for a suite, by class -/
theorem xfC_of {K : PySem.W.Frag} {D : Addr} (h : ExcD K D) (hd : PySem.W.hasDictIn K D = true) : XfC K D := ⟨h.hg, h.hk, h.hs, hd⟩
/-- what a law's text knows of an own exception: its instances' classes -/
structure XsT (K : PySem.W.Frag) (mg : Str → Option Value) (cn : Str) (fls : List Str) (iss : List (Str × Bool)) : Prop where
  d : ∀ D, mg cn = some (.ref D) → ExcD K D
  h : ∀ D, mg cn = some (.ref D) → PySem.W.hasDictIn K D = true
  f : ∀ D, mg cn = some (.ref D) → ∀ fl ∈ fls, PySem.W.findIn K (.ref D) fl = some none
  i : ∀ D, mg cn = some (.ref D) → ∀ p ∈ iss, ∃ C, mg p.1 = some (.ref C) ∧ PySem.W.kitOne K (.ref D) (.ref C) = some p.2
section
variable {X : Cx} {a D dd : Addr} {oe : Obj} {pn : List (Addr × Obj)} {x cn c2 fl : Str} {b : Bool} {px p1 p2 pos : Pos} {fls : List Str} {iss : List (Str × Bool)}
end
theorem kit_of {K : PySem.W.Frag} {D C : Addr} {b : Bool} (h1 : PySem.W.isClsIn K C = true) (h2 : PySem.W.typeIn K (.ref C) = some (.type "type")) (h3 : PySem.W.subIn K (.ref D) (.ref C) = some b) (h4 : PySem.W.subIn K (.ref D) (.ref D) = some true) : PySem.W.kitOne K (.ref D) (.ref C) = some b := by
  unfold PySem.W.kitOne
  by_cases e : D = C
  · subst e
    rw [h4] at h3
    cases h3
    simp
  · have : (Value.ref D == Value.ref C) = false := by simp [e]
    rw [this, if_neg Bool.false_ne_true]
    show (if ((PySem.W.clsIn K C).isSome && PySem.W.typeIn K (.ref C) == some (.type "type")) = true then PySem.W.subIn K (.ref D) (.ref C) else none) = some b
    have h1' : (PySem.W.clsIn K C).isSome = true := h1
    rw [h1', h2]
    exact (if_pos rfl).trans h3
theorem refs_one {E : Addr} : PySem.HandSPX.refsVE [.ref E, .type "ValueError", .type "Exception", .type "BaseException", .type "object"] = true := by
  show PySem.HandSPX.refsVE [.type "ValueError", .type "Exception", .type "BaseException", .type "object"] = true
  decide +kernel
end Tw
end
section
set_option maxRecDepth 100000
set_option maxHeartbeats 1000000
namespace Tw
open PySem PySem.Spec PyProof.Rows L2
section
variable {ρ : Ro}
@[simp ↓] theorem WP_thX {s : SF} {f : XF} {Q : Xc × Ro → Prop} : WP (thX s f ρ) Q ↔ WP (s ρ) fun z => z.1 = .nx ∧ WP (f z.2) Q := by
  unfold thX
  rw [WP_bind]
  constructor
  · rintro ⟨⟨o, ρ1⟩, e, h⟩
    cases o with
    | nx => exact ⟨_, e, rfl, h⟩
    | _ => obtain ⟨_, h, _⟩ := h; cases h
  · rintro ⟨⟨o, ρ1⟩, e, h1, h⟩
    cases h1
    exact ⟨_, e, h⟩
@[simp ↓] theorem WP_ifX {t : TF} {f g : XF} {Q : Xc × Ro → Prop} : WP (ifX t f g ρ) Q ↔ WP (t ρ) fun y => (y.1 = true → WP (f y.2) Q) ∧ (y.1 = false → WP (g y.2) Q) := by
  unfold ifX
  simp only [WP_bind, WP_ite, Bool.not_eq_true]
@[simp ↓] theorem WP_nvX {Q : Xc × Ro → Prop} : WP (nvX ρ) Q ↔ False := WP_none
@[simp ↓] theorem WP_raiseX {cn fl : Str} {f : EF} {Q : Xc × Ro → Prop} : WP (raiseX cn fl f ρ) Q ↔ WP (dv f ρ) fun y => Q (⟨cn, [(fl, y.1)]⟩, y.2) := by
  unfold raiseX
  rw [WP_map]
@[simp ↓] theorem WP_calX {os : List Opd} {G : G0} {Q : Xc × Ro → Prop} : WP (calX os G ρ) Q ↔ WP (evs os ρ) fun x => WP (onlyD x.1) fun ds => WP (G ds) fun y => Q (y, x.2) := by
  unfold calX
  simp only [WP_bind, WP_map]
@[simp ↓] theorem WP_runX {n np : Nat} {b : XF} {ds : List D} {Q : Xc → Prop} : WP (runX n np b ds) Q ↔ ds.length = np ∧ WP (b (ro0 n ds)) fun z => Q z.1 := by
  unfold runX
  rw [WP_ite]
  simp only [WP_map, WP_none, imp_false, Classical.not_not]
  constructor
  · rintro ⟨h1, h2⟩; exact ⟨h2, h1 h2⟩
  · rintro ⟨h1, h2⟩; exact ⟨fun _ => h2, h1⟩
@[simp ↓] theorem WP_callX {cn : Str} {f : EF} {os : List Opd} {G : G0} {Q : Xc × Ro → Prop} : WP (callX cn f os G ρ) Q ↔ WP (dv f ρ) fun d => WP (insD d.1) fun c => c.1 = cn ∧ WP (evs os d.2) fun x => WP (onlyD x.1) fun ds => WP (G (d.1 :: ds)) fun y => Q (y, x.2) := by
  unfold callX
  simp only [WP_bind, WP_ite, WP_map, WP_none, imp_false, Classical.not_not]
  constructor
  · rintro ⟨d, e1, c, e2, h1, h2⟩; exact ⟨d, e1, c, e2, h2, h1 h2⟩
  · rintro ⟨d, e1, c, e2, h2, h1⟩; exact ⟨d, e1, c, e2, fun _ => h1, h2⟩
def exA (a dd : Addr) : Option A → Option (List (Str × D))
  | some (.ex a' d' fs) => if a' = a ∧ d' = dd then some fs else none
  | _ => none
@[simp] theorem exA_ex {a d : Addr} {fs : List (Str × D)} : exA a d (some (.ex a d fs)) = some fs := if_pos ⟨rfl, rfl⟩
@[simp ↓] theorem WP_exF {a dd : Addr} {i : Nat} {fl : Str} {Q : A × Ro → Prop} : WP (exF a dd i fl ρ) Q ↔ WP (exA a dd (at_ ρ i)) fun fs => WP (fs.lookup fl) fun y => Q (.d y, ρ) := by
  unfold exF exA
  cases e : at_ ρ i with
  | none => simp
  | some x =>
    cases x with
    | ex a' d' fs =>
      show WP (if a' = a ∧ d' = dd then _ else none) Q ↔ WP (if a' = a ∧ d' = dd then _ else none) _
      by_cases h : a' = a ∧ d' = dd
      · rw [if_pos h, if_pos h, WP_map, WP_some]
      · rw [if_neg h, if_neg h]; simp
    | _ => simp
@[simp ↓] theorem WP_isX {a dd : Addr} {i : Nat} {b : Bool} {Q : A × Ro → Prop} : WP (isX a dd i b ρ) Q ↔ WP (exA a dd (at_ ρ i)) fun _ => Q (.d (.bl b), ρ) := by
  unfold isX exA
  cases e : at_ ρ i with
  | none => simp
  | some x =>
    cases x with
    | ex a' d' fs =>
      show WP (if a' = a ∧ d' = dd then _ else none) Q ↔ WP (if a' = a ∧ d' = dd then _ else none) _
      by_cases h : a' = a ∧ d' = dd
      · rw [if_pos h, if_pos h, WP_some, WP_some]
      · rw [if_neg h, if_neg h]; simp
    | _ => simp
end
end Tw
end
section
set_option maxRecDepth 100000
set_option maxHeartbeats 1000000
namespace Tw
open PySem PySem.Spec PyProof.Rows L2
def loopX (g : GF) (b : SF) (xb : XF) (fg : List Nat) : List D → Ro → Option (Xc × Ro)
  | [], _ => none
  | d :: r, ρ => (g d ρ).bind fun ρ1 => (xb ρ1).or ((b ρ1).bind fun x => match x.1 with
    | .nx => (forget fg x.2).bind fun ρ2 => loopX g b xb fg r ρ2
    | .ct => (forget fg x.2).bind fun ρ2 => loopX g b xb fg r ρ2
    | _ => none)
def forX (w : WF) (g : GF) (b : SF) (xb : XF) (fg : List Nat) : XF := fun ρ => (w ρ).bind fun x => (forget fg x.2).bind fun ρ2 => loopX g b xb fg x.1 ρ2
section
variable {mg : Str → Option Value} {c c' : Fx} {σ : Sg} {H H' : Hp} {ρ ρ' : Ro} {ts : List D} {tv : List V} {W : WX} {x : Xc}
theorem Lvs.back {T : List D} {TV : List V} (k : Lvs mg c ts tv W ρ x) (b : Back mg c' T TV c ts tv) (hz : ∀ a, c.Z0 a → c'.Z0 a) : Lvs mg c' T TV W ρ x := fun C d us σ H fp hm g hx hzd h0 rep => by
  have zz : ∀ a, Zof c fp a → Zof c' fp a := fun a h => h.elim (fun h => .inl (hz a h)) .inr
  exact k C d us σ H fp hm (b.g g) hx (fun h => hzd (zz _ h)) (b.h0 d h0) (rep.mono fun a u z w => ⟨fun h => z (zz _ h), w⟩)
end
section
variable {X : Cx} {W : WX} {e : Expr} {f : XF} {pos pos' : Pos}
end
section
variable {X : Cx} {W : WX} {tg iter : Expr} {body : List Stmt} {w : WF} {js : List Nat} {g : GF} {b : SF} {xb : XF} {pos : Pos}
end
theorem noX {P : Program} {w : World} {K : PySem.W.Frag} {mg : Str → Option Value} {base : Heap} {k : Nat} {f : Addr} {fd : FuncData} {ps : List Str} : FnOk P w K mg base (L2N.CX P w) k f fd ps (spX mg fun _ => none) := by
  have no : ∀ vs H Q E, ¬ spX mg (fun _ => none) vs H Q E := fun vs H Q E ⟨_, _, _, _, _, e, _⟩ => by cases e
  exact ⟨fun vs H Q E h => absurd h (no vs H Q E), fun A outer s H args us vs Q E _ _ _ _ h => absurd h (no vs H Q E)⟩
section
variable {P : Program} {w : World} {K : PySem.W.Frag} {mg : Str → Option Value} {base : Heap} {nm cn qual : Str} {st : Stmt} {ps : List Str} {k : Nat}
theorem CalX.none (T : DefT K mg nm st ps) : CalX P w K mg base nm ps k fun _ => none := let ⟨f, fd, m, F, bi⟩ := T; ⟨f, fd, m, F.kp, bi, noX⟩
theorem CalMX.none (T : MetT K mg cn nm qual st ps) : CalMX P w K mg base cn nm ps k fun _ => none := let ⟨C, f, fd, m, c, me, F, bi⟩ := T; ⟨C, f, fd, m, c, me, bi, noX⟩
end
@[simp ↓] theorem WP_forX {w : WF} {g : GF} {b : SF} {xb : XF} {fg : List Nat} {ρ : Ro} {Q : Xc × Ro → Prop} : WP (forX w g b xb fg ρ) Q ↔ WP (w ρ) fun x => WP (forget fg x.2) fun ρ2 => WP (loopX g b xb fg x.1 ρ2) Q := by
  unfold forX
  simp only [WP_bind]
end Tw
end
section
set_option maxRecDepth 100000
set_option maxHeartbeats 2000000

namespace PySem
namespace XcNoChange
open PySem.W PySem.Calls PyProof.Rows PySem.HandSPX
def iA (p1 p2 : Pos) : Arguments := { posonlyargs := [], args := [{ arg := "self", annotation := none, pos := p1 }, { arg := "path", annotation := none, pos := p2 }], vararg := none, kwonlyargs := [], kw_defaults := [], kwarg := none, defaults := [] }
def iB (q1 q2 q3 q4 : Pos) : List Stmt := [.Assign [.Attribute (.Name "self" q1) "path" q2] (.Name "path" q3) q4]
def iS : Scope := { kind := .function, names := [(PySem.Str.ofString "self", .local), (PySem.Str.ofString "path", .local)], isGenerator := false, isCoroutine := false, more := [] }
/-- what the written part says of NoChange, at C, and of its __init__, at fI -/
structure NoChangeTxt (K : Frag) (mg : Str → Option Value) (C fI : Addr) : Prop where
  gC : mg "NoChange" = some (.ref C)
  cls : ∃ nm q N bs bm sn sub ab col dd k0 k1 k2 k3 k5, K.lookup C = some (excClassObj nm q C N bs bm true sn sub ab col dd k0 k1 k2 k3 k5 "ValueError.__new__") ∧ refsVE bm = true
  sa : findIn K (.ref C) "__setattr__" = some (some (.builtin "object.__setattr__"))
  ga : findIn K (.ref C) "__getattribute__" = some (some (.builtin "BaseException.__getattribute__"))
  gg : findIn K (.ref C) "__getattr__" = some none
  noN : findIn K (.ref C) "path" = some none
  iC : findIn K (.ref C) "__init__" = some (some (.ref fI))
  tC : typeIn K (.ref fI) = some (.type "function")
  kC : keepIn K (.ref C) = true
  exC : subIn K (.ref C) (.type "BaseException") = some true
  tyC : typeIn K (.ref C) = some (.type "type")
  hdC : hasDictIn K C = true
  te : exmOne K (.ref C) (.ref C) = some true
  fn : ∃ (oc : Value) (od : Option Addr) (doc pm : Value) (an : Option Addr) (cdv ct : Value) (osl : Array (Option Value)) (p1 p2 q1 q2 q3 q4 : Pos),
    K.lookup fI = some ⟨oc, od, .func (fnOf "__init__" "NoChange.__init__" (iA p1 p2) (iB q1 q2 q3 q4) iS .none .none doc pm an cdv ct), osl⟩ ∧ codeIn K cdv "NoChange.__init__" = true
theorem one_size (v : Value) : [v].length ≤ sizeLine := by
  rw [sizeLine_eq]
  exact (by decide : 1 ≤ 16777216)
theorem kept_but {K : Frag} {h h' : Heap} {x : Addr} (X : K.In h) (hx : K.lookup x = none) (k : ∀ b o, b ≠ x → h.get? b = some o → h'.get? b = some o) : K.In h' := fun a o e =>
  k a o (fun z => by rw [z, hx] at e; cases e) (X a o e)
theorem ldC {M : Model} {s : Shared} {name : Str} {scope : Scope} {L a : Addr} {cd : Value} {m : Str → Option Value} {x : Str} {pos : Pos} {v : Value} {Q : Value → Shared → Prop} {A : Around} {E : Value → Shared → Prop} (hn : s.heap.Ns L m) (hv : m x = some v) (h : Q v s)
    (hk : scope.kind = .function := by rfl) (hl : (envOfC name scope L a cd).kindOf x = some .local := by rfl) (hd : (x == ("__debug__" : Str)) = false := by decide) :
    wpAny M A (eval (.Name x pos) (envOfC name scope L a cd)) Q E s := wpAny_Name (wpAny_loadName_local hk hl hn hv h) hd
/-- what __init__ leaves of a fresh exception at x -/
structure InitEnd (h h' : Heap) (x C dx t1 : Addr) (v : Value) : Prop where
  keep : ∀ b o, b ≠ x → h.get? b = some o → h'.get? b = some o
  obj : h'.get? x = some { cls := .ref C, dict := some dx, data := .fields #[.ref t1, .none, .none, .none, .bool false, .none] }
  dbig : h.objs.size ≤ dx
  dne : dx ≠ x
  ns : h'.Ns1 dx (fun y => if y = "path" then some v else none)
/-- a made NoChange -/
structure OwnMade (h h' : Heap) (e C d : Addr) (v : Value) : Prop where
  keep : ∀ b o, h.get? b = some o → h'.get? b = some o
  new : h.objs.size ≤ e
  obj : ∃ oe vs, h'.get? e = some oe ∧ oe.cls = .ref C ∧ oe.dict = some d ∧ oe.data = .fields vs ∧ vs[1]? = some .none ∧ vs[2]? = some .none
  dbig : h.objs.size ≤ d
  dne : d ≠ e
  ns : h'.Ns1 d (fun y => if y = "path" then some v else none)
section
variable {prog : Program} {w : World} {A : Around} {E : Value → Shared → Prop} {R : Result → Shared → Prop} {s : Shared} {K : Frag} {mg : Str → Option Value} {C fI : Addr}
end
end XcNoChange
end PySem
namespace L2
open PySem PySem.Spec PyProof.Rows
section
variable {X : Cx} {C fI : Addr}
end
end L2
end
section
set_option maxRecDepth 100000
set_option maxHeartbeats 2000000
namespace PySem
namespace XcBadCount
open PySem.W PySem.Calls PyProof.Rows PySem.HandSPX Builtin Builtin.ObjectAttr
/-- self.name = v on an exception that has a dict -/
theorem exc_osa2 {prog : Program} {w : World} {A : Around} {R : Result → Shared → Prop} {hp : Heap} {g : Array GenState} {d : Drawn} {t : Nat} {os : OsState} {K : W.Frag} {name : Str} {tk : Tok} {v : Value} {x C dx : Addr} {fv : Array Value} {cd : ClassData} {m0 : Str → Option Value} {nl : List Str}
    (X : K.In hp) (hx : hp.get? x = some { cls := .ref C, dict := some dx, data := .fields fv }) (hns : hp.Ns1 dx m0) (hw : Within m0 nl) (hz : nl.length ≤ 1000) (hcd : W.clsIn K C = some cd) (hm : refsVE cd.mro = true) (hh : cd.hasDict = true) (ha : W.findIn K (.ref C) name = some none)
    (hq : ∀ h' tk', (∀ b o, b ≠ dx → hp.get? b = some o → h'.get? b = some o) → h'.Ns1 dx (fun y => if y = name then some v else m0 y) → R (.ok (.ret .none)) ⟨h', g, d, tk', os⟩) :
    codeAny (model prog w) A (.call (.builtin "object.__setattr__") ⟨[.ref x, .str name tk, v], []⟩) R ⟨hp, g, d, t, os⟩ := by
  obtain ⟨oD, esD, epD, hoD, hdD, _⟩ := hns.count hw
  have I : W.InstAt hp x { cls := .ref C, dict := some dx, data := .fields fv } C (some oD) := ⟨hx, rfl, rfl, hoD⟩
  have SF := F.store_object
  have ne := refsVE_ne hm
  have hob : cd.mro.contains (.type "object") = true := (refsVE_contains "object" _ hm).trans (by decide +kernel)
  have sub : W.Looks (model prog w) hp (isInstance (.ref x) (.type "object")) true := I.type.andThen (W.looks_mroIn X (by unfold W.mroIn; rw [hcd, Option.bind_some, if_neg (by rw [ne]; decide), hob]))
  refine codeAny_call_builtin SF.slot.plain SF.entry (@W.check_slot (model prog w) _ _ ⟨hp, g, d, t, os⟩ "object.__setattr__" "object" "__setattr__" (.ref x) [.str name tk, v] [] _ SF.kind SF.split sub (SF.args (.ref x) (.str name tk) v) ?_)
  have hmr : W.Looks (model prog w) hp (mroOf (.ref C)) cd.mro := (W.looks_clsIn X hcd).andThen .now
  have L3 : W.Looks (model prog w) hp (storeTaker? none) none := .now
  have hcls : W.Looks (model prog w) hp (classData C) cd := W.looks_clsIn X hcd
  rw [W.osa_eq, refuse_eq]
  refine wpAny_bind (wpAny_bind (I.type.at (wpAny_bind (hmr.at ?_))))
  rw [refsVE_pass _ _ hm]
  refine wpAny_pure (wpAny_bind (I.type.at (wpAny_bind ((W.looks_findIn X ha).at (wpAny_bind (L3.at ?_))))))
  show wpAny _ _ (storeInOwnDict (.ref x) (.ref C) (.str name tk) name v false) _ _ _
  obtain ⟨nm, bs, mro, ns, qn, hd, sn, sb, ab, col, del⟩ := cd
  dsimp only at hh
  subst hh
  unfold storeInOwnDict ownDictForStores
  repeat (first | with_reducible refine PySem.ESX.store_in_old hns hw hz ?_ | with_reducible refine wpAny_loadPart_at hx ?_ | with_reducible refine hcls.at ?_ | wp_step)
  intro h' tk' hn' hs
  exact hq h' tk' (fun b o hb ho => (hs.2 b hb).trans ho) hn'
def iA (p1 p2 p3 : Pos) : Arguments := { posonlyargs := [], args := [{ arg := "self", annotation := none, pos := p1 }, { arg := "what", annotation := none, pos := p2 }, { arg := "count", annotation := none, pos := p3 }], vararg := none, kwonlyargs := [], kw_defaults := [], kwarg := none, defaults := [] }
def iB (q1 q2 q3 q4 q5 q6 q7 q8 : Pos) : List Stmt := [.Assign [.Attribute (.Name "self" q1) "what" q2] (.Name "what" q3) q4, .Assign [.Attribute (.Name "self" q5) "count" q6] (.Name "count" q7) q8]
def iS : Scope := { kind := .function, names := [(PySem.Str.ofString "self", .local), (PySem.Str.ofString "what", .local), (PySem.Str.ofString "count", .local)], isGenerator := false, isCoroutine := false, more := [] }
/-- what the written part says of BadCount, at C, and of its __init__, at fI -/
structure BadCountTxt (K : Frag) (mg : Str → Option Value) (C fI : Addr) : Prop where
  gC : mg "BadCount" = some (.ref C)
  cls : ∃ nm q N bs bm sn sub ab col dd k0 k1 k2 k3 k5, K.lookup C = some (excClassObj nm q C N bs bm true sn sub ab col dd k0 k1 k2 k3 k5 "ValueError.__new__") ∧ refsVE bm = true
  sa : findIn K (.ref C) "__setattr__" = some (some (.builtin "object.__setattr__"))
  ga : findIn K (.ref C) "__getattribute__" = some (some (.builtin "BaseException.__getattribute__"))
  gg : findIn K (.ref C) "__getattr__" = some none
  noN : findIn K (.ref C) "what" = some none
  noN2 : findIn K (.ref C) "count" = some none
  iC : findIn K (.ref C) "__init__" = some (some (.ref fI))
  tC : typeIn K (.ref fI) = some (.type "function")
  kC : keepIn K (.ref C) = true
  exC : subIn K (.ref C) (.type "BaseException") = some true
  tyC : typeIn K (.ref C) = some (.type "type")
  hdC : hasDictIn K C = true
  te : exmOne K (.ref C) (.ref C) = some true
  fn : ∃ (oc : Value) (od : Option Addr) (doc pm : Value) (an : Option Addr) (cdv ct : Value) (osl : Array (Option Value)) (p1 p2 p3 q1 q2 q3 q4 q5 q6 q7 q8 : Pos),
    K.lookup fI = some ⟨oc, od, .func (fnOf "__init__" "BadCount.__init__" (iA p1 p2 p3) (iB q1 q2 q3 q4 q5 q6 q7 q8) iS .none .none doc pm an cdv ct), osl⟩ ∧ codeIn K cdv "BadCount.__init__" = true
theorem two_size (v u : Value) : [v, u].length ≤ sizeLine := by
  rw [sizeLine_eq]
  exact (by decide : 2 ≤ 16777216)
theorem kept_but {K : Frag} {h h' : Heap} {x : Addr} (X : K.In h) (hx : K.lookup x = none) (k : ∀ b o, b ≠ x → h.get? b = some o → h'.get? b = some o) : K.In h' := fun a o e =>
  k a o (fun z => by rw [z, hx] at e; cases e) (X a o e)
theorem ldC {M : Model} {s : Shared} {name : Str} {scope : Scope} {L a : Addr} {cd : Value} {m : Str → Option Value} {x : Str} {pos : Pos} {v : Value} {Q : Value → Shared → Prop} {A : Around} {E : Value → Shared → Prop} (hn : s.heap.Ns L m) (hv : m x = some v) (h : Q v s)
    (hk : scope.kind = .function := by rfl) (hl : (envOfC name scope L a cd).kindOf x = some .local := by rfl) (hd : (x == ("__debug__" : Str)) = false := by decide) :
    wpAny M A (eval (.Name x pos) (envOfC name scope L a cd)) Q E s := wpAny_Name (wpAny_loadName_local hk hl hn hv h) hd
/-- what __init__ leaves of a fresh exception at x -/
structure InitEnd (h h' : Heap) (x C dx t1 : Addr) (v u : Value) : Prop where
  keep : ∀ b o, b ≠ x → h.get? b = some o → h'.get? b = some o
  obj : h'.get? x = some { cls := .ref C, dict := some dx, data := .fields #[.ref t1, .none, .none, .none, .bool false, .none] }
  dbig : h.objs.size ≤ dx
  dne : dx ≠ x
  ns : h'.Ns1 dx (fun y => if y = "count" then some u else if y = "what" then some v else none)
/-- a made BadCount -/
structure OwnMade (h h' : Heap) (e C d : Addr) (v u : Value) : Prop where
  keep : ∀ b o, h.get? b = some o → h'.get? b = some o
  new : h.objs.size ≤ e
  obj : ∃ oe vs, h'.get? e = some oe ∧ oe.cls = .ref C ∧ oe.dict = some d ∧ oe.data = .fields vs ∧ vs[1]? = some .none ∧ vs[2]? = some .none
  dbig : h.objs.size ≤ d
  dne : d ≠ e
  ns : h'.Ns1 d (fun y => if y = "count" then some u else if y = "what" then some v else none)
section
variable {prog : Program} {w : World} {A : Around} {E : Value → Shared → Prop} {R : Result → Shared → Prop} {s : Shared} {K : Frag} {mg : Str → Option Value} {C fI : Addr}
end
end XcBadCount
end PySem
namespace Tw
open PySem PySem.Spec PyProof.Rows L2
def tMkF2 (f1 f2 : Str) (C : Addr) (ta : TA) : L2.St → Hp → XK → Prop := fun σ H Q => ta σ H fun vs H1 => ∃ v u, vs = [v, u] ∧ ∀ d, H1 d = none → Q (.ref C) (some d) (upd H1 d (.xd [(f2, u), (f1, v)]))
end Tw
namespace L2
open PySem PySem.Spec PyProof.Rows
section
variable {X : Cx} {C fI : Addr}
end
end L2
end
section
set_option maxRecDepth 100000
set_option maxHeartbeats 2000000
namespace PySem
namespace HSK
open PySem.HandSPX PySem.Calls PyProof.Rows
open Builtin Builtin.ObjectAttr
section
variable {prog : Program} {w : World} {M : Model} {A : Around} {E : Value → Shared → Prop} {R : Result → Shared → Prop} {h : Heap} {g : Array GenState} {d : Drawn} {t : Nat} {os : OsState}
variable {nm q : Str} {C N : Addr} {bs bm bmB : List Value} {hdct : Bool} {sn : List Str} {sub : List Value} {ab : Bool} {col : Option Bool} {dd : Option Addr} {k0 k1 k2 k3 k5 : Option Value} {B newId initId : String} {kw : List (Str × Value)}
theorem check_new_kw (F : ExcBaseFacts B newId initId bmB) (hT : ∀ X : String, bm.contains (.type X) = bmB.contains (.type X)) {rest : List Value} {Q : Unit → Shared → Prop}
    (hC : h.get? C = some (excClassObj nm q C N bs bm hdct sn sub ab col dd k0 k1 k2 k3 k5 newId)) (hq : Q () ⟨h, g, d, t, os⟩) : wpAny M A (checkBuiltinCall newId ⟨.ref C :: rest, kw⟩) Q E ⟨h, g, d, t, os⟩ := by
  have hcont : (Value.ref C :: bm).contains (.type B) = true := by rw [List.contains_cons, hT, F.hasB, Bool.or_true]
  have hstar := F.noStar
  simp only [checkBuiltinCall, F.newKind, F.newSplit, F.newRow]
  repeat (first | refine wpAny_loadPart_at hC ?_ | (refine wpAny_isSubtype_exc hC ?_; rw [hcont]) | refine wpAny_staticBase_exc hC ?_ | refine wpAny_madeBy_exc hC ?_ | simp only [bne_self_eq_false, Bool.false_eq_true, if_false] | wp_step)
  exact hq
theorem new_kw (F : ExcBaseFacts B newId initId bmB) (hT : ∀ X : String, bm.contains (.type X) = bmB.contains (.type X)) {rest : List Value}
    (hC : h.get? C = some (excClassObj nm q C N bs bm hdct sn sub ab col dd k0 k1 k2 k3 k5 newId))
    (hq : R (.ok (.ret (.ref (h.objs.size + 1)))) ⟨(h.push { cls := .type "tuple", data := .seq rest.toArray }).push
      { cls := .ref C, data := .fields #[.ref h.objs.size, .none, .none, .none, .bool false, .none] }, g, d, t, os⟩) (hrest : rest.length ≤ sizeLine) :
    codeAny (model prog w) A (.builtin newId ⟨.ref C :: rest, kw⟩) R ⟨h, g, d, t, os⟩ := by
  have hends := F.ends
  have hcB : (Value.ref C :: bm).contains (.type B) = true := by rw [List.contains_cons, hT, F.hasB, Bool.or_true]
  have hcA : (Value.ref C :: bm).contains (.type "AttributeError") = false := by rw [List.contains_cons, hT, F.noAttr]; rfl
  have hcN : (Value.ref C :: bm).contains (.type "NameError") = false := by rw [List.contains_cons, hT, F.noName]; rfl
  refine codeAny_builtinAt F.entry ?_
  unfold Builtin.«BaseException.__new__»
  refine wpAt_bind ?_
  show wpAt _ _ _ (stack >>= _) _ _ _
  refine wpAt_bind (wpAt_stack fun p below => wpAt_of_wpAny ?_)
  wp_walk
  refine wpAt_of_wpAny ?_
  rw [F.owner]
  repeat (first | with_reducible refine wpAny_madeHere_exc F.canon hC ?_ | with_reducible refine wpAny_loadPart_at hC ?_ | (with_reducible refine wpAny_isSubtype_exc hC ?_; first | rw [hcB] | rw [hcA] | rw [hcN]) | wp_step)
  show R _ _
  rw [Heap.size_push]
  exact hq
theorem type_call_kw (F : ExcBaseFacts B newId initId bmB) (hT : ∀ X : String, bm.contains (.type X) = bmB.contains (.type X)) {rest : List Value} {fI : Addr} {Q : Fin → Shared → Prop}
    (hC : h.get? C = some (excClassObj nm q C N bs bm hdct sn sub ab col dd k0 k1 k2 k3 k5 newId))
    (hi : W.Looks (model prog w) h (typeLookup (.ref C) "__init__") (some (.ref fI))) (hb : ∀ self, W.Looks (model prog w) h (bindSpecial (.ref fI) self) (.ref fI, [self])) (hrest : rest.length ≤ sizeLine)
    (hq : codeAny (model prog w) A (.call (.ref fI) ⟨.ref (h.objs.size + 1) :: rest, kw⟩)
      (fun r s' => match r with | .ok (.ret v) => v = .none ∧ Q (.done (.ret (.ref (h.objs.size + 1)))) s' | .ok _ => False | .error e => E e s')
      ⟨(h.push (W.kdv_tup rest)).push (excO C h.objs.size), g, d, t, os⟩) :
    wpAny (model prog w) A (Builtin.«type.__call__» ⟨.ref C :: rest, kw⟩) Q E ⟨h, g, d, t, os⟩ := by
  repeat (first | with_reducible refine wpAny_loadPart_at hC ?_ | with_reducible refine wpAny_madeBy_exc hC ?_ | wp_step)
  refine codeAny_call_builtin_code (Code.quiet_builtin _ F.quiet) (check_new_kw F hT hC ?_)
  refine new_kw F hT hC ?_ hrest
  show wpAny _ _ _ _ _ _
  have k : ∀ b o, h.get? b = some o → ((h.push (W.kdv_tup rest)).push (excO C h.objs.size)).get? b = some o := fun b o e => Heap.get?_push_of_some _ (Heap.get?_push_of_some _ e)
  have hC₁ := k _ _ hC
  have hget : ((h.push (W.kdv_tup rest)).push (excO C h.objs.size)).get? (h.objs.size + 1) = some (excO C h.objs.size) := by heap_get
  have hcC : (Value.ref C :: bm).contains (.ref C) = true := by simp
  have i1 := hi.keeps k
  have b1 := (hb (.ref (h.objs.size + 1))).keeps k
  unfold isInstance
  repeat (first | with_reducible refine wpAny_loadPart_at hget ?_ | (with_reducible refine wpAny_isSubtype_exc hC₁ ?_; rw [hcC]) | wp_step)
  show wpAny _ _ (typeLookup (.ref C) _) _ _ _
  refine i1.at ?_
  refine wpAny_holding (wpAny_bind (b1.at ?_))
  refine wpAny_bind (wpAny_call (codeAny_mono hq fun r s' z => ?_))
  rcases r with e | (v | _ | _ | _) <;> first | exact z | exact z.elim | skip
  obtain ⟨rfl, z⟩ := z
  first
    | exact wpAny_pure (wpAny_pure z)
    | (wp_walk; exact z)
theorem call_kw (F : ExcBaseFacts B newId initId bmB) (hT : ∀ X : String, bm.contains (.type X) = bmB.contains (.type X)) {rest : List Value} {fI : Addr}
    (hC : h.get? C = some (excClassObj nm q C N bs bm hdct sn sub ab col dd k0 k1 k2 k3 k5 newId))
    (hi : W.Looks (model prog w) h (typeLookup (.ref C) "__init__") (some (.ref fI))) (hb : ∀ self, W.Looks (model prog w) h (bindSpecial (.ref fI) self) (.ref fI, [self])) (hrest : rest.length ≤ sizeLine)
    (hq : codeAny (model prog w) (A.under (.builtin "type.__call__" ⟨.ref C :: rest, kw⟩)) (.call (.ref fI) ⟨.ref (h.objs.size + 1) :: rest, kw⟩) (W.InitBack (h.objs.size + 1) R)
      ⟨(h.push (W.kdv_tup rest)).push (excO C h.objs.size), g, d, t, os⟩) :
    codeAny (model prog w) A (.call (.ref C) ⟨rest, kw⟩) R ⟨h, g, d, t, os⟩ := by
  have f1 := tc_lookup
  have f2 := tc_bind (.ref C)
  have hTy : (⟨h, g, d, t, os⟩ : Shared).TypeIs (.ref C) "type" := ⟨_, hC, rfl⟩
  refine codeAny_of_tree ?_
  show wpAny _ _ (callAny (.ref C) _) _ _ _
  repeat (any_goals (first | assumption | with_reducible refine wpAny_loadPart_at hC ?_ | wp_step))
  refine ⟨rfl, ?_⟩
  refine codeAny_call_builtin_at (Code.quiet_builtin _ (by decide +kernel)) entry_typeCall (wpAny_check_type_call_sub hC (type_call_kw F hT hC hi hb hrest ?_))
  refine codeAny_mono hq fun r s' z => ?_
  rcases r with e | (v | _ | _ | _) <;> exact z
end
end HSK
end PySem
namespace L2
open PySem PySem.Spec PyProof.Rows
section
variable {X : Cx} {pins : List (Addr × Obj)} {σ : St} {H : Hp} {s s' : Shared}
/-- the heap grown by one object that is tracked from now on -/
theorem Inv.grown {a : Addr} {o : HO} (I : Inv X pins σ H s) (k : ∀ b u, s.heap.get? b = some u → s'.heap.get? b = some u) (os : s'.os = s.os) (ag : AllBare s'.gens) (hp : s.heap.get? a = none) (hn : H a = none) (new : ObjOk X.prog X.w (upd H a o) s'.heap a o) :
    Inv X pins σ (upd H a o) s' := by
  have J := Inv.laidN (t' := s'.toks) I k hp hn new
  exact ⟨J.ok, os.trans I.os, ag, J.base, J.loc, J.cell, J.free, J.freeC, J.pin, J.hok, J.len⟩
/-- what makes an exception to be raised makes a value -/
theorem pe_of_mk {e : Expr} {t : St → Hp → XK → Prop} (h : L2N.PMk X e t) : PE X e (fun σ H Q => t σ H fun cls d H' => ∃ C, cls = .ref C ∧ ∀ a, H' a = none → Q (.ref a) (upd H' a (Tw.exv C d a))) := ⟨fun pins s σ H Q I w => by
  refine wpAny_mono (h pins s σ H _ I w) (fun u s1 hu => ?_) fun _ _ x => x
  obtain ⟨a, oe, vs, sI, H', cls, d, rfl, J, k, hne, ha, hz, hd, h1, na, os, ag, r, C, rfl, q⟩ := hu
  have ob : ObjOk X.prog X.w (upd H' a (Tw.exv C d a)) s1.heap a (Tw.exv C d a) := by
    show _ ∧ (∃ o, s1.heap.get? a = some o) ∧ _
    refine ⟨⟨oe, vs, ha, hz.1, hz.2.1, hd⟩, ⟨oe, ha⟩, fun h1 h2 z k => ?_⟩
    obtain ⟨o', v', q1, q2⟩ := z
    exact ⟨o', v', k _ q1, q2⟩
  exact ⟨.ref a, _, J.grown k os ag hne na ob, rfl, q a na⟩⟩
end
end L2
end
section
set_option maxRecDepth 100000
set_option maxHeartbeats 2000000
namespace Tw
open PySem PySem.Spec PyProof.Rows L2
def tMkF2K (f1 f2 : Str) (C : Addr) (ta : TA) : L2.St → Hp → XK → Prop := fun σ H Q => ta σ H fun vs H1 => ∃ v u, vs = [u, v] ∧ ∀ d, H1 d = none → Q (.ref C) (some d) (upd H1 d (.xd [(f2, u), (f1, v)]))
end Tw
namespace PySem
namespace XkNoDocument
open PySem.W PySem.Calls PyProof.Rows PySem.HandSPX
def iA (p1 p2 : Pos) : Arguments := { posonlyargs := [], args := [{ arg := "self", annotation := none, pos := p1 }, { arg := "path", annotation := none, pos := p2 }], vararg := none, kwonlyargs := [], kw_defaults := [], kwarg := none, defaults := [] }
def iB (q1 q2 q3 q4 : Pos) : List Stmt := [.Assign [.Attribute (.Name "self" q1) "path" q2] (.Name "path" q3) q4]
def iS : Scope := { kind := .function, names := [(PySem.Str.ofString "self", .local), (PySem.Str.ofString "path", .local)], isGenerator := false, isCoroutine := false, more := [] }
/-- what the written part says of NoDocument, at C, and of its __init__, at fI -/
structure NoDocumentTxK (K : Frag) (mg : Str → Option Value) (C fI : Addr) : Prop where
  gC : mg "NoDocument" = some (.ref C)
  cls : ∃ nm q N bs bm sn sub ab col dd k0 k1 k2 k3 k5, K.lookup C = some (excClassObj nm q C N bs bm true sn sub ab col dd k0 k1 k2 k3 k5 "ValueError.__new__") ∧ refsVE bm = true
  sa : findIn K (.ref C) "__setattr__" = some (some (.builtin "object.__setattr__"))
  ga : findIn K (.ref C) "__getattribute__" = some (some (.builtin "BaseException.__getattribute__"))
  gg : findIn K (.ref C) "__getattr__" = some none
  noN : findIn K (.ref C) "path" = some none
  iC : findIn K (.ref C) "__init__" = some (some (.ref fI))
  tC : typeIn K (.ref fI) = some (.type "function")
  kC : keepIn K (.ref C) = true
  exC : subIn K (.ref C) (.type "BaseException") = some true
  tyC : typeIn K (.ref C) = some (.type "type")
  hdC : hasDictIn K C = true
  te : exmOne K (.ref C) (.ref C) = some true
  fn : ∃ (oc : Value) (od : Option Addr) (doc pm : Value) (an : Option Addr) (cdv ct : Value) (osl : Array (Option Value)) (p1 p2 q1 q2 q3 q4 : Pos),
    K.lookup fI = some ⟨oc, od, .func (fnOf "__init__" "NoDocument.__init__" (iA p1 p2) (iB q1 q2 q3 q4) iS .none .none doc pm an cdv ct), osl⟩ ∧ codeIn K cdv "NoDocument.__init__" = true
theorem one_size (v : Value) : [v].length ≤ sizeLine := by
  rw [sizeLine_eq]
  exact (by decide : 1 ≤ 16777216)
theorem kept_but {K : Frag} {h h' : Heap} {x : Addr} (X : K.In h) (hx : K.lookup x = none) (k : ∀ b o, b ≠ x → h.get? b = some o → h'.get? b = some o) : K.In h' := fun a o e =>
  k a o (fun z => by rw [z, hx] at e; cases e) (X a o e)
theorem ldC {M : Model} {s : Shared} {name : Str} {scope : Scope} {L a : Addr} {cd : Value} {m : Str → Option Value} {x : Str} {pos : Pos} {v : Value} {Q : Value → Shared → Prop} {A : Around} {E : Value → Shared → Prop} (hn : s.heap.Ns L m) (hv : m x = some v) (h : Q v s)
    (hk : scope.kind = .function := by rfl) (hl : (envOfC name scope L a cd).kindOf x = some .local := by rfl) (hd : (x == ("__debug__" : Str)) = false := by decide) :
    wpAny M A (eval (.Name x pos) (envOfC name scope L a cd)) Q E s := wpAny_Name (wpAny_loadName_local hk hl hn hv h) hd
/-- what __init__ leaves of a fresh exception at x -/
structure InitEnd (h h' : Heap) (x C dx t1 : Addr) (v : Value) : Prop where
  keep : ∀ b o, b ≠ x → h.get? b = some o → h'.get? b = some o
  obj : h'.get? x = some { cls := .ref C, dict := some dx, data := .fields #[.ref t1, .none, .none, .none, .bool false, .none] }
  dbig : h.objs.size ≤ dx
  dne : dx ≠ x
  ns : h'.Ns1 dx (fun y => if y = "path" then some v else none)
/-- a made NoDocument -/
structure OwnMade (h h' : Heap) (e C d : Addr) (v : Value) : Prop where
  keep : ∀ b o, h.get? b = some o → h'.get? b = some o
  new : h.objs.size ≤ e
  obj : ∃ oe vs, h'.get? e = some oe ∧ oe.cls = .ref C ∧ oe.dict = some d ∧ oe.data = .fields vs ∧ vs[1]? = some .none ∧ vs[2]? = some .none
  dbig : h.objs.size ≤ d
  dne : d ≠ e
  ns : h'.Ns1 d (fun y => if y = "path" then some v else none)
section
variable {prog : Program} {w : World} {A : Around} {E : Value → Shared → Prop} {R : Result → Shared → Prop} {s : Shared} {K : Frag} {mg : Str → Option Value} {C fI : Addr}
theorem NoDocumentK_init (T : NoDocumentTxK K mg C fI) {x t0 : Addr} {v : Value} (X : K.In s.heap) (hlim : s.heap.NoLimit) (hx : s.heap.get? x = some (excO C t0)) (hnx : K.lookup x = none) (hroom : A.depth < recursionLimit)
    (hq : ∀ h' tk dx, InitEnd s.heap h' x C dx t0 v → R (.ok (.ret .none)) { s with heap := h', toks := tk }) :
    codeAny (model prog w) A (.call (.ref fI) ⟨[.ref x, v], []⟩) R s := by
  obtain ⟨oc, od, doc, pm, an, cdv, ct, osl, p1, p2, q1, q2, q3, q4, ho, hcd⟩ := T.fn
  obtain ⟨nm, q, N, bs, bm, sn, sub, ab, col, dd, k0, k1, k2, k3, k5, hC, hbm⟩ := T.cls
  have hcl : clsIn K C = some { name := nm, bases := bs, mro := .ref C :: bm, ns := N, qualname := q, hasDict := true, slotNames := sn, subclasses := sub, abstract := ab, collection := col, hasDel := false } := by unfold clsIn; rw [hC] <;> rfl
  refine Att.call_fn (binds := [("self", .ref x), ("path", v)]) X hlim ho hcd hroom (BindsTo.of_eq (by first | rfl | with_unfolding_all rfl)) (by first | rfl | decide | with_unfolding_all rfl) (fun s₁ IC => ?_) rfl rfl rfl
  obtain ⟨h₁, tk₁, rfl⟩ := IC.toInCall.same
  have k : ∀ b o, s.heap.get? b = some o → h₁.get? b = some o := IC.toInCall.keep
  have hn := IC.toInCall.ns
  have hxL : s.heap.objs.size ≠ x := Nat.ne_of_gt (Heap.lt_size hx)
  have X₁ : K.In h₁ := X.keeps k
  have hx₁ := k _ _ hx
  -- self.by = by
  show wpAny _ _ (execs _ _) _ _ _
  refine wpAny_execs_cons (plainObj_wpAny_Assign_Attribute ?_)
  refine ldC (v := v) hn (by first | rfl | with_unfolding_all rfl | kernel_rfl) (ldC (v := .ref x) hn (by first | rfl | with_unfolding_all rfl | kernel_rfl) ?_)
  refine set_plain X₁ (ox := excO C t0) (od := none) ⟨hx₁, rfl, rfl, trivial⟩ T.sa ?_
  refine exc_osa X₁ hx₁ hcl (show refsVE (.ref C :: bm) = true from hbm) rfl T.noN (fun h₃ tk₃ dx k₃ dn dne hx₃ hn₃ => ?_)
  show wpAny _ _ (execs _ _) _ _ _
  have z : s.heap.objs.size < h₁.objs.size := hn.lt
  exact wpAny_execs_nil (hq h₃ tk₃ dx ⟨fun b o hb e => k₃ b o hb (k b o e), hx₃, Nat.le_of_lt (Nat.lt_of_lt_of_le z dn), dne, hn₃⟩)
theorem NoDocumentK_made (T : NoDocumentTxK K mg C fI) {v : Value} (X : K.In s.heap) (hlim : s.heap.NoLimit) (hroom : A.depth + 1 < recursionLimit)
    (hq : ∀ h' tk e d, OwnMade s.heap h' e C d v → R (.ok (.ret (.ref e))) { s with heap := h', toks := tk }) :
    codeAny (model prog w) A (.call (.ref C) ⟨[v], []⟩) R s := by
  obtain ⟨nm, q, N, bs, bm, sn, sub, ab, col, dd, k0, k1, k2, k3, k5, hC, hbm⟩ := T.cls
  obtain ⟨hp, g, dr, tk, os⟩ := s
  have k : ∀ b o, hp.get? b = some o → ((hp.push (kdv_tup [v])).push (excO C hp.objs.size)).get? b = some o := fun b o e => Heap.get?_push_of_some _ (Heap.get?_push_of_some _ e)
  have hget : ((hp.push (kdv_tup [v])).push (excO C hp.objs.size)).get? (hp.objs.size + 1) = some (excO C hp.objs.size) := by heap_get
  have hnx : K.lookup (hp.objs.size + 1) = none := by
    cases e : K.lookup (hp.objs.size + 1) with
    | none => rfl
    | some o =>
      have z : hp.get? (hp.objs.size + 1) = some o := X _ _ e
      exact absurd (Nat.lt_of_succ_lt (Heap.lt_size z)) (Nat.lt_irrefl _)
  refine call_own F.excBase_ValueError (fun X => refsVE_contains X bm hbm) (X _ _ hC) (looks_findIn X T.iC) (fun self => bind_fn X self T.tC) (one_size v) ?_
  refine NoDocumentK_init (s := ⟨(hp.push (kdv_tup [v])).push (excO C hp.objs.size), g, dr, tk, os⟩) T (X.keeps k) (hlim.keeps k) hget hnx ?_ fun h' tk' dx ⟨k', hx, dn, dne, hns⟩ => ?_
  · show A.depth + 1 < recursionLimit
    exact hroom
  · have old : ∀ b o, hp.get? b = some o → h'.get? b = some o := fun b o e => k' b o (Nat.ne_of_lt (Nat.lt_succ_of_lt (Heap.lt_size e))) (k b o e)
    have z : hp.objs.size + 1 + 1 ≤ dx := by
      first
        | (simpa only [Heap.size_push] using dn)
        | exact dn
        | (have q := dn; rw [Heap.size_push, Heap.size_push] at q; exact q)
    exact ⟨rfl, hq h' tk' (hp.objs.size + 1) dx ⟨old, Nat.le_succ _, ⟨_, _, hx, rfl, rfl, rfl, rfl, rfl⟩, Nat.le_trans (Nat.le_trans (Nat.le_succ _) (Nat.le_succ _)) z, dne, hns⟩⟩
theorem NoDocumentK_initK (T : NoDocumentTxK K mg C fI) {x t0 : Addr} {v : Value} (X : K.In s.heap) (hlim : s.heap.NoLimit) (hx : s.heap.get? x = some (excO C t0)) (hnx : K.lookup x = none) (hroom : A.depth < recursionLimit)
    (hq : ∀ h' tk dx, InitEnd s.heap h' x C dx t0 v → R (.ok (.ret .none)) { s with heap := h', toks := tk }) :
    codeAny (model prog w) A (.call (.ref fI) ⟨[.ref x], [("path", v)]⟩) R s := by
  obtain ⟨oc, od, doc, pm, an, cdv, ct, osl, p1, p2, q1, q2, q3, q4, ho, hcd⟩ := T.fn
  obtain ⟨nm, q, N, bs, bm, sn, sub, ab, col, dd, k0, k1, k2, k3, k5, hC, hbm⟩ := T.cls
  have hcl : clsIn K C = some { name := nm, bases := bs, mro := .ref C :: bm, ns := N, qualname := q, hasDict := true, slotNames := sn, subclasses := sub, abstract := ab, collection := col, hasDel := false } := by unfold clsIn; rw [hC] <;> rfl
  refine Att.call_fn (binds := [("self", .ref x), ("path", v)]) X hlim ho hcd hroom (BindsTo.of_eq (by first | rfl | with_unfolding_all rfl)) (by first | rfl | decide | with_unfolding_all rfl) (fun s₁ IC => ?_) rfl rfl rfl
  obtain ⟨h₁, tk₁, rfl⟩ := IC.toInCall.same
  have k : ∀ b o, s.heap.get? b = some o → h₁.get? b = some o := IC.toInCall.keep
  have hn := IC.toInCall.ns
  have hxL : s.heap.objs.size ≠ x := Nat.ne_of_gt (Heap.lt_size hx)
  have X₁ : K.In h₁ := X.keeps k
  have hx₁ := k _ _ hx
  -- self.by = by
  show wpAny _ _ (execs _ _) _ _ _
  refine wpAny_execs_cons (plainObj_wpAny_Assign_Attribute ?_)
  refine ldC (v := v) hn (by first | rfl | with_unfolding_all rfl | kernel_rfl) (ldC (v := .ref x) hn (by first | rfl | with_unfolding_all rfl | kernel_rfl) ?_)
  refine set_plain X₁ (ox := excO C t0) (od := none) ⟨hx₁, rfl, rfl, trivial⟩ T.sa ?_
  refine exc_osa X₁ hx₁ hcl (show refsVE (.ref C :: bm) = true from hbm) rfl T.noN (fun h₃ tk₃ dx k₃ dn dne hx₃ hn₃ => ?_)
  show wpAny _ _ (execs _ _) _ _ _
  have z : s.heap.objs.size < h₁.objs.size := hn.lt
  exact wpAny_execs_nil (hq h₃ tk₃ dx ⟨fun b o hb e => k₃ b o hb (k b o e), hx₃, Nat.le_of_lt (Nat.lt_of_lt_of_le z dn), dne, hn₃⟩)
theorem NoDocumentK_madeK (T : NoDocumentTxK K mg C fI) {v : Value} (X : K.In s.heap) (hlim : s.heap.NoLimit) (hroom : A.depth + 1 < recursionLimit)
    (hq : ∀ h' tk e d, OwnMade s.heap h' e C d v → R (.ok (.ret (.ref e))) { s with heap := h', toks := tk }) :
    codeAny (model prog w) A (.call (.ref C) ⟨[], [("path", v)]⟩) R s := by
  obtain ⟨nm, q, N, bs, bm, sn, sub, ab, col, dd, k0, k1, k2, k3, k5, hC, hbm⟩ := T.cls
  obtain ⟨hp, g, dr, tk, os⟩ := s
  have k : ∀ b o, hp.get? b = some o → ((hp.push (kdv_tup [])).push (excO C hp.objs.size)).get? b = some o := fun b o e => Heap.get?_push_of_some _ (Heap.get?_push_of_some _ e)
  have hget : ((hp.push (kdv_tup [])).push (excO C hp.objs.size)).get? (hp.objs.size + 1) = some (excO C hp.objs.size) := by heap_get
  have hnx : K.lookup (hp.objs.size + 1) = none := by
    cases e : K.lookup (hp.objs.size + 1) with
    | none => rfl
    | some o =>
      have z : hp.get? (hp.objs.size + 1) = some o := X _ _ e
      exact absurd (Nat.lt_of_succ_lt (Heap.lt_size z)) (Nat.lt_irrefl _)
  refine PySem.HSK.call_kw F.excBase_ValueError (fun X => refsVE_contains X bm hbm) (X _ _ hC) (looks_findIn X T.iC) (fun self => bind_fn X self T.tC) (by show 0 ≤ sizeLine; omega) ?_
  refine NoDocumentK_initK (s := ⟨(hp.push (kdv_tup [])).push (excO C hp.objs.size), g, dr, tk, os⟩) T (X.keeps k) (hlim.keeps k) hget hnx ?_ fun h' tk' dx ⟨k', hx, dn, dne, hns⟩ => ?_
  · show A.depth + 1 < recursionLimit
    exact hroom
  · have old : ∀ b o, hp.get? b = some o → h'.get? b = some o := fun b o e => k' b o (Nat.ne_of_lt (Nat.lt_succ_of_lt (Heap.lt_size e))) (k b o e)
    have z : hp.objs.size + 1 + 1 ≤ dx := by
      first
        | (simpa only [Heap.size_push] using dn)
        | exact dn
        | (have q := dn; rw [Heap.size_push, Heap.size_push] at q; exact q)
    exact ⟨rfl, hq h' tk' (hp.objs.size + 1) dx ⟨old, Nat.le_succ _, ⟨_, _, hx, rfl, rfl, rfl, rfl, rfl⟩, Nat.le_trans (Nat.le_trans (Nat.le_succ _) (Nat.le_succ _)) z, dne, hns⟩⟩
end
end XkNoDocument
end PySem
namespace L2
open PySem PySem.Spec PyProof.Rows
theorem relK_NoDocument {v : V} {v' : Value} (r : RelV v v') (f : Str) : RelO (List.lookup f [(("path" : Str), v)]) (if f = "path" then some v' else none) := by
  by_cases hw : f = "path"
  · subst hw
    rw [if_pos rfl]
    have q : List.lookup ("path" : Str) [(("path" : Str), v)] = some v := by simp [List.lookup]
    rw [q]
    exact r
  · rw [if_neg hw]
    have qw : (f == ("path" : Str)) = false := by simpa using hw
    have q2 : List.lookup f [(("path" : Str), v)] = none := by simp [List.lookup, qw]
    rw [q2]
    trivial
section
variable {X : Cx} {C fI : Addr}
theorem pmk_NoDocumentK {a : Expr} {ta : TA} {p pos : Pos} {k : Nat} (T : PySem.XkNoDocument.NoDocumentTxK X.K X.mg C fI) (hr : Room k X.A) (ha : PA X [a] ta) (hg : Gl X "NoDocument" := by rfl)
    (he : starEach (a :: []) X.env = (false, eval a X.env) :: starEach [] X.env := by rfl) (hpl : (backTo pos (starEach [] X.env)).any (·.1) = false := by rfl) :
    L2N.PMk X (.Call (.Name "NoDocument" p) [a] [] pos) (Tw.tMkF "path" C ta) := by
  intro pins s σ H Q I h
  refine wpAny_Call_Name_kw (ld_glob I hg T.gC ?_)
  refine PySem.W.callWith_K (h₀ := X.base) I.ok.mod.kin T.kC (thn (ha.run pos pins s σ H _ I h) fun us s1 hh => ?_) he hpl
  obtain ⟨vs, H1, I1, r1, v, ev, q1⟩ := hh
  subst ev
  refine ⟨I1.kIn, ?_⟩
  cases r1 with
  | cons rv rn =>
    rename_i v' us'
    cases rn
    show wpAny _ _ (call (.ref C) [v']) _ _ _
    have hlim := I1.nolimit
    obtain ⟨hp, g, dr, tk, os⟩ := s1
    refine wpAny_call (PySem.XkNoDocument.NoDocumentK_made T I1.kIn hlim (by have := hr.dp; omega) fun h' tk' e d M => ?_)
    show L2N.MkP X pins σ Q (.ref e) ⟨h', g, dr, tk', os⟩
    obtain ⟨oe, fv, hoe, hc, hd, hdat, h1, h2⟩ := M.obj
    have hns := M.ns
    obtain ⟨G', g1, g2⟩ := restrict h' fun b => decide (b ≠ e)
    have gk : ∀ b, b ≠ e → G'.get? b = h'.get? b := fun b hb => g1 b (decide_eq_true hb)
    have ge : G'.get? e = none := g2 e (by simp)
    have old : ∀ b o, hp.get? b = some o → G'.get? b = some o := fun b o q => (gk b (Nat.ne_of_lt (Nat.lt_of_lt_of_le (Heap.lt_size q) M.new))).trans (M.keep b o q)
    have ob : ObjOk X.prog X.w (upd H1 d (.xd [(("path" : Str), v)])) G' d (.xd [(("path" : Str), v)]) :=
      ⟨_, hns.at (fun o q => (gk d M.dne).trans q), fun f => relK_NoDocument rv f⟩
    have J : Inv X pins σ (upd H1 d (.xd [(("path" : Str), v)])) ⟨G', g, dr, tk', os⟩ := I1.laid (t' := tk') old M.dbig ob
    refine ⟨e, oe, fv, ⟨G', g, dr, tk', os⟩, _, .ref C, some d, rfl, J, fun b o q => ?_, ge, hoe, ⟨hc, hd, fun vs e => by rw [hdat] at e; cases e; exact h2⟩, hdat, h1, ?_, rfl, I1.bare, raises_own T.exC T.tyC, q1 d (I1.hok.fresh M.dbig)⟩
    · by_cases hb : b = e
      · have q' : G'.get? b = some o := q
        rw [hb, ge] at q'; cases q'
      · exact (gk b hb).symm.trans q
    · rw [upd_ne (Ne.symm M.dne)]
      exact I1.hok.fresh M.new
theorem pmkk_NoDocumentK {a : Expr} {kpos : Pos} {ta : TA} {p pos : Pos} {k : Nat} (T : PySem.XkNoDocument.NoDocumentTxK X.K X.mg C fI) (hr : Room k X.A) (ha : PK X [⟨some "path", a, kpos⟩] ta) (hg : Gl X "NoDocument" := by rfl)
    (hall : (backToKw pos (keywordEach [⟨some "path", a, kpos⟩] X.env)).all (·.1.isSome) = true := by rfl) (hks : (backToKw pos (keywordEach [⟨some "path", a, kpos⟩] X.env)).filterMap (·.1) = (["path"] : List Str) := by rfl) (hpl : ((backTo pos (starEach [] X.env)).any (·.1) || (backToKw pos (keywordEach [⟨some "path", a, kpos⟩] X.env)).any (·.1.isNone)) = false := by rfl) :
    L2N.PMk X (.Call (.Name "NoDocument" p) [] [⟨some "path", a, kpos⟩] pos) (Tw.tMkF "path" C ta) := by
  intro pins s σ H Q I h
  refine wpAny_Call_Name_kw (ld_glob I hg T.gC ?_)
  refine PySem.W.callWith_KW0 (h₀ := X.base) I.ok.mod.kin T.kC hall ?_ hpl
  refine thn (ha.run pos pins s σ H _ I h) fun us s1 hh => ?_
  obtain ⟨vs, H1, I1, r1, v, ev, q1⟩ := hh
  subst ev
  refine ⟨I1.kIn, ?_⟩
  rw [hks]
  cases r1 with
  | cons rv rn =>
    rename_i v' us'
    cases rn
    show wpAny _ _ (call (.ref C) [] [("path", v')]) _ _ _
    have hlim := I1.nolimit
    obtain ⟨hp, g, dr, tk, os⟩ := s1
    refine wpAny_call (PySem.XkNoDocument.NoDocumentK_madeK T I1.kIn hlim (by have := hr.dp; omega) fun h' tk' e d M => ?_)
    show L2N.MkP X pins σ Q (.ref e) ⟨h', g, dr, tk', os⟩
    obtain ⟨oe, fv, hoe, hc, hd, hdat, h1, h2⟩ := M.obj
    have hns := M.ns
    obtain ⟨G', g1, g2⟩ := restrict h' fun b => decide (b ≠ e)
    have gk : ∀ b, b ≠ e → G'.get? b = h'.get? b := fun b hb => g1 b (decide_eq_true hb)
    have ge : G'.get? e = none := g2 e (by simp)
    have old : ∀ b o, hp.get? b = some o → G'.get? b = some o := fun b o q => (gk b (Nat.ne_of_lt (Nat.lt_of_lt_of_le (Heap.lt_size q) M.new))).trans (M.keep b o q)
    have ob : ObjOk X.prog X.w (upd H1 d (.xd [(("path" : Str), v)])) G' d (.xd [(("path" : Str), v)]) :=
      ⟨_, hns.at (fun o q => (gk d M.dne).trans q), fun f => relK_NoDocument rv f⟩
    have J : Inv X pins σ (upd H1 d (.xd [(("path" : Str), v)])) ⟨G', g, dr, tk', os⟩ := I1.laid (t' := tk') old M.dbig ob
    refine ⟨e, oe, fv, ⟨G', g, dr, tk', os⟩, _, .ref C, some d, rfl, J, fun b o q => ?_, ge, hoe, ⟨hc, hd, fun vs e => by rw [hdat] at e; cases e; exact h2⟩, hdat, h1, ?_, rfl, I1.bare, raises_own T.exC T.tyC, q1 d (I1.hok.fresh M.dbig)⟩
    · by_cases hb : b = e
      · have q' : G'.get? b = some o := q
        rw [hb, ge] at q'; cases q'
      · exact (gk b hb).symm.trans q
    · rw [upd_ne (Ne.symm M.dne)]
      exact I1.hok.fresh M.new
end
end L2
namespace PySem
namespace XkLarge
open PySem.W PySem.Calls PyProof.Rows PySem.HandSPX
def iA (p1 p2 : Pos) : Arguments := { posonlyargs := [], args := [{ arg := "self", annotation := none, pos := p1 }, { arg := "what", annotation := none, pos := p2 }], vararg := none, kwonlyargs := [], kw_defaults := [], kwarg := none, defaults := [] }
def iB (q1 q2 q3 q4 : Pos) : List Stmt := [.Assign [.Attribute (.Name "self" q1) "what" q2] (.Name "what" q3) q4]
def iS : Scope := { kind := .function, names := [(PySem.Str.ofString "self", .local), (PySem.Str.ofString "what", .local)], isGenerator := false, isCoroutine := false, more := [] }
/-- what the written part says of NoDocument, at C, and of its __init__, at fI -/
structure LargeTxK (K : Frag) (mg : Str → Option Value) (C fI : Addr) : Prop where
  gC : mg "Large" = some (.ref C)
  cls : ∃ nm q N bs bm sn sub ab col dd k0 k1 k2 k3 k5, K.lookup C = some (excClassObj nm q C N bs bm true sn sub ab col dd k0 k1 k2 k3 k5 "ValueError.__new__") ∧ refsVE bm = true
  sa : findIn K (.ref C) "__setattr__" = some (some (.builtin "object.__setattr__"))
  ga : findIn K (.ref C) "__getattribute__" = some (some (.builtin "BaseException.__getattribute__"))
  gg : findIn K (.ref C) "__getattr__" = some none
  noN : findIn K (.ref C) "what" = some none
  iC : findIn K (.ref C) "__init__" = some (some (.ref fI))
  tC : typeIn K (.ref fI) = some (.type "function")
  kC : keepIn K (.ref C) = true
  exC : subIn K (.ref C) (.type "BaseException") = some true
  tyC : typeIn K (.ref C) = some (.type "type")
  hdC : hasDictIn K C = true
  te : exmOne K (.ref C) (.ref C) = some true
  fn : ∃ (oc : Value) (od : Option Addr) (doc pm : Value) (an : Option Addr) (cdv ct : Value) (osl : Array (Option Value)) (p1 p2 q1 q2 q3 q4 : Pos),
    K.lookup fI = some ⟨oc, od, .func (fnOf "__init__" "Large.__init__" (iA p1 p2) (iB q1 q2 q3 q4) iS .none .none doc pm an cdv ct), osl⟩ ∧ codeIn K cdv "Large.__init__" = true
theorem one_size (v : Value) : [v].length ≤ sizeLine := by
  rw [sizeLine_eq]
  exact (by decide : 1 ≤ 16777216)
theorem kept_but {K : Frag} {h h' : Heap} {x : Addr} (X : K.In h) (hx : K.lookup x = none) (k : ∀ b o, b ≠ x → h.get? b = some o → h'.get? b = some o) : K.In h' := fun a o e =>
  k a o (fun z => by rw [z, hx] at e; cases e) (X a o e)
theorem ldC {M : Model} {s : Shared} {name : Str} {scope : Scope} {L a : Addr} {cd : Value} {m : Str → Option Value} {x : Str} {pos : Pos} {v : Value} {Q : Value → Shared → Prop} {A : Around} {E : Value → Shared → Prop} (hn : s.heap.Ns L m) (hv : m x = some v) (h : Q v s)
    (hk : scope.kind = .function := by rfl) (hl : (envOfC name scope L a cd).kindOf x = some .local := by rfl) (hd : (x == ("__debug__" : Str)) = false := by decide) :
    wpAny M A (eval (.Name x pos) (envOfC name scope L a cd)) Q E s := wpAny_Name (wpAny_loadName_local hk hl hn hv h) hd
/-- what __init__ leaves of a fresh exception at x -/
structure InitEnd (h h' : Heap) (x C dx t1 : Addr) (v : Value) : Prop where
  keep : ∀ b o, b ≠ x → h.get? b = some o → h'.get? b = some o
  obj : h'.get? x = some { cls := .ref C, dict := some dx, data := .fields #[.ref t1, .none, .none, .none, .bool false, .none] }
  dbig : h.objs.size ≤ dx
  dne : dx ≠ x
  ns : h'.Ns1 dx (fun y => if y = "what" then some v else none)
/-- a made NoDocument -/
structure OwnMade (h h' : Heap) (e C d : Addr) (v : Value) : Prop where
  keep : ∀ b o, h.get? b = some o → h'.get? b = some o
  new : h.objs.size ≤ e
  obj : ∃ oe vs, h'.get? e = some oe ∧ oe.cls = .ref C ∧ oe.dict = some d ∧ oe.data = .fields vs ∧ vs[1]? = some .none ∧ vs[2]? = some .none
  dbig : h.objs.size ≤ d
  dne : d ≠ e
  ns : h'.Ns1 d (fun y => if y = "what" then some v else none)
section
variable {prog : Program} {w : World} {A : Around} {E : Value → Shared → Prop} {R : Result → Shared → Prop} {s : Shared} {K : Frag} {mg : Str → Option Value} {C fI : Addr}
theorem LargeK_init (T : LargeTxK K mg C fI) {x t0 : Addr} {v : Value} (X : K.In s.heap) (hlim : s.heap.NoLimit) (hx : s.heap.get? x = some (excO C t0)) (hnx : K.lookup x = none) (hroom : A.depth < recursionLimit)
    (hq : ∀ h' tk dx, InitEnd s.heap h' x C dx t0 v → R (.ok (.ret .none)) { s with heap := h', toks := tk }) :
    codeAny (model prog w) A (.call (.ref fI) ⟨[.ref x, v], []⟩) R s := by
  obtain ⟨oc, od, doc, pm, an, cdv, ct, osl, p1, p2, q1, q2, q3, q4, ho, hcd⟩ := T.fn
  obtain ⟨nm, q, N, bs, bm, sn, sub, ab, col, dd, k0, k1, k2, k3, k5, hC, hbm⟩ := T.cls
  have hcl : clsIn K C = some { name := nm, bases := bs, mro := .ref C :: bm, ns := N, qualname := q, hasDict := true, slotNames := sn, subclasses := sub, abstract := ab, collection := col, hasDel := false } := by unfold clsIn; rw [hC] <;> rfl
  refine Att.call_fn (binds := [("self", .ref x), ("what", v)]) X hlim ho hcd hroom (BindsTo.of_eq (by first | rfl | with_unfolding_all rfl)) (by first | rfl | decide | with_unfolding_all rfl) (fun s₁ IC => ?_) rfl rfl rfl
  obtain ⟨h₁, tk₁, rfl⟩ := IC.toInCall.same
  have k : ∀ b o, s.heap.get? b = some o → h₁.get? b = some o := IC.toInCall.keep
  have hn := IC.toInCall.ns
  have hxL : s.heap.objs.size ≠ x := Nat.ne_of_gt (Heap.lt_size hx)
  have X₁ : K.In h₁ := X.keeps k
  have hx₁ := k _ _ hx
  -- self.by = by
  show wpAny _ _ (execs _ _) _ _ _
  refine wpAny_execs_cons (plainObj_wpAny_Assign_Attribute ?_)
  refine ldC (v := v) hn (by first | rfl | with_unfolding_all rfl | kernel_rfl) (ldC (v := .ref x) hn (by first | rfl | with_unfolding_all rfl | kernel_rfl) ?_)
  refine set_plain X₁ (ox := excO C t0) (od := none) ⟨hx₁, rfl, rfl, trivial⟩ T.sa ?_
  refine exc_osa X₁ hx₁ hcl (show refsVE (.ref C :: bm) = true from hbm) rfl T.noN (fun h₃ tk₃ dx k₃ dn dne hx₃ hn₃ => ?_)
  show wpAny _ _ (execs _ _) _ _ _
  have z : s.heap.objs.size < h₁.objs.size := hn.lt
  exact wpAny_execs_nil (hq h₃ tk₃ dx ⟨fun b o hb e => k₃ b o hb (k b o e), hx₃, Nat.le_of_lt (Nat.lt_of_lt_of_le z dn), dne, hn₃⟩)
theorem LargeK_made (T : LargeTxK K mg C fI) {v : Value} (X : K.In s.heap) (hlim : s.heap.NoLimit) (hroom : A.depth + 1 < recursionLimit)
    (hq : ∀ h' tk e d, OwnMade s.heap h' e C d v → R (.ok (.ret (.ref e))) { s with heap := h', toks := tk }) :
    codeAny (model prog w) A (.call (.ref C) ⟨[v], []⟩) R s := by
  obtain ⟨nm, q, N, bs, bm, sn, sub, ab, col, dd, k0, k1, k2, k3, k5, hC, hbm⟩ := T.cls
  obtain ⟨hp, g, dr, tk, os⟩ := s
  have k : ∀ b o, hp.get? b = some o → ((hp.push (kdv_tup [v])).push (excO C hp.objs.size)).get? b = some o := fun b o e => Heap.get?_push_of_some _ (Heap.get?_push_of_some _ e)
  have hget : ((hp.push (kdv_tup [v])).push (excO C hp.objs.size)).get? (hp.objs.size + 1) = some (excO C hp.objs.size) := by heap_get
  have hnx : K.lookup (hp.objs.size + 1) = none := by
    cases e : K.lookup (hp.objs.size + 1) with
    | none => rfl
    | some o =>
      have z : hp.get? (hp.objs.size + 1) = some o := X _ _ e
      exact absurd (Nat.lt_of_succ_lt (Heap.lt_size z)) (Nat.lt_irrefl _)
  refine call_own F.excBase_ValueError (fun X => refsVE_contains X bm hbm) (X _ _ hC) (looks_findIn X T.iC) (fun self => bind_fn X self T.tC) (one_size v) ?_
  refine LargeK_init (s := ⟨(hp.push (kdv_tup [v])).push (excO C hp.objs.size), g, dr, tk, os⟩) T (X.keeps k) (hlim.keeps k) hget hnx ?_ fun h' tk' dx ⟨k', hx, dn, dne, hns⟩ => ?_
  · show A.depth + 1 < recursionLimit
    exact hroom
  · have old : ∀ b o, hp.get? b = some o → h'.get? b = some o := fun b o e => k' b o (Nat.ne_of_lt (Nat.lt_succ_of_lt (Heap.lt_size e))) (k b o e)
    have z : hp.objs.size + 1 + 1 ≤ dx := by
      first
        | (simpa only [Heap.size_push] using dn)
        | exact dn
        | (have q := dn; rw [Heap.size_push, Heap.size_push] at q; exact q)
    exact ⟨rfl, hq h' tk' (hp.objs.size + 1) dx ⟨old, Nat.le_succ _, ⟨_, _, hx, rfl, rfl, rfl, rfl, rfl⟩, Nat.le_trans (Nat.le_trans (Nat.le_succ _) (Nat.le_succ _)) z, dne, hns⟩⟩
theorem LargeK_initK (T : LargeTxK K mg C fI) {x t0 : Addr} {v : Value} (X : K.In s.heap) (hlim : s.heap.NoLimit) (hx : s.heap.get? x = some (excO C t0)) (hnx : K.lookup x = none) (hroom : A.depth < recursionLimit)
    (hq : ∀ h' tk dx, InitEnd s.heap h' x C dx t0 v → R (.ok (.ret .none)) { s with heap := h', toks := tk }) :
    codeAny (model prog w) A (.call (.ref fI) ⟨[.ref x], [("what", v)]⟩) R s := by
  obtain ⟨oc, od, doc, pm, an, cdv, ct, osl, p1, p2, q1, q2, q3, q4, ho, hcd⟩ := T.fn
  obtain ⟨nm, q, N, bs, bm, sn, sub, ab, col, dd, k0, k1, k2, k3, k5, hC, hbm⟩ := T.cls
  have hcl : clsIn K C = some { name := nm, bases := bs, mro := .ref C :: bm, ns := N, qualname := q, hasDict := true, slotNames := sn, subclasses := sub, abstract := ab, collection := col, hasDel := false } := by unfold clsIn; rw [hC] <;> rfl
  refine Att.call_fn (binds := [("self", .ref x), ("what", v)]) X hlim ho hcd hroom (BindsTo.of_eq (by first | rfl | with_unfolding_all rfl)) (by first | rfl | decide | with_unfolding_all rfl) (fun s₁ IC => ?_) rfl rfl rfl
  obtain ⟨h₁, tk₁, rfl⟩ := IC.toInCall.same
  have k : ∀ b o, s.heap.get? b = some o → h₁.get? b = some o := IC.toInCall.keep
  have hn := IC.toInCall.ns
  have hxL : s.heap.objs.size ≠ x := Nat.ne_of_gt (Heap.lt_size hx)
  have X₁ : K.In h₁ := X.keeps k
  have hx₁ := k _ _ hx
  -- self.by = by
  show wpAny _ _ (execs _ _) _ _ _
  refine wpAny_execs_cons (plainObj_wpAny_Assign_Attribute ?_)
  refine ldC (v := v) hn (by first | rfl | with_unfolding_all rfl | kernel_rfl) (ldC (v := .ref x) hn (by first | rfl | with_unfolding_all rfl | kernel_rfl) ?_)
  refine set_plain X₁ (ox := excO C t0) (od := none) ⟨hx₁, rfl, rfl, trivial⟩ T.sa ?_
  refine exc_osa X₁ hx₁ hcl (show refsVE (.ref C :: bm) = true from hbm) rfl T.noN (fun h₃ tk₃ dx k₃ dn dne hx₃ hn₃ => ?_)
  show wpAny _ _ (execs _ _) _ _ _
  have z : s.heap.objs.size < h₁.objs.size := hn.lt
  exact wpAny_execs_nil (hq h₃ tk₃ dx ⟨fun b o hb e => k₃ b o hb (k b o e), hx₃, Nat.le_of_lt (Nat.lt_of_lt_of_le z dn), dne, hn₃⟩)
theorem LargeK_madeK (T : LargeTxK K mg C fI) {v : Value} (X : K.In s.heap) (hlim : s.heap.NoLimit) (hroom : A.depth + 1 < recursionLimit)
    (hq : ∀ h' tk e d, OwnMade s.heap h' e C d v → R (.ok (.ret (.ref e))) { s with heap := h', toks := tk }) :
    codeAny (model prog w) A (.call (.ref C) ⟨[], [("what", v)]⟩) R s := by
  obtain ⟨nm, q, N, bs, bm, sn, sub, ab, col, dd, k0, k1, k2, k3, k5, hC, hbm⟩ := T.cls
  obtain ⟨hp, g, dr, tk, os⟩ := s
  have k : ∀ b o, hp.get? b = some o → ((hp.push (kdv_tup [])).push (excO C hp.objs.size)).get? b = some o := fun b o e => Heap.get?_push_of_some _ (Heap.get?_push_of_some _ e)
  have hget : ((hp.push (kdv_tup [])).push (excO C hp.objs.size)).get? (hp.objs.size + 1) = some (excO C hp.objs.size) := by heap_get
  have hnx : K.lookup (hp.objs.size + 1) = none := by
    cases e : K.lookup (hp.objs.size + 1) with
    | none => rfl
    | some o =>
      have z : hp.get? (hp.objs.size + 1) = some o := X _ _ e
      exact absurd (Nat.lt_of_succ_lt (Heap.lt_size z)) (Nat.lt_irrefl _)
  refine PySem.HSK.call_kw F.excBase_ValueError (fun X => refsVE_contains X bm hbm) (X _ _ hC) (looks_findIn X T.iC) (fun self => bind_fn X self T.tC) (by show 0 ≤ sizeLine; omega) ?_
  refine LargeK_initK (s := ⟨(hp.push (kdv_tup [])).push (excO C hp.objs.size), g, dr, tk, os⟩) T (X.keeps k) (hlim.keeps k) hget hnx ?_ fun h' tk' dx ⟨k', hx, dn, dne, hns⟩ => ?_
  · show A.depth + 1 < recursionLimit
    exact hroom
  · have old : ∀ b o, hp.get? b = some o → h'.get? b = some o := fun b o e => k' b o (Nat.ne_of_lt (Nat.lt_succ_of_lt (Heap.lt_size e))) (k b o e)
    have z : hp.objs.size + 1 + 1 ≤ dx := by
      first
        | (simpa only [Heap.size_push] using dn)
        | exact dn
        | (have q := dn; rw [Heap.size_push, Heap.size_push] at q; exact q)
    exact ⟨rfl, hq h' tk' (hp.objs.size + 1) dx ⟨old, Nat.le_succ _, ⟨_, _, hx, rfl, rfl, rfl, rfl, rfl⟩, Nat.le_trans (Nat.le_trans (Nat.le_succ _) (Nat.le_succ _)) z, dne, hns⟩⟩
end
end XkLarge
end PySem
namespace L2
open PySem PySem.Spec PyProof.Rows
theorem relK_Large {v : V} {v' : Value} (r : RelV v v') (f : Str) : RelO (List.lookup f [(("what" : Str), v)]) (if f = "what" then some v' else none) := by
  by_cases hw : f = "what"
  · subst hw
    rw [if_pos rfl]
    have q : List.lookup ("what" : Str) [(("what" : Str), v)] = some v := by simp [List.lookup]
    rw [q]
    exact r
  · rw [if_neg hw]
    have qw : (f == ("what" : Str)) = false := by simpa using hw
    have q2 : List.lookup f [(("what" : Str), v)] = none := by simp [List.lookup, qw]
    rw [q2]
    trivial
section
variable {X : Cx} {C fI : Addr}
theorem pmk_LargeK {a : Expr} {ta : TA} {p pos : Pos} {k : Nat} (T : PySem.XkLarge.LargeTxK X.K X.mg C fI) (hr : Room k X.A) (ha : PA X [a] ta) (hg : Gl X "Large" := by rfl)
    (he : starEach (a :: []) X.env = (false, eval a X.env) :: starEach [] X.env := by rfl) (hpl : (backTo pos (starEach [] X.env)).any (·.1) = false := by rfl) :
    L2N.PMk X (.Call (.Name "Large" p) [a] [] pos) (Tw.tMkF "what" C ta) := by
  intro pins s σ H Q I h
  refine wpAny_Call_Name_kw (ld_glob I hg T.gC ?_)
  refine PySem.W.callWith_K (h₀ := X.base) I.ok.mod.kin T.kC (thn (ha.run pos pins s σ H _ I h) fun us s1 hh => ?_) he hpl
  obtain ⟨vs, H1, I1, r1, v, ev, q1⟩ := hh
  subst ev
  refine ⟨I1.kIn, ?_⟩
  cases r1 with
  | cons rv rn =>
    rename_i v' us'
    cases rn
    show wpAny _ _ (call (.ref C) [v']) _ _ _
    have hlim := I1.nolimit
    obtain ⟨hp, g, dr, tk, os⟩ := s1
    refine wpAny_call (PySem.XkLarge.LargeK_made T I1.kIn hlim (by have := hr.dp; omega) fun h' tk' e d M => ?_)
    show L2N.MkP X pins σ Q (.ref e) ⟨h', g, dr, tk', os⟩
    obtain ⟨oe, fv, hoe, hc, hd, hdat, h1, h2⟩ := M.obj
    have hns := M.ns
    obtain ⟨G', g1, g2⟩ := restrict h' fun b => decide (b ≠ e)
    have gk : ∀ b, b ≠ e → G'.get? b = h'.get? b := fun b hb => g1 b (decide_eq_true hb)
    have ge : G'.get? e = none := g2 e (by simp)
    have old : ∀ b o, hp.get? b = some o → G'.get? b = some o := fun b o q => (gk b (Nat.ne_of_lt (Nat.lt_of_lt_of_le (Heap.lt_size q) M.new))).trans (M.keep b o q)
    have ob : ObjOk X.prog X.w (upd H1 d (.xd [(("what" : Str), v)])) G' d (.xd [(("what" : Str), v)]) :=
      ⟨_, hns.at (fun o q => (gk d M.dne).trans q), fun f => relK_Large rv f⟩
    have J : Inv X pins σ (upd H1 d (.xd [(("what" : Str), v)])) ⟨G', g, dr, tk', os⟩ := I1.laid (t' := tk') old M.dbig ob
    refine ⟨e, oe, fv, ⟨G', g, dr, tk', os⟩, _, .ref C, some d, rfl, J, fun b o q => ?_, ge, hoe, ⟨hc, hd, fun vs e => by rw [hdat] at e; cases e; exact h2⟩, hdat, h1, ?_, rfl, I1.bare, raises_own T.exC T.tyC, q1 d (I1.hok.fresh M.dbig)⟩
    · by_cases hb : b = e
      · have q' : G'.get? b = some o := q
        rw [hb, ge] at q'; cases q'
      · exact (gk b hb).symm.trans q
    · rw [upd_ne (Ne.symm M.dne)]
      exact I1.hok.fresh M.new
theorem pmkk_LargeK {a : Expr} {kpos : Pos} {ta : TA} {p pos : Pos} {k : Nat} (T : PySem.XkLarge.LargeTxK X.K X.mg C fI) (hr : Room k X.A) (ha : PK X [⟨some "what", a, kpos⟩] ta) (hg : Gl X "Large" := by rfl)
    (hall : (backToKw pos (keywordEach [⟨some "what", a, kpos⟩] X.env)).all (·.1.isSome) = true := by rfl) (hks : (backToKw pos (keywordEach [⟨some "what", a, kpos⟩] X.env)).filterMap (·.1) = (["what"] : List Str) := by rfl) (hpl : ((backTo pos (starEach [] X.env)).any (·.1) || (backToKw pos (keywordEach [⟨some "what", a, kpos⟩] X.env)).any (·.1.isNone)) = false := by rfl) :
    L2N.PMk X (.Call (.Name "Large" p) [] [⟨some "what", a, kpos⟩] pos) (Tw.tMkF "what" C ta) := by
  intro pins s σ H Q I h
  refine wpAny_Call_Name_kw (ld_glob I hg T.gC ?_)
  refine PySem.W.callWith_KW0 (h₀ := X.base) I.ok.mod.kin T.kC hall ?_ hpl
  refine thn (ha.run pos pins s σ H _ I h) fun us s1 hh => ?_
  obtain ⟨vs, H1, I1, r1, v, ev, q1⟩ := hh
  subst ev
  refine ⟨I1.kIn, ?_⟩
  rw [hks]
  cases r1 with
  | cons rv rn =>
    rename_i v' us'
    cases rn
    show wpAny _ _ (call (.ref C) [] [("what", v')]) _ _ _
    have hlim := I1.nolimit
    obtain ⟨hp, g, dr, tk, os⟩ := s1
    refine wpAny_call (PySem.XkLarge.LargeK_madeK T I1.kIn hlim (by have := hr.dp; omega) fun h' tk' e d M => ?_)
    show L2N.MkP X pins σ Q (.ref e) ⟨h', g, dr, tk', os⟩
    obtain ⟨oe, fv, hoe, hc, hd, hdat, h1, h2⟩ := M.obj
    have hns := M.ns
    obtain ⟨G', g1, g2⟩ := restrict h' fun b => decide (b ≠ e)
    have gk : ∀ b, b ≠ e → G'.get? b = h'.get? b := fun b hb => g1 b (decide_eq_true hb)
    have ge : G'.get? e = none := g2 e (by simp)
    have old : ∀ b o, hp.get? b = some o → G'.get? b = some o := fun b o q => (gk b (Nat.ne_of_lt (Nat.lt_of_lt_of_le (Heap.lt_size q) M.new))).trans (M.keep b o q)
    have ob : ObjOk X.prog X.w (upd H1 d (.xd [(("what" : Str), v)])) G' d (.xd [(("what" : Str), v)]) :=
      ⟨_, hns.at (fun o q => (gk d M.dne).trans q), fun f => relK_Large rv f⟩
    have J : Inv X pins σ (upd H1 d (.xd [(("what" : Str), v)])) ⟨G', g, dr, tk', os⟩ := I1.laid (t' := tk') old M.dbig ob
    refine ⟨e, oe, fv, ⟨G', g, dr, tk', os⟩, _, .ref C, some d, rfl, J, fun b o q => ?_, ge, hoe, ⟨hc, hd, fun vs e => by rw [hdat] at e; cases e; exact h2⟩, hdat, h1, ?_, rfl, I1.bare, raises_own T.exC T.tyC, q1 d (I1.hok.fresh M.dbig)⟩
    · by_cases hb : b = e
      · have q' : G'.get? b = some o := q
        rw [hb, ge] at q'; cases q'
      · exact (gk b hb).symm.trans q
    · rw [upd_ne (Ne.symm M.dne)]
      exact I1.hok.fresh M.new
end
end L2
namespace PySem
namespace XkNoChange
open PySem.W PySem.Calls PyProof.Rows PySem.HandSPX
def iA (p1 p2 : Pos) : Arguments := { posonlyargs := [], args := [{ arg := "self", annotation := none, pos := p1 }, { arg := "path", annotation := none, pos := p2 }], vararg := none, kwonlyargs := [], kw_defaults := [], kwarg := none, defaults := [] }
def iB (q1 q2 q3 q4 : Pos) : List Stmt := [.Assign [.Attribute (.Name "self" q1) "path" q2] (.Name "path" q3) q4]
def iS : Scope := { kind := .function, names := [(PySem.Str.ofString "self", .local), (PySem.Str.ofString "path", .local)], isGenerator := false, isCoroutine := false, more := [] }
/-- what the written part says of NoDocument, at C, and of its __init__, at fI -/
structure NoChangeTxK (K : Frag) (mg : Str → Option Value) (C fI : Addr) : Prop where
  gC : mg "NoChange" = some (.ref C)
  cls : ∃ nm q N bs bm sn sub ab col dd k0 k1 k2 k3 k5, K.lookup C = some (excClassObj nm q C N bs bm true sn sub ab col dd k0 k1 k2 k3 k5 "ValueError.__new__") ∧ refsVE bm = true
  sa : findIn K (.ref C) "__setattr__" = some (some (.builtin "object.__setattr__"))
  ga : findIn K (.ref C) "__getattribute__" = some (some (.builtin "BaseException.__getattribute__"))
  gg : findIn K (.ref C) "__getattr__" = some none
  noN : findIn K (.ref C) "path" = some none
  iC : findIn K (.ref C) "__init__" = some (some (.ref fI))
  tC : typeIn K (.ref fI) = some (.type "function")
  kC : keepIn K (.ref C) = true
  exC : subIn K (.ref C) (.type "BaseException") = some true
  tyC : typeIn K (.ref C) = some (.type "type")
  hdC : hasDictIn K C = true
  te : exmOne K (.ref C) (.ref C) = some true
  fn : ∃ (oc : Value) (od : Option Addr) (doc pm : Value) (an : Option Addr) (cdv ct : Value) (osl : Array (Option Value)) (p1 p2 q1 q2 q3 q4 : Pos),
    K.lookup fI = some ⟨oc, od, .func (fnOf "__init__" "NoChange.__init__" (iA p1 p2) (iB q1 q2 q3 q4) iS .none .none doc pm an cdv ct), osl⟩ ∧ codeIn K cdv "NoChange.__init__" = true
theorem one_size (v : Value) : [v].length ≤ sizeLine := by
  rw [sizeLine_eq]
  exact (by decide : 1 ≤ 16777216)
theorem kept_but {K : Frag} {h h' : Heap} {x : Addr} (X : K.In h) (hx : K.lookup x = none) (k : ∀ b o, b ≠ x → h.get? b = some o → h'.get? b = some o) : K.In h' := fun a o e =>
  k a o (fun z => by rw [z, hx] at e; cases e) (X a o e)
theorem ldC {M : Model} {s : Shared} {name : Str} {scope : Scope} {L a : Addr} {cd : Value} {m : Str → Option Value} {x : Str} {pos : Pos} {v : Value} {Q : Value → Shared → Prop} {A : Around} {E : Value → Shared → Prop} (hn : s.heap.Ns L m) (hv : m x = some v) (h : Q v s)
    (hk : scope.kind = .function := by rfl) (hl : (envOfC name scope L a cd).kindOf x = some .local := by rfl) (hd : (x == ("__debug__" : Str)) = false := by decide) :
    wpAny M A (eval (.Name x pos) (envOfC name scope L a cd)) Q E s := wpAny_Name (wpAny_loadName_local hk hl hn hv h) hd
/-- what __init__ leaves of a fresh exception at x -/
structure InitEnd (h h' : Heap) (x C dx t1 : Addr) (v : Value) : Prop where
  keep : ∀ b o, b ≠ x → h.get? b = some o → h'.get? b = some o
  obj : h'.get? x = some { cls := .ref C, dict := some dx, data := .fields #[.ref t1, .none, .none, .none, .bool false, .none] }
  dbig : h.objs.size ≤ dx
  dne : dx ≠ x
  ns : h'.Ns1 dx (fun y => if y = "path" then some v else none)
/-- a made NoDocument -/
structure OwnMade (h h' : Heap) (e C d : Addr) (v : Value) : Prop where
  keep : ∀ b o, h.get? b = some o → h'.get? b = some o
  new : h.objs.size ≤ e
  obj : ∃ oe vs, h'.get? e = some oe ∧ oe.cls = .ref C ∧ oe.dict = some d ∧ oe.data = .fields vs ∧ vs[1]? = some .none ∧ vs[2]? = some .none
  dbig : h.objs.size ≤ d
  dne : d ≠ e
  ns : h'.Ns1 d (fun y => if y = "path" then some v else none)
section
variable {prog : Program} {w : World} {A : Around} {E : Value → Shared → Prop} {R : Result → Shared → Prop} {s : Shared} {K : Frag} {mg : Str → Option Value} {C fI : Addr}
theorem NoChangeK_init (T : NoChangeTxK K mg C fI) {x t0 : Addr} {v : Value} (X : K.In s.heap) (hlim : s.heap.NoLimit) (hx : s.heap.get? x = some (excO C t0)) (hnx : K.lookup x = none) (hroom : A.depth < recursionLimit)
    (hq : ∀ h' tk dx, InitEnd s.heap h' x C dx t0 v → R (.ok (.ret .none)) { s with heap := h', toks := tk }) :
    codeAny (model prog w) A (.call (.ref fI) ⟨[.ref x, v], []⟩) R s := by
  obtain ⟨oc, od, doc, pm, an, cdv, ct, osl, p1, p2, q1, q2, q3, q4, ho, hcd⟩ := T.fn
  obtain ⟨nm, q, N, bs, bm, sn, sub, ab, col, dd, k0, k1, k2, k3, k5, hC, hbm⟩ := T.cls
  have hcl : clsIn K C = some { name := nm, bases := bs, mro := .ref C :: bm, ns := N, qualname := q, hasDict := true, slotNames := sn, subclasses := sub, abstract := ab, collection := col, hasDel := false } := by unfold clsIn; rw [hC] <;> rfl
  refine Att.call_fn (binds := [("self", .ref x), ("path", v)]) X hlim ho hcd hroom (BindsTo.of_eq (by first | rfl | with_unfolding_all rfl)) (by first | rfl | decide | with_unfolding_all rfl) (fun s₁ IC => ?_) rfl rfl rfl
  obtain ⟨h₁, tk₁, rfl⟩ := IC.toInCall.same
  have k : ∀ b o, s.heap.get? b = some o → h₁.get? b = some o := IC.toInCall.keep
  have hn := IC.toInCall.ns
  have hxL : s.heap.objs.size ≠ x := Nat.ne_of_gt (Heap.lt_size hx)
  have X₁ : K.In h₁ := X.keeps k
  have hx₁ := k _ _ hx
  -- self.by = by
  show wpAny _ _ (execs _ _) _ _ _
  refine wpAny_execs_cons (plainObj_wpAny_Assign_Attribute ?_)
  refine ldC (v := v) hn (by first | rfl | with_unfolding_all rfl | kernel_rfl) (ldC (v := .ref x) hn (by first | rfl | with_unfolding_all rfl | kernel_rfl) ?_)
  refine set_plain X₁ (ox := excO C t0) (od := none) ⟨hx₁, rfl, rfl, trivial⟩ T.sa ?_
  refine exc_osa X₁ hx₁ hcl (show refsVE (.ref C :: bm) = true from hbm) rfl T.noN (fun h₃ tk₃ dx k₃ dn dne hx₃ hn₃ => ?_)
  show wpAny _ _ (execs _ _) _ _ _
  have z : s.heap.objs.size < h₁.objs.size := hn.lt
  exact wpAny_execs_nil (hq h₃ tk₃ dx ⟨fun b o hb e => k₃ b o hb (k b o e), hx₃, Nat.le_of_lt (Nat.lt_of_lt_of_le z dn), dne, hn₃⟩)
theorem NoChangeK_made (T : NoChangeTxK K mg C fI) {v : Value} (X : K.In s.heap) (hlim : s.heap.NoLimit) (hroom : A.depth + 1 < recursionLimit)
    (hq : ∀ h' tk e d, OwnMade s.heap h' e C d v → R (.ok (.ret (.ref e))) { s with heap := h', toks := tk }) :
    codeAny (model prog w) A (.call (.ref C) ⟨[v], []⟩) R s := by
  obtain ⟨nm, q, N, bs, bm, sn, sub, ab, col, dd, k0, k1, k2, k3, k5, hC, hbm⟩ := T.cls
  obtain ⟨hp, g, dr, tk, os⟩ := s
  have k : ∀ b o, hp.get? b = some o → ((hp.push (kdv_tup [v])).push (excO C hp.objs.size)).get? b = some o := fun b o e => Heap.get?_push_of_some _ (Heap.get?_push_of_some _ e)
  have hget : ((hp.push (kdv_tup [v])).push (excO C hp.objs.size)).get? (hp.objs.size + 1) = some (excO C hp.objs.size) := by heap_get
  have hnx : K.lookup (hp.objs.size + 1) = none := by
    cases e : K.lookup (hp.objs.size + 1) with
    | none => rfl
    | some o =>
      have z : hp.get? (hp.objs.size + 1) = some o := X _ _ e
      exact absurd (Nat.lt_of_succ_lt (Heap.lt_size z)) (Nat.lt_irrefl _)
  refine call_own F.excBase_ValueError (fun X => refsVE_contains X bm hbm) (X _ _ hC) (looks_findIn X T.iC) (fun self => bind_fn X self T.tC) (one_size v) ?_
  refine NoChangeK_init (s := ⟨(hp.push (kdv_tup [v])).push (excO C hp.objs.size), g, dr, tk, os⟩) T (X.keeps k) (hlim.keeps k) hget hnx ?_ fun h' tk' dx ⟨k', hx, dn, dne, hns⟩ => ?_
  · show A.depth + 1 < recursionLimit
    exact hroom
  · have old : ∀ b o, hp.get? b = some o → h'.get? b = some o := fun b o e => k' b o (Nat.ne_of_lt (Nat.lt_succ_of_lt (Heap.lt_size e))) (k b o e)
    have z : hp.objs.size + 1 + 1 ≤ dx := by
      first
        | (simpa only [Heap.size_push] using dn)
        | exact dn
        | (have q := dn; rw [Heap.size_push, Heap.size_push] at q; exact q)
    exact ⟨rfl, hq h' tk' (hp.objs.size + 1) dx ⟨old, Nat.le_succ _, ⟨_, _, hx, rfl, rfl, rfl, rfl, rfl⟩, Nat.le_trans (Nat.le_trans (Nat.le_succ _) (Nat.le_succ _)) z, dne, hns⟩⟩
theorem NoChangeK_initK (T : NoChangeTxK K mg C fI) {x t0 : Addr} {v : Value} (X : K.In s.heap) (hlim : s.heap.NoLimit) (hx : s.heap.get? x = some (excO C t0)) (hnx : K.lookup x = none) (hroom : A.depth < recursionLimit)
    (hq : ∀ h' tk dx, InitEnd s.heap h' x C dx t0 v → R (.ok (.ret .none)) { s with heap := h', toks := tk }) :
    codeAny (model prog w) A (.call (.ref fI) ⟨[.ref x], [("path", v)]⟩) R s := by
  obtain ⟨oc, od, doc, pm, an, cdv, ct, osl, p1, p2, q1, q2, q3, q4, ho, hcd⟩ := T.fn
  obtain ⟨nm, q, N, bs, bm, sn, sub, ab, col, dd, k0, k1, k2, k3, k5, hC, hbm⟩ := T.cls
  have hcl : clsIn K C = some { name := nm, bases := bs, mro := .ref C :: bm, ns := N, qualname := q, hasDict := true, slotNames := sn, subclasses := sub, abstract := ab, collection := col, hasDel := false } := by unfold clsIn; rw [hC] <;> rfl
  refine Att.call_fn (binds := [("self", .ref x), ("path", v)]) X hlim ho hcd hroom (BindsTo.of_eq (by first | rfl | with_unfolding_all rfl)) (by first | rfl | decide | with_unfolding_all rfl) (fun s₁ IC => ?_) rfl rfl rfl
  obtain ⟨h₁, tk₁, rfl⟩ := IC.toInCall.same
  have k : ∀ b o, s.heap.get? b = some o → h₁.get? b = some o := IC.toInCall.keep
  have hn := IC.toInCall.ns
  have hxL : s.heap.objs.size ≠ x := Nat.ne_of_gt (Heap.lt_size hx)
  have X₁ : K.In h₁ := X.keeps k
  have hx₁ := k _ _ hx
  -- self.by = by
  show wpAny _ _ (execs _ _) _ _ _
  refine wpAny_execs_cons (plainObj_wpAny_Assign_Attribute ?_)
  refine ldC (v := v) hn (by first | rfl | with_unfolding_all rfl | kernel_rfl) (ldC (v := .ref x) hn (by first | rfl | with_unfolding_all rfl | kernel_rfl) ?_)
  refine set_plain X₁ (ox := excO C t0) (od := none) ⟨hx₁, rfl, rfl, trivial⟩ T.sa ?_
  refine exc_osa X₁ hx₁ hcl (show refsVE (.ref C :: bm) = true from hbm) rfl T.noN (fun h₃ tk₃ dx k₃ dn dne hx₃ hn₃ => ?_)
  show wpAny _ _ (execs _ _) _ _ _
  have z : s.heap.objs.size < h₁.objs.size := hn.lt
  exact wpAny_execs_nil (hq h₃ tk₃ dx ⟨fun b o hb e => k₃ b o hb (k b o e), hx₃, Nat.le_of_lt (Nat.lt_of_lt_of_le z dn), dne, hn₃⟩)
theorem NoChangeK_madeK (T : NoChangeTxK K mg C fI) {v : Value} (X : K.In s.heap) (hlim : s.heap.NoLimit) (hroom : A.depth + 1 < recursionLimit)
    (hq : ∀ h' tk e d, OwnMade s.heap h' e C d v → R (.ok (.ret (.ref e))) { s with heap := h', toks := tk }) :
    codeAny (model prog w) A (.call (.ref C) ⟨[], [("path", v)]⟩) R s := by
  obtain ⟨nm, q, N, bs, bm, sn, sub, ab, col, dd, k0, k1, k2, k3, k5, hC, hbm⟩ := T.cls
  obtain ⟨hp, g, dr, tk, os⟩ := s
  have k : ∀ b o, hp.get? b = some o → ((hp.push (kdv_tup [])).push (excO C hp.objs.size)).get? b = some o := fun b o e => Heap.get?_push_of_some _ (Heap.get?_push_of_some _ e)
  have hget : ((hp.push (kdv_tup [])).push (excO C hp.objs.size)).get? (hp.objs.size + 1) = some (excO C hp.objs.size) := by heap_get
  have hnx : K.lookup (hp.objs.size + 1) = none := by
    cases e : K.lookup (hp.objs.size + 1) with
    | none => rfl
    | some o =>
      have z : hp.get? (hp.objs.size + 1) = some o := X _ _ e
      exact absurd (Nat.lt_of_succ_lt (Heap.lt_size z)) (Nat.lt_irrefl _)
  refine PySem.HSK.call_kw F.excBase_ValueError (fun X => refsVE_contains X bm hbm) (X _ _ hC) (looks_findIn X T.iC) (fun self => bind_fn X self T.tC) (by show 0 ≤ sizeLine; omega) ?_
  refine NoChangeK_initK (s := ⟨(hp.push (kdv_tup [])).push (excO C hp.objs.size), g, dr, tk, os⟩) T (X.keeps k) (hlim.keeps k) hget hnx ?_ fun h' tk' dx ⟨k', hx, dn, dne, hns⟩ => ?_
  · show A.depth + 1 < recursionLimit
    exact hroom
  · have old : ∀ b o, hp.get? b = some o → h'.get? b = some o := fun b o e => k' b o (Nat.ne_of_lt (Nat.lt_succ_of_lt (Heap.lt_size e))) (k b o e)
    have z : hp.objs.size + 1 + 1 ≤ dx := by
      first
        | (simpa only [Heap.size_push] using dn)
        | exact dn
        | (have q := dn; rw [Heap.size_push, Heap.size_push] at q; exact q)
    exact ⟨rfl, hq h' tk' (hp.objs.size + 1) dx ⟨old, Nat.le_succ _, ⟨_, _, hx, rfl, rfl, rfl, rfl, rfl⟩, Nat.le_trans (Nat.le_trans (Nat.le_succ _) (Nat.le_succ _)) z, dne, hns⟩⟩
end
end XkNoChange
end PySem
namespace L2
open PySem PySem.Spec PyProof.Rows
theorem relK_NoChange {v : V} {v' : Value} (r : RelV v v') (f : Str) : RelO (List.lookup f [(("path" : Str), v)]) (if f = "path" then some v' else none) := by
  by_cases hw : f = "path"
  · subst hw
    rw [if_pos rfl]
    have q : List.lookup ("path" : Str) [(("path" : Str), v)] = some v := by simp [List.lookup]
    rw [q]
    exact r
  · rw [if_neg hw]
    have qw : (f == ("path" : Str)) = false := by simpa using hw
    have q2 : List.lookup f [(("path" : Str), v)] = none := by simp [List.lookup, qw]
    rw [q2]
    trivial
section
variable {X : Cx} {C fI : Addr}
theorem pmk_NoChangeK {a : Expr} {ta : TA} {p pos : Pos} {k : Nat} (T : PySem.XkNoChange.NoChangeTxK X.K X.mg C fI) (hr : Room k X.A) (ha : PA X [a] ta) (hg : Gl X "NoChange" := by rfl)
    (he : starEach (a :: []) X.env = (false, eval a X.env) :: starEach [] X.env := by rfl) (hpl : (backTo pos (starEach [] X.env)).any (·.1) = false := by rfl) :
    L2N.PMk X (.Call (.Name "NoChange" p) [a] [] pos) (Tw.tMkF "path" C ta) := by
  intro pins s σ H Q I h
  refine wpAny_Call_Name_kw (ld_glob I hg T.gC ?_)
  refine PySem.W.callWith_K (h₀ := X.base) I.ok.mod.kin T.kC (thn (ha.run pos pins s σ H _ I h) fun us s1 hh => ?_) he hpl
  obtain ⟨vs, H1, I1, r1, v, ev, q1⟩ := hh
  subst ev
  refine ⟨I1.kIn, ?_⟩
  cases r1 with
  | cons rv rn =>
    rename_i v' us'
    cases rn
    show wpAny _ _ (call (.ref C) [v']) _ _ _
    have hlim := I1.nolimit
    obtain ⟨hp, g, dr, tk, os⟩ := s1
    refine wpAny_call (PySem.XkNoChange.NoChangeK_made T I1.kIn hlim (by have := hr.dp; omega) fun h' tk' e d M => ?_)
    show L2N.MkP X pins σ Q (.ref e) ⟨h', g, dr, tk', os⟩
    obtain ⟨oe, fv, hoe, hc, hd, hdat, h1, h2⟩ := M.obj
    have hns := M.ns
    obtain ⟨G', g1, g2⟩ := restrict h' fun b => decide (b ≠ e)
    have gk : ∀ b, b ≠ e → G'.get? b = h'.get? b := fun b hb => g1 b (decide_eq_true hb)
    have ge : G'.get? e = none := g2 e (by simp)
    have old : ∀ b o, hp.get? b = some o → G'.get? b = some o := fun b o q => (gk b (Nat.ne_of_lt (Nat.lt_of_lt_of_le (Heap.lt_size q) M.new))).trans (M.keep b o q)
    have ob : ObjOk X.prog X.w (upd H1 d (.xd [(("path" : Str), v)])) G' d (.xd [(("path" : Str), v)]) :=
      ⟨_, hns.at (fun o q => (gk d M.dne).trans q), fun f => relK_NoChange rv f⟩
    have J : Inv X pins σ (upd H1 d (.xd [(("path" : Str), v)])) ⟨G', g, dr, tk', os⟩ := I1.laid (t' := tk') old M.dbig ob
    refine ⟨e, oe, fv, ⟨G', g, dr, tk', os⟩, _, .ref C, some d, rfl, J, fun b o q => ?_, ge, hoe, ⟨hc, hd, fun vs e => by rw [hdat] at e; cases e; exact h2⟩, hdat, h1, ?_, rfl, I1.bare, raises_own T.exC T.tyC, q1 d (I1.hok.fresh M.dbig)⟩
    · by_cases hb : b = e
      · have q' : G'.get? b = some o := q
        rw [hb, ge] at q'; cases q'
      · exact (gk b hb).symm.trans q
    · rw [upd_ne (Ne.symm M.dne)]
      exact I1.hok.fresh M.new
theorem pmkk_NoChangeK {a : Expr} {kpos : Pos} {ta : TA} {p pos : Pos} {k : Nat} (T : PySem.XkNoChange.NoChangeTxK X.K X.mg C fI) (hr : Room k X.A) (ha : PK X [⟨some "path", a, kpos⟩] ta) (hg : Gl X "NoChange" := by rfl)
    (hall : (backToKw pos (keywordEach [⟨some "path", a, kpos⟩] X.env)).all (·.1.isSome) = true := by rfl) (hks : (backToKw pos (keywordEach [⟨some "path", a, kpos⟩] X.env)).filterMap (·.1) = (["path"] : List Str) := by rfl) (hpl : ((backTo pos (starEach [] X.env)).any (·.1) || (backToKw pos (keywordEach [⟨some "path", a, kpos⟩] X.env)).any (·.1.isNone)) = false := by rfl) :
    L2N.PMk X (.Call (.Name "NoChange" p) [] [⟨some "path", a, kpos⟩] pos) (Tw.tMkF "path" C ta) := by
  intro pins s σ H Q I h
  refine wpAny_Call_Name_kw (ld_glob I hg T.gC ?_)
  refine PySem.W.callWith_KW0 (h₀ := X.base) I.ok.mod.kin T.kC hall ?_ hpl
  refine thn (ha.run pos pins s σ H _ I h) fun us s1 hh => ?_
  obtain ⟨vs, H1, I1, r1, v, ev, q1⟩ := hh
  subst ev
  refine ⟨I1.kIn, ?_⟩
  rw [hks]
  cases r1 with
  | cons rv rn =>
    rename_i v' us'
    cases rn
    show wpAny _ _ (call (.ref C) [] [("path", v')]) _ _ _
    have hlim := I1.nolimit
    obtain ⟨hp, g, dr, tk, os⟩ := s1
    refine wpAny_call (PySem.XkNoChange.NoChangeK_madeK T I1.kIn hlim (by have := hr.dp; omega) fun h' tk' e d M => ?_)
    show L2N.MkP X pins σ Q (.ref e) ⟨h', g, dr, tk', os⟩
    obtain ⟨oe, fv, hoe, hc, hd, hdat, h1, h2⟩ := M.obj
    have hns := M.ns
    obtain ⟨G', g1, g2⟩ := restrict h' fun b => decide (b ≠ e)
    have gk : ∀ b, b ≠ e → G'.get? b = h'.get? b := fun b hb => g1 b (decide_eq_true hb)
    have ge : G'.get? e = none := g2 e (by simp)
    have old : ∀ b o, hp.get? b = some o → G'.get? b = some o := fun b o q => (gk b (Nat.ne_of_lt (Nat.lt_of_lt_of_le (Heap.lt_size q) M.new))).trans (M.keep b o q)
    have ob : ObjOk X.prog X.w (upd H1 d (.xd [(("path" : Str), v)])) G' d (.xd [(("path" : Str), v)]) :=
      ⟨_, hns.at (fun o q => (gk d M.dne).trans q), fun f => relK_NoChange rv f⟩
    have J : Inv X pins σ (upd H1 d (.xd [(("path" : Str), v)])) ⟨G', g, dr, tk', os⟩ := I1.laid (t' := tk') old M.dbig ob
    refine ⟨e, oe, fv, ⟨G', g, dr, tk', os⟩, _, .ref C, some d, rfl, J, fun b o q => ?_, ge, hoe, ⟨hc, hd, fun vs e => by rw [hdat] at e; cases e; exact h2⟩, hdat, h1, ?_, rfl, I1.bare, raises_own T.exC T.tyC, q1 d (I1.hok.fresh M.dbig)⟩
    · by_cases hb : b = e
      · have q' : G'.get? b = some o := q
        rw [hb, ge] at q'; cases q'
      · exact (gk b hb).symm.trans q
    · rw [upd_ne (Ne.symm M.dne)]
      exact I1.hok.fresh M.new
end
end L2
namespace PySem
namespace XkNoTime
open PySem.W PySem.Calls PyProof.Rows PySem.HandSPX
def iA (p1 p2 : Pos) : Arguments := { posonlyargs := [], args := [{ arg := "self", annotation := none, pos := p1 }, { arg := "time", annotation := none, pos := p2 }], vararg := none, kwonlyargs := [], kw_defaults := [], kwarg := none, defaults := [] }
def iB (q1 q2 q3 q4 : Pos) : List Stmt := [.Assign [.Attribute (.Name "self" q1) "time" q2] (.Name "time" q3) q4]
def iS : Scope := { kind := .function, names := [(PySem.Str.ofString "self", .local), (PySem.Str.ofString "time", .local)], isGenerator := false, isCoroutine := false, more := [] }
/-- what the written part says of NoDocument, at C, and of its __init__, at fI -/
structure NoTimeTxK (K : Frag) (mg : Str → Option Value) (C fI : Addr) : Prop where
  gC : mg "NoTime" = some (.ref C)
  cls : ∃ nm q N bs bm sn sub ab col dd k0 k1 k2 k3 k5, K.lookup C = some (excClassObj nm q C N bs bm true sn sub ab col dd k0 k1 k2 k3 k5 "ValueError.__new__") ∧ refsVE bm = true
  sa : findIn K (.ref C) "__setattr__" = some (some (.builtin "object.__setattr__"))
  ga : findIn K (.ref C) "__getattribute__" = some (some (.builtin "BaseException.__getattribute__"))
  gg : findIn K (.ref C) "__getattr__" = some none
  noN : findIn K (.ref C) "time" = some none
  iC : findIn K (.ref C) "__init__" = some (some (.ref fI))
  tC : typeIn K (.ref fI) = some (.type "function")
  kC : keepIn K (.ref C) = true
  exC : subIn K (.ref C) (.type "BaseException") = some true
  tyC : typeIn K (.ref C) = some (.type "type")
  hdC : hasDictIn K C = true
  te : exmOne K (.ref C) (.ref C) = some true
  fn : ∃ (oc : Value) (od : Option Addr) (doc pm : Value) (an : Option Addr) (cdv ct : Value) (osl : Array (Option Value)) (p1 p2 q1 q2 q3 q4 : Pos),
    K.lookup fI = some ⟨oc, od, .func (fnOf "__init__" "NoTime.__init__" (iA p1 p2) (iB q1 q2 q3 q4) iS .none .none doc pm an cdv ct), osl⟩ ∧ codeIn K cdv "NoTime.__init__" = true
theorem one_size (v : Value) : [v].length ≤ sizeLine := by
  rw [sizeLine_eq]
  exact (by decide : 1 ≤ 16777216)
theorem kept_but {K : Frag} {h h' : Heap} {x : Addr} (X : K.In h) (hx : K.lookup x = none) (k : ∀ b o, b ≠ x → h.get? b = some o → h'.get? b = some o) : K.In h' := fun a o e =>
  k a o (fun z => by rw [z, hx] at e; cases e) (X a o e)
theorem ldC {M : Model} {s : Shared} {name : Str} {scope : Scope} {L a : Addr} {cd : Value} {m : Str → Option Value} {x : Str} {pos : Pos} {v : Value} {Q : Value → Shared → Prop} {A : Around} {E : Value → Shared → Prop} (hn : s.heap.Ns L m) (hv : m x = some v) (h : Q v s)
    (hk : scope.kind = .function := by rfl) (hl : (envOfC name scope L a cd).kindOf x = some .local := by rfl) (hd : (x == ("__debug__" : Str)) = false := by decide) :
    wpAny M A (eval (.Name x pos) (envOfC name scope L a cd)) Q E s := wpAny_Name (wpAny_loadName_local hk hl hn hv h) hd
/-- what __init__ leaves of a fresh exception at x -/
structure InitEnd (h h' : Heap) (x C dx t1 : Addr) (v : Value) : Prop where
  keep : ∀ b o, b ≠ x → h.get? b = some o → h'.get? b = some o
  obj : h'.get? x = some { cls := .ref C, dict := some dx, data := .fields #[.ref t1, .none, .none, .none, .bool false, .none] }
  dbig : h.objs.size ≤ dx
  dne : dx ≠ x
  ns : h'.Ns1 dx (fun y => if y = "time" then some v else none)
/-- a made NoDocument -/
structure OwnMade (h h' : Heap) (e C d : Addr) (v : Value) : Prop where
  keep : ∀ b o, h.get? b = some o → h'.get? b = some o
  new : h.objs.size ≤ e
  obj : ∃ oe vs, h'.get? e = some oe ∧ oe.cls = .ref C ∧ oe.dict = some d ∧ oe.data = .fields vs ∧ vs[1]? = some .none ∧ vs[2]? = some .none
  dbig : h.objs.size ≤ d
  dne : d ≠ e
  ns : h'.Ns1 d (fun y => if y = "time" then some v else none)
section
variable {prog : Program} {w : World} {A : Around} {E : Value → Shared → Prop} {R : Result → Shared → Prop} {s : Shared} {K : Frag} {mg : Str → Option Value} {C fI : Addr}
theorem NoTimeK_init (T : NoTimeTxK K mg C fI) {x t0 : Addr} {v : Value} (X : K.In s.heap) (hlim : s.heap.NoLimit) (hx : s.heap.get? x = some (excO C t0)) (hnx : K.lookup x = none) (hroom : A.depth < recursionLimit)
    (hq : ∀ h' tk dx, InitEnd s.heap h' x C dx t0 v → R (.ok (.ret .none)) { s with heap := h', toks := tk }) :
    codeAny (model prog w) A (.call (.ref fI) ⟨[.ref x, v], []⟩) R s := by
  obtain ⟨oc, od, doc, pm, an, cdv, ct, osl, p1, p2, q1, q2, q3, q4, ho, hcd⟩ := T.fn
  obtain ⟨nm, q, N, bs, bm, sn, sub, ab, col, dd, k0, k1, k2, k3, k5, hC, hbm⟩ := T.cls
  have hcl : clsIn K C = some { name := nm, bases := bs, mro := .ref C :: bm, ns := N, qualname := q, hasDict := true, slotNames := sn, subclasses := sub, abstract := ab, collection := col, hasDel := false } := by unfold clsIn; rw [hC] <;> rfl
  refine Att.call_fn (binds := [("self", .ref x), ("time", v)]) X hlim ho hcd hroom (BindsTo.of_eq (by first | rfl | with_unfolding_all rfl)) (by first | rfl | decide | with_unfolding_all rfl) (fun s₁ IC => ?_) rfl rfl rfl
  obtain ⟨h₁, tk₁, rfl⟩ := IC.toInCall.same
  have k : ∀ b o, s.heap.get? b = some o → h₁.get? b = some o := IC.toInCall.keep
  have hn := IC.toInCall.ns
  have hxL : s.heap.objs.size ≠ x := Nat.ne_of_gt (Heap.lt_size hx)
  have X₁ : K.In h₁ := X.keeps k
  have hx₁ := k _ _ hx
  -- self.by = by
  show wpAny _ _ (execs _ _) _ _ _
  refine wpAny_execs_cons (plainObj_wpAny_Assign_Attribute ?_)
  refine ldC (v := v) hn (by first | rfl | with_unfolding_all rfl | kernel_rfl) (ldC (v := .ref x) hn (by first | rfl | with_unfolding_all rfl | kernel_rfl) ?_)
  refine set_plain X₁ (ox := excO C t0) (od := none) ⟨hx₁, rfl, rfl, trivial⟩ T.sa ?_
  refine exc_osa X₁ hx₁ hcl (show refsVE (.ref C :: bm) = true from hbm) rfl T.noN (fun h₃ tk₃ dx k₃ dn dne hx₃ hn₃ => ?_)
  show wpAny _ _ (execs _ _) _ _ _
  have z : s.heap.objs.size < h₁.objs.size := hn.lt
  exact wpAny_execs_nil (hq h₃ tk₃ dx ⟨fun b o hb e => k₃ b o hb (k b o e), hx₃, Nat.le_of_lt (Nat.lt_of_lt_of_le z dn), dne, hn₃⟩)
theorem NoTimeK_made (T : NoTimeTxK K mg C fI) {v : Value} (X : K.In s.heap) (hlim : s.heap.NoLimit) (hroom : A.depth + 1 < recursionLimit)
    (hq : ∀ h' tk e d, OwnMade s.heap h' e C d v → R (.ok (.ret (.ref e))) { s with heap := h', toks := tk }) :
    codeAny (model prog w) A (.call (.ref C) ⟨[v], []⟩) R s := by
  obtain ⟨nm, q, N, bs, bm, sn, sub, ab, col, dd, k0, k1, k2, k3, k5, hC, hbm⟩ := T.cls
  obtain ⟨hp, g, dr, tk, os⟩ := s
  have k : ∀ b o, hp.get? b = some o → ((hp.push (kdv_tup [v])).push (excO C hp.objs.size)).get? b = some o := fun b o e => Heap.get?_push_of_some _ (Heap.get?_push_of_some _ e)
  have hget : ((hp.push (kdv_tup [v])).push (excO C hp.objs.size)).get? (hp.objs.size + 1) = some (excO C hp.objs.size) := by heap_get
  have hnx : K.lookup (hp.objs.size + 1) = none := by
    cases e : K.lookup (hp.objs.size + 1) with
    | none => rfl
    | some o =>
      have z : hp.get? (hp.objs.size + 1) = some o := X _ _ e
      exact absurd (Nat.lt_of_succ_lt (Heap.lt_size z)) (Nat.lt_irrefl _)
  refine call_own F.excBase_ValueError (fun X => refsVE_contains X bm hbm) (X _ _ hC) (looks_findIn X T.iC) (fun self => bind_fn X self T.tC) (one_size v) ?_
  refine NoTimeK_init (s := ⟨(hp.push (kdv_tup [v])).push (excO C hp.objs.size), g, dr, tk, os⟩) T (X.keeps k) (hlim.keeps k) hget hnx ?_ fun h' tk' dx ⟨k', hx, dn, dne, hns⟩ => ?_
  · show A.depth + 1 < recursionLimit
    exact hroom
  · have old : ∀ b o, hp.get? b = some o → h'.get? b = some o := fun b o e => k' b o (Nat.ne_of_lt (Nat.lt_succ_of_lt (Heap.lt_size e))) (k b o e)
    have z : hp.objs.size + 1 + 1 ≤ dx := by
      first
        | (simpa only [Heap.size_push] using dn)
        | exact dn
        | (have q := dn; rw [Heap.size_push, Heap.size_push] at q; exact q)
    exact ⟨rfl, hq h' tk' (hp.objs.size + 1) dx ⟨old, Nat.le_succ _, ⟨_, _, hx, rfl, rfl, rfl, rfl, rfl⟩, Nat.le_trans (Nat.le_trans (Nat.le_succ _) (Nat.le_succ _)) z, dne, hns⟩⟩
theorem NoTimeK_initK (T : NoTimeTxK K mg C fI) {x t0 : Addr} {v : Value} (X : K.In s.heap) (hlim : s.heap.NoLimit) (hx : s.heap.get? x = some (excO C t0)) (hnx : K.lookup x = none) (hroom : A.depth < recursionLimit)
    (hq : ∀ h' tk dx, InitEnd s.heap h' x C dx t0 v → R (.ok (.ret .none)) { s with heap := h', toks := tk }) :
    codeAny (model prog w) A (.call (.ref fI) ⟨[.ref x], [("time", v)]⟩) R s := by
  obtain ⟨oc, od, doc, pm, an, cdv, ct, osl, p1, p2, q1, q2, q3, q4, ho, hcd⟩ := T.fn
  obtain ⟨nm, q, N, bs, bm, sn, sub, ab, col, dd, k0, k1, k2, k3, k5, hC, hbm⟩ := T.cls
  have hcl : clsIn K C = some { name := nm, bases := bs, mro := .ref C :: bm, ns := N, qualname := q, hasDict := true, slotNames := sn, subclasses := sub, abstract := ab, collection := col, hasDel := false } := by unfold clsIn; rw [hC] <;> rfl
  refine Att.call_fn (binds := [("self", .ref x), ("time", v)]) X hlim ho hcd hroom (BindsTo.of_eq (by first | rfl | with_unfolding_all rfl)) (by first | rfl | decide | with_unfolding_all rfl) (fun s₁ IC => ?_) rfl rfl rfl
  obtain ⟨h₁, tk₁, rfl⟩ := IC.toInCall.same
  have k : ∀ b o, s.heap.get? b = some o → h₁.get? b = some o := IC.toInCall.keep
  have hn := IC.toInCall.ns
  have hxL : s.heap.objs.size ≠ x := Nat.ne_of_gt (Heap.lt_size hx)
  have X₁ : K.In h₁ := X.keeps k
  have hx₁ := k _ _ hx
  -- self.by = by
  show wpAny _ _ (execs _ _) _ _ _
  refine wpAny_execs_cons (plainObj_wpAny_Assign_Attribute ?_)
  refine ldC (v := v) hn (by first | rfl | with_unfolding_all rfl | kernel_rfl) (ldC (v := .ref x) hn (by first | rfl | with_unfolding_all rfl | kernel_rfl) ?_)
  refine set_plain X₁ (ox := excO C t0) (od := none) ⟨hx₁, rfl, rfl, trivial⟩ T.sa ?_
  refine exc_osa X₁ hx₁ hcl (show refsVE (.ref C :: bm) = true from hbm) rfl T.noN (fun h₃ tk₃ dx k₃ dn dne hx₃ hn₃ => ?_)
  show wpAny _ _ (execs _ _) _ _ _
  have z : s.heap.objs.size < h₁.objs.size := hn.lt
  exact wpAny_execs_nil (hq h₃ tk₃ dx ⟨fun b o hb e => k₃ b o hb (k b o e), hx₃, Nat.le_of_lt (Nat.lt_of_lt_of_le z dn), dne, hn₃⟩)
theorem NoTimeK_madeK (T : NoTimeTxK K mg C fI) {v : Value} (X : K.In s.heap) (hlim : s.heap.NoLimit) (hroom : A.depth + 1 < recursionLimit)
    (hq : ∀ h' tk e d, OwnMade s.heap h' e C d v → R (.ok (.ret (.ref e))) { s with heap := h', toks := tk }) :
    codeAny (model prog w) A (.call (.ref C) ⟨[], [("time", v)]⟩) R s := by
  obtain ⟨nm, q, N, bs, bm, sn, sub, ab, col, dd, k0, k1, k2, k3, k5, hC, hbm⟩ := T.cls
  obtain ⟨hp, g, dr, tk, os⟩ := s
  have k : ∀ b o, hp.get? b = some o → ((hp.push (kdv_tup [])).push (excO C hp.objs.size)).get? b = some o := fun b o e => Heap.get?_push_of_some _ (Heap.get?_push_of_some _ e)
  have hget : ((hp.push (kdv_tup [])).push (excO C hp.objs.size)).get? (hp.objs.size + 1) = some (excO C hp.objs.size) := by heap_get
  have hnx : K.lookup (hp.objs.size + 1) = none := by
    cases e : K.lookup (hp.objs.size + 1) with
    | none => rfl
    | some o =>
      have z : hp.get? (hp.objs.size + 1) = some o := X _ _ e
      exact absurd (Nat.lt_of_succ_lt (Heap.lt_size z)) (Nat.lt_irrefl _)
  refine PySem.HSK.call_kw F.excBase_ValueError (fun X => refsVE_contains X bm hbm) (X _ _ hC) (looks_findIn X T.iC) (fun self => bind_fn X self T.tC) (by show 0 ≤ sizeLine; omega) ?_
  refine NoTimeK_initK (s := ⟨(hp.push (kdv_tup [])).push (excO C hp.objs.size), g, dr, tk, os⟩) T (X.keeps k) (hlim.keeps k) hget hnx ?_ fun h' tk' dx ⟨k', hx, dn, dne, hns⟩ => ?_
  · show A.depth + 1 < recursionLimit
    exact hroom
  · have old : ∀ b o, hp.get? b = some o → h'.get? b = some o := fun b o e => k' b o (Nat.ne_of_lt (Nat.lt_succ_of_lt (Heap.lt_size e))) (k b o e)
    have z : hp.objs.size + 1 + 1 ≤ dx := by
      first
        | (simpa only [Heap.size_push] using dn)
        | exact dn
        | (have q := dn; rw [Heap.size_push, Heap.size_push] at q; exact q)
    exact ⟨rfl, hq h' tk' (hp.objs.size + 1) dx ⟨old, Nat.le_succ _, ⟨_, _, hx, rfl, rfl, rfl, rfl, rfl⟩, Nat.le_trans (Nat.le_trans (Nat.le_succ _) (Nat.le_succ _)) z, dne, hns⟩⟩
end
end XkNoTime
end PySem
namespace L2
open PySem PySem.Spec PyProof.Rows
theorem relK_NoTime {v : V} {v' : Value} (r : RelV v v') (f : Str) : RelO (List.lookup f [(("time" : Str), v)]) (if f = "time" then some v' else none) := by
  by_cases hw : f = "time"
  · subst hw
    rw [if_pos rfl]
    have q : List.lookup ("time" : Str) [(("time" : Str), v)] = some v := by simp [List.lookup]
    rw [q]
    exact r
  · rw [if_neg hw]
    have qw : (f == ("time" : Str)) = false := by simpa using hw
    have q2 : List.lookup f [(("time" : Str), v)] = none := by simp [List.lookup, qw]
    rw [q2]
    trivial
section
variable {X : Cx} {C fI : Addr}
theorem pmk_NoTimeK {a : Expr} {ta : TA} {p pos : Pos} {k : Nat} (T : PySem.XkNoTime.NoTimeTxK X.K X.mg C fI) (hr : Room k X.A) (ha : PA X [a] ta) (hg : Gl X "NoTime" := by rfl)
    (he : starEach (a :: []) X.env = (false, eval a X.env) :: starEach [] X.env := by rfl) (hpl : (backTo pos (starEach [] X.env)).any (·.1) = false := by rfl) :
    L2N.PMk X (.Call (.Name "NoTime" p) [a] [] pos) (Tw.tMkF "time" C ta) := by
  intro pins s σ H Q I h
  refine wpAny_Call_Name_kw (ld_glob I hg T.gC ?_)
  refine PySem.W.callWith_K (h₀ := X.base) I.ok.mod.kin T.kC (thn (ha.run pos pins s σ H _ I h) fun us s1 hh => ?_) he hpl
  obtain ⟨vs, H1, I1, r1, v, ev, q1⟩ := hh
  subst ev
  refine ⟨I1.kIn, ?_⟩
  cases r1 with
  | cons rv rn =>
    rename_i v' us'
    cases rn
    show wpAny _ _ (call (.ref C) [v']) _ _ _
    have hlim := I1.nolimit
    obtain ⟨hp, g, dr, tk, os⟩ := s1
    refine wpAny_call (PySem.XkNoTime.NoTimeK_made T I1.kIn hlim (by have := hr.dp; omega) fun h' tk' e d M => ?_)
    show L2N.MkP X pins σ Q (.ref e) ⟨h', g, dr, tk', os⟩
    obtain ⟨oe, fv, hoe, hc, hd, hdat, h1, h2⟩ := M.obj
    have hns := M.ns
    obtain ⟨G', g1, g2⟩ := restrict h' fun b => decide (b ≠ e)
    have gk : ∀ b, b ≠ e → G'.get? b = h'.get? b := fun b hb => g1 b (decide_eq_true hb)
    have ge : G'.get? e = none := g2 e (by simp)
    have old : ∀ b o, hp.get? b = some o → G'.get? b = some o := fun b o q => (gk b (Nat.ne_of_lt (Nat.lt_of_lt_of_le (Heap.lt_size q) M.new))).trans (M.keep b o q)
    have ob : ObjOk X.prog X.w (upd H1 d (.xd [(("time" : Str), v)])) G' d (.xd [(("time" : Str), v)]) :=
      ⟨_, hns.at (fun o q => (gk d M.dne).trans q), fun f => relK_NoTime rv f⟩
    have J : Inv X pins σ (upd H1 d (.xd [(("time" : Str), v)])) ⟨G', g, dr, tk', os⟩ := I1.laid (t' := tk') old M.dbig ob
    refine ⟨e, oe, fv, ⟨G', g, dr, tk', os⟩, _, .ref C, some d, rfl, J, fun b o q => ?_, ge, hoe, ⟨hc, hd, fun vs e => by rw [hdat] at e; cases e; exact h2⟩, hdat, h1, ?_, rfl, I1.bare, raises_own T.exC T.tyC, q1 d (I1.hok.fresh M.dbig)⟩
    · by_cases hb : b = e
      · have q' : G'.get? b = some o := q
        rw [hb, ge] at q'; cases q'
      · exact (gk b hb).symm.trans q
    · rw [upd_ne (Ne.symm M.dne)]
      exact I1.hok.fresh M.new
theorem pmkk_NoTimeK {a : Expr} {kpos : Pos} {ta : TA} {p pos : Pos} {k : Nat} (T : PySem.XkNoTime.NoTimeTxK X.K X.mg C fI) (hr : Room k X.A) (ha : PK X [⟨some "time", a, kpos⟩] ta) (hg : Gl X "NoTime" := by rfl)
    (hall : (backToKw pos (keywordEach [⟨some "time", a, kpos⟩] X.env)).all (·.1.isSome) = true := by rfl) (hks : (backToKw pos (keywordEach [⟨some "time", a, kpos⟩] X.env)).filterMap (·.1) = (["time"] : List Str) := by rfl) (hpl : ((backTo pos (starEach [] X.env)).any (·.1) || (backToKw pos (keywordEach [⟨some "time", a, kpos⟩] X.env)).any (·.1.isNone)) = false := by rfl) :
    L2N.PMk X (.Call (.Name "NoTime" p) [] [⟨some "time", a, kpos⟩] pos) (Tw.tMkF "time" C ta) := by
  intro pins s σ H Q I h
  refine wpAny_Call_Name_kw (ld_glob I hg T.gC ?_)
  refine PySem.W.callWith_KW0 (h₀ := X.base) I.ok.mod.kin T.kC hall ?_ hpl
  refine thn (ha.run pos pins s σ H _ I h) fun us s1 hh => ?_
  obtain ⟨vs, H1, I1, r1, v, ev, q1⟩ := hh
  subst ev
  refine ⟨I1.kIn, ?_⟩
  rw [hks]
  cases r1 with
  | cons rv rn =>
    rename_i v' us'
    cases rn
    show wpAny _ _ (call (.ref C) [] [("time", v')]) _ _ _
    have hlim := I1.nolimit
    obtain ⟨hp, g, dr, tk, os⟩ := s1
    refine wpAny_call (PySem.XkNoTime.NoTimeK_madeK T I1.kIn hlim (by have := hr.dp; omega) fun h' tk' e d M => ?_)
    show L2N.MkP X pins σ Q (.ref e) ⟨h', g, dr, tk', os⟩
    obtain ⟨oe, fv, hoe, hc, hd, hdat, h1, h2⟩ := M.obj
    have hns := M.ns
    obtain ⟨G', g1, g2⟩ := restrict h' fun b => decide (b ≠ e)
    have gk : ∀ b, b ≠ e → G'.get? b = h'.get? b := fun b hb => g1 b (decide_eq_true hb)
    have ge : G'.get? e = none := g2 e (by simp)
    have old : ∀ b o, hp.get? b = some o → G'.get? b = some o := fun b o q => (gk b (Nat.ne_of_lt (Nat.lt_of_lt_of_le (Heap.lt_size q) M.new))).trans (M.keep b o q)
    have ob : ObjOk X.prog X.w (upd H1 d (.xd [(("time" : Str), v)])) G' d (.xd [(("time" : Str), v)]) :=
      ⟨_, hns.at (fun o q => (gk d M.dne).trans q), fun f => relK_NoTime rv f⟩
    have J : Inv X pins σ (upd H1 d (.xd [(("time" : Str), v)])) ⟨G', g, dr, tk', os⟩ := I1.laid (t' := tk') old M.dbig ob
    refine ⟨e, oe, fv, ⟨G', g, dr, tk', os⟩, _, .ref C, some d, rfl, J, fun b o q => ?_, ge, hoe, ⟨hc, hd, fun vs e => by rw [hdat] at e; cases e; exact h2⟩, hdat, h1, ?_, rfl, I1.bare, raises_own T.exC T.tyC, q1 d (I1.hok.fresh M.dbig)⟩
    · by_cases hb : b = e
      · have q' : G'.get? b = some o := q
        rw [hb, ge] at q'; cases q'
      · exact (gk b hb).symm.trans q
    · rw [upd_ne (Ne.symm M.dne)]
      exact I1.hok.fresh M.new
end
end L2
namespace PySem
namespace XkBadText
open PySem.W PySem.Calls PyProof.Rows PySem.HandSPX
def iA (p1 p2 : Pos) : Arguments := { posonlyargs := [], args := [{ arg := "self", annotation := none, pos := p1 }, { arg := "place", annotation := none, pos := p2 }], vararg := none, kwonlyargs := [], kw_defaults := [], kwarg := none, defaults := [] }
def iB (q1 q2 q3 q4 : Pos) : List Stmt := [.Assign [.Attribute (.Name "self" q1) "place" q2] (.Name "place" q3) q4]
def iS : Scope := { kind := .function, names := [(PySem.Str.ofString "self", .local), (PySem.Str.ofString "place", .local)], isGenerator := false, isCoroutine := false, more := [] }
/-- what the written part says of NoDocument, at C, and of its __init__, at fI -/
structure BadTextTxK (K : Frag) (mg : Str → Option Value) (C fI : Addr) : Prop where
  gC : mg "BadText" = some (.ref C)
  cls : ∃ nm q N bs bm sn sub ab col dd k0 k1 k2 k3 k5, K.lookup C = some (excClassObj nm q C N bs bm true sn sub ab col dd k0 k1 k2 k3 k5 "ValueError.__new__") ∧ refsVE bm = true
  sa : findIn K (.ref C) "__setattr__" = some (some (.builtin "object.__setattr__"))
  ga : findIn K (.ref C) "__getattribute__" = some (some (.builtin "BaseException.__getattribute__"))
  gg : findIn K (.ref C) "__getattr__" = some none
  noN : findIn K (.ref C) "place" = some none
  iC : findIn K (.ref C) "__init__" = some (some (.ref fI))
  tC : typeIn K (.ref fI) = some (.type "function")
  kC : keepIn K (.ref C) = true
  exC : subIn K (.ref C) (.type "BaseException") = some true
  tyC : typeIn K (.ref C) = some (.type "type")
  hdC : hasDictIn K C = true
  te : exmOne K (.ref C) (.ref C) = some true
  fn : ∃ (oc : Value) (od : Option Addr) (doc pm : Value) (an : Option Addr) (cdv ct : Value) (osl : Array (Option Value)) (p1 p2 q1 q2 q3 q4 : Pos),
    K.lookup fI = some ⟨oc, od, .func (fnOf "__init__" "BadText.__init__" (iA p1 p2) (iB q1 q2 q3 q4) iS .none .none doc pm an cdv ct), osl⟩ ∧ codeIn K cdv "BadText.__init__" = true
theorem one_size (v : Value) : [v].length ≤ sizeLine := by
  rw [sizeLine_eq]
  exact (by decide : 1 ≤ 16777216)
theorem kept_but {K : Frag} {h h' : Heap} {x : Addr} (X : K.In h) (hx : K.lookup x = none) (k : ∀ b o, b ≠ x → h.get? b = some o → h'.get? b = some o) : K.In h' := fun a o e =>
  k a o (fun z => by rw [z, hx] at e; cases e) (X a o e)
theorem ldC {M : Model} {s : Shared} {name : Str} {scope : Scope} {L a : Addr} {cd : Value} {m : Str → Option Value} {x : Str} {pos : Pos} {v : Value} {Q : Value → Shared → Prop} {A : Around} {E : Value → Shared → Prop} (hn : s.heap.Ns L m) (hv : m x = some v) (h : Q v s)
    (hk : scope.kind = .function := by rfl) (hl : (envOfC name scope L a cd).kindOf x = some .local := by rfl) (hd : (x == ("__debug__" : Str)) = false := by decide) :
    wpAny M A (eval (.Name x pos) (envOfC name scope L a cd)) Q E s := wpAny_Name (wpAny_loadName_local hk hl hn hv h) hd
/-- what __init__ leaves of a fresh exception at x -/
structure InitEnd (h h' : Heap) (x C dx t1 : Addr) (v : Value) : Prop where
  keep : ∀ b o, b ≠ x → h.get? b = some o → h'.get? b = some o
  obj : h'.get? x = some { cls := .ref C, dict := some dx, data := .fields #[.ref t1, .none, .none, .none, .bool false, .none] }
  dbig : h.objs.size ≤ dx
  dne : dx ≠ x
  ns : h'.Ns1 dx (fun y => if y = "place" then some v else none)
/-- a made NoDocument -/
structure OwnMade (h h' : Heap) (e C d : Addr) (v : Value) : Prop where
  keep : ∀ b o, h.get? b = some o → h'.get? b = some o
  new : h.objs.size ≤ e
  obj : ∃ oe vs, h'.get? e = some oe ∧ oe.cls = .ref C ∧ oe.dict = some d ∧ oe.data = .fields vs ∧ vs[1]? = some .none ∧ vs[2]? = some .none
  dbig : h.objs.size ≤ d
  dne : d ≠ e
  ns : h'.Ns1 d (fun y => if y = "place" then some v else none)
section
variable {prog : Program} {w : World} {A : Around} {E : Value → Shared → Prop} {R : Result → Shared → Prop} {s : Shared} {K : Frag} {mg : Str → Option Value} {C fI : Addr}
theorem BadTextK_init (T : BadTextTxK K mg C fI) {x t0 : Addr} {v : Value} (X : K.In s.heap) (hlim : s.heap.NoLimit) (hx : s.heap.get? x = some (excO C t0)) (hnx : K.lookup x = none) (hroom : A.depth < recursionLimit)
    (hq : ∀ h' tk dx, InitEnd s.heap h' x C dx t0 v → R (.ok (.ret .none)) { s with heap := h', toks := tk }) :
    codeAny (model prog w) A (.call (.ref fI) ⟨[.ref x, v], []⟩) R s := by
  obtain ⟨oc, od, doc, pm, an, cdv, ct, osl, p1, p2, q1, q2, q3, q4, ho, hcd⟩ := T.fn
  obtain ⟨nm, q, N, bs, bm, sn, sub, ab, col, dd, k0, k1, k2, k3, k5, hC, hbm⟩ := T.cls
  have hcl : clsIn K C = some { name := nm, bases := bs, mro := .ref C :: bm, ns := N, qualname := q, hasDict := true, slotNames := sn, subclasses := sub, abstract := ab, collection := col, hasDel := false } := by unfold clsIn; rw [hC] <;> rfl
  refine Att.call_fn (binds := [("self", .ref x), ("place", v)]) X hlim ho hcd hroom (BindsTo.of_eq (by first | rfl | with_unfolding_all rfl)) (by first | rfl | decide | with_unfolding_all rfl) (fun s₁ IC => ?_) rfl rfl rfl
  obtain ⟨h₁, tk₁, rfl⟩ := IC.toInCall.same
  have k : ∀ b o, s.heap.get? b = some o → h₁.get? b = some o := IC.toInCall.keep
  have hn := IC.toInCall.ns
  have hxL : s.heap.objs.size ≠ x := Nat.ne_of_gt (Heap.lt_size hx)
  have X₁ : K.In h₁ := X.keeps k
  have hx₁ := k _ _ hx
  -- self.by = by
  show wpAny _ _ (execs _ _) _ _ _
  refine wpAny_execs_cons (plainObj_wpAny_Assign_Attribute ?_)
  refine ldC (v := v) hn (by first | rfl | with_unfolding_all rfl | kernel_rfl) (ldC (v := .ref x) hn (by first | rfl | with_unfolding_all rfl | kernel_rfl) ?_)
  refine set_plain X₁ (ox := excO C t0) (od := none) ⟨hx₁, rfl, rfl, trivial⟩ T.sa ?_
  refine exc_osa X₁ hx₁ hcl (show refsVE (.ref C :: bm) = true from hbm) rfl T.noN (fun h₃ tk₃ dx k₃ dn dne hx₃ hn₃ => ?_)
  show wpAny _ _ (execs _ _) _ _ _
  have z : s.heap.objs.size < h₁.objs.size := hn.lt
  exact wpAny_execs_nil (hq h₃ tk₃ dx ⟨fun b o hb e => k₃ b o hb (k b o e), hx₃, Nat.le_of_lt (Nat.lt_of_lt_of_le z dn), dne, hn₃⟩)
theorem BadTextK_made (T : BadTextTxK K mg C fI) {v : Value} (X : K.In s.heap) (hlim : s.heap.NoLimit) (hroom : A.depth + 1 < recursionLimit)
    (hq : ∀ h' tk e d, OwnMade s.heap h' e C d v → R (.ok (.ret (.ref e))) { s with heap := h', toks := tk }) :
    codeAny (model prog w) A (.call (.ref C) ⟨[v], []⟩) R s := by
  obtain ⟨nm, q, N, bs, bm, sn, sub, ab, col, dd, k0, k1, k2, k3, k5, hC, hbm⟩ := T.cls
  obtain ⟨hp, g, dr, tk, os⟩ := s
  have k : ∀ b o, hp.get? b = some o → ((hp.push (kdv_tup [v])).push (excO C hp.objs.size)).get? b = some o := fun b o e => Heap.get?_push_of_some _ (Heap.get?_push_of_some _ e)
  have hget : ((hp.push (kdv_tup [v])).push (excO C hp.objs.size)).get? (hp.objs.size + 1) = some (excO C hp.objs.size) := by heap_get
  have hnx : K.lookup (hp.objs.size + 1) = none := by
    cases e : K.lookup (hp.objs.size + 1) with
    | none => rfl
    | some o =>
      have z : hp.get? (hp.objs.size + 1) = some o := X _ _ e
      exact absurd (Nat.lt_of_succ_lt (Heap.lt_size z)) (Nat.lt_irrefl _)
  refine call_own F.excBase_ValueError (fun X => refsVE_contains X bm hbm) (X _ _ hC) (looks_findIn X T.iC) (fun self => bind_fn X self T.tC) (one_size v) ?_
  refine BadTextK_init (s := ⟨(hp.push (kdv_tup [v])).push (excO C hp.objs.size), g, dr, tk, os⟩) T (X.keeps k) (hlim.keeps k) hget hnx ?_ fun h' tk' dx ⟨k', hx, dn, dne, hns⟩ => ?_
  · show A.depth + 1 < recursionLimit
    exact hroom
  · have old : ∀ b o, hp.get? b = some o → h'.get? b = some o := fun b o e => k' b o (Nat.ne_of_lt (Nat.lt_succ_of_lt (Heap.lt_size e))) (k b o e)
    have z : hp.objs.size + 1 + 1 ≤ dx := by
      first
        | (simpa only [Heap.size_push] using dn)
        | exact dn
        | (have q := dn; rw [Heap.size_push, Heap.size_push] at q; exact q)
    exact ⟨rfl, hq h' tk' (hp.objs.size + 1) dx ⟨old, Nat.le_succ _, ⟨_, _, hx, rfl, rfl, rfl, rfl, rfl⟩, Nat.le_trans (Nat.le_trans (Nat.le_succ _) (Nat.le_succ _)) z, dne, hns⟩⟩
theorem BadTextK_initK (T : BadTextTxK K mg C fI) {x t0 : Addr} {v : Value} (X : K.In s.heap) (hlim : s.heap.NoLimit) (hx : s.heap.get? x = some (excO C t0)) (hnx : K.lookup x = none) (hroom : A.depth < recursionLimit)
    (hq : ∀ h' tk dx, InitEnd s.heap h' x C dx t0 v → R (.ok (.ret .none)) { s with heap := h', toks := tk }) :
    codeAny (model prog w) A (.call (.ref fI) ⟨[.ref x], [("place", v)]⟩) R s := by
  obtain ⟨oc, od, doc, pm, an, cdv, ct, osl, p1, p2, q1, q2, q3, q4, ho, hcd⟩ := T.fn
  obtain ⟨nm, q, N, bs, bm, sn, sub, ab, col, dd, k0, k1, k2, k3, k5, hC, hbm⟩ := T.cls
  have hcl : clsIn K C = some { name := nm, bases := bs, mro := .ref C :: bm, ns := N, qualname := q, hasDict := true, slotNames := sn, subclasses := sub, abstract := ab, collection := col, hasDel := false } := by unfold clsIn; rw [hC] <;> rfl
  refine Att.call_fn (binds := [("self", .ref x), ("place", v)]) X hlim ho hcd hroom (BindsTo.of_eq (by first | rfl | with_unfolding_all rfl)) (by first | rfl | decide | with_unfolding_all rfl) (fun s₁ IC => ?_) rfl rfl rfl
  obtain ⟨h₁, tk₁, rfl⟩ := IC.toInCall.same
  have k : ∀ b o, s.heap.get? b = some o → h₁.get? b = some o := IC.toInCall.keep
  have hn := IC.toInCall.ns
  have hxL : s.heap.objs.size ≠ x := Nat.ne_of_gt (Heap.lt_size hx)
  have X₁ : K.In h₁ := X.keeps k
  have hx₁ := k _ _ hx
  -- self.by = by
  show wpAny _ _ (execs _ _) _ _ _
  refine wpAny_execs_cons (plainObj_wpAny_Assign_Attribute ?_)
  refine ldC (v := v) hn (by first | rfl | with_unfolding_all rfl | kernel_rfl) (ldC (v := .ref x) hn (by first | rfl | with_unfolding_all rfl | kernel_rfl) ?_)
  refine set_plain X₁ (ox := excO C t0) (od := none) ⟨hx₁, rfl, rfl, trivial⟩ T.sa ?_
  refine exc_osa X₁ hx₁ hcl (show refsVE (.ref C :: bm) = true from hbm) rfl T.noN (fun h₃ tk₃ dx k₃ dn dne hx₃ hn₃ => ?_)
  show wpAny _ _ (execs _ _) _ _ _
  have z : s.heap.objs.size < h₁.objs.size := hn.lt
  exact wpAny_execs_nil (hq h₃ tk₃ dx ⟨fun b o hb e => k₃ b o hb (k b o e), hx₃, Nat.le_of_lt (Nat.lt_of_lt_of_le z dn), dne, hn₃⟩)
theorem BadTextK_madeK (T : BadTextTxK K mg C fI) {v : Value} (X : K.In s.heap) (hlim : s.heap.NoLimit) (hroom : A.depth + 1 < recursionLimit)
    (hq : ∀ h' tk e d, OwnMade s.heap h' e C d v → R (.ok (.ret (.ref e))) { s with heap := h', toks := tk }) :
    codeAny (model prog w) A (.call (.ref C) ⟨[], [("place", v)]⟩) R s := by
  obtain ⟨nm, q, N, bs, bm, sn, sub, ab, col, dd, k0, k1, k2, k3, k5, hC, hbm⟩ := T.cls
  obtain ⟨hp, g, dr, tk, os⟩ := s
  have k : ∀ b o, hp.get? b = some o → ((hp.push (kdv_tup [])).push (excO C hp.objs.size)).get? b = some o := fun b o e => Heap.get?_push_of_some _ (Heap.get?_push_of_some _ e)
  have hget : ((hp.push (kdv_tup [])).push (excO C hp.objs.size)).get? (hp.objs.size + 1) = some (excO C hp.objs.size) := by heap_get
  have hnx : K.lookup (hp.objs.size + 1) = none := by
    cases e : K.lookup (hp.objs.size + 1) with
    | none => rfl
    | some o =>
      have z : hp.get? (hp.objs.size + 1) = some o := X _ _ e
      exact absurd (Nat.lt_of_succ_lt (Heap.lt_size z)) (Nat.lt_irrefl _)
  refine PySem.HSK.call_kw F.excBase_ValueError (fun X => refsVE_contains X bm hbm) (X _ _ hC) (looks_findIn X T.iC) (fun self => bind_fn X self T.tC) (by show 0 ≤ sizeLine; omega) ?_
  refine BadTextK_initK (s := ⟨(hp.push (kdv_tup [])).push (excO C hp.objs.size), g, dr, tk, os⟩) T (X.keeps k) (hlim.keeps k) hget hnx ?_ fun h' tk' dx ⟨k', hx, dn, dne, hns⟩ => ?_
  · show A.depth + 1 < recursionLimit
    exact hroom
  · have old : ∀ b o, hp.get? b = some o → h'.get? b = some o := fun b o e => k' b o (Nat.ne_of_lt (Nat.lt_succ_of_lt (Heap.lt_size e))) (k b o e)
    have z : hp.objs.size + 1 + 1 ≤ dx := by
      first
        | (simpa only [Heap.size_push] using dn)
        | exact dn
        | (have q := dn; rw [Heap.size_push, Heap.size_push] at q; exact q)
    exact ⟨rfl, hq h' tk' (hp.objs.size + 1) dx ⟨old, Nat.le_succ _, ⟨_, _, hx, rfl, rfl, rfl, rfl, rfl⟩, Nat.le_trans (Nat.le_trans (Nat.le_succ _) (Nat.le_succ _)) z, dne, hns⟩⟩
end
end XkBadText
end PySem
namespace L2
open PySem PySem.Spec PyProof.Rows
theorem relK_BadText {v : V} {v' : Value} (r : RelV v v') (f : Str) : RelO (List.lookup f [(("place" : Str), v)]) (if f = "place" then some v' else none) := by
  by_cases hw : f = "place"
  · subst hw
    rw [if_pos rfl]
    have q : List.lookup ("place" : Str) [(("place" : Str), v)] = some v := by simp [List.lookup]
    rw [q]
    exact r
  · rw [if_neg hw]
    have qw : (f == ("place" : Str)) = false := by simpa using hw
    have q2 : List.lookup f [(("place" : Str), v)] = none := by simp [List.lookup, qw]
    rw [q2]
    trivial
section
variable {X : Cx} {C fI : Addr}
theorem pmk_BadTextK {a : Expr} {ta : TA} {p pos : Pos} {k : Nat} (T : PySem.XkBadText.BadTextTxK X.K X.mg C fI) (hr : Room k X.A) (ha : PA X [a] ta) (hg : Gl X "BadText" := by rfl)
    (he : starEach (a :: []) X.env = (false, eval a X.env) :: starEach [] X.env := by rfl) (hpl : (backTo pos (starEach [] X.env)).any (·.1) = false := by rfl) :
    L2N.PMk X (.Call (.Name "BadText" p) [a] [] pos) (Tw.tMkF "place" C ta) := by
  intro pins s σ H Q I h
  refine wpAny_Call_Name_kw (ld_glob I hg T.gC ?_)
  refine PySem.W.callWith_K (h₀ := X.base) I.ok.mod.kin T.kC (thn (ha.run pos pins s σ H _ I h) fun us s1 hh => ?_) he hpl
  obtain ⟨vs, H1, I1, r1, v, ev, q1⟩ := hh
  subst ev
  refine ⟨I1.kIn, ?_⟩
  cases r1 with
  | cons rv rn =>
    rename_i v' us'
    cases rn
    show wpAny _ _ (call (.ref C) [v']) _ _ _
    have hlim := I1.nolimit
    obtain ⟨hp, g, dr, tk, os⟩ := s1
    refine wpAny_call (PySem.XkBadText.BadTextK_made T I1.kIn hlim (by have := hr.dp; omega) fun h' tk' e d M => ?_)
    show L2N.MkP X pins σ Q (.ref e) ⟨h', g, dr, tk', os⟩
    obtain ⟨oe, fv, hoe, hc, hd, hdat, h1, h2⟩ := M.obj
    have hns := M.ns
    obtain ⟨G', g1, g2⟩ := restrict h' fun b => decide (b ≠ e)
    have gk : ∀ b, b ≠ e → G'.get? b = h'.get? b := fun b hb => g1 b (decide_eq_true hb)
    have ge : G'.get? e = none := g2 e (by simp)
    have old : ∀ b o, hp.get? b = some o → G'.get? b = some o := fun b o q => (gk b (Nat.ne_of_lt (Nat.lt_of_lt_of_le (Heap.lt_size q) M.new))).trans (M.keep b o q)
    have ob : ObjOk X.prog X.w (upd H1 d (.xd [(("place" : Str), v)])) G' d (.xd [(("place" : Str), v)]) :=
      ⟨_, hns.at (fun o q => (gk d M.dne).trans q), fun f => relK_BadText rv f⟩
    have J : Inv X pins σ (upd H1 d (.xd [(("place" : Str), v)])) ⟨G', g, dr, tk', os⟩ := I1.laid (t' := tk') old M.dbig ob
    refine ⟨e, oe, fv, ⟨G', g, dr, tk', os⟩, _, .ref C, some d, rfl, J, fun b o q => ?_, ge, hoe, ⟨hc, hd, fun vs e => by rw [hdat] at e; cases e; exact h2⟩, hdat, h1, ?_, rfl, I1.bare, raises_own T.exC T.tyC, q1 d (I1.hok.fresh M.dbig)⟩
    · by_cases hb : b = e
      · have q' : G'.get? b = some o := q
        rw [hb, ge] at q'; cases q'
      · exact (gk b hb).symm.trans q
    · rw [upd_ne (Ne.symm M.dne)]
      exact I1.hok.fresh M.new
theorem pmkk_BadTextK {a : Expr} {kpos : Pos} {ta : TA} {p pos : Pos} {k : Nat} (T : PySem.XkBadText.BadTextTxK X.K X.mg C fI) (hr : Room k X.A) (ha : PK X [⟨some "place", a, kpos⟩] ta) (hg : Gl X "BadText" := by rfl)
    (hall : (backToKw pos (keywordEach [⟨some "place", a, kpos⟩] X.env)).all (·.1.isSome) = true := by rfl) (hks : (backToKw pos (keywordEach [⟨some "place", a, kpos⟩] X.env)).filterMap (·.1) = (["place"] : List Str) := by rfl) (hpl : ((backTo pos (starEach [] X.env)).any (·.1) || (backToKw pos (keywordEach [⟨some "place", a, kpos⟩] X.env)).any (·.1.isNone)) = false := by rfl) :
    L2N.PMk X (.Call (.Name "BadText" p) [] [⟨some "place", a, kpos⟩] pos) (Tw.tMkF "place" C ta) := by
  intro pins s σ H Q I h
  refine wpAny_Call_Name_kw (ld_glob I hg T.gC ?_)
  refine PySem.W.callWith_KW0 (h₀ := X.base) I.ok.mod.kin T.kC hall ?_ hpl
  refine thn (ha.run pos pins s σ H _ I h) fun us s1 hh => ?_
  obtain ⟨vs, H1, I1, r1, v, ev, q1⟩ := hh
  subst ev
  refine ⟨I1.kIn, ?_⟩
  rw [hks]
  cases r1 with
  | cons rv rn =>
    rename_i v' us'
    cases rn
    show wpAny _ _ (call (.ref C) [] [("place", v')]) _ _ _
    have hlim := I1.nolimit
    obtain ⟨hp, g, dr, tk, os⟩ := s1
    refine wpAny_call (PySem.XkBadText.BadTextK_madeK T I1.kIn hlim (by have := hr.dp; omega) fun h' tk' e d M => ?_)
    show L2N.MkP X pins σ Q (.ref e) ⟨h', g, dr, tk', os⟩
    obtain ⟨oe, fv, hoe, hc, hd, hdat, h1, h2⟩ := M.obj
    have hns := M.ns
    obtain ⟨G', g1, g2⟩ := restrict h' fun b => decide (b ≠ e)
    have gk : ∀ b, b ≠ e → G'.get? b = h'.get? b := fun b hb => g1 b (decide_eq_true hb)
    have ge : G'.get? e = none := g2 e (by simp)
    have old : ∀ b o, hp.get? b = some o → G'.get? b = some o := fun b o q => (gk b (Nat.ne_of_lt (Nat.lt_of_lt_of_le (Heap.lt_size q) M.new))).trans (M.keep b o q)
    have ob : ObjOk X.prog X.w (upd H1 d (.xd [(("place" : Str), v)])) G' d (.xd [(("place" : Str), v)]) :=
      ⟨_, hns.at (fun o q => (gk d M.dne).trans q), fun f => relK_BadText rv f⟩
    have J : Inv X pins σ (upd H1 d (.xd [(("place" : Str), v)])) ⟨G', g, dr, tk', os⟩ := I1.laid (t' := tk') old M.dbig ob
    refine ⟨e, oe, fv, ⟨G', g, dr, tk', os⟩, _, .ref C, some d, rfl, J, fun b o q => ?_, ge, hoe, ⟨hc, hd, fun vs e => by rw [hdat] at e; cases e; exact h2⟩, hdat, h1, ?_, rfl, I1.bare, raises_own T.exC T.tyC, q1 d (I1.hok.fresh M.dbig)⟩
    · by_cases hb : b = e
      · have q' : G'.get? b = some o := q
        rw [hb, ge] at q'; cases q'
      · exact (gk b hb).symm.trans q
    · rw [upd_ne (Ne.symm M.dne)]
      exact I1.hok.fresh M.new
end
end L2
namespace PySem
namespace XkBadCount
open PySem.W PySem.Calls PyProof.Rows PySem.HandSPX Builtin Builtin.ObjectAttr
def iA (p1 p2 p3 : Pos) : Arguments := { posonlyargs := [], args := [{ arg := "self", annotation := none, pos := p1 }, { arg := "what", annotation := none, pos := p2 }, { arg := "count", annotation := none, pos := p3 }], vararg := none, kwonlyargs := [], kw_defaults := [], kwarg := none, defaults := [] }
def iB (q1 q2 q3 q4 q5 q6 q7 q8 : Pos) : List Stmt := [.Assign [.Attribute (.Name "self" q1) "what" q2] (.Name "what" q3) q4, .Assign [.Attribute (.Name "self" q5) "count" q6] (.Name "count" q7) q8]
def iS : Scope := { kind := .function, names := [(PySem.Str.ofString "self", .local), (PySem.Str.ofString "what", .local), (PySem.Str.ofString "count", .local)], isGenerator := false, isCoroutine := false, more := [] }
/-- what the written part says of BadCount, at C, and of its __init__, at fI -/
structure BadCountTxK (K : Frag) (mg : Str → Option Value) (C fI : Addr) : Prop where
  gC : mg "BadCount" = some (.ref C)
  cls : ∃ nm q N bs bm sn sub ab col dd k0 k1 k2 k3 k5, K.lookup C = some (excClassObj nm q C N bs bm true sn sub ab col dd k0 k1 k2 k3 k5 "ValueError.__new__") ∧ refsVE bm = true
  sa : findIn K (.ref C) "__setattr__" = some (some (.builtin "object.__setattr__"))
  ga : findIn K (.ref C) "__getattribute__" = some (some (.builtin "BaseException.__getattribute__"))
  gg : findIn K (.ref C) "__getattr__" = some none
  noN : findIn K (.ref C) "what" = some none
  noN2 : findIn K (.ref C) "count" = some none
  iC : findIn K (.ref C) "__init__" = some (some (.ref fI))
  tC : typeIn K (.ref fI) = some (.type "function")
  kC : keepIn K (.ref C) = true
  exC : subIn K (.ref C) (.type "BaseException") = some true
  tyC : typeIn K (.ref C) = some (.type "type")
  hdC : hasDictIn K C = true
  te : exmOne K (.ref C) (.ref C) = some true
  fn : ∃ (oc : Value) (od : Option Addr) (doc pm : Value) (an : Option Addr) (cdv ct : Value) (osl : Array (Option Value)) (p1 p2 p3 q1 q2 q3 q4 q5 q6 q7 q8 : Pos),
    K.lookup fI = some ⟨oc, od, .func (fnOf "__init__" "BadCount.__init__" (iA p1 p2 p3) (iB q1 q2 q3 q4 q5 q6 q7 q8) iS .none .none doc pm an cdv ct), osl⟩ ∧ codeIn K cdv "BadCount.__init__" = true
theorem two_size (v u : Value) : [v, u].length ≤ sizeLine := by
  rw [sizeLine_eq]
  exact (by decide : 2 ≤ 16777216)
theorem kept_but {K : Frag} {h h' : Heap} {x : Addr} (X : K.In h) (hx : K.lookup x = none) (k : ∀ b o, b ≠ x → h.get? b = some o → h'.get? b = some o) : K.In h' := fun a o e =>
  k a o (fun z => by rw [z, hx] at e; cases e) (X a o e)
theorem ldC {M : Model} {s : Shared} {name : Str} {scope : Scope} {L a : Addr} {cd : Value} {m : Str → Option Value} {x : Str} {pos : Pos} {v : Value} {Q : Value → Shared → Prop} {A : Around} {E : Value → Shared → Prop} (hn : s.heap.Ns L m) (hv : m x = some v) (h : Q v s)
    (hk : scope.kind = .function := by rfl) (hl : (envOfC name scope L a cd).kindOf x = some .local := by rfl) (hd : (x == ("__debug__" : Str)) = false := by decide) :
    wpAny M A (eval (.Name x pos) (envOfC name scope L a cd)) Q E s := wpAny_Name (wpAny_loadName_local hk hl hn hv h) hd
/-- what __init__ leaves of a fresh exception at x -/
structure InitEnd (h h' : Heap) (x C dx t1 : Addr) (v u : Value) : Prop where
  keep : ∀ b o, b ≠ x → h.get? b = some o → h'.get? b = some o
  obj : h'.get? x = some { cls := .ref C, dict := some dx, data := .fields #[.ref t1, .none, .none, .none, .bool false, .none] }
  dbig : h.objs.size ≤ dx
  dne : dx ≠ x
  ns : h'.Ns1 dx (fun y => if y = "count" then some u else if y = "what" then some v else none)
/-- a made BadCount -/
structure OwnMade (h h' : Heap) (e C d : Addr) (v u : Value) : Prop where
  keep : ∀ b o, h.get? b = some o → h'.get? b = some o
  new : h.objs.size ≤ e
  obj : ∃ oe vs, h'.get? e = some oe ∧ oe.cls = .ref C ∧ oe.dict = some d ∧ oe.data = .fields vs ∧ vs[1]? = some .none ∧ vs[2]? = some .none
  dbig : h.objs.size ≤ d
  dne : d ≠ e
  ns : h'.Ns1 d (fun y => if y = "count" then some u else if y = "what" then some v else none)
section
variable {prog : Program} {w : World} {A : Around} {E : Value → Shared → Prop} {R : Result → Shared → Prop} {s : Shared} {K : Frag} {mg : Str → Option Value} {C fI : Addr}
theorem BadCountK_init (T : BadCountTxK K mg C fI) {x t0 : Addr} {v u : Value} (X : K.In s.heap) (hlim : s.heap.NoLimit) (hx : s.heap.get? x = some (excO C t0)) (hnx : K.lookup x = none) (hroom : A.depth < recursionLimit)
    (hq : ∀ h' tk dx, InitEnd s.heap h' x C dx t0 v u → R (.ok (.ret .none)) { s with heap := h', toks := tk }) :
    codeAny (model prog w) A (.call (.ref fI) ⟨[.ref x, v, u], []⟩) R s := by
  obtain ⟨oc, od, doc, pm, an, cdv, ct, osl, p1, p2, p3, q1, q2, q3, q4, q5, q6, q7, q8, ho, hcd⟩ := T.fn
  obtain ⟨nm, q, N, bs, bm, sn, sub, ab, col, dd, k0, k1, k2, k3, k5, hC, hbm⟩ := T.cls
  have hcl : clsIn K C = some { name := nm, bases := bs, mro := .ref C :: bm, ns := N, qualname := q, hasDict := true, slotNames := sn, subclasses := sub, abstract := ab, collection := col, hasDel := false } := by unfold clsIn; rw [hC] <;> rfl
  refine Att.call_fn (binds := [("self", .ref x), ("what", v), ("count", u)]) X hlim ho hcd hroom (BindsTo.of_eq (by first | rfl | with_unfolding_all rfl)) (by first | rfl | decide | with_unfolding_all rfl) (fun s₁ IC => ?_) rfl rfl rfl
  obtain ⟨h₁, tk₁, rfl⟩ := IC.toInCall.same
  have k : ∀ b o, s.heap.get? b = some o → h₁.get? b = some o := IC.toInCall.keep
  have hn := IC.toInCall.ns
  have hxL : s.heap.objs.size ≠ x := Nat.ne_of_gt (Heap.lt_size hx)
  have X₁ : K.In h₁ := X.keeps k
  have hx₁ := k _ _ hx
  show wpAny _ _ (execs _ _) _ _ _
  refine wpAny_execs_cons (plainObj_wpAny_Assign_Attribute ?_)
  refine ldC (v := v) hn (by first | rfl | with_unfolding_all rfl | kernel_rfl) (ldC (v := .ref x) hn (by first | rfl | with_unfolding_all rfl | kernel_rfl) ?_)
  refine set_plain X₁ (ox := excO C t0) (od := none) ⟨hx₁, rfl, rfl, trivial⟩ T.sa ?_
  refine exc_osa X₁ hx₁ hcl (show refsVE (.ref C :: bm) = true from hbm) rfl T.noN (fun h₃ tk₃ dx k₃ dn dne hx₃ hn₃ => ?_)
  have z : s.heap.objs.size < h₁.objs.size := hn.lt
  have X₃ : K.In h₃ := kept_but X₁ hnx k₃
  show wpAny _ _ (execs _ _) _ _ _
  refine wpAny_execs_cons (plainObj_wpAny_Assign_Attribute ?_)
  have hn₃L : h₃.Ns s.heap.objs.size _ := hn.at fun o e => k₃ _ o hxL e
  refine ldC (v := u) hn₃L (by first | rfl | with_unfolding_all rfl | kernel_rfl) (ldC (v := .ref x) hn₃L (by first | rfl | with_unfolding_all rfl | kernel_rfl) ?_)
  obtain ⟨oD, esD, epD, hoD, hdD, hkD, huD, hfD⟩ := id hn₃
  refine set_plain X₃ (od := some oD) ⟨hx₃, rfl, rfl, hoD⟩ T.sa ?_
  refine PySem.XcBadCount.exc_osa2 X₃ hx₃ hn₃ (Within.cons "what" v Within.nil) (by simp) hcl (show refsVE (.ref C :: bm) = true from hbm) rfl T.noN2 (fun h₄ tk₄ k₄ hn₄ => ?_)
  show wpAny _ _ (execs _ _) _ _ _
  have dge : s.heap.objs.size ≤ dx := Nat.le_of_lt (Nat.lt_of_lt_of_le z dn)
  refine wpAny_execs_nil (hq h₄ tk₄ dx ⟨fun b o hb e => ?_, k₄ _ _ (Ne.symm dne) hx₃, dge, dne, hn₄⟩)
  have hbd : b ≠ dx := fun q => by
    have := Heap.lt_size (h := s.heap) e
    rw [q] at this
    exact absurd this (Nat.not_lt.mpr dge)
  exact k₄ b o hbd (k₃ b o hb (k b o e))
theorem BadCountK_made (T : BadCountTxK K mg C fI) {v u : Value} (X : K.In s.heap) (hlim : s.heap.NoLimit) (hroom : A.depth + 1 < recursionLimit)
    (hq : ∀ h' tk e d, OwnMade s.heap h' e C d v u → R (.ok (.ret (.ref e))) { s with heap := h', toks := tk }) :
    codeAny (model prog w) A (.call (.ref C) ⟨[v, u], []⟩) R s := by
  obtain ⟨nm, q, N, bs, bm, sn, sub, ab, col, dd, k0, k1, k2, k3, k5, hC, hbm⟩ := T.cls
  obtain ⟨hp, g, dr, tk, os⟩ := s
  have k : ∀ b o, hp.get? b = some o → ((hp.push (kdv_tup [v, u])).push (excO C hp.objs.size)).get? b = some o := fun b o e => Heap.get?_push_of_some _ (Heap.get?_push_of_some _ e)
  have hget : ((hp.push (kdv_tup [v, u])).push (excO C hp.objs.size)).get? (hp.objs.size + 1) = some (excO C hp.objs.size) := by heap_get
  have hnx : K.lookup (hp.objs.size + 1) = none := by
    cases e : K.lookup (hp.objs.size + 1) with
    | none => rfl
    | some o =>
      have z : hp.get? (hp.objs.size + 1) = some o := X _ _ e
      exact absurd (Nat.lt_of_succ_lt (Heap.lt_size z)) (Nat.lt_irrefl _)
  refine call_own F.excBase_ValueError (fun X => refsVE_contains X bm hbm) (X _ _ hC) (looks_findIn X T.iC) (fun self => bind_fn X self T.tC) (two_size v u) ?_
  refine BadCountK_init (s := ⟨(hp.push (kdv_tup [v, u])).push (excO C hp.objs.size), g, dr, tk, os⟩) T (X.keeps k) (hlim.keeps k) hget hnx ?_ fun h' tk' dx ⟨k', hx, dn, dne, hns⟩ => ?_
  · show A.depth + 1 < recursionLimit
    exact hroom
  · have old : ∀ b o, hp.get? b = some o → h'.get? b = some o := fun b o e => k' b o (Nat.ne_of_lt (Nat.lt_succ_of_lt (Heap.lt_size e))) (k b o e)
    have z : hp.objs.size + 1 + 1 ≤ dx := by
      first
        | (simpa only [Heap.size_push] using dn)
        | exact dn
        | (have q := dn; rw [Heap.size_push, Heap.size_push] at q; exact q)
    exact ⟨rfl, hq h' tk' (hp.objs.size + 1) dx ⟨old, Nat.le_succ _, ⟨_, _, hx, rfl, rfl, rfl, rfl, rfl⟩, Nat.le_trans (Nat.le_trans (Nat.le_succ _) (Nat.le_succ _)) z, dne, hns⟩⟩
theorem BadCountK_initK (T : BadCountTxK K mg C fI) {x t0 : Addr} {v u : Value} (X : K.In s.heap) (hlim : s.heap.NoLimit) (hx : s.heap.get? x = some (excO C t0)) (hnx : K.lookup x = none) (hroom : A.depth < recursionLimit)
    (hq : ∀ h' tk dx, InitEnd s.heap h' x C dx t0 v u → R (.ok (.ret .none)) { s with heap := h', toks := tk }) :
    codeAny (model prog w) A (.call (.ref fI) ⟨[.ref x], [("count", u), ("what", v)]⟩) R s := by
  obtain ⟨oc, od, doc, pm, an, cdv, ct, osl, p1, p2, p3, q1, q2, q3, q4, q5, q6, q7, q8, ho, hcd⟩ := T.fn
  obtain ⟨nm, q, N, bs, bm, sn, sub, ab, col, dd, k0, k1, k2, k3, k5, hC, hbm⟩ := T.cls
  have hcl : clsIn K C = some { name := nm, bases := bs, mro := .ref C :: bm, ns := N, qualname := q, hasDict := true, slotNames := sn, subclasses := sub, abstract := ab, collection := col, hasDel := false } := by unfold clsIn; rw [hC] <;> rfl
  refine Att.call_fn (binds := [("self", .ref x), ("what", v), ("count", u)]) X hlim ho hcd hroom (BindsTo.of_eq (by first | rfl | with_unfolding_all rfl)) (by first | rfl | decide | with_unfolding_all rfl) (fun s₁ IC => ?_) rfl rfl rfl
  obtain ⟨h₁, tk₁, rfl⟩ := IC.toInCall.same
  have k : ∀ b o, s.heap.get? b = some o → h₁.get? b = some o := IC.toInCall.keep
  have hn := IC.toInCall.ns
  have hxL : s.heap.objs.size ≠ x := Nat.ne_of_gt (Heap.lt_size hx)
  have X₁ : K.In h₁ := X.keeps k
  have hx₁ := k _ _ hx
  show wpAny _ _ (execs _ _) _ _ _
  refine wpAny_execs_cons (plainObj_wpAny_Assign_Attribute ?_)
  refine ldC (v := v) hn (by first | rfl | with_unfolding_all rfl | kernel_rfl) (ldC (v := .ref x) hn (by first | rfl | with_unfolding_all rfl | kernel_rfl) ?_)
  refine set_plain X₁ (ox := excO C t0) (od := none) ⟨hx₁, rfl, rfl, trivial⟩ T.sa ?_
  refine exc_osa X₁ hx₁ hcl (show refsVE (.ref C :: bm) = true from hbm) rfl T.noN (fun h₃ tk₃ dx k₃ dn dne hx₃ hn₃ => ?_)
  have z : s.heap.objs.size < h₁.objs.size := hn.lt
  have X₃ : K.In h₃ := kept_but X₁ hnx k₃
  show wpAny _ _ (execs _ _) _ _ _
  refine wpAny_execs_cons (plainObj_wpAny_Assign_Attribute ?_)
  have hn₃L : h₃.Ns s.heap.objs.size _ := hn.at fun o e => k₃ _ o hxL e
  refine ldC (v := u) hn₃L (by first | rfl | with_unfolding_all rfl | kernel_rfl) (ldC (v := .ref x) hn₃L (by first | rfl | with_unfolding_all rfl | kernel_rfl) ?_)
  obtain ⟨oD, esD, epD, hoD, hdD, hkD, huD, hfD⟩ := id hn₃
  refine set_plain X₃ (od := some oD) ⟨hx₃, rfl, rfl, hoD⟩ T.sa ?_
  refine PySem.XcBadCount.exc_osa2 X₃ hx₃ hn₃ (Within.cons "what" v Within.nil) (by simp) hcl (show refsVE (.ref C :: bm) = true from hbm) rfl T.noN2 (fun h₄ tk₄ k₄ hn₄ => ?_)
  show wpAny _ _ (execs _ _) _ _ _
  have dge : s.heap.objs.size ≤ dx := Nat.le_of_lt (Nat.lt_of_lt_of_le z dn)
  refine wpAny_execs_nil (hq h₄ tk₄ dx ⟨fun b o hb e => ?_, k₄ _ _ (Ne.symm dne) hx₃, dge, dne, hn₄⟩)
  have hbd : b ≠ dx := fun q => by
    have := Heap.lt_size (h := s.heap) e
    rw [q] at this
    exact absurd this (Nat.not_lt.mpr dge)
  exact k₄ b o hbd (k₃ b o hb (k b o e))
theorem BadCountK_madeK (T : BadCountTxK K mg C fI) {v u : Value} (X : K.In s.heap) (hlim : s.heap.NoLimit) (hroom : A.depth + 1 < recursionLimit)
    (hq : ∀ h' tk e d, OwnMade s.heap h' e C d v u → R (.ok (.ret (.ref e))) { s with heap := h', toks := tk }) :
    codeAny (model prog w) A (.call (.ref C) ⟨[], [("count", u), ("what", v)]⟩) R s := by
  obtain ⟨nm, q, N, bs, bm, sn, sub, ab, col, dd, k0, k1, k2, k3, k5, hC, hbm⟩ := T.cls
  obtain ⟨hp, g, dr, tk, os⟩ := s
  have k : ∀ b o, hp.get? b = some o → ((hp.push (kdv_tup [])).push (excO C hp.objs.size)).get? b = some o := fun b o e => Heap.get?_push_of_some _ (Heap.get?_push_of_some _ e)
  have hget : ((hp.push (kdv_tup [])).push (excO C hp.objs.size)).get? (hp.objs.size + 1) = some (excO C hp.objs.size) := by heap_get
  have hnx : K.lookup (hp.objs.size + 1) = none := by
    cases e : K.lookup (hp.objs.size + 1) with
    | none => rfl
    | some o =>
      have z : hp.get? (hp.objs.size + 1) = some o := X _ _ e
      exact absurd (Nat.lt_of_succ_lt (Heap.lt_size z)) (Nat.lt_irrefl _)
  refine PySem.HSK.call_kw F.excBase_ValueError (fun X => refsVE_contains X bm hbm) (X _ _ hC) (looks_findIn X T.iC) (fun self => bind_fn X self T.tC) (by show 0 ≤ sizeLine; omega) ?_
  refine BadCountK_initK (s := ⟨(hp.push (kdv_tup [])).push (excO C hp.objs.size), g, dr, tk, os⟩) T (X.keeps k) (hlim.keeps k) hget hnx ?_ fun h' tk' dx ⟨k', hx, dn, dne, hns⟩ => ?_
  · show A.depth + 1 < recursionLimit
    exact hroom
  · have old : ∀ b o, hp.get? b = some o → h'.get? b = some o := fun b o e => k' b o (Nat.ne_of_lt (Nat.lt_succ_of_lt (Heap.lt_size e))) (k b o e)
    have z : hp.objs.size + 1 + 1 ≤ dx := by
      first
        | (simpa only [Heap.size_push] using dn)
        | exact dn
        | (have q := dn; rw [Heap.size_push, Heap.size_push] at q; exact q)
    exact ⟨rfl, hq h' tk' (hp.objs.size + 1) dx ⟨old, Nat.le_succ _, ⟨_, _, hx, rfl, rfl, rfl, rfl, rfl⟩, Nat.le_trans (Nat.le_trans (Nat.le_succ _) (Nat.le_succ _)) z, dne, hns⟩⟩
end
end XkBadCount
end PySem
namespace L2
open PySem PySem.Spec PyProof.Rows
theorem relK_BadCount {v u : V} {v' u' : Value} (r : RelV v v') (r2 : RelV u u') (f : Str) : RelO (List.lookup f [(("count" : Str), u), (("what" : Str), v)]) (if f = "count" then some u' else if f = "what" then some v' else none) := by
  have hne : ¬ ("what" : Str) = "count" := by decide +kernel
  by_cases hc : f = "count"
  · subst hc
    rw [if_pos rfl]
    have q : List.lookup ("count" : Str) [(("count" : Str), u), (("what" : Str), v)] = some u := by simp [List.lookup]
    rw [q]
    exact r2
  · rw [if_neg hc]
    have qc : (f == ("count" : Str)) = false := by simpa using hc
    by_cases hw : f = "what"
    · subst hw
      rw [if_pos rfl]
      have q : List.lookup ("what" : Str) [(("count" : Str), u), (("what" : Str), v)] = some v := by simp [List.lookup, qc]
      rw [q]
      exact r
    · rw [if_neg hw]
      have qw : (f == ("what" : Str)) = false := by simpa using hw
      have q2 : List.lookup f [(("count" : Str), u), (("what" : Str), v)] = none := by simp [List.lookup, qw, qc]
      rw [q2]
      trivial
section
variable {X : Cx} {C fI : Addr}
theorem pmk_BadCountK {a b : Expr} {ta : TA} {p pos : Pos} {k : Nat} (T : PySem.XkBadCount.BadCountTxK X.K X.mg C fI) (hr : Room k X.A) (ha : PA X [a, b] ta) (hg : Gl X "BadCount" := by rfl)
    (he : starEach (a :: [b]) X.env = (false, eval a X.env) :: starEach [b] X.env := by rfl) (hpl : (backTo pos (starEach [b] X.env)).any (·.1) = false := by rfl) :
    L2N.PMk X (.Call (.Name "BadCount" p) [a, b] [] pos) (Tw.tMkF2 "what" "count" C ta) := by
  intro pins s σ H Q I h
  refine wpAny_Call_Name_kw (ld_glob I hg T.gC ?_)
  refine PySem.W.callWith_K (h₀ := X.base) I.ok.mod.kin T.kC (thn (ha.run pos pins s σ H _ I h) fun us s1 hh => ?_) he hpl
  obtain ⟨vs, H1, I1, r1, v, u, ev, q1⟩ := hh
  subst ev
  refine ⟨I1.kIn, ?_⟩
  cases r1 with
  | cons rv rn =>
    rename_i v' us'
    cases rn with
    | cons ru rn2 =>
    rename_i u' us''
    cases rn2
    show wpAny _ _ (call (.ref C) [v', u']) _ _ _
    have hlim := I1.nolimit
    obtain ⟨hp, g, dr, tk, os⟩ := s1
    refine wpAny_call (PySem.XkBadCount.BadCountK_made T I1.kIn hlim (by have := hr.dp; omega) fun h' tk' e d M => ?_)
    show L2N.MkP X pins σ Q (.ref e) ⟨h', g, dr, tk', os⟩
    obtain ⟨oe, fv, hoe, hc, hd, hdat, h1, h2⟩ := M.obj
    have hns := M.ns
    obtain ⟨G', g1, g2⟩ := restrict h' fun b => decide (b ≠ e)
    have gk : ∀ b, b ≠ e → G'.get? b = h'.get? b := fun b hb => g1 b (decide_eq_true hb)
    have ge : G'.get? e = none := g2 e (by simp)
    have old : ∀ b o, hp.get? b = some o → G'.get? b = some o := fun b o q => (gk b (Nat.ne_of_lt (Nat.lt_of_lt_of_le (Heap.lt_size q) M.new))).trans (M.keep b o q)
    have ob : ObjOk X.prog X.w (upd H1 d (.xd [(("count" : Str), u), (("what" : Str), v)])) G' d (.xd [(("count" : Str), u), (("what" : Str), v)]) :=
      ⟨_, hns.at (fun o q => (gk d M.dne).trans q), fun f => relK_BadCount rv ru f⟩
    have J : Inv X pins σ (upd H1 d (.xd [(("count" : Str), u), (("what" : Str), v)])) ⟨G', g, dr, tk', os⟩ := I1.laid (t' := tk') old M.dbig ob
    refine ⟨e, oe, fv, ⟨G', g, dr, tk', os⟩, _, .ref C, some d, rfl, J, fun b o q => ?_, ge, hoe, ⟨hc, hd, fun vs e => by rw [hdat] at e; cases e; exact h2⟩, hdat, h1, ?_, rfl, I1.bare, raises_own T.exC T.tyC, q1 d (I1.hok.fresh M.dbig)⟩
    · by_cases hb : b = e
      · have q' : G'.get? b = some o := q
        rw [hb, ge] at q'; cases q'
      · exact (gk b hb).symm.trans q
    · rw [upd_ne (Ne.symm M.dne)]
      exact I1.hok.fresh M.new
theorem pmkk_BadCountK {a b : Expr} {kpos kpos2 : Pos} {ta : TA} {p pos : Pos} {k : Nat} (T : PySem.XkBadCount.BadCountTxK X.K X.mg C fI) (hr : Room k X.A) (ha : PK X [⟨some "count", a, kpos⟩, ⟨some "what", b, kpos2⟩] ta) (hg : Gl X "BadCount" := by rfl)
    (hall : (backToKw pos (keywordEach [⟨some "count", a, kpos⟩, ⟨some "what", b, kpos2⟩] X.env)).all (·.1.isSome) = true := by rfl) (hks : (backToKw pos (keywordEach [⟨some "count", a, kpos⟩, ⟨some "what", b, kpos2⟩] X.env)).filterMap (·.1) = (["count", "what"] : List Str) := by rfl) (hpl : ((backTo pos (starEach [] X.env)).any (·.1) || (backToKw pos (keywordEach [⟨some "count", a, kpos⟩, ⟨some "what", b, kpos2⟩] X.env)).any (·.1.isNone)) = false := by rfl) :
    L2N.PMk X (.Call (.Name "BadCount" p) [] [⟨some "count", a, kpos⟩, ⟨some "what", b, kpos2⟩] pos) (Tw.tMkF2K "what" "count" C ta) := by
  intro pins s σ H Q I h
  refine wpAny_Call_Name_kw (ld_glob I hg T.gC ?_)
  refine PySem.W.callWith_KW0 (h₀ := X.base) I.ok.mod.kin T.kC hall ?_ hpl
  refine thn (ha.run pos pins s σ H _ I h) fun us s1 hh => ?_
  obtain ⟨vs, H1, I1, r1, v, u, ev, q1⟩ := hh
  subst ev
  refine ⟨I1.kIn, ?_⟩
  rw [hks]
  cases r1 with
  | cons ru rn =>
    rename_i u' us'
    cases rn with
    | cons rv rn2 =>
    rename_i v' us''
    cases rn2
    show wpAny _ _ (call (.ref C) [] [("count", u'), ("what", v')]) _ _ _
    have hlim := I1.nolimit
    obtain ⟨hp, g, dr, tk, os⟩ := s1
    refine wpAny_call (PySem.XkBadCount.BadCountK_madeK T I1.kIn hlim (by have := hr.dp; omega) fun h' tk' e d M => ?_)
    show L2N.MkP X pins σ Q (.ref e) ⟨h', g, dr, tk', os⟩
    obtain ⟨oe, fv, hoe, hc, hd, hdat, h1, h2⟩ := M.obj
    have hns := M.ns
    obtain ⟨G', g1, g2⟩ := restrict h' fun b => decide (b ≠ e)
    have gk : ∀ b, b ≠ e → G'.get? b = h'.get? b := fun b hb => g1 b (decide_eq_true hb)
    have ge : G'.get? e = none := g2 e (by simp)
    have old : ∀ b o, hp.get? b = some o → G'.get? b = some o := fun b o q => (gk b (Nat.ne_of_lt (Nat.lt_of_lt_of_le (Heap.lt_size q) M.new))).trans (M.keep b o q)
    have ob : ObjOk X.prog X.w (upd H1 d (.xd [(("count" : Str), u), (("what" : Str), v)])) G' d (.xd [(("count" : Str), u), (("what" : Str), v)]) :=
      ⟨_, hns.at (fun o q => (gk d M.dne).trans q), fun f => relK_BadCount rv ru f⟩
    have J : Inv X pins σ (upd H1 d (.xd [(("count" : Str), u), (("what" : Str), v)])) ⟨G', g, dr, tk', os⟩ := I1.laid (t' := tk') old M.dbig ob
    refine ⟨e, oe, fv, ⟨G', g, dr, tk', os⟩, _, .ref C, some d, rfl, J, fun b o q => ?_, ge, hoe, ⟨hc, hd, fun vs e => by rw [hdat] at e; cases e; exact h2⟩, hdat, h1, ?_, rfl, I1.bare, raises_own T.exC T.tyC, q1 d (I1.hok.fresh M.dbig)⟩
    · by_cases hb : b = e
      · have q' : G'.get? b = some o := q
        rw [hb, ge] at q'; cases q'
      · exact (gk b hb).symm.trans q
    · rw [upd_ne (Ne.symm M.dne)]
      exact I1.hok.fresh M.new
end
end L2
end
section
set_option maxRecDepth 100000
set_option maxHeartbeats 2000000
namespace L2
open PySem PySem.Spec PyProof.Rows
/-- at a: an exception object whose class is cls, its dict dd -/
def exvV (cls : Value) (dd : Option Addr) (a : Addr) : HO := .ext fun h => ∃ (oe : Obj) (vs : Array Value), h.get? a = some oe ∧ oe.cls = cls ∧ oe.dict = dd ∧ oe.data = .fields vs
section
variable {X : Cx} {pins : List (Addr × Obj)} {σ : St} {H : Hp} {s s' : Shared}
theorem pe_of_mkC {e : Expr} {t : St → Hp → XK → Prop} (h : PMk X e t) : PE X e (fun σ H Q => t σ H fun cls d H' => ∀ a, H' a = none → Q (.ref a) (upd H' a (exvV cls d a))) := ⟨fun pins s σ H Q I w => by
  refine wpAny_mono (h pins s σ H _ I w) (fun u s1 hu => ?_) fun _ _ x => x
  obtain ⟨a, oe, vs, sI, H', cls, d, rfl, J, k, hne, ha, hz, hd, h1, na, os, ag, r, q⟩ := hu
  have ob : ObjOk X.prog X.w (upd H' a (exvV cls d a)) s1.heap a (exvV cls d a) := by
    show _ ∧ (∃ o, s1.heap.get? a = some o) ∧ _
    refine ⟨⟨oe, vs, ha, hz.1, hz.2, hd⟩, ⟨oe, ha⟩, fun h1 h2 z k => ?_⟩
    obtain ⟨o', v', q1, q2⟩ := z
    exact ⟨o', v', k _ q1, q2⟩
  exact ⟨.ref a, _, J.grown k os ag hne na ob, rfl, q a na⟩⟩
theorem exv_at (I : Inv X pins σ H s) {cls : Value} {a : Addr} {dd : Option Addr} (h : H a = some (exvV cls dd a)) : ∃ (oe : Obj) (vs : Array Value), s.heap.get? a = some oe ∧ oe.cls = cls ∧ oe.dict = dd ∧ oe.data = .fields vs := by
  have x : ObjOk X.prog X.w H s.heap a (exvV cls dd a) := I.hok a _ h
  exact x.1
/-- a value's dict, if it has one -/
def XdV (H : Hp) (dd : Option Addr) (us : List (Str × V)) : Prop := (∀ d, dd = some d → H d = some (.xd us)) ∧ (dd = none → us = [])
theorem exv_inst (I : Inv X pins σ H s) {C a : Addr} {dd : Option Addr} {us : List (Str × V)} (h : H a = some (Tw.exv C dd a)) (hx : XdV H dd us) :
    ∃ (oe : Obj) (od : Option Obj), PySem.W.InstAt s.heap a oe C od ∧ ∀ n, us.lookup n = none → PySem.W.shadowIn od n = some false := by
  obtain ⟨oe, vs, h1, h2, h3, h4⟩ := exv_at I (cls := .ref C) h
  have hn : PySem.W.notCls oe = true := by unfold PySem.W.notCls; rw [h4] <;> rfl
  cases dd with
  | none => exact ⟨oe, none, ⟨h1, h2, hn, by rw [h3]; trivial⟩, fun _ _ => rfl⟩
  | some d =>
    have hx : ObjOk X.prog X.w H s.heap d (.xd us) := I.hok d _ (hx.1 d rfl)
    obtain ⟨mA, hns, hr⟩ := hx
    obtain ⟨od, ho, hl⟩ := lookIn_ns hns
    refine ⟨oe, some od, ⟨h1, h2, hn, by rw [h3]; exact ho⟩, fun n q => ?_⟩
    have r := hr n
    rw [q] at r
    have z : mA n = none := by
      cases e : mA n with
      | none => rfl
      | some u => rw [e] at r; exact r.elim
    show (PySem.W.lookIn n od).map _ = _
    rw [hl, z]
    rfl
/-- isinstance(x, C), x such a value -/
def rIsV (K : PySem.W.Frag) : List V → Hp → VK → Prop := fun xs H Q => ∃ (a C : Addr) (dd : Option Addr) (us : List (Str × V)) (c : V) (cv : Value) (b : Bool), xs = [.ref a, c] ∧ ClsV c cv ∧ ExcD K C ∧ H a = some (Tw.exv C dd a) ∧ XdV H dd us ∧ PySem.W.kitOne K (.ref C) cv = some b ∧ Q (.bl b) H
end
end L2
namespace L2
open PySem PySem.Spec PyProof.Rows
section
variable {X : Cx}
theorem call_isV : CallR X (.builtin "isinstance") (rIsV X.K) := by
  intro pins s σ H xs us Q I r h
  obtain ⟨a, C, dd, ws, c, cv, b, rfl, k, E, ha, hx, e, q⟩ := h
  obtain ⟨u1, u2, rfl, r1, r2⟩ := vals2 r
  obtain rfl : u1 = Value.ref a := r1
  have e2 := k.eq r2
  subst e2
  obtain ⟨oe, od, J, _⟩ := exv_inst I ha hx
  exact PySem.W.kia_one (PySem.W.kitx_exc E.hc E.hg E.hk E.hs E.ha E.hn E.ht E.hm) I.kIn J e (fun z => nomatch z) fun tk => ⟨.bl b, H, I.tok tk, rfl, q⟩
/-- isinstance(x, C), x an exception of a built-in class -/
def rIsBX (K : PySem.W.Frag) (T : String) : List V → Hp → VK → Prop := fun xs H Q => ∃ (a : Addr) (dd : Option Addr) (c : V) (cv : Value) (b : Bool), xs = [.ref a, c] ∧ ClsV c cv ∧ H a = some (exvV (.type T) dd a) ∧ PySem.W.kitOne K (.type T) cv = some b ∧ Q (.bl b) H
theorem call_isVE : CallR X (.builtin "isinstance") (rIsBX X.K "ValueError") := by
  intro pins s σ H xs us Q I r h
  obtain ⟨a, dd, c, cv, b, rfl, k, ha, e, q⟩ := h
  obtain ⟨u1, u2, rfl, r1, r2⟩ := vals2 r
  obtain rfl : u1 = Value.ref a := r1
  have e2 := k.eq r2
  subst e2
  obtain ⟨oe, vs, h1, h2, h3, h4⟩ := exv_at I ha
  exact PySem.W.kia_one (PySem.W.kitx_bexc PySem.F.excAttr_ValueError (by kernel_rfl) (by rw [isSubtype_type]; kernel_rfl) (by decide)) I.kIn ⟨oe, h1, h2⟩ e (fun z => nomatch z) fun tk => ⟨.bl b, H, I.tok tk, rfl, q⟩
/-- x.f -/
def tVf (K : PySem.W.Frag) (n : Str) (te : TE) : TE := fun σ H Q => te σ H fun x H1 => ∃ (a C d : Addr) (us : List (Str × V)) (v : V), x = .ref a ∧ XfC K C ∧ PySem.W.findIn K (.ref C) n = some none ∧ H1 a = some (Tw.exv C (some d) a) ∧ H1 d = some (.xd us) ∧ us.lookup n = some v ∧ Q v H1
theorem pe_vf {e : Expr} {te : TE} {pos : Pos} {n : Str} (he : PE X e te) (hb : attributeBase e n X.env (eval e X.env) = eval e X.env := by rfl) : PE X (.Attribute e n pos) (tVf X.K n te) := by
  refine ⟨fun pins s σ H Q I h => ?_⟩
  refine attr_of hb (thn (he.run pins s σ H _ I h) fun u s1 hh => ?_)
  obtain ⟨x, H1, I1, rx, a, C, dd, fs, v, ex, T, hno, ha, ea, l, q⟩ := hh
  subst ex
  obtain rfl : u = Value.ref a := rx
  obtain ⟨oe, vs, h1, h2, h3, h4⟩ := exv_at I1 (cls := .ref C) ha
  have hx : ObjOk X.prog X.w H1 s1.heap dd (.xd fs) := I1.hok dd _ ea
  obtain ⟨mA, hns, hr⟩ := hx
  obtain ⟨od, ho, hl⟩ := lookIn_ns hns
  obtain ⟨u, hu, ru⟩ := RelO.some_of (v := v) (o := mA n) (by rw [← l]; exact hr n)
  have J : PySem.W.InstAt s1.heap a oe C (some od) := ⟨h1, h2, by unfold PySem.W.notCls; rw [h4] <;> rfl, by rw [h3]; exact ho⟩
  exact HandSPX.exc_get I1.kIn J T.ga T.gg T.exC (PySem.W.findObj_own T.hdC hno rfl (by rw [hl, hu])) (handed_of ru) ⟨v, H1, I1.tok _, ru, q⟩
/-- x.m() -/
def tVm (X : Cx) (CX : CXT) (m : Str) (te : TE) : TE := fun σ H Q => te σ H fun x H1 => ∃ (a C f : Addr) (dd : Option Addr) (us : List (Str × V)) (fd : FuncData) (ps : List Str) (sp : Sp) (k : Nat) (E : XK), x = .ref a ∧ XfC X.K C ∧ PySem.W.findIn X.K (.ref C) m = some (some (.ref f)) ∧ PySem.W.isFn X.K (.ref f) = true ∧ PySem.W.keepIn X.K (.ref f) = true ∧
  H1 a = some (Tw.exv C dd a) ∧ XdV H1 dd us ∧ us.lookup m = none ∧ FnOk X.prog X.w X.K X.mg X.base CX k f fd ps sp ∧ Binds X.K fd ps [] ∧ Room k X.A ∧ Passes CX X E ∧ sp [.ref a] H1 Q E
theorem pe_vm {CX : CXT} {o : Expr} {te : TE} {m : Str} {apos pos : Pos} {pl : Sem Bool} (he : PE X o te)
    (ht : eval (.Call (.Attribute o m apos) [] [] pos) X.env = (do
      let ov ← eval o X.env
      standAt apos.atName
      let (f, first) ← holding [ov] (getMethod ov m pl)
      callWith pos f first (backTo pos (starEach [] X.env)) (backToKw pos (keywordEach [] X.env))) := by rfl) : PE X (.Call (.Attribute o m apos) [] [] pos) (tVm X CX m te) := by
  refine ⟨fun pins s σ H Q I h => ?_⟩
  refine PySem.W.methodCall_KW (pl := pl) (thn (he.run pins s σ H _ I h) fun u s1 hh => ?_) ht
  obtain ⟨x, H1, I1, rx, a, C, f, dd, us, fd, ps, sp, k, E, ex, T, hf, hfn, kp, ha, hx, hl, F, hb, hr, hp, q⟩ := hh
  subst ex
  obtain rfl : u = Value.ref a := rx
  obtain ⟨oe, od, J, hs⟩ := exv_inst I1 ha hx
  obtain ⟨m0, fr⟩ := I1.fr
  refine PySem.W.method_exc fr I1.mod.kin J T.ga T.gg hf hfn (hs m hl) ?_
  exact PySem.W.callWith_K0 (first := [.ref a]) I1.kIn kp (run_fn (us := [.ref a]) (vs := [.ref a]) F hr hb .nil hp I1 (.cons rfl .nil) q)
end
end L2
end
section
set_option maxRecDepth 100000
set_option maxHeartbeats 2000000
namespace Tw
open PySem PySem.Spec PyProof.Rows L2
/-- data of a slot -/
def dtA : A → Option D
  | .d d => some d
  | _ => none
def sld (i : Nat) (ρ : Ro) : Option D := (at_ ρ i).bind dtA
theorem sld_some {i : Nat} {ρ : Ro} {d : D} (h : sld i ρ = some d) : at_ ρ i = some (.d d) := by
  obtain ⟨x, e1, e2⟩ := bind_some.mp (show (at_ ρ i).bind dtA = _ from h)
  cases x <;> cases e2
  exact e1
def excD : D → Option (Str × List (Str × D))
  | .exc c fs => some (c, fs)
  | _ => none
theorem excD_some {d : D} {y : Str × List (Str × D)} (h : excD d = some y) : d = .exc y.1 y.2 := by
  cases d <;> cases h
  rfl
/-- C(e) -/
def excS (cn fl : Str) (i : Nat) : EF := fun ρ => (sld i ρ).map fun d => (.d (.exc cn [(fl, d)]), ρ)
def excS2 (cn f1 f2 : Str) (i j : Nat) : EF := fun ρ => (sld i ρ).bind fun d => (sld j ρ).map fun e => (.d (.exc cn [(f2, e), (f1, d)]), ρ)
def exc0 (cn : Str) : EF := fun ρ => some (.d (.exc cn []), ρ)
/-- isinstance(e, C), by e's class -/
def isE (i : Nat) (tb : List (Str × Bool)) : EF := fun ρ => (sld i ρ).bind fun d => (excD d).bind fun y => (tb.lookup y.1).map fun b => (.d (.bl b), ρ)
/-- e.f -/
def vfE (i : Nat) (fl : Str) (cns : List Str) : EF := fun ρ => (sld i ρ).bind fun d => (excD d).bind fun y => if y.1 ∈ cns then (y.2.lookup fl).map fun z => (.d z, ρ) else none
/-- e.m() -/
def vmE (i : Nat) (m : Str) (tb : List (Str × F0)) : EF := fun ρ => (sld i ρ).bind fun d => (excD d).bind fun y => if y.2.lookup m = none then (tb.lookup y.1).bind fun F => (F [d]).map fun r => (r, ρ) else none
/-- what a text knows of an own exception class: fields, answers to isinstance -/
def XvT (K : PySem.W.Frag) (mg : Str → Option Value) (cn : Str) (fls : List Str) (iss : List (Str × Bool)) : Prop :=
  ∃ D, mg cn = some (.ref D) ∧ ExcD K D ∧ PySem.W.hasDictIn K D = true ∧ (∀ fl ∈ fls, PySem.W.findIn K (.ref D) fl = some none) ∧ (∀ p ∈ iss, ∃ C, mg p.1 = some (.ref C) ∧ PySem.W.kitOne K (.ref D) (.ref C) = some p.2) ∧ PySem.W.kitOne K (.ref D) (.type "ValueError") = some true
/-- a method of such a class -/
def MtX (K : PySem.W.Frag) (mg : Str → Option Value) (cn nm qual : Str) (st : Stmt) : Prop := ∃ C f fd, mg cn = some (.ref C) ∧ XfC K C ∧ PySem.W.findIn K (.ref C) nm = some (some (.ref f)) ∧ PySem.W.isFn K (.ref f) = true ∧ PySem.W.keepIn K (.ref f) = true ∧ Fun K nm qual st f fd ∧ Binds K fd ["self"] []
def CalV (P : Program) (w : World) (K : PySem.W.Frag) (mg : Str → Option Value) (base : Heap) (cn nm : Str) (k : Nat) (F : F0) : Prop := ∃ C f fd, mg cn = some (.ref C) ∧ XfC K C ∧ PySem.W.findIn K (.ref C) nm = some (some (.ref f)) ∧ PySem.W.isFn K (.ref f) = true ∧ PySem.W.keepIn K (.ref f) = true ∧ Binds K fd ["self"] [] ∧ FnOk P w K mg base CX0 k f fd ["self"] (sp0 mg F)
theorem CalV.mk {P : Program} {w : World} {K : PySem.W.Frag} {mg : Str → Option Value} {base : Heap} {cn nm qual : Str} {st : Stmt} {N : List Str} {k k' : Nat} {b : SF} (T : MtX K mg cn nm qual st) (S : FnScope N ["self"] (defScope st)) (hb : BodyOk P w K mg base qual st N k b) (hnp : 1 ≤ N.length := by decide) (hk : k + 1 ≤ k' := by omega) : CalV P w K mg base cn nm k' (run0 N.length 1 b) :=
  let ⟨C, f, fd, m, x, h1, h2, h3, F, bi⟩ := T; ⟨C, f, fd, m, x, h1, h2, h3, bi, (ok0 F S hnp fun cdv A outer s H E hr => hb f cdv A outer s H E hr).mono hk⟩
theorem tb_nil {α : Type} {P : Str → α → Prop} : ∀ c y, List.lookup c ([] : List (Str × α)) = some y → P c y := fun _ _ h => by cases h
theorem tb_cons {α : Type} {P : Str → α → Prop} {cn : Str} {x : α} {tb : List (Str × α)} (h : P cn x) (t : ∀ c y, List.lookup c tb = some y → P c y) : ∀ c y, List.lookup c ((cn, x) :: tb) = some y → P c y := fun c y e => by
  rw [List.lookup_cons] at e
  split at e
  · rename_i hb
    have : c = cn := by simpa using hb
    subst this
    cases e
    exact h
  · exact t c y e
theorem rd_exv {H : Hp} {a C : Addr} {dd : Option Addr} (h : Rd H a (exv C dd a)) : H a = some (exv C dd a) := by
  rcases h with h | ⟨o, _, l⟩
  · exact h
  · cases l
theorem repF_noneX {mg : Str → Option Value} {Z : Addr → Prop} {H : Hp} {m : Str} : ∀ {fs : List (Str × D)} {vs : List (Str × V)}, RepF mg Z H fs vs → fs.lookup m = none → vs.lookup m = none
  | [], vs, r, _ => by rw [show vs = [] from r]; rfl
  | (k, d) :: t, vs, ⟨v, w, e, r, q⟩, h => by
    subst e
    cases hk : m == k with
    | true => simp [List.lookup, hk] at h
    | false =>
      simp only [List.lookup, hk] at h ⊢
      exact repF_noneX q h
section
variable {mg : Str → Option Value} {c : Fx} {σ : Sg} {H : Hp} {ρ : Ro} {ts : List D} {tv : List V} {fp : Pl → List Addr} {cn : Str} {C : Addr}
theorem exc_laid (g : Good mg c σ H ρ ts tv none .non fp) (gC : mg cn = some (.ref C)) {fs : List (Str × D)} {vs : List (Str × V)} (r : RepF mg (Zof c fp) H fs vs) {d a : Addr} (hd : H d = none) (ha : upd H d (.xd vs) a = none) :
    SR mg c σ (upd (upd H d (.xd vs)) a (exv C (some d) a)) ρ ts tv (some (.d (.exc cn fs))) (.ref a) := by
  have sm : Sm H (upd H d (.xd vs)) := Sm.new hd
  have g1 := g.same sm
  have hne : d ≠ a := fun e => by rw [← e, upd_same] at ha; cases ha
  have sm2 : Sm (upd H d (.xd vs)) (upd (upd H d (.xd vs)) a (exv C (some d) a)) := Sm.new ha
  refine ⟨_, g1.made (x := .d (.exc cn fs)) (u := .ref a) (q := []) sm2 (fun _ h => by cases h) List.nodup_nil ⟨rfl, a, C, some d, vs, rfl, fun h => ?_, gC, .inl upd_same, fun d' q => ?_, fun q => (by cases q), r.mono fun b u z w => ⟨fun h => ?_, sm2.rd (sm.rd w)⟩⟩ rfl⟩
  · rcases h with h | h
    · exact g1.zal h ha
    · cases h
  · cases q
    refine ⟨fun h => ?_, .inl (by rw [upd_ne hne]; exact upd_same)⟩
    rcases h with h | h
    · exact g.zal h hd
    · cases h
  · rcases h with h | h
    · exact z h
    · cases h
theorem exc_laid0 (g : Good mg c σ H ρ ts tv none .non fp) (gC : mg cn = some (.ref C)) {a : Addr} (ha : H a = none) : SR mg c σ (upd H a (exv C none a)) ρ ts tv (some (.d (.exc cn []))) (.ref a) := by
  refine ⟨_, g.made (x := .d (.exc cn [])) (u := .ref a) (q := []) (Sm.new ha) (fun _ h => by cases h) List.nodup_nil ⟨rfl, a, C, none, [], rfl, fun h => ?_, gC, .inl upd_same, fun d' q => (by cases q), fun _ => rfl, rfl⟩ rfl⟩
  rcases h with h | h
  · exact g.zal h ha
  · cases h
end
section
variable {X : Cx} {cn fl f1 f2 : Str} {C : Addr} {e : Expr}
theorem e_excS (i : Nat) (gC : X.mg cn = some (.ref C)) (hm : L2N.PMk X e (tMkF fl C (tCons (tVar i) tNil))) : EI X e (excS cn fl i) := (pe_of_mk hm).imp fun σ H Q h => by
  obtain ⟨c, ρ, ts, tv, r, ρ', ⟨fp, g⟩, e, k⟩ := h
  obtain ⟨d, e1, e2⟩ := map_some.mp (show (sld i ρ).map _ = _ from e)
  cases e2
  obtain ⟨u, hu, o⟩ := g.ent (some i) _ (sld_some e1)
  exact ⟨u, atS_of.mp hu, u, rfl, fun dd hd => ⟨C, rfl, fun a ha => k _ _ (exc_laid g gC (fs := [(fl, d)]) (vs := [(fl, u)]) ⟨u, [], rfl, o.2, rfl⟩ hd ha)⟩⟩
theorem e_excS2 (i j : Nat) (gC : X.mg cn = some (.ref C)) (hm : L2N.PMk X e (tMkF2 f1 f2 C (tCons (tVar i) (tCons (tVar j) tNil)))) : EI X e (excS2 cn f1 f2 i j) := (pe_of_mk hm).imp fun σ H Q h => by
  obtain ⟨c, ρ, ts, tv, r, ρ', ⟨fp, g⟩, e, k⟩ := h
  obtain ⟨d, e1, e2⟩ := bind_some.mp (show (sld i ρ).bind _ = _ from e)
  obtain ⟨d2, e3, e4⟩ := map_some.mp e2
  cases e4
  obtain ⟨u, hu, o⟩ := g.ent (some i) _ (sld_some e1)
  obtain ⟨u2, hu2, o2⟩ := g.ent (some j) _ (sld_some e3)
  exact ⟨u, atS_of.mp hu, u2, atS_of.mp hu2, u, u2, rfl, fun dd hd => ⟨C, rfl, fun a ha => k _ _ (exc_laid g gC (fs := [(f2, d2), (f1, d)]) (vs := [(f2, u2), (f1, u)]) ⟨u2, _, rfl, o2.2, u, [], rfl, o.2, rfl⟩ hd ha)⟩⟩
theorem e_excS2K (i j : Nat) (gC : X.mg cn = some (.ref C)) (hm : L2N.PMk X e (tMkF2K f1 f2 C (tCons (tVar j) (tCons (tVar i) tNil)))) : EI X e (excS2 cn f1 f2 i j) := (pe_of_mk hm).imp fun σ H Q h => by
  obtain ⟨c, ρ, ts, tv, r, ρ', ⟨fp, g⟩, e, k⟩ := h
  obtain ⟨d, e1, e2⟩ := bind_some.mp (show (sld i ρ).bind _ = _ from e)
  obtain ⟨d2, e3, e4⟩ := map_some.mp e2
  cases e4
  obtain ⟨u, hu, o⟩ := g.ent (some i) _ (sld_some e1)
  obtain ⟨u2, hu2, o2⟩ := g.ent (some j) _ (sld_some e3)
  exact ⟨u2, atS_of.mp hu2, u, atS_of.mp hu, u, u2, rfl, fun dd hd => ⟨C, rfl, fun a ha => k _ _ (exc_laid g gC (fs := [(f2, d2), (f1, d)]) (vs := [(f2, u2), (f1, u)]) ⟨u2, _, rfl, o2.2, u, [], rfl, o.2, rfl⟩ hd ha)⟩⟩
theorem e_exc0 (gC : X.mg cn = some (.ref C)) (hm : L2N.PMk X e (fun _ H Q => Q (.ref C) none H)) : EI X e (exc0 cn) := (pe_of_mk hm).imp fun σ H Q h => by
  obtain ⟨c, ρ, ts, tv, r, ρ', ⟨fp, g⟩, e, k⟩ := h
  cases e
  exact ⟨C, rfl, fun a ha => k _ _ (exc_laid0 g gC ha)⟩
end
section
variable {X : Cx} {x c2 fl m : Str} {C : Addr} {px p1 p2 pos apos : Pos}
theorem e_isV (i : Nat) {tb : List (Str × Bool)} (gC : X.mg c2 = some (.ref C)) (hT : ∀ cn b, tb.lookup cn = some b → ∃ fls iss, XvT X.K X.mg cn fls iss ∧ (c2, b) ∈ iss) (hm : X.mg "isinstance" = none)
    (hN : X.N[i]? = some x := by rfl) (hv : Vis X.env.scope x := by first | exact Or.inl rfl | exact Or.inr (Or.inl rfl) | exact Or.inr (Or.inr rfl)) (hd : (x == ("__debug__" : Str)) = false := by decide)
    (hcd : (x == ("__classdict__" : Str)) = false := by decide) (hg : Gl X "isinstance" := by rfl) (hg2 : Gl X c2 := by rfl) (hdb : (c2 == ("__debug__" : Str)) = false := by decide)
    (he1 : starEach [.Name x px, .Name c2 p2] X.env = (false, eval (.Name x px) X.env) :: starEach [.Name c2 p2] X.env := by rfl) (he2 : starEach [.Name c2 p2] X.env = (false, eval (.Name c2 p2) X.env) :: starEach [] X.env := by rfl)
    (hpl : (backTo pos (starEach [.Name c2 p2] X.env)).any (·.1) = false := by rfl) : EI X (.Call (.Name "isinstance" p1) [.Name x px, .Name c2 p2] [] pos) (isE i tb) :=
  (pe_callB call_isV hg hm PyProof.Rows.boot_isinstance (pa_cons (pe_var hN hv hd hcd) (pa_cons (pe_glob (v := .ref C) hg2 gC rfl hdb) pa_nil he2) he1) (by decide) (by decide) he1 hpl).imp fun σ H Q h => by
    obtain ⟨c, ρ, ts, tv, r, ρ', ⟨fp, g⟩, e, k⟩ := h
    obtain ⟨d, e1, e⟩ := bind_some.mp (show (sld i ρ).bind _ = _ from e)
    obtain ⟨⟨cn, fs⟩, e2, e⟩ := bind_some.mp e
    obtain ⟨b, e3, e⟩ := map_some.mp e
    cases e
    have e2 := excD_some e2
    subst e2
    obtain ⟨u, hu, _, a, D, dd, vs, rfl, z, hmD, hg, w, wn, rf⟩ := g.ent (some i) _ (sld_some e1)
    obtain ⟨fls, iss, ⟨D', hD, E, _, _, hi, _⟩, hmem⟩ := hT cn b e3
    cases hmD.symm.trans hD
    obtain ⟨C', hC, hk⟩ := hi _ hmem
    cases gC.symm.trans hC
    exact ⟨.ref a, atS_of.mp hu, a, D, dd, vs, .ref C, .ref C, b, rfl, .own C, E, rd_exv hg, ⟨fun d q => rd_xd (w d q).2, wn⟩, hk, SR.ret (x := .d (.bl b)) g k |>.sc rfl⟩
theorem e_isVB (i : Nat) {tb : List (Str × Bool)} (hT : ∀ cn b, tb.lookup cn = some b → b = true ∧ ∃ fls iss, XvT X.K X.mg cn fls iss) (hm : X.mg "isinstance" = none) (hm2 : X.mg "ValueError" = none)
    (hN : X.N[i]? = some x := by rfl) (hv : Vis X.env.scope x := by first | exact Or.inl rfl | exact Or.inr (Or.inl rfl) | exact Or.inr (Or.inr rfl)) (hd : (x == ("__debug__" : Str)) = false := by decide)
    (hcd : (x == ("__classdict__" : Str)) = false := by decide) (hg : Gl X "isinstance" := by rfl) (hg2 : Gl X "ValueError" := by rfl)
    (he1 : starEach [.Name x px, .Name "ValueError" p2] X.env = (false, eval (.Name x px) X.env) :: starEach [.Name "ValueError" p2] X.env := by rfl) (he2 : starEach [.Name "ValueError" p2] X.env = (false, eval (.Name "ValueError" p2) X.env) :: starEach [] X.env := by rfl)
    (hpl : (backTo pos (starEach [.Name "ValueError" p2] X.env)).any (·.1) = false := by rfl) : EI X (.Call (.Name "isinstance" p1) [.Name x px, .Name "ValueError" p2] [] pos) (isE i tb) :=
  (pe_callB call_isV hg hm PyProof.Rows.boot_isinstance (pa_cons (pe_var hN hv hd hcd) (pa_cons (pe_bltn (v := .ty "ValueError") (u := .type "ValueError") hg2 hm2 (by kernel_rfl) rfl) pa_nil he2) he1) (by decide) (by decide) he1 hpl).imp fun σ H Q h => by
    obtain ⟨c, ρ, ts, tv, r, ρ', ⟨fp, g⟩, e, k⟩ := h
    obtain ⟨d, e1, e⟩ := bind_some.mp (show (sld i ρ).bind _ = _ from e)
    obtain ⟨⟨cn, fs⟩, e2, e⟩ := bind_some.mp e
    obtain ⟨b, e3, e⟩ := map_some.mp e
    cases e
    have e2 := excD_some e2
    subst e2
    obtain ⟨u, hu, _, a, D, dd, vs, rfl, z, hmD, hg, w, wn, rf⟩ := g.ent (some i) _ (sld_some e1)
    obtain ⟨rfl, fls, iss, D', hD, E, _, _, hi, hve⟩ := hT cn b e3
    cases hmD.symm.trans hD
    exact ⟨.ref a, atS_of.mp hu, a, D, dd, vs, .ty "ValueError", .type "ValueError", true, rfl, .ty _, E, rd_exv hg, ⟨fun d q => rd_xd (w d q).2, wn⟩, hve, SR.ret (x := .d (.bl true)) g k |>.sc rfl⟩
theorem e_vf (i : Nat) {cns : List Str} (hT : ∀ cn ∈ cns, ∃ fls iss, XvT X.K X.mg cn fls iss ∧ fl ∈ fls)
    (hN : X.N[i]? = some x := by rfl) (hv : Vis X.env.scope x := by first | exact Or.inl rfl | exact Or.inr (Or.inl rfl) | exact Or.inr (Or.inr rfl)) (hd : (x == ("__debug__" : Str)) = false := by decide)
    (hcd : (x == ("__classdict__" : Str)) = false := by decide) (hb : attributeBase (.Name x px) fl X.env (eval (.Name x px) X.env) = eval (.Name x px) X.env := by rfl) : EI X (.Attribute (.Name x px) fl pos) (vfE i fl cns) :=
  (pe_vf (pe_var hN hv hd hcd) hb).imp fun σ H Q h => by
    obtain ⟨c, ρ, ts, tv, r, ρ', ⟨fp, g⟩, e, k⟩ := h
    obtain ⟨d, e1, e⟩ := bind_some.mp (show (sld i ρ).bind _ = _ from e)
    obtain ⟨⟨cn, fs⟩, e2, e⟩ := bind_some.mp e
    split at e
    case isFalse => cases e
    rename_i hc
    obtain ⟨y, e3, e⟩ := map_some.mp e
    cases e
    have e2 := excD_some e2
    subst e2
    obtain ⟨u, hu, _, a, D, dd, vs, rfl, z, hmD, hg, w, wn, rf⟩ := g.ent (some i) _ (sld_some e1)
    obtain ⟨fls, iss, ⟨D', hD, E, hdi, hf, hi, _⟩, hmem⟩ := hT cn hc
    cases hmD.symm.trans hD
    obtain ⟨v, h1, h2⟩ := RepF.look rf e3
    cases dd with
    | none => rw [wn rfl] at h1; cases h1
    | some d => exact ⟨.ref a, atS_of.mp hu, a, D, d, vs, v, rfl, xfC_of E hdi, hf fl hmem, rd_exv hg, rd_xd (w d rfl).2, h1, k _ _ ⟨_, g.put h2⟩⟩
theorem e_vm (i : Nat) {tb : List (Str × F0)} {k k' : Nat} (hT : ∀ cn F, tb.lookup cn = some F → CalV X.prog X.w X.K X.mg X.base cn m k F) (hr : Room k' X.A) (hk : k ≤ k' := by omega)
    (hN : X.N[i]? = some x := by rfl) (hv : Vis X.env.scope x := by first | exact Or.inl rfl | exact Or.inr (Or.inl rfl) | exact Or.inr (Or.inr rfl)) (hd : (x == ("__debug__" : Str)) = false := by decide)
    (hcd : (x == ("__classdict__" : Str)) = false := by decide) {pl : Sem Bool}
    (ht : eval (.Call (.Attribute (.Name x px) m apos) [] [] pos) X.env = (do
      let ov ← eval (.Name x px) X.env
      standAt apos.atName
      let (f, first) ← holding [ov] (getMethod ov m pl)
      callWith pos f first (backTo pos (starEach [] X.env)) (backToKw pos (keywordEach [] X.env))) := by rfl) : EI X (.Call (.Attribute (.Name x px) m apos) [] [] pos) (vmE i m tb) :=
  (pe_vm (CX := CX0) (pe_var hN hv hd hcd) ht).imp fun σ H Q h => by
    obtain ⟨c, ρ, ts, tv, r, ρ', ⟨fp, g⟩, e, q⟩ := h
    obtain ⟨d, e1, e⟩ := bind_some.mp (show (sld i ρ).bind _ = _ from e)
    obtain ⟨⟨cn, fs⟩, e2, e⟩ := bind_some.mp e
    split at e
    case isFalse => cases e
    rename_i hl
    obtain ⟨F, e3, e⟩ := bind_some.mp e
    obtain ⟨y, e4, e⟩ := map_some.mp e
    cases e
    have e2 := excD_some e2
    subst e2
    obtain ⟨u, hu, _, a, D, dd, vs, rfl, z, hmD, hg, w, wn, rf⟩ := id (g.ent (some i) _ (sld_some e1))
    obtain ⟨D', f, fd, hD, T, h1, h2, h3, bi, G⟩ := hT cn F e3
    cases hmD.symm.trans hD
    exact ⟨.ref a, atS_of.mp hu, a, D, f, dd, vs, fd, _, _, k, E0, rfl, T, h1, h2, h3, rd_exv hg, ⟨fun d q => rd_xd (w d q).2, wn⟩, repF_noneX rf hl, G, bi, hr.mono hk, pass0, Zof c fp, [.exc cn fs], r, fun p h => g.zal h, ⟨_, [], rfl, ⟨a, D, dd, vs, rfl, z, hmD, hg, w, wn, rf⟩, rfl⟩, e4, SR.ret g q⟩
end
/-- isinstance(ValueError(..), C) -/
def isVE (b : Bool) : EF := fun ρ => some (.d (.bl b), ρ)
section
variable {X : Cx} {c2 y : Str} {C : Addr} {j : Nat} {p p0 p1 p2 p3 pos : Pos}
theorem e_isVE (b : Bool) (gC : X.mg c2 = some (.ref C)) (hk : PySem.W.kitOne X.K (.type "ValueError") (.ref C) = some b) (hm : X.mg "isinstance" = none) (hm2 : X.mg "ValueError" = none) (hg : Gl X "isinstance" := by rfl) (hg2 : Gl X c2 := by rfl) (hg3 : Gl X "ValueError" := by rfl) (hdb : (c2 == ("__debug__" : Str)) = false := by decide)
    (he1 : starEach [.Call (.Name "ValueError" p) [.Constant (.str y) j p3] [] p0, .Name c2 p2] X.env = (false, eval (.Call (.Name "ValueError" p) [.Constant (.str y) j p3] [] p0) X.env) :: starEach [.Name c2 p2] X.env := by rfl) (he2 : starEach [.Name c2 p2] X.env = (false, eval (.Name c2 p2) X.env) :: starEach [] X.env := by rfl)
    (hpl : (backTo pos (starEach [.Name c2 p2] X.env)).any (·.1) = false := by rfl) : EI X (.Call (.Name "isinstance" p1) [.Call (.Name "ValueError" p) [.Constant (.str y) j p3] [] p0, .Name c2 p2] [] pos) (isVE b) :=
  (pe_callB call_isVE hg hm PyProof.Rows.boot_isinstance (pa_cons (pe_of_mkC (pmk_exbS exb_ValueError hg3 hm2 (by kernel_rfl))) (pa_cons (pe_glob (v := .ref C) hg2 gC rfl hdb) pa_nil he2) he1) (by decide) (by decide) he1 hpl).imp fun σ H Q h => by
    obtain ⟨c, ρ, ts, tv, r, ρ', ⟨fp, g⟩, e, k⟩ := h
    cases e
    intro a ha
    have g1 := g.same (Sm.new (o := exvV (.type "ValueError") none a) ha)
    exact ⟨a, none, .ref C, .ref C, b, rfl, .own C, upd_same, hk, SR.ret (x := .d (.bl b)) g1 k |>.sc rfl⟩
end
theorem mm_nil {P : Str → Prop} : ∀ c ∈ ([] : List Str), P c := fun _ h => by cases h
theorem mm_cons {P : Str → Prop} {c : Str} {cs : List Str} (h : P c) (t : ∀ x ∈ cs, P x) : ∀ x ∈ c :: cs, P x := fun x hx => by
  rcases List.mem_cons.mp hx with e | hx
  · subst e; exact h
  · exact t x hx
theorem pvN {X : Cx} {x : Str} {pos : Pos} (i : Nat) (hN : X.N[i]? = some x := by rfl) (hv : Vis X.env.scope x := by first | exact Or.inl rfl | exact Or.inr (Or.inl rfl) | exact Or.inr (Or.inr rfl)) (hd : (x == ("__debug__" : Str)) = false := by decide)
    (hcd : (x == ("__classdict__" : Str)) = false := by decide) : PE X (.Name x pos) (tVar i) := pe_var hN hv hd hcd
theorem CalV.up {P : Program} {w : World} {K : PySem.W.Frag} {mg : Str → Option Value} {base : Heap} {cn nm : Str} {k k' : Nat} {F : F0} (h : CalV P w K mg base cn nm k F) (hk : k ≤ k') : CalV P w K mg base cn nm k' F :=
  let ⟨C, f, fd, m, x, h1, h2, h3, bi, G⟩ := h; ⟨C, f, fd, m, x, h1, h2, h3, bi, G.mono hk⟩
theorem P_isV {K : PySem.W.Frag} {mg : Str → Option Value} {c2 : Str} {tb : List (Str × Bool)} (h : ∀ cn b, List.lookup cn tb = some b → ∃ fls iss, XvT K mg cn fls iss ∧ (c2, b) ∈ iss) : ∀ cn b, tb.lookup cn = some b → ∃ fls iss, XvT K mg cn fls iss ∧ (c2, b) ∈ iss := h
theorem P_isVB {K : PySem.W.Frag} {mg : Str → Option Value} {tb : List (Str × Bool)} (h : ∀ cn b, List.lookup cn tb = some b → b = true ∧ ∃ fls iss, XvT K mg cn fls iss) : ∀ cn b, tb.lookup cn = some b → b = true ∧ ∃ fls iss, XvT K mg cn fls iss := h
theorem P_vf {K : PySem.W.Frag} {mg : Str → Option Value} {fl : Str} {cns : List Str} (h : ∀ cn ∈ cns, ∃ fls iss, XvT K mg cn fls iss ∧ fl ∈ fls) : ∀ cn ∈ cns, ∃ fls iss, XvT K mg cn fls iss ∧ fl ∈ fls := h
theorem P_vm {P : Program} {w : World} {K : PySem.W.Frag} {mg : Str → Option Value} {base : Heap} {m : Str} {k : Nat} {tb : List (Str × F0)} (h : ∀ cn F, List.lookup cn tb = some F → CalV P w K mg base cn m k F) : ∀ cn F, tb.lookup cn = some F → CalV P w K mg base cn m k F := h
/-- a class of exceptions without fields -/
def XnT (K : PySem.W.Frag) (mg : Str → Option Value) (xn : Str) : Prop := ∃ C, mg xn = some (.ref C) ∧ PySem.W.excIn K C [.type "ValueError", .type "Exception", .type "BaseException", .type "object"] "ValueError.__new__" = true ∧ PySem.W.keepIn K (.ref C) = true ∧ PySem.W.subIn K (.ref C) (.type "BaseException") = some true ∧ PySem.W.typeIn K (.ref C) = some (.type "type") ∧ PySem.W.exmOne K (.ref C) (.ref C) = some true
theorem pmkN0 {X : Cx} {x : Str} {C : Addr} {p pos : Pos} (q : PySem.W.excIn X.K C [.type "ValueError", .type "Exception", .type "BaseException", .type "object"] "ValueError.__new__" = true) (gC : X.mg x = some (.ref C)) (kC : PySem.W.keepIn X.K (.ref C) = true) (r : Raises X (.ref C)) (hg : Gl X x)
    (hdb : (x == ("__debug__" : Str)) = false := by decide) : L2N.PMk X (.Call (.Name x p) [] [] pos) (fun _ H Q => Q (.ref C) none H) := by
  intro pins s σ H Q I h
  refine wpAny_Call_Name_kw (ld_glob I hg gC ?_ hdb)
  refine PySem.W.callWith_K0 I.kIn kC ?_
  obtain ⟨bm, N, nm, qn, bs, hdct, sn, sub, ab, col, dd, k0, k1, k2, k3, k5, mN, hC, hN, hni, T⟩ := exc_obj I.kIn q
  obtain ⟨hp, g, dr, tk, os⟩ := s
  refine wpAny_call_exc_subT PySem.F.excBase_ValueError T hC hN hni (fun h' e hm => ?_) (by show 0 ≤ sizeLine; omega)
  exact L2N.mk_of I hm r h (I.hok.gone hm.new)
end Tw
end
section
set_option maxRecDepth 100000
set_option maxHeartbeats 2000000
namespace Tw
open PySem PySem.Spec PyProof.Rows L2
def zipD (xs ys : List D) : List D := (xs.zip ys).map fun p => .pr [p.1, p.2]
def lsD : D → Option (List D)
  | .lst xs => some xs
  | _ => none
theorem lsD_some {d : D} {xs : List D} (h : lsD d = some xs) : d = .lst xs := by
  cases d <;> cases h
  rfl
def zipY (f g : EF) : WF := fun ρ => (dv f ρ).bind fun x => (dv g x.2).bind fun y => (lsD x.1).bind fun xs => (lsD y.1).map fun ys => (zipD xs ys, y.2)
theorem zipD_len (xs ys : List D) : (zipD xs ys).length = min xs.length ys.length := by simp [zipD]
theorem zipD_get {xs ys : List D} {i : Nat} {d : D} (h : (zipD xs ys)[i]? = some d) : ∃ x y, xs[i]? = some x ∧ ys[i]? = some y ∧ d = .pr [x, y] := by
  unfold zipD at h
  rw [List.getElem?_map] at h
  obtain ⟨⟨x, y⟩, h1, h2⟩ := Option.map_eq_some_iff.mp h
  obtain ⟨h3, h4⟩ := List.getElem?_zip_eq_some.mp h1
  exact ⟨x, y, h3, h4, h2.symm⟩
section
variable {mg : Str → Option Value}
theorem gives_zip {K : PySem.W.Frag} {a b : Addr} {o o2 : HO} {xs ys : List V} {ds es : List D} {T0 : List D} {V0 : List V} (hl : ds.length = xs.length) (hl2 : es.length = ys.length) (ho : o = .lst xs ∨ ∃ q, o = .frz q (.lst xs)) (ho2 : o2 = .lst ys ∨ ∃ q, o2 = .frz q (.lst ys)) :
    Gives mg [(a, o), (b, o2)] (es ++ (ds ++ T0)) (ys ++ (xs ++ V0)) (Itz K a b) (zipD ds es) := by
  have at1 : ∀ {c σ H ρ r v T V}, Pins c [(a, o), (b, o2)] → SR mg c σ H ρ T V r v → H a = some o := fun hp ⟨fp, g⟩ => by
    obtain ⟨h1, h2⟩ := hp _ List.mem_cons_self
    exact g.pinned h1 h2
  have at2 : ∀ {c σ H ρ r v T V}, Pins c [(a, o), (b, o2)] → SR mg c σ H ρ T V r v → H b = some o2 := fun hp ⟨fp, g⟩ => by
    obtain ⟨h1, h2⟩ := hp _ (List.mem_cons_of_mem _ List.mem_cons_self)
    exact g.pinned h1 h2
  refine ⟨fun c σ H ρ r v T' V' hp s i hi => ?_, fun c σ H ρ r v T' V' hp s i hi => ?_, fun c σ H ρ T' V' hp hlen s i x H' d hd y => ?_⟩
  · rw [zipD_len] at hi
    exact ⟨xs, ys, xs[i]'(by omega), ys[i]'(by omega), .inl (rd_of_pin (K := K) (at1 hp s) ho), .inl (rd_of_pin (K := K) (at2 hp s) ho2), List.getElem?_eq_getElem _, List.getElem?_eq_getElem _⟩
  · rw [zipD_len] at hi
    exact ⟨xs, ys, .inl (rd_of_pin (K := K) (at1 hp s) ho), .inl (rd_of_pin (K := K) (at2 hp s) ho2), by omega⟩
  · have h1 := at1 hp s
    have h2 := at2 hp s
    obtain ⟨T, x', y', rfl, hT, rfl, hx, hy⟩ := y
    have hx := hx xs (.inl (rd_of_pin (K := K) h1 ho))
    have hy := hy ys (.inl (rd_of_pin (K := K) h2 ho2))
    obtain ⟨dx, dy, hdx, hdy, rfl⟩ := zipD_get hd
    obtain ⟨fp, g⟩ := s
    have t := g.tmp
    have t2 := t.drop T'.length
    rw [List.drop_left' rfl, List.drop_left' hlen.symm] at t2
    obtain ⟨u, hu, rep⟩ := t2.get (i := i) (d := dy) (by rw [List.getElem?_append_left (List.getElem?_eq_some_iff.mp hdy).1]; exact hdy)
    rw [List.getElem?_append_left (by have := (List.getElem?_eq_some_iff.mp hdy).1; omega), hy] at hu
    cases hu
    have t3 := t2.drop es.length
    rw [List.drop_left' rfl, List.drop_left' hl2.symm] at t3
    obtain ⟨u, hu, rep2⟩ := t3.get (i := i) (d := dx) (by rw [List.getElem?_append_left (List.getElem?_eq_some_iff.mp hdx).1]; exact hdx)
    rw [List.getElem?_append_left (by have := (List.getElem?_eq_some_iff.mp hdx).1; omega), hx] at hu
    cases hu
    have g' := g.same (Sm.new (o := .tup [x', y']) hT)
    refine ⟨⟨fp, g'.retmp ⟨_, _, rfl, ⟨T, [x', y'], rfl, fun w => g.zal w hT, .inl upd_same, ⟨_, _, rfl, rep2.mono fun a u z w => ⟨z, (Sm.new hT).rd w⟩, ⟨_, _, rfl, rep.mono fun a u z w => ⟨z, (Sm.new hT).rd w⟩, rfl⟩⟩⟩, g'.tmp⟩⟩, Sm.new hT⟩
end
section
variable {X : Cx} {e e2 : Expr} {elts : List Expr} {kk : Nat} {tpos p pos : Pos} {f f2 : EF}
theorem w_zipY (hm : X.mg "zip" = none) (h : EI X e f) (h2 : EI X e2 f2) (hg : Gl X "zip" := by rfl) (hs : starEach [e, e2] X.env = (false, eval e X.env) :: starEach [e2] X.env := by rfl) (hs2 : starEach [e2] X.env = (false, eval e2 X.env) :: starEach [] X.env := by rfl) (hpl : (backTo pos (starEach [e2] X.env)).any (·.1) = false := by rfl) :
    IW X (.Tuple elts kk tpos) (.Call (.Name "zip" p) [e, e2] [] pos) (zipY f f2) := (pi_zip hg hm (pa_cons h (pa_cons h2 pa_nil hs2) hs) hs hpl).imp fun σ H R w => by
  obtain ⟨c, ρ, ts, tv, ds, ρ', s, e1, k⟩ := w
  obtain ⟨⟨d, ρ1⟩, e3, e4⟩ := bind_some.mp (show (dv f ρ).bind _ = _ from e1)
  obtain ⟨⟨d2, ρ2⟩, e5, e6⟩ := bind_some.mp e4
  obtain ⟨xs, e7, e6⟩ := bind_some.mp e6
  obtain ⟨ys, e8, e6⟩ := map_some.mp e6
  obtain rfl := lsD_some e7
  obtain rfl := lsD_some e8
  cases e6
  refine tE_dv s e3 fun v H1 s1 => tE_dv s1 e5 fun v2 H2 s2 => ?_
  obtain ⟨fp, g⟩ := s2
  obtain ⟨w2, tv2, eq, rep2, t⟩ := g.tmp
  cases eq
  obtain ⟨w1, tv1, eq, rep1, t⟩ := t
  cases eq
  obtain ⟨a, vs, rfl, hz, rd, hr⟩ := rep1
  obtain ⟨b, ws, rfl, hz2, rd2, hr2⟩ := rep2
  refine ⟨a, b, vs, ws, rfl, .inl rd.l2, .inl rd2.l2, ?_⟩
  have fin : ∀ {o o2 : HO}, H2 a = some o → H2 b = some o2 → (o = .lst vs ∨ ∃ q, o = .frz q (.lst vs)) → (o2 = .lst ws ∨ ∃ q, o2 = .frz q (.lst ws)) → R (Itz X.K a b) H2 := fun {o o2} ho ho2 k1 k2 => by
    have g1 := g.pin ho hz
    have g2 := (g1.pin ho2 hz2).retmp (T := ys ++ (xs ++ ts)) (TV := ws ++ (vs ++ tv)) (hr2.append (hr.append t))
    refine k _ H2 ((c.pin a o).pin b o2) _ _ [(a, o), (b, o2)] ⟨fp, g2⟩ (fun p hp => ?_) (gives_zip hr.length hr2.length k1 k2) ⟨fun g' => ?_, fun b h => pin_h0 b (pin_h0 b h)⟩ (fun _ h => h)
    · rcases List.mem_cons.mp hp with e | hp
      · subst e
        refine ⟨?_, fun w => hz (.inl w)⟩
        show upd (upd c.H0 a o) b o2 a = some o
        by_cases hab : a = b
        · subst hab
          rw [upd_same, ← ho2, ho]
        · rw [upd_ne hab]
          exact upd_same
      · rw [List.mem_singleton.mp hp]
        exact ⟨upd_same, fun w => hz2 (.inl w)⟩
    · exact (((g'.unpin (g1.pinOk ho2 fun w => hz2 (.inl w)) g1.z0).unpin (g.pinOk ho fun w => hz (.inl w)) g.z0).pops hr2.length).pops hr.length
  rcases rd with rd | ⟨q, rd, _⟩ <;> rcases rd2 with rd2 | ⟨q2, rd2, _⟩
  · exact fin rd rd2 (.inl rfl) (.inl rfl)
  · exact fin rd rd2 (.inl rfl) (.inr ⟨q2, rfl⟩)
  · exact fin rd rd2 (.inr ⟨q, rfl⟩) (.inl rfl)
  · exact fin rd rd2 (.inr ⟨q, rfl⟩) (.inr ⟨q2, rfl⟩)
end
end Tw
end
section
set_option maxRecDepth 100000
set_option maxHeartbeats 4000000
namespace Tw
open PySem PySem.Spec PyProof.Rows L2
end Tw
end
section
set_option maxRecDepth 100000
set_option maxHeartbeats 4000000
namespace Tw
open PySem PySem.Spec PyProof.Rows L2

/-- a build is in it -/
def HB : E → Prop
  | .build _ => True
  | .merge m => ∃ k, HB (m k)
  | _ => False
noncomputable instance hbDec (e : E) : Decidable (HB e) := Classical.propDecidable _
noncomputable instance eDec : DecidableEq E := fun _ _ => Classical.propDecidable _
def asO : E → T
  | .set a => .atom a
  | .build m => .obj fun k => asO (m k)
  | .merge m => .obj fun k => asO (m k)
  | _ => .miss
/-- an effect as a patch -/
def asT : E → T
  | .keep => .miss
  | .drop => .atom .non
  | .set a => .atom a
  | .merge m => .obj fun k => asT (m k)
  | .build m => .obj fun k => asO (m k)
/-- the patch that deletes what is built later -/
noncomputable def clT : E → T
  | .build _ => .atom .non
  | .merge m => .obj fun k => if HB (m k) then clT (m k) else .miss
  | _ => .miss
/-- no member is set to None -/
def NS : E → Prop
  | .set a => nonB a = false
  | .merge m => ∀ k, NS (m k)
  | .build m => ∀ k, NS (m k)
  | _ => True
def NR : E → Prop
  | .merge m => ∀ k, NS (m k)
  | .build m => ∀ k, NS (m k)
  | _ => True
theorem ns_eff : ∀ t : T, NS (eff t)
  | .miss => trivial
  | .atom a => by
    unfold eff
    split
    · trivial
    · rename_i h
      show nonB a = false
      cases hb : nonB a with
      | false => rfl
      | true => exact absurd hb h
  | .obj m => fun k => ns_eff (m k)
theorem nr_effR : ∀ t : T, NR (effR t)
  | .miss => trivial
  | .atom _ => trivial
  | .obj m => fun k => ns_eff (m k)
theorem ns_bu : ∀ {e : E}, NS e → NS (bu e)
  | .keep, _ => trivial
  | .drop, _ => trivial
  | .set _, h => h
  | .merge _, h => fun k => ns_bu (h k)
  | .build _, h => h
theorem ns_jn : ∀ {e f : E}, NS e → NS f → NS (jn e f)
  | e, .keep, h, _ => by cases e <;> exact h
  | e, .drop, h, _ => by cases e <;> trivial
  | e, .set a, _, h => by cases e <;> exact h
  | e, .build m, _, h => by cases e <;> exact h
  | .keep, .merge m, _, h => h
  | .drop, .merge m, _, h => fun k => ns_bu (h k)
  | .set a, .merge m, _, h => fun k => ns_bu (h k)
  | .merge m1, .merge m, h1, h => fun k => ns_jn (h1 k) (h k)
  | .build m1, .merge m, h1, h => fun k => ns_jn (h1 k) (h k)
theorem nr_jn : ∀ {e f : E}, NR e → NR f → NR (jn e f)
  | e, .keep, h, _ => by cases e <;> exact h
  | e, .drop, h, _ => by cases e <;> trivial
  | e, .set a, _, h => by cases e <;> trivial
  | e, .build m, _, h => by cases e <;> exact h
  | .keep, .merge m, _, h => h
  | .drop, .merge m, _, h => fun k => ns_bu (h k)
  | .set a, .merge m, _, h => fun k => ns_bu (h k)
  | .merge m1, .merge m, h1, h => fun k => ns_jn (h1 k) (h k)
  | .build m1, .merge m, h1, h => fun k => ns_jn (h1 k) (h k)
theorem nr_foldl : ∀ {ps : List T} {e : E}, NR e → NR (ps.foldl (fun e p => jn e (effR p)) e)
  | [], e, h => h
  | p :: r, e, h => nr_foldl (ps := r) (nr_jn h (nr_effR p))
theorem nr_effs (ps : List T) : NR (effs ps) := nr_foldl trivial
theorem keep_jn (f : E) : jn .keep f = f := by cases f <;> rfl
theorem bd_member {m : Str → E} (h : Wf (.build m)) (k : Str) : Bd (m k) := match h with | .bd (.build h) => h k
theorem wf_member {m : Str → E} (h : Wf (.merge m)) (k : Str) : Wf (m k) := match h with | .merge h => h k | .bd h => nomatch h
theorem as_no : ∀ {e : E}, NS e → ¬ HB e → eff (asT e) = e
  | .keep, _, _ => rfl
  | .drop, _, _ => rfl
  | .set a, h, _ => by
    show (if nonB a then E.drop else .set a) = _
    rw [show nonB a = false from h]
    rfl
  | .merge m, h, hn => by
    show E.merge _ = _
    congr 1
    funext k
    exact as_no (h k) fun hk => hn ⟨k, hk⟩
  | .build m, _, hn => absurd trivial hn
theorem as_noR {e : E} (h : NR e) (hn : ¬ HB e) (h1 : e ≠ .keep) (h2 : e ≠ .drop) : effR (asT e) = e := by
  cases e with
  | keep => exact absurd rfl h1
  | drop => exact absurd rfl h2
  | set a => rfl
  | merge m =>
    show E.merge _ = _
    congr 1
    funext k
    exact as_no (h k) fun hk => hn ⟨k, hk⟩
  | build m => exact absurd trivial hn
theorem bu_as : ∀ {e : E}, Bd e → NS e → bu (eff (asO e)) = e
  | .drop, _, _ => rfl
  | .set a, _, h => by
    show bu (if nonB a then E.drop else .set a) = _
    rw [show nonB a = false from h]
    rfl
  | .build m, hb, h => by
    show E.build _ = _
    congr 1
    funext k
    exact bu_as (match hb with | .build hb => hb k) (h k)
theorem two_as : ∀ {e : E}, Wf e → NS e → HB e → jn (eff (clT e)) (eff (asT e)) = e
  | .keep, _, _, h => h.elim
  | .drop, _, _, h => h.elim
  | .set a, _, _, h => h.elim
  | .build m, w, h, _ => by
    show E.build _ = _
    congr 1
    funext k
    exact bu_as (bd_member w k) (h k)
  | .merge m, w, h, _ => by
    show E.merge _ = _
    congr 1
    funext k
    show jn (eff (if HB (m k) then clT (m k) else .miss)) (eff (asT (m k))) = m k
    by_cases hk : HB (m k)
    · rw [if_pos hk]; exact two_as (wf_member w k) (h k) hk
    · rw [if_neg hk, show eff .miss = .keep from rfl, keep_jn]; exact as_no (h k) hk
theorem two_asR {e : E} (w : Wf e) (h : NR e) (hb : HB e) : jn (effR (clT e)) (effR (asT e)) = e := by
  cases e with
  | keep => exact hb.elim
  | drop => exact hb.elim
  | set a => exact hb.elim
  | build m =>
    show E.build _ = _
    congr 1
    funext k
    exact bu_as (bd_member w k) (h k)
  | merge m =>
    show E.merge _ = _
    congr 1
    funext k
    show jn (eff (if HB (m k) then clT (m k) else .miss)) (eff (asT (m k))) = m k
    by_cases hk : HB (m k)
    · rw [if_pos hk]; exact two_as (wf_member w k) (h k) hk
    · rw [if_neg hk, show eff .miss = .keep from rfl, keep_jn]; exact as_no (h k) hk
/-- as few patches as possible -/
noncomputable def cmpT (e : E) : List T := if e = .keep then [] else if HB e then [clT e, asT e] else [asT e]
theorem effs_cmp {e : E} (w : Wf e) (h : NR e) (hd : e ≠ .drop) : effs (cmpT e) = e := by
  unfold cmpT
  by_cases h1 : e = .keep
  · rw [if_pos h1, h1]; rfl
  · rw [if_neg h1]
    by_cases h2 : HB e
    · rw [if_pos h2]
      show jn (jn .keep _) _ = e
      rw [keep_jn]
      exact two_asR w h h2
    · rw [if_neg h2]
      show jn .keep _ = e
      rw [keep_jn]
      exact as_noR h h2 h1 hd
section
variable {ks : List Str}
end
end Tw
end
section
set_option maxRecDepth 100000
set_option maxHeartbeats 4000000
namespace Tw
open PySem PySem.Spec PyProof.Rows L2

/-- two rows do the same -/
def Sm2 (xs ys : List D) : Prop := ∀ t, runT t (xs.map den) = runT t (ys.map den)
theorem Sm2.symm {xs ys : List D} (h : Sm2 xs ys) : Sm2 ys xs := fun t => (h t).symm
theorem Sm2.trans {xs ys zs : List D} (h : Sm2 xs ys) (k : Sm2 ys zs) : Sm2 xs zs := fun t => (h t).trans (k t)
noncomputable instance tDec : DecidableEq T := fun _ _ => Classical.propDecidable _
noncomputable instance smDec (xs ys : List D) : Decidable (Sm2 xs ys) := Classical.propDecidable _
end Tw
end
section
set_option maxRecDepth 100000
set_option maxHeartbeats 4000000
namespace Tw
open PySem PySem.Spec PyProof.Rows L2

section
variable {ρ : Ro}
end
section
variable {ks : List Str}
/-- the effect is of the class, with its kind -/
theorem Ef.kd {n : Nat} {e : E} {d : D} (h : Ef ks n e d) : ∃ k a ms, d = effD k a ms ∧ ((k = "build") ↔ ∃ m, e = .build m) := by
  have kk := kd_ne
  cases h with
  | keep => exact ⟨_, _, _, rfl, by simp [kk]⟩
  | drop => exact ⟨_, _, _, rfl, by simp [kk]⟩
  | set h => exact ⟨_, _, _, rfl, by simp [kk]⟩
  | merge => exact ⟨_, _, _, rfl, by simp [kk]⟩
  | build => exact ⟨_, _, _, rfl, by simp⟩
end
end Tw
end
section
set_option maxRecDepth 100000
set_option maxHeartbeats 4000000
namespace Tw
open PySem PySem.Spec PyProof.Rows L2

section
variable {ks : List Str}
def kOf : D → Str
  | .tup [.str k, _] => k
  | _ => ""
def vOf (g : Str × D → D) : D → D
  | .tup [.str k, v] => g (k, v)
  | _ => .non
def pOf (p : Str → Bool) : D → Bool
  | .tup [.str k, _] => p k
  | _ => false
@[simp] theorem kOf_pair (p : Str × D) : kOf (pairE p) = p.1 := rfl
@[simp] theorem vOf_pair (g : Str × D → D) (p : Str × D) : vOf g (pairE p) = g p := rfl
@[simp] theorem pOf_pair (q : Str → Bool) (p : Str × D) : pOf q (pairE p) = q p.1 := rfl
end
end Tw
end
section
set_option maxRecDepth 100000
set_option maxHeartbeats 4000000
namespace Tw
open PySem PySem.Spec PyProof.Rows L2

section
variable {ks : List Str}
/-- what compact answers -/
structure Cmp (ks : List Str) (k : Nat) (xs ys : List D) : Prop where
  den : ys.map Tw.den = cmpT (effs (xs.map Tw.den))
  row : Row ks k ys
  sum : (ys.map prtD).sum ≤ (xs.map prtD).sum
  len : ys.length ≤ 2
theorem Cmp.effs {k : Nat} {xs ys : List D} (h : Cmp ks k xs ys) : Tw.effs (ys.map Tw.den) = Tw.effs (xs.map Tw.den) := by
  rw [h.den]
  exact effs_cmp (wf_effs _) (nr_effs _) (effs_ne_drop _ fun p hp => by
    obtain ⟨x, _, rfl⟩ := List.mem_map.mp hp
    exact den_ne x)
end
end Tw
end
section
set_option maxRecDepth 100000
set_option maxHeartbeats 4000000
namespace Tw
open PySem PySem.Spec PyProof.Rows L2

section
variable {ks : List Str}
end
end Tw
end
section
set_option maxRecDepth 100000
set_option maxHeartbeats 4000000
namespace Tw
open PySem PySem.Spec PyProof.Rows L2
section
variable {ks : List Str}
end
end Tw
end
section
set_option maxRecDepth 100000
set_option maxHeartbeats 4000000
namespace Tw
open PySem PySem.Spec PyProof.Rows L2
section
variable {ks : List Str}
end
end Tw
end
section
set_option maxRecDepth 100000
set_option maxHeartbeats 4000000
namespace Tw
open PySem PySem.Spec PyProof.Rows L2
section
variable {ks : List Str}
end
end Tw
end
section
set_option maxRecDepth 100000
set_option maxHeartbeats 4000000
namespace L2
open PySem PySem.Spec PyProof.Rows
def keyS (e : Int × Value) : Str := match e.2 with | .str k _ => k | _ => ""
def GoodS (w : World) (e : Int × Value) : Prop := ∃ k tk, e.2 = Value.str k tk ∧ e.1 = hashStr w k
/-- the set of the texts ss at a, of at most n members -/
def SetRS (w : World) (h : Heap) (a : Addr) (ss : List Str) (n : Nat) : Prop :=
  ∃ o es ep t, h.get? a = some o ∧ o.ExactSet ∧ o.data = .set es ep t ∧ (∀ e ∈ es.toList, GoodS w e) ∧ (es.toList.map keyS).Nodup ∧ (∀ k, k ∈ ss ↔ k ∈ es.toList.map keyS) ∧
    es.size < scanBound ∧ t.fits es.size = true ∧ es.size ≤ n ∧ Ris t.place.toList ∧ (w.params.followText "set-order" = true ∨ t.led = true)
section
variable {P : Program} {w : World} {h h' : Heap} {a : Addr} {ss : List Str} {n : Nat}
theorem SetRS.at (R : SetRS w h a ss n) (k : ∀ o, h.get? a = some o → h'.get? a = some o) : SetRS w h' a ss n := by
  obtain ⟨o, es, ep, t, ho, r⟩ := R
  exact ⟨o, es, ep, t, k o ho, r⟩
theorem SetRS.lt (R : SetRS w h a ss n) : a < h.objs.size := by
  obtain ⟨o, es, ep, t, ho, r⟩ := R
  exact Heap.lt_size ho
end
section
variable {P : Program} {w : World} {A : Around} {E : Value → Shared → Prop} {s : Shared} {a : Addr} {ss : List Str} {n : Nat}
end
section
variable {prog : Program} {w : World} {A : Around} {R : Result → Shared → Prop} {I : Addr} {fp wr : List Addr} {G : Array GenState → Array GenState → Prop} {n : Nat} {P : Nat → Value → Prop} {St : Nat → Shared → Prop}
end
section
variable {prog : Program} {w : World} {A : Around} {E : Value → Shared → Prop} {s : Shared}
set_option maxHeartbeats 8000000 in
end
end L2
end
section
set_option maxRecDepth 100000
set_option maxHeartbeats 4000000
namespace L2
open PySem PySem.Spec PyProof.Rows
section
variable {P : Program} {w : World} {A : Around} {E : Value → Shared → Prop} {s : Shared}
end
section
variable {X : Cx}
end
end L2
namespace Tw
open PySem PySem.Spec PyProof.Rows L2
theorem tAr.mono {mg : Str → Option Value} {os : List Opd} {σ : Sg} {H : Hp} {R R' : List V → Hp → Prop} (h : tAr mg os σ H R) (k : ∀ vs H1, R vs H1 → R' vs H1) : tAr mg os σ H R' := by
  obtain ⟨c, ρ, ts, tv, ss, ρ', s, e, q⟩ := h
  exact ⟨c, ρ, ts, tv, ss, ρ', s, e, fun vs H' fp g ra => k _ _ (q vs H' fp g ra)⟩
section
variable {X : Cx} {e : Expr} {os : List Opd}
end
end Tw
end
section
set_option maxRecDepth 100000
set_option maxHeartbeats 4000000
namespace Tw
open PySem PySem.Spec PyProof.Rows L2
open PySem.SeqAt PySem.MeetsSeq PySem.MeetsSeq2 PySem.MeetsSeq3 PySem.SeqRoads2
open AutoSeq1 (wpAny_loadPart')
section
variable {prog : Program} {w : World}
variable {A : Around} {E : Value → Shared → Prop} {s : Shared}
end
section
variable {X : Cx}
end
end Tw
end
section
set_option maxRecDepth 100000
set_option maxHeartbeats 1000000
namespace Tw
open PySem PySem.Spec PyProof.Rows L2
def WO {α : Type} (o : Option α) (N : Prop) (Q : α → Prop) : Prop := match o with | none => N | some x => Q x
section
variable {α β : Type} {N N' : Prop}
@[simp ↓] theorem WO_some {x : α} {Q : α → Prop} : WO (some x) N Q ↔ Q x := Iff.rfl
@[simp ↓] theorem WO_none {Q : α → Prop} : WO (none : Option α) N Q ↔ N := Iff.rfl
theorem WO.mono {o : Option α} {P Q : α → Prop} (h : WO o N P) (n : N → N') (k : ∀ x, P x → Q x) : WO o N' Q := by
  cases o with
  | none => exact n h
  | some x => exact k x h
theorem WO.wp {o : Option α} {Q : α → Prop} (h : WO o False Q) : WP o Q := by
  cases o with
  | none => exact h.elim
  | some x => exact ⟨x, rfl, h⟩
@[simp ↓] theorem WO_bind {o : Option α} {f : α → Option β} {Q : β → Prop} : WO (o.bind f) N Q ↔ WO o N fun x => WO (f x) N Q := by cases o <;> exact Iff.rfl
@[simp ↓] theorem WO_map {o : Option α} {f : α → β} {Q : β → Prop} : WO (o.map f) N Q ↔ WO o N fun x => Q (f x) := by cases o <;> exact Iff.rfl
@[simp ↓] theorem WO_or {o p : Option α} {Q : α → Prop} : WO (o.or p) N Q ↔ WO o (WO p N Q) Q := by cases o <;> exact Iff.rfl
@[simp ↓] theorem WO_ite {c : Prop} [Decidable c] {a b : Option α} {Q : α → Prop} : WO (if c then a else b) N Q ↔ (c → WO a N Q) ∧ (¬ c → WO b N Q) := by
  by_cases h : c
  · simp [h]
  · simp [h]
end
section
variable {ρ : Ro} {N : Prop} {Q : Xc × Ro → Prop} {f g : XF}
@[simp ↓] theorem WO_nvX : WO (nvX ρ) N Q ↔ N := Iff.rfl
end
end Tw
end
section
set_option maxRecDepth 100000
set_option maxHeartbeats 2000000
namespace HotX
open PySem PySem.Spec PyProof.Rows
end HotX
namespace L2H
open PySem PySem.Spec PyProof.Rows L2 HotX
end L2H
namespace Tw
open PySem PySem.Spec PyProof.Rows L2
def tupsOf : D → Option (List D)
  | .tup xs => some xs
  | _ => none
/-- the value of an expression, a tuple, as its items -/
def seqTW (f : EF) : WF := fun ρ => (dv f ρ).bind fun x => (tupsOf x.1).map fun ds => (ds, x.2)
section
variable {X : Cx} {tg e : Expr} {f : EF}
theorem _root_.L2H.PIH.imp {X : Cx} {tg e : Expr} {t t' : L2.TI} (h : L2H.PIH X tg e t) (k : ∀ σ H Q, t' σ H Q → t σ H Q) : L2H.PIH X tg e t' := ⟨fun pins s σ H Q I w => h.run pins s σ H Q I (k _ _ _ w)⟩
end
section
variable {X : Cx} {tg iter : Expr} {body : List Stmt} {w : WF} {js : List Nat} {g : GF} {b : SF} {pos : Pos}
end
@[simp ↓] theorem WP_seqTW {f : EF} {ρ : Ro} {Q : List D × Ro → Prop} : WP (seqTW f ρ) Q ↔ WP (dv f ρ) fun x => WP (tupsOf x.1) fun ds => Q (ds, x.2) := by
  unfold seqTW
  simp only [WP_bind, WP_map]
@[simp] theorem tupsOf_tup (xs : List D) : tupsOf (.tup xs) = some xs := rfl
end Tw
end
section
set_option maxRecDepth 100000
set_option maxHeartbeats 4000000
namespace TuS
open PySem PySem.Spec PyProof.Rows PySem.W PySem.Calls PySem.SeqAt
section
variable {prog : Program} {w : World} {A : Around} {E : Value → Shared → Prop} {s : Shared}
end
section
variable {M : Model} {A : Around} {E : Value → Shared → Prop} {s : Shared}
end
section
variable {prog : Program} {w : World} {A : Around} {E : Value → Shared → Prop} {s : Shared}
end
end TuS
end
section
set_option maxRecDepth 100000
set_option maxHeartbeats 4000000
namespace Tw
open PySem PySem.Spec PyProof.Rows L2
/-- the items at these places -/
def prm {α : Type} (ix : List Nat) (ws : List α) : List α := ix.filterMap (fun i => ws[i]?)
/-- a def that is called by keywords ks; ix: where each parameter's value is written -/
def DefK (K : PySem.W.Frag) (mg : Str → Option Value) (nm : Str) (st : Stmt) (ps ks : List Str) (ix : List Nat) : Prop :=
  ∃ f fd, mg nm = some (.ref f) ∧ Fun K nm nm st f fd ∧ KBn K fd ps 0 ks (fun _ ws => prm ix ws) (fun _ zs => prm ix zs)
def CalK (P : Program) (w : World) (K : PySem.W.Frag) (mg : Str → Option Value) (base : Heap) (nm : Str) (ps ks : List Str) (ix : List Nat) (k : Nat) (F : F0) : Prop :=
  ∃ f fd, mg nm = some (.ref f) ∧ PySem.W.keepIn K (.ref f) = true ∧ KBn K fd ps 0 ks (fun _ ws => prm ix ws) (fun _ zs => prm ix zs) ∧ FnOk P w K mg base CX0 k f fd ps (sp0 mg F)
section
variable {P : Program} {w : World} {K : PySem.W.Frag} {mg : Str → Option Value} {base : Heap} {nm : Str} {st : Stmt} {ps ks N : List Str} {ix : List Nat} {k : Nat} {b : SF}
theorem CalK.mk {k' : Nat} (T : DefK K mg nm st ps ks ix) (S : FnScope N ps (defScope st)) (hb : BodyOk P w K mg base nm st N k b) (hnp : ps.length ≤ N.length := by decide) (hk : k + 1 ≤ k' := by omega) : CalK P w K mg base nm ps ks ix k' (run0 N.length ps.length b) :=
  let ⟨f, fd, m, F, bi⟩ := T; ⟨f, fd, m, F.kp, bi, (ok0 F S hnp fun cdv A outer s H E hr => hb f cdv A outer s H E hr).mono hk⟩
end
theorem _root_.L2.PK.imp {X : Cx} {e : List Keyword} {t t' : TA} (h : PK X e t) (k : ∀ σ H Q, t' σ H Q → t σ H Q) : PK X e t' := ⟨fun pos pins s σ H Q I w => h.run pos pins s σ H Q I (k σ H Q w)⟩
def calK (os : List Opd) (ix : List Nat) (F : F0) : EF := fun ρ => (evs os ρ).bind fun x => (onlyD x.1).bind fun ds => (F (prm ix ds)).map fun r => (r, x.2)
section
variable {X : Cx} {e : Expr} {kws : List Keyword} {o : Opd} {os : List Opd} {nm : Option Str} {kpos : Pos}
end
section
variable {mg : Str → Option Value} {σ : Sg} {H : Hp}
end
section
variable {X : Cx} {k k' : Nat} {ps ks : List Str} {ix : List Nat} {x : Str} {p pos : Pos} {kws : List Keyword} {os : List Opd} {F : F0}
end
@[simp ↓] theorem WP_calK {os : List Opd} {ix : List Nat} {F : F0} {ρ : Ro} {Q : A × Ro → Prop} : WP (calK os ix F ρ) Q ↔ WP (evs os ρ) fun x => WP (onlyD x.1) fun ds => WP (F (prm ix ds)) fun r => Q (r, x.2) := by unfold calK; simp only [WP_bind, WP_map]
end Tw
end
section
set_option maxRecDepth 100000
set_option maxHeartbeats 4000000
namespace TSx
open PySem PySem.Spec PyProof.Rows L2
abbrev Ent := Addr × List Str
abbrev TKey (P : Program) (w : World) (h : Heap) (k : List Str) (a : Addr) : Prop := IsTupleKey (PySem.strKind P w) h k a
def hK (P : Program) (w : World) (k : List Str) : Int := tupleKeyHash (PySem.strKind P w) k
def rowK (P : Program) (w : World) (p : Ent) : Int × Value := (hK P w p.2, .ref p.1)
def hsK (P : Program) (w : World) (L : List Ent) : List Int := L.map fun p => hK P w p.2
/-- the c-th step on the way of a hash through a table -/
abbrev stp (m : Nat) (h : Int) (c : Nat) : SetTable.Probe := nth m (runAt m (SetTable.bits h % (m + 1)) (SetTable.bits h)) c
section
variable {P : Program} {w : World} {A : Around} {E : Value → Shared → Prop} {s : Shared}
structure TSR (P : Program) (w : World) (h : Heap) (a : Addr) (L : List Ent) (es : Array (Int × Value)) (ep : Nat) (t : SetTable) : Prop where
  obj : ∃ o, h.get? a = some o ∧ o.ExactSet ∧ o.data = .set es ep t
  ent : es.toList = L.map (rowK P w)
  tab : TabOk t (hsK P w L)
  uniq : (L.map Prod.snd).Nodup
  keys : ∀ p ∈ L, TKey P w h p.2 p.1
  led : w.params.followText "set-order" = true ∨ t.led = true
  room : L.length * 5 < t.mask * 3
  few : L.length < 64
variable {a : Addr} {L : List Ent} {es : Array (Int × Value)} {ep : Nat} {t : SetTable}
theorem ent_size (h : es.toList = L.map (rowK P w)) : es.size = L.length := by
  have := congrArg List.length h
  simpa using this
theorem hsK_len : (hsK P w L).length = L.length := List.length_map _
theorem fits_of (hs : t.place.size = es.size) (hd : t.dummies = #[]) (hl : es.size ≤ t.mask) : t.fits es.size = true := by
  simp only [SetTable.fits, SetTable.fill, hd, Bool.and_eq_true, beq_iff_eq, decide_eq_true_eq]
  refine ⟨hs, ?_⟩
  show t.place.size + 0 ≤ t.mask
  omega
theorem TSR.sz (R : TSR P w s.heap a L es ep t) : t.place.size = es.size := by rw [R.tab.sz, hsK_len, ent_size R.ent]
theorem TSR.fits (R : TSR P w s.heap a L es ep t) : t.fits es.size = true := fits_of R.sz R.tab.dm (by have := R.room; rw [ent_size R.ent]; omega)
theorem TSR.whole (R : TSR P w s.heap a L es ep t) : ¬ t.gaveWay = true := by
  unfold SetTable.gaveWay
  rw [mask_odd R.tab.mok]
  decide
end
end TSx
end
section
set_option maxRecDepth 100000
set_option maxHeartbeats 4000000
namespace TSx
open PySem PySem.Spec PyProof.Rows L2
section
variable {P : Program} {w : World} {A : Around} {E : Value → Shared → Prop} {s : Shared} {a : Addr} {L : List Ent} {es : Array (Int × Value)} {ep : Nat} {t : SetTable}
theorem TSR.move {h h' : Heap} (R : TSR P w h a L es ep t) (ha : ∀ o, h.get? a = some o → h'.get? a = some o) (hk : ∀ p ∈ L, TKey P w h' p.2 p.1) : TSR P w h' a L es ep t := by
  obtain ⟨o, ho, r⟩ := R.obj
  exact { R with obj := ⟨o, ha o ho, r⟩, keys := hk }
end
/-- what stands in the set behind the first i items -/
structure Upto (ks : List Ent) (i : Nat) (L : List Ent) : Prop where
  sub : ∀ p ∈ L, p ∈ ks
  all : ∀ p ∈ ks.take i, p.2 ∈ L.map Prod.snd
theorem Upto.step {ks L L' : List Ent} {i : Nat} {x : Ent} (g : Upto ks i L) (h : ks[i]? = some x) (c1 : x.2 ∈ L.map Prod.snd → L' = L) (c2 : x.2 ∉ L.map Prod.snd → L'.Perm (x :: L)) : Upto ks (i + 1) L' := by
  have e : ks.take (i + 1) = ks.take i ++ [x] := by rw [List.take_succ, h]; rfl
  by_cases hm : x.2 ∈ L.map Prod.snd
  · rw [c1 hm]
    refine ⟨g.sub, fun p hp => ?_⟩
    rw [e] at hp
    rcases List.mem_append.mp hp with z | z
    · exact g.all p z
    · rw [List.mem_singleton.mp z]; exact hm
  · have pm := c2 hm
    refine ⟨fun p hp => ?_, fun p hp => ?_⟩
    · rcases List.mem_cons.mp (pm.mem_iff.mp hp) with rfl | z
      · exact List.mem_of_getElem? h
      · exact g.sub p z
    · rw [(pm.map Prod.snd).mem_iff, List.map_cons]
      rw [e] at hp
      rcases List.mem_append.mp hp with z | z
      · exact List.mem_cons_of_mem _ (g.all p z)
      · rw [List.mem_singleton.mp z]; exact List.mem_cons_self
/-- the different texts of a list are few -/
def Few (ks : List Ent) : Prop := ∀ M : List (List Str), M.Nodup → (∀ k ∈ M, k ∈ ks.map Prod.snd) → M.length < 64
theorem Few.one {ks L : List Ent} (f : Few ks) {i : Nat} {x : Ent} (g : Upto ks i L) (nd : (L.map Prod.snd).Nodup) (hx : x ∈ ks) (hm : x.2 ∉ L.map Prod.snd) : L.length + 1 < 64 := by
  have := f (x.2 :: L.map Prod.snd) (List.nodup_cons.mpr ⟨hm, nd⟩) fun k hk => by
    rcases List.mem_cons.mp hk with rfl | hk
    · exact List.mem_map_of_mem hx
    · obtain ⟨p, hp, rfl⟩ := List.mem_map.mp hk
      exact List.mem_map_of_mem (g.sub p hp)
  simpa using this
section
variable {P : Program} {w : World} {A : Around} {E : Value → Shared → Prop} {s : Shared}
end
end TSx
end
section
set_option maxRecDepth 100000
set_option maxHeartbeats 4000000
namespace TSx
open PySem PySem.Spec PyProof.Rows L2
section
variable {prog : Program} {w : World} {A : Around} {E : Value → Shared → Prop} {s : Shared}
set_option maxHeartbeats 8000000 in
end
end TSx
end
section
set_option maxRecDepth 100000
set_option maxHeartbeats 4000000
namespace TSx
open PySem PySem.Spec PyProof.Rows L2
section
variable {P : Program} {w : World} {A : Around} {E : Value → Shared → Prop} {s : Shared} {a : Addr} {L : List Ent} {es : Array (Int × Value)} {ep : Nat} {t : SetTable}
end
section
variable {X : Cx}
end
end TSx
namespace Tw
open PySem PySem.Spec PyProof.Rows L2
section
variable {X : Cx} {e : Expr} {os : List Opd}
end
end Tw
end
section
set_option maxRecDepth 100000
set_option maxHeartbeats 4000000
namespace Tw
open PySem PySem.Spec PyProof.Rows L2
section
variable {X : Cx}
end
end Tw
end
section
set_option maxRecDepth 100000
set_option maxHeartbeats 4000000
namespace PSo
open PySem PySem.Spec PyProof.Rows PySem.W PySem.Calls PySem.SeqAt
section
variable {prog : Program} {w : World} {A : Around} {s : Shared}
end
end PSo
namespace Tw
open PySem PySem.Spec PyProof.Rows L2
section
variable {X : Cx}
end
section
variable {mg : Str → Option Value} {Z : Addr → Prop} {H : Hp}
end
end Tw
end
section
set_option maxRecDepth 100000
set_option maxHeartbeats 4000000
namespace Tw
open PySem PySem.Spec PyProof.Rows L2
def unlG (n : Nat) (f : GsF) : GF := fun d ρ => match d with | .lst ds => if ds.length = n then f ds ρ else none | _ => none
section
variable {X : Cx} {pos : Pos}
end
@[simp ↓] theorem WP_unlG {n : Nat} {f : GsF} {ds : List D} {Q : Ro → Prop} {ρ : Ro} : WP (unlG n f (.lst ds) ρ) Q ↔ ds.length = n ∧ WP (f ds ρ) Q := by
  show WP (if ds.length = n then f ds ρ else none) Q ↔ _
  by_cases h : ds.length = n
  · rw [if_pos h]; simp [h]
  · rw [if_neg h]; simp [h]
end Tw
end
section
set_option maxRecDepth 100000
set_option maxHeartbeats 4000000
namespace Tw
open PySem PySem.Spec PyProof.Rows L2
section
variable {X : Cx}
def rRepTF (K : PySem.W.Frag) : R2 := fun x y H Q => ∃ l k xs, x = .ref l ∧ y = .int k ∧ SqT K H l xs ∧ xs ≠ [] ∧ 2 ≤ k ∧ k ≤ 1000 ∧ xs.length ≤ 1000 ∧ ∀ p o, H p = none → o.dict = none → Q (.ref p) (upd H p (.frz o (.tup (List.replicate k.toNat xs).flatten)))
theorem op_repTF : OpR X (binaryOp .Mult) (rRepTF X.K) := by
  intro pins s σ H x y v u Q I rx ry h
  obtain ⟨l, k, xs, rfl, rfl, hT, hne, h1, h2, hz, q⟩ := h
  cases rx
  obtain ⟨t, rfl⟩ := ry
  obtain ⟨its, r, ⟨⟨cls, dd, data, sl⟩, ho, hc, n, hd⟩, hs⟩ := I.tuple hT
  simp only at hc hd
  subst hc hd
  have hle : its.length = xs.length := r.length.symm
  have hn : its ≠ [] := fun e => hne (by
    rw [e] at hle
    exact List.eq_nil_of_length_eq_zero hle.symm)
  have hi : its.toArray.isEmpty = false := by
    cases its with
    | nil => exact absurd rfl hn
    | cons a b => rfl
  have hsz0 : its.toArray.size = xs.length := by rw [List.size_toArray, hle]
  have hm : ((its.toArray.size : Nat) : Int) * k ≤ 1000000 := by
    rw [hsz0]
    have a1 : ((xs.length : Nat) : Int) * k ≤ 1000 * k := Int.mul_le_mul_of_nonneg_right (by omega) (by omega)
    omega
  have flen : (List.replicate k.toNat its).flatten.length ≤ sizeLine := by
    rw [PyProof.Rows.lm_len_rep_flat, hle, sizeLine_eq]
    have a1 : k.toNat * xs.length ≤ 1000 * 1000 := Nat.mul_le_mul (by omega) hz
    omega
  have c0 : (decide (k < -(2 ^ 63)) || decide (k ≥ 2 ^ 63)) = false := by
    rw [decide_eq_false (by omega), decide_eq_false (by omega)] <;> rfl
  have c1 : (its.toArray.isEmpty || k == 1) = false := by
    rw [hi, Bool.false_or]
    exact beq_eq_false_iff_ne.mpr (by omega)
  have c2 : (decide (k ≤ 0) || its.toArray.isEmpty) = false := by
    rw [hi, Bool.or_false]
    exact decide_eq_false (by omega)
  have c4 : Builtin.Tuple.tupleTooMany (((its.toArray.size : Nat) : Int) * k) = false := by
    unfold Builtin.Tuple.tupleTooMany
    rw [sizeLine_eq]
    exact decide_eq_false (by omega)
  refine wpAny_binaryOp_repeat_ref (T := "tuple") (U := "int") (by decide) ⟨_, ho, rfl⟩ (fun s' => typeIs_int s' k t) noFill_tuple_mul F.fills_int_mul F.slot_int_rmul repeat_tuple F.slot_int_index.lookup
    (call_meets F.slot_int_rmul (typeIs_int s k t) F.entry_int_rmul (F.args_int_rmul_2 _ _) (int_rmul_tuple k t l its.toArray n dd sl)
      ⟨ho, rfl, ⟨_, ho, rfl⟩, call_meets F.slot_tuple_mul ⟨_, ho, rfl⟩ F.entry_tuple_mul (F.args_tuple_mul_2 _ _) (tuple_mulW l its.toArray n dd sl k t c0 c1 c2 (by omega) c4 (by rw [size_rep, List.size_toArray]; exact flen)) ⟨ho, ?_⟩⟩)
  rw [size_rep]
  have hrl : ((List.replicate k.toNat xs).flatten).length ≤ sizeLine := by
    rw [PyProof.Rows.lm_len_rep_flat, ← hle, ← PyProof.Rows.lm_len_rep_flat]; exact flen
  have hr : ∀ m : Nat, Vals (List.replicate m xs).flatten (List.replicate m its).flatten := fun m => by
    induction m with
    | zero => exact .nil
    | succ m ih =>
      rw [List.replicate_succ, List.flatten_cons, List.replicate_succ, List.flatten_cons]
      exact r.append ih
  exact ⟨.ref s.heap.objs.size, _, I.laid (t' := s.toks) (o := .frz { cls := .type "tuple", data := .seq (List.replicate k.toNat its).flatten.toArray } (.tup (List.replicate k.toNat xs).flatten)) (fun b ob q => Heap.get?_push_of_some _ q) (Nat.le_refl _)
    ⟨Heap.get?_push_size _ rfl, hrl, _, hr k.toNat, IsTup.new _ _⟩, rfl, q _ _ (I.hok.fresh (Nat.le_refl _)) rfl⟩
def mulT : D → D → Option A
  | .tup xs, .int k => if xs ≠ [] ∧ 2 ≤ k ∧ k ≤ 1000 ∧ xs.length ≤ 1000 then some (.d (.tup (List.replicate k.toNat xs).flatten)) else none
  | _, _ => none
theorem o_mulT : OpD X (binaryOp .Mult) mulT := by
  intro pins s σ H x y v u Q I rx ry w
  obtain ⟨Z, a, b, r, hz, ra, rb, e, k⟩ := w
  unfold mulT at e
  split at e
  case h_2 => cases e
  rename_i xs j
  split at e
  case isFalse => cases e
  rename_i h
  obtain ⟨h1, h2, h3, h4⟩ := h
  cases e
  have ra' : Rep X.mg Z H (.tup xs) x := ra
  have rb' : Rep X.mg Z H (.int j) y := rb
  obtain ⟨p, vs, o1, rfl, _, _, g1, r1⟩ := ra'
  obtain rfl : y = .int j := rb'
  refine op_repTF pins s σ H _ _ v u Q I rx ry ⟨p, j, vs, rfl, rfl, .inl g1.frz2, fun e => h1 ?_, h2, h3, by rw [← r1.length]; exact h4, fun t o ht ho => k.t hz (r1.rep _) ht ho⟩
  subst e
  have := r1.length
  simpa using this
abbrev mulY := orD mulI (orD mulL mulT)
end
end Tw
end
section
set_option maxRecDepth 100000
set_option maxHeartbeats 4000000
namespace Tw
open PySem PySem.Spec PyProof.Rows L2
section
variable {X : Cx} {a : Expr} {o : Opd}
end
def isB : D → D → Option A
  | .bl a, .bl b => some (.d (.bl (decide (a = b))))
  | _, _ => none
def notB : D → D → Option A
  | .bl a, .bl b => some (.d (.bl (!decide (a = b))))
  | _, _ => none
section
variable {X : Cx}
end
@[simp] theorem isB_bl (a b : Bool) : isB (.bl a) (.bl b) = some (.d (.bl (decide (a = b)))) := rfl
@[simp] theorem notB_bl (a b : Bool) : notB (.bl a) (.bl b) = some (.d (.bl (!decide (a = b)))) := rfl
end Tw
end
section
set_option maxRecDepth 100000
set_option maxHeartbeats 4000000
namespace Tw
open PySem PySem.Spec PyProof.Rows L2
section
variable {mg : Str → Option Value} {c c' : Fx} {σ σ' : Sg} {H H' G : Hp} {ρ ρ' : Ro} {ts : List D} {tv : List V} {r : Option A} {v u : V} {fp : Pl → List Addr} {q : List Addr} {x : A}
end
theorem Reps.split {mg : Str → Option Value} {Z : Addr → Prop} {H : Hp} : ∀ {xs ys : List D} {us ws : List V}, xs.length = us.length → Reps mg Z H (xs ++ ys) (us ++ ws) → Reps mg Z H xs us
  | [], _, [], _, _, _ => rfl
  | [], _, _ :: _, _, e, _ => by simp at e
  | _ :: _, _, [], _, e, _ => by simp at e
  | x :: xs, ys, u :: us, ws, e, h => by
    obtain ⟨v, w, e2, h1, h2⟩ := h
    simp only [List.cons_append, List.cons.injEq] at e2
    obtain ⟨rfl, rfl⟩ := e2
    exact ⟨u, us, rfl, h1, Reps.split (by simpa using e) h2⟩
/-- x, y = dict(e), f -/
def parK (i j : Nat) (fa f : EF) : SF := fun ρ => (fa ρ).bind fun y => match y.1 with
  | .k false kvs => (f y.2).bind fun x => if okOld (x.2.set j (some x.1)) i = true ∧ okOld x.2 j = true then some (.nx, (x.2.set j (some x.1)).set i (some (.k false kvs))) else none
  | _ => none
section
variable {X : Cx} {a b : Expr} {fa f : EF} {pos : Pos}
end
section
variable {ρ : Ro}
@[simp ↓] theorem WP_parK {i j : Nat} {fa f : EF} {Q : Out × Ro → Prop} : WP (parK i j fa f ρ) Q ↔ WP (fa ρ) fun y => ∃ kvs, y.1 = .k false kvs ∧ WP (f y.2) fun x => (okOld (x.2.set j (some x.1)) i = true ∧ okOld x.2 j = true) ∧ Q (.nx, (x.2.set j (some x.1)).set i (some (.k false kvs))) := by
  unfold parK
  simp only [WP_bind]
  refine iff_of_eq (congrArg _ (funext fun y => propext ?_))
  obtain ⟨y1, y2⟩ := y
  constructor
  · intro h
    split at h
    · rename_i kvs hy
      simp only at hy
      subst hy
      refine ⟨kvs, rfl, ?_⟩
      simp only [WP_bind] at h
      refine h.mono fun x hx => ?_
      simp only [WP_ite, WP_some, WP_none, imp_false, Classical.not_not] at hx
      exact ⟨hx.2, hx.1 hx.2⟩
    · obtain ⟨_, h, _⟩ := h
      cases h
  · rintro ⟨kvs, e, h⟩
    simp only at e
    subst e
    simp only [WP_bind]
    refine h.mono fun x hx => ?_
    simp only [WP_ite, WP_some, WP_none, imp_false, Classical.not_not]
    exact ⟨fun _ => hx.2, hx.1⟩
end
end Tw
end
section
set_option maxRecDepth 100000
set_option maxHeartbeats 4000000
namespace Tw
open PySem PySem.Spec PyProof.Rows L2
section
variable {mg : Str → Option Value} {c c' : Fx} {σ σ' : Sg} {H H' G : Hp} {ρ ρ' : Ro} {ts : List D} {tv : List V} {r : Option A} {v u : V} {fp : Pl → List Addr} {q : List Addr} {x : A}
end
/-- x, y = [..], f -/
def parM (i j : Nat) (fa f : EF) : SF := fun ρ => (fa ρ).bind fun y => match y.1 with
  | .l false xs => (f y.2).bind fun x => if okOld (x.2.set j (some x.1)) i = true ∧ okOld x.2 j = true then some (.nx, (x.2.set j (some x.1)).set i (some (.l false xs))) else none
  | _ => none
section
variable {X : Cx} {a b : Expr} {fa f : EF} {pos : Pos}
end
section
variable {ρ : Ro}
@[simp ↓] theorem WP_parM {i j : Nat} {fa f : EF} {Q : Out × Ro → Prop} : WP (parM i j fa f ρ) Q ↔ WP (fa ρ) fun y => ∃ xs, y.1 = .l false xs ∧ WP (f y.2) fun x => (okOld (x.2.set j (some x.1)) i = true ∧ okOld x.2 j = true) ∧ Q (.nx, (x.2.set j (some x.1)).set i (some (.l false xs))) := by
  unfold parM
  simp only [WP_bind]
  refine iff_of_eq (congrArg _ (funext fun y => propext ?_))
  obtain ⟨y1, y2⟩ := y
  constructor
  · intro h
    split at h
    · rename_i xs hy
      simp only at hy
      subst hy
      refine ⟨xs, rfl, ?_⟩
      simp only [WP_bind] at h
      refine h.mono fun x hx => ?_
      simp only [WP_ite, WP_some, WP_none, imp_false, Classical.not_not] at hx
      exact ⟨hx.2, hx.1 hx.2⟩
    · obtain ⟨_, h, _⟩ := h
      cases h
  · rintro ⟨xs, e, h⟩
    simp only at e
    subst e
    simp only [WP_bind]
    refine h.mono fun x hx => ?_
    simp only [WP_ite, WP_some, WP_none, imp_false, Classical.not_not]
    exact ⟨fun _ => hx.2, hx.1⟩
end
end Tw
end
section

end
section
set_option maxRecDepth 100000
set_option maxHeartbeats 4000000
namespace Tw
open PySem PySem.Spec PyProof.Rows L2
def S_law_errors  : SF := (seqS (setS 3 (lstE [(.ev (tupE [(.ev (excS "NoDocument" "path" 0)), (.ev (cst (.str "nodocument"))), (.ev (lstE [(.ev (var 0))]))])), (.ev (tupE [(.ev (excS "Large" "what" 1)), (.ev (cst (.str "large"))), (.ev (lstE [(.ev (var 1))]))]))])) (seqS (setS 3 (bin (.pk 3) (.ev (lstE [(.ev (tupE [(.ev (excS2 "BadCount" "what" "count" 1 2)), (.ev (cst (.str "badcount"))), (.ev (lstE [(.ev (var 1)), (.ev (var 2))]))])), (.ev (tupE [(.ev (excS "NoChange" "path" 0)), (.ev (cst (.str "nochange"))), (.ev (lstE [(.ev (var 0))]))]))])) addX)) (seqS (setS 3 (bin (.pk 3) (.ev (lstE [(.ev (tupE [(.ev (excS "NoTime" "time" 2)), (.ev (cst (.str "notime"))), (.ev (lstE [(.ev (var 2))]))])), (.ev (tupE [(.ev (exc0 "NoBack")), (.ev (cst (.str "noback"))), (.ev (lstE []))]))])) addX)) (seqS (setS 3 (bin (.pk 3) (.ev (lstE [(.ev (tupE [(.ev (excS "BadText" "place" 2)), (.ev (cst (.str "badtext"))), (.ev (lstE [(.ev (var 2))]))])), (.ev (tupE [(.ev (excS "NoDocument" "path" 0)), (.ev (cst (.str "nodocument"))), (.ev (lstE [(.ev (var 0))]))]))])) addX)) (seqS (setS 3 (bin (.pk 3) (.ev (lstE [(.ev (tupE [(.ev (excS "Large" "what" 1)), (.ev (cst (.str "large"))), (.ev (lstE [(.ev (var 1))]))])), (.ev (tupE [(.ev (excS "NoChange" "path" 0)), (.ev (cst (.str "nochange"))), (.ev (lstE [(.ev (var 0))]))]))])) addX)) (seqS (exprS (appE 3 (.ev (tupE [(.ev (excS2 "BadCount" "what" "count" 1 2)), (.ev (cst (.str "badcount"))), (.ev (lstE [(.ev (var 1)), (.ev (var 2))]))])))) (retS (bin (.pk 3) (.ev (lstE [(.ev (tupE [(.ev (excS "NoTime" "time" 2)), (.ev (cst (.str "notime"))), (.ev (lstE [(.ev (var 2))]))])), (.ev (tupE [(.ev (excS "BadText" "place" 2)), (.ev (cst (.str "badtext"))), (.ev (lstE [(.ev (var 2))]))]))])) addX))))))))
def G_law_errors (n : Nat) : F0 := run0 4 3 (S_law_errors )
def S_NoDocument_told  : SF := (retS (cst (.str "refused nodocument")))
def G_NoDocument_told (n : Nat) : F0 := run0 1 1 (S_NoDocument_told )
def S_Large_told  : SF := (retS (cst (.str "refused large")))
def G_Large_told (n : Nat) : F0 := run0 1 1 (S_Large_told )
def S_BadCount_told  : SF := (retS (cst (.str "refused badcount")))
def G_BadCount_told (n : Nat) : F0 := run0 1 1 (S_BadCount_told )
def S_NoChange_told  : SF := (retS (cst (.str "refused nochange")))
def G_NoChange_told (n : Nat) : F0 := run0 1 1 (S_NoChange_told )
def S_NoTime_told  : SF := (retS (cst (.str "refused notime")))
def G_NoTime_told (n : Nat) : F0 := run0 1 1 (S_NoTime_told )
def S_NoBack_told  : SF := (retS (cst (.str "refused noback")))
def G_NoBack_told (n : Nat) : F0 := run0 1 1 (S_NoBack_told )
def S_BadText_told  : SF := (retS (cst (.str "refused badtext")))
def G_BadText_told (n : Nat) : F0 := run0 1 1 (S_BadText_told )
def S_law_fields  : SF := (seqS (ifS (asB (bin (.pk 1) (.ev (tupE [(.ev (cst (.str "nodocument"))), (.ev (cst (.str "nochange")))])) (inL false))) (retS (lstE [(.ev (vfE 0 "path" ["NoDocument", "NoChange"]))])) nxS) (seqS (ifS (asB (bin (.pk 1) (.ev (cst (.str "large"))) eqS)) (retS (lstE [(.ev (vfE 0 "what" ["Large", "BadCount"]))])) nxS) (seqS (ifS (asB (bin (.pk 1) (.ev (cst (.str "badcount"))) eqS)) (retS (lstE [(.ev (vfE 0 "what" ["Large", "BadCount"])), (.ev (vfE 0 "count" ["BadCount"]))])) nxS) (seqS (ifS (asB (bin (.pk 1) (.ev (cst (.str "notime"))) eqS)) (retS (lstE [(.ev (vfE 0 "time" ["NoTime"]))])) nxS) (retS (ifE (asB (bin (.pk 1) (.ev (cst (.str "badtext"))) eqS)) (lstE [(.ev (vfE 0 "place" ["BadText"]))]) (lstE [])))))))
def G_law_fields (n : Nat) : F0 := run0 2 2 (S_law_fields )
def S_law_classes  : SF := (seqS (setS 1 (lstE [(.ev (isE 0 [("NoDocument", true), ("Large", false), ("BadCount", false), ("NoChange", false), ("NoTime", false), ("NoBack", false), ("BadText", false)])), (.ev (isE 0 [("NoDocument", false), ("Large", true), ("BadCount", false), ("NoChange", false), ("NoTime", false), ("NoBack", false), ("BadText", false)])), (.ev (isE 0 [("NoDocument", false), ("Large", false), ("BadCount", true), ("NoChange", false), ("NoTime", false), ("NoBack", false), ("BadText", false)])), (.ev (isE 0 [("NoDocument", false), ("Large", false), ("BadCount", false), ("NoChange", true), ("NoTime", false), ("NoBack", false), ("BadText", false)]))])) (seqS (setS 1 (bin (.pk 1) (.ev (lstE [(.ev (isE 0 [("NoDocument", false), ("Large", false), ("BadCount", false), ("NoChange", false), ("NoTime", true), ("NoBack", false), ("BadText", false)])), (.ev (isE 0 [("NoDocument", false), ("Large", false), ("BadCount", false), ("NoChange", false), ("NoTime", false), ("NoBack", true), ("BadText", false)])), (.ev (isE 0 [("NoDocument", false), ("Large", false), ("BadCount", false), ("NoChange", false), ("NoTime", false), ("NoBack", false), ("BadText", true)]))])) addX)) (seqS (setS 2 (lstE [(.ev (cst (.str "nodocument"))), (.ev (cst (.str "large"))), (.ev (cst (.str "badcount"))), (.ev (cst (.str "nochange"))), (.ev (cst (.str "notime"))), (.ev (cst (.str "noback"))), (.ev (cst (.str "badtext")))])) (retS (lcE (zipY (var 2) (var 1)) (tupG 2 (consG (nameG 3) (consG (nameG 4) nilG))) (asB (var 4)) (var 3) [3, 4])))))
def G_law_classes (n : Nat) : F0 := run0 5 1 (S_law_classes )
def S_law_draw  : SF := (seqS (ifS (asB (bin (.ev (bin (.pk 0) (.ev (cst (.int 0))) ixX)) (.ev (bin (.ev (cst (.int 10))) (.ev (cst (.int 18))) powI)) geI)) (seqS (setS 2 (bin (.ev (bin (.pk 0) (.ev (cst (.int 0))) ixX)) (.pk 1) modI)) (seqS (stS 0 (.ev (cst (.int 0))) (bin (.ev (bin (.pk 0) (.ev (cst (.int 0))) ixX)) (.pk 1) fdivI)) (retV 2))) nxS) (seqS (stS 0 (.ev (cst (.int 2))) (bin (.ev (bin (.pk 0) (.ev (cst (.int 2))) ixX)) (.ev (cst (.int 1))) addX)) (seqS (setS 3 (bin (.ev (bin (.ev (bin (.ev (bin (.ev (bin (.pk 0) (.ev (cst (.int 1))) ixX)) (.ev (bin (.ev (cst (.int 7919))) (.ev (bin (.pk 0) (.ev (cst (.int 2))) ixX)) mulI)) addX)) (.ev (cst (.int 1))) addX)) (.ev (cst (.int 48271))) mulI)) (.ev (cst (.int 2147483647))) modI)) (seqS (setS 3 (bin (.ev (bin (.pk 3) (.ev (bin (.ev (bin (.pk 3) (.ev (cst (.int 1013))) fdivI)) (.ev (cst (.int 69621))) addX)) mulI)) (.ev (cst (.int 2147483587))) modI)) (retS (bin (.ev (bin (.ev (bin (.ev (bin (.pk 3) (.ev (cst (.int 7))) fdivI)) (.ev (bin (.ev (bin (.pk 3) (.ev (cst (.int 7919))) modI)) (.ev (cst (.int 40692))) mulI)) addX)) (.ev (cst (.int 2147483399))) modI)) (.pk 1) modI))))))
def G_law_draw (n : Nat) : F1 := run1 4 2 (S_law_draw )
def S_law_pick (F_law_draw : F1) : SF := (retS (bin (.pk 1) (.ev (cal1 0 [(.ev (app [(.pk 1)] lenD))] (F_law_draw))) ixX))
def G_law_pick (n : Nat) : F1 := run1 2 2 (S_law_pick (G_law_draw n))
def S_law_right_t0 (F_law_errors : F0) (F_NoDocument_told : F0) (F_Large_told : F0) (F_BadCount_told : F0) (F_NoChange_told : F0) (F_NoTime_told : F0) (F_NoBack_told : F0) (F_BadText_told : F0) (F_law_fields : F0) (F_law_classes : F0) (F_law_draw : F1) (F_law_pick : F1) : SF := (seqS (forS (seqW (cal0 [(.ev (var 1)), (.ev (var 2)), (.ev (var 3))] (F_law_errors))) (tupG 3 (consG (nameG 4) (consG (nameG 5) (consG (nameG 6) nilG)))) (seqS (ifS (orT (asB (bin (.ev (cal0 [(.ev (var 4))] (F_law_classes))) (.ev (lstE [(.ev (var 5))])) neG)) (orT (notT (asB (isE 4 [("NoDocument", true), ("Large", true), ("BadCount", true), ("NoChange", true), ("NoTime", true), ("NoBack", true), ("BadText", true)]))) (notT (asB (isE 4 [("NoDocument", true), ("Large", true), ("BadCount", true), ("NoChange", true), ("NoTime", true), ("NoBack", true), ("BadText", true)]))))) (retS (cst (.bl false))) nxS) (ifS (orT (asB (bin (.ev (cal0 [(.ev (var 4)), (.ev (var 5))] (F_law_fields))) (.pk 6) neG)) (asB (bin (.ev (vmE 4 "told" [("NoDocument", (F_NoDocument_told)), ("Large", (F_Large_told)), ("BadCount", (F_BadCount_told)), ("NoChange", (F_NoChange_told)), ("NoTime", (F_NoTime_told)), ("NoBack", (F_NoBack_told)), ("BadText", (F_BadText_told))])) (.ev (bin (.ev (cst (.str "refused "))) (.pk 5) addX)) neG))) (retS (cst (.bl false))) nxS)) [4, 5, 6]) (retS (toV (notT (asB (isVE false))))))
abbrev G_law_right_t0 (n : Nat) : SF := S_law_right_t0 (G_law_errors n) (G_NoDocument_told n) (G_Large_told n) (G_BadCount_told n) (G_NoChange_told n) (G_NoTime_told n) (G_NoBack_told n) (G_BadText_told n) (G_law_fields n) (G_law_classes n) (G_law_draw n) (G_law_pick n)
def S_law_right (F_law_errors : F0) (F_NoDocument_told : F0) (F_Large_told : F0) (F_BadCount_told : F0) (F_NoChange_told : F0) (F_NoTime_told : F0) (F_NoBack_told : F0) (F_BadText_told : F0) (F_law_fields : F0) (F_law_classes : F0) (F_law_draw : F1) (F_law_pick : F1) : SF := (seqS (setS 1 (cal1 0 [(.ev (lstE [(.ev (tupE [])), (.ev (tupE [(.ev (cst (.str "a")))])), (.ev (tupE [(.ev (cst (.str "a"))), (.ev (cst (.str "")))])), (.ev (bin (.ev (tupE [(.ev (cst (.str ""))), (.ev (cst (.str ""))), (.ev (cst (.str "b")))])) (.ev (cst (.int 2))) mulT))]))] (F_law_pick))) (seqS (setS 2 (cal1 0 [(.ev (lstE [(.ev (cst (.str "depth"))), (.ev (cst (.str "parts"))), (.ev (cst (.str "row"))), (.ev (cst (.str "patches")))]))] (F_law_pick))) (seqS (setS 3 (cal1 0 [(.ev (lstE [(.ev (cst (.int 0))), (.ev (cst (.int 1))), (.ev (un (cst (.int 1)) negI)), (.ev (bin (.ev (cst (.int 10))) (.ev (cst (.int 30))) powI)), (.ev (cal1 0 [(.ev (bin (.ev (cst (.int 10))) (.ev (cst (.int 9))) powI))] (F_law_draw)))]))] (F_law_pick))) (S_law_right_t0 F_law_errors F_NoDocument_told F_Large_told F_BadCount_told F_NoChange_told F_NoTime_told F_NoBack_told F_BadText_told F_law_fields F_law_classes F_law_draw F_law_pick))))
def G_law_right (n : Nat) : F1 := run1 7 1 (S_law_right (G_law_errors n) (G_NoDocument_told n) (G_Large_told n) (G_BadCount_told n) (G_NoChange_told n) (G_NoTime_told n) (G_NoBack_told n) (G_BadText_told n) (G_law_fields n) (G_law_classes n) (G_law_draw n) (G_law_pick n))
def S_law_source  : SF := (retS (lstE [(.ev (app [(.pk 0)] absD)), (.ev (bin (.pk 0) (.ev (cst (.int 2147483629))) modI)), (.ev (cst (.int 0)))]))
def G_law_source (n : Nat) : F0 := run0 1 1 (S_law_source )
def S_law (F_law_right : F1) (F_law_source : F0) : SF := (seqS (forS (seqW (slL (.ev (bin (.pk 0) (.ev (lstE [(.ev (cst (.int 0)))])) addX)) .no (.ev (cst (.int 4))))) (nameG 1) (seqS (setS 2 (cal0 [(.ev (var 1))] (F_law_source))) (ifS (notT (asB (cal1 2 [] (F_law_right)))) (retS (cst (.bl false))) nxS)) [1, 2]) (retS (cst (.bl true))))
def G_law (n : Nat) : F0 := run0 3 1 (S_law (G_law_right n) (G_law_source n))
end Tw
end
section
set_option maxRecDepth 100000
set_option maxHeartbeats 4000000
namespace Tw
open PySem PySem.Spec PyProof.Rows L2
/-- a source of draws -/
def St7 (b : Bool) (s : A) : Prop := ∃ x y z, s = stV b x y z ∧ 0 ≤ x ∧ 0 ≤ y ∧ y < 4294967296 ∧ 0 ≤ z
@[simp] theorem stV_put2 (b : Bool) (x y z : Int) (v : Int) : putA (some (stV b x y z)) (.int 2) (.int v) = some (stV b x y v) := rfl
theorem St7.bor {b : Bool} {s : A} (h : St7 b s) : s.bor = b := by obtain ⟨x, y, z, rfl, _⟩ := h; rfl
theorem St7.mark {b d : Bool} {s : A} (h : St7 b s) : St7 d (s.mark d) := by obtain ⟨x, y, z, rfl, h⟩ := h; exact ⟨x, y, z, rfl, h⟩
theorem draw_w (n : Nat) {s : A} (hs : St7 true s) {k : Int} (h0 : 0 < k) (h1 : k < 1073741824) : WP (G_law_draw n s [.int k]) fun y => ∃ r : Int, y.1 = .d (.int r) ∧ 0 ≤ r ∧ r < k ∧ St7 true y.2 := by
  obtain ⟨x, y, z, rfl, hx, hy0, hy1, hz⟩ := hs
  unfold G_law_draw
  rw [WP_run1]
  unfold S_law_draw
  simp
  exact ⟨fun h => ⟨h0, ⟨h0, h1⟩, Int.emod_nonneg _ (by omega), Int.emod_lt_of_pos _ h0, _, _, _, rfl, Int.ediv_nonneg hx (by omega), hy0, hy1, hz⟩,
    fun h => ⟨.inl ⟨by have := Int.emod_nonneg ((y + 7919 * (z + 1) + 1) * 48271) (show (2147483647 : Int) ≠ 0 by omega); omega, by have := Int.emod_lt_of_pos ((y + 7919 * (z + 1) + 1) * 48271) (show (0 : Int) < 2147483647 by omega); omega⟩, h0, Int.emod_nonneg _ (by omega), Int.emod_lt_of_pos _ h0, _, _, _, rfl, hx, hy0, hy1, by omega⟩⟩
theorem source_w (n : Nat) (i : Int) : WP (G_law_source n [.int i]) fun r => St7 false r := by
  unfold G_law_source
  rw [WP_run0]
  unfold S_law_source
  have habs : absD [.int i] = some (.d (.int (if i < 0 then -i else i))) := by
    first | rfl | (unfold absD; congr 2; split <;> omega)
  simp [habs]
  refine ⟨_, _, _, rfl, ?_, ?_, ?_, by omega⟩
  · split <;> omega
  · have := Int.emod_nonneg i (show (2147483629 : Int) ≠ 0 by omega); omega
  · have := Int.emod_lt_of_pos i (show (0 : Int) < 2147483629 by omega); omega
theorem pick_w (n : Nat) {s : A} (hs : St7 true s) {items : List D} (h0 : 0 < items.length) (h1 : items.length < 1073741824) : WP (G_law_pick n s [.lst items]) fun y => ∃ d ∈ items, y.1 = .d d ∧ St7 true y.2 := by
  obtain ⟨x, y, z, rfl, hy⟩ := hs
  unfold G_law_pick
  rw [WP_run1]
  unfold S_law_pick
  simp
  refine (draw_w n ⟨x, y, z, rfl, hy⟩ (k := items.length) (by omega) (by omega)).mono ?_
  rintro ⟨_, _⟩ ⟨r, rfl, h2, h3, x, y, z, rfl, hy⟩
  simp
  exact WP_atI h2 h3 fun d hd => ⟨d, hd, rfl, x, y, z, rfl, hy⟩
/-- an error, its name, its fields -/
def er (c nm : Str) (fs : List (Str × D)) (xs : List D) : D := .tup [.exc c fs, .str nm, .lst xs]
def errL (w y k : D) : List D := [er "NoDocument" "nodocument" [("path", w)] [w], er "Large" "large" [("what", y)] [y], er "BadCount" "badcount" [("count", k), ("what", y)] [y, k], er "NoChange" "nochange" [("path", w)] [w],
  er "NoTime" "notime" [("time", k)] [k], er "NoBack" "noback" [] [], er "BadText" "badtext" [("place", k)] [k], er "NoDocument" "nodocument" [("path", w)] [w], er "Large" "large" [("what", y)] [y], er "NoChange" "nochange" [("path", w)] [w],
  er "BadCount" "badcount" [("count", k), ("what", y)] [y, k], er "NoTime" "notime" [("time", k)] [k], er "BadText" "badtext" [("place", k)] [k]]
end Tw
end
section
set_option maxRecDepth 100000
set_option maxHeartbeats 4000000
namespace Tw
open PySem PySem.Spec PyProof.Rows L2
theorem neG_slf {d : D} (h : dataD d = true) (hg : hgt d ≤ 100) : neG d d = some (.d (.bl false)) := by
  unfold neG
  rw [if_pos (by omega), eqO_self d h]
  rfl
theorem loop_e {g : GF} {b : SF} {fg : List Nat} {ρ0 : Ro} : ∀ ds : List D, (∀ d ∈ ds, ∃ ρ1, g d ρ0 = some ρ1 ∧ b ρ1 = some (.nx, ρ1) ∧ forget fg ρ1 = some ρ0) → loopS g b fg ds ρ0 = some (.nx, ρ0)
  | [], _ => rfl
  | d :: r, h => by
    obtain ⟨ρ1, e1, e2, e3⟩ := h d List.mem_cons_self
    show (g d ρ0).bind _ = _
    rw [e1]
    show (b ρ1).bind _ = _
    rw [e2]
    show (forget fg ρ1).bind _ = _
    rw [e3]
    exact loop_e r fun d hd => h d (List.mem_cons_of_mem _ hd)
theorem seq_go {f g : SF} {ρ ρ1 : Ro} {r : Option (Out × Ro)} (h : f ρ = some (.nx, ρ1)) (k : g ρ1 = r) : seqS f g ρ = r := by
  unfold seqS
  rw [h]
  exact k
theorem for_go {w : WF} {g : GF} {b : SF} {fg : List Nat} {ρ ρ1 ρ2 : Ro} {ds : List D} {r : Option (Out × Ro)} (h : w ρ = some (ds, ρ1)) (hf : forget fg ρ1 = some ρ2) (hl : loopS g b fg ds ρ2 = r) : forS w g b fg ρ = r := by
  unfold forS
  rw [h]
  show (forget fg ρ1).bind _ = _
  rw [hf]
  exact hl
theorem body_go {tA tB tC tD : TF} {ret : SF} {ρ : Ro} (hA : tA ρ = some (false, ρ)) (hB : tB ρ = some (true, ρ)) (hC : tC ρ = some (false, ρ)) (hD : tD ρ = some (false, ρ)) :
    seqS (ifS (orT tA (orT (notT tB) (notT tB))) ret nxS) (ifS (orT tC tD) ret nxS) ρ = some (.nx, ρ) := by
  simp [seqS, ifS, orT, notT, nxS, hA, hB, hC, hD]
abbrev tbl (n : Nat) : List (Str × F0) := [("NoDocument", G_NoDocument_told n), ("Large", G_Large_told n), ("BadCount", G_BadCount_told n), ("NoChange", G_NoChange_told n), ("NoTime", G_NoTime_told n), ("NoBack", G_NoBack_told n), ("BadText", G_BadText_told n)]
abbrev tball : List (Str × Bool) := [("NoDocument", true), ("Large", true), ("BadCount", true), ("NoChange", true), ("NoTime", true), ("NoBack", true), ("BadText", true)]
def tA (n : Nat) : TF := asB (bin (.ev (cal0 [.ev (var 4)] (G_law_classes n))) (.ev (lstE [.ev (var 5)])) neG)
def tB : TF := asB (isE 4 tball)
def tC (n : Nat) : TF := asB (bin (.ev (cal0 [.ev (var 4), .ev (var 5)] (G_law_fields n))) (.pk 6) neG)
def tD (n : Nat) : TF := asB (bin (.ev (vmE 4 "told" (tbl n))) (.ev (bin (.ev (cst (.str "refused "))) (.pk 5) addX)) neG)
/-- the frame in a turn -/
def ro7 (s w y k e : A) (nm : Str) (xs : List D) : Ro := [some s, some w, some y, some k, some e, some (.d (.str nm)), some (.d (.lst xs))]
/-- what is asked of one error -/
def OkE (n : Nat) (c nm : Str) (fs : List (Str × D)) (xs : List D) : Prop := ∀ s w y k : A, tA n (ro7 s w y k (.d (.exc c fs)) nm xs) = some (false, ro7 s w y k (.d (.exc c fs)) nm xs) ∧ tB (ro7 s w y k (.d (.exc c fs)) nm xs) = some (true, ro7 s w y k (.d (.exc c fs)) nm xs) ∧
  tC n (ro7 s w y k (.d (.exc c fs)) nm xs) = some (false, ro7 s w y k (.d (.exc c fs)) nm xs) ∧ tD n (ro7 s w y k (.d (.exc c fs)) nm xs) = some (false, ro7 s w y k (.d (.exc c fs)) nm xs)
theorem tC_go {n : Nat} {s w y k : A} {c nm : Str} {fs : List (Str × D)} {xs : List D} (e : cal0 [.ev (var 4), .ev (var 5)] (G_law_fields n) (ro7 s w y k (.d (.exc c fs)) nm xs) = some (.l false xs, ro7 s w y k (.d (.exc c fs)) nm xs)) (h : datas xs = true) (hg : hgts xs ≤ 90) :
    tC n (ro7 s w y k (.d (.exc c fs)) nm xs) = some (false, ro7 s w y k (.d (.exc c fs)) nm xs) := by
  unfold tC
  refine asB_some.mpr ?_
  have e1 : ev1 (.ev (cal0 [.ev (var 4), .ev (var 5)] (G_law_fields n))) (ro7 s w y k (.d (.exc c fs)) nm xs) = some (.inl (.lst xs), ro7 s w y k (.d (.exc c fs)) nm xs) := by
    show (dv _ _).map _ = _
    rw [show dv (cal0 [.ev (var 4), .ev (var 5)] (G_law_fields n)) (ro7 s w y k (.d (.exc c fs)) nm xs) = some (.lst xs, ro7 s w y k (.d (.exc c fs)) nm xs) from dv_some.mpr ⟨_, e, rfl⟩]
    rfl
  unfold bin
  rw [e1]
  show (neG (.lst xs) (.lst xs)).map _ = _
  rw [neG_slf (d := .lst xs) (by unfold dataD; exact h) (by simp only [hgt]; omega)]
  rfl
theorem ok_NoDocument (n : Nat) (x0 : D) (hx0 : dataD x0 = true) (gx0 : hgt x0 ≤ 80) : OkE n "NoDocument" "nodocument" [("path", x0)] [x0] := fun s w y k => ⟨by kernel_rfl, by kernel_rfl, tC_go (by kernel_rfl) (by simp [datas, hx0]) (by simp only [hgts]; omega), by kernel_rfl⟩
theorem ok_Large (n : Nat) (x0 : D) (hx0 : dataD x0 = true) (gx0 : hgt x0 ≤ 80) : OkE n "Large" "large" [("what", x0)] [x0] := fun s w y k => ⟨by kernel_rfl, by kernel_rfl, tC_go (by kernel_rfl) (by simp [datas, hx0]) (by simp only [hgts]; omega), by kernel_rfl⟩
theorem ok_BadCount (n : Nat) (x0 : D) (x1 : D) (hx0 : dataD x0 = true) (gx0 : hgt x0 ≤ 80) (hx1 : dataD x1 = true) (gx1 : hgt x1 ≤ 80) : OkE n "BadCount" "badcount" [("count", x1), ("what", x0)] [x0, x1] := fun s w y k => ⟨by kernel_rfl, by kernel_rfl, tC_go (by kernel_rfl) (by simp [datas, hx0, hx1]) (by simp only [hgts]; omega), by kernel_rfl⟩
theorem ok_NoChange (n : Nat) (x0 : D) (hx0 : dataD x0 = true) (gx0 : hgt x0 ≤ 80) : OkE n "NoChange" "nochange" [("path", x0)] [x0] := fun s w y k => ⟨by kernel_rfl, by kernel_rfl, tC_go (by kernel_rfl) (by simp [datas, hx0]) (by simp only [hgts]; omega), by kernel_rfl⟩
theorem ok_NoTime (n : Nat) (x0 : D) (hx0 : dataD x0 = true) (gx0 : hgt x0 ≤ 80) : OkE n "NoTime" "notime" [("time", x0)] [x0] := fun s w y k => ⟨by kernel_rfl, by kernel_rfl, tC_go (by kernel_rfl) (by simp [datas, hx0]) (by simp only [hgts]; omega), by kernel_rfl⟩
theorem ok_NoBack (n : Nat) : OkE n "NoBack" "noback" [] [] := fun s w y k => ⟨by kernel_rfl, by kernel_rfl, tC_go (by kernel_rfl) (by simp [datas]) (by simp only [hgts]; omega), by kernel_rfl⟩
theorem ok_BadText (n : Nat) (x0 : D) (hx0 : dataD x0 = true) (gx0 : hgt x0 ≤ 80) : OkE n "BadText" "badtext" [("place", x0)] [x0] := fun s w y k => ⟨by kernel_rfl, by kernel_rfl, tC_go (by kernel_rfl) (by simp [datas, hx0]) (by simp only [hgts]; omega), by kernel_rfl⟩
theorem isL {n : Nat} {w y k : D} (hw : dataD w = true) (hy : dataD y = true) (hk : dataD k = true) (gw : hgt w ≤ 80) (gy : hgt y ≤ 80) (gk : hgt k ≤ 80) : ∀ d ∈ errL w y k, ∃ c nm fs xs, d = er c nm fs xs ∧ OkE n c nm fs xs := by
  intro d hd
  simp only [errL, List.mem_cons, List.not_mem_nil, or_false] at hd
  rcases hd with rfl | rfl | rfl | rfl | rfl | rfl | rfl | rfl | rfl | rfl | rfl | rfl | rfl
  · exact ⟨_, _, _, _, rfl, ok_NoDocument n w hw gw⟩
  · exact ⟨_, _, _, _, rfl, ok_Large n y hy gy⟩
  · exact ⟨_, _, _, _, rfl, ok_BadCount n y k hy gy hk gk⟩
  · exact ⟨_, _, _, _, rfl, ok_NoChange n w hw gw⟩
  · exact ⟨_, _, _, _, rfl, ok_NoTime n k hk gk⟩
  · exact ⟨_, _, _, _, rfl, ok_NoBack n⟩
  · exact ⟨_, _, _, _, rfl, ok_BadText n k hk gk⟩
  · exact ⟨_, _, _, _, rfl, ok_NoDocument n w hw gw⟩
  · exact ⟨_, _, _, _, rfl, ok_Large n y hy gy⟩
  · exact ⟨_, _, _, _, rfl, ok_NoChange n w hw gw⟩
  · exact ⟨_, _, _, _, rfl, ok_BadCount n y k hy gy hk gk⟩
  · exact ⟨_, _, _, _, rfl, ok_NoTime n k hk gk⟩
  · exact ⟨_, _, _, _, rfl, ok_BadText n k hk gk⟩
theorem t0_e (n : Nat) {s : A} {w y k : D} (hw : dataD w = true) (hy : dataD y = true) (hk : dataD k = true) (gw : hgt w ≤ 80) (gy : hgt y ≤ 80) (gk : hgt k ≤ 80) :
    G_law_right_t0 n [some s, some (.d w), some (.d y), some (.d k), none, none, none] = some (.rt (.d (.bl true)), [some s, some (.d w), some (.d y), some (.d k), none, none, none]) := by
  have e1 : seqW (cal0 [.ev (var 1), .ev (var 2), .ev (var 3)] (G_law_errors n)) [some s, some (.d w), some (.d y), some (.d k), none, none, none] = some (errL w y k, [some s, some (.d w), some (.d y), some (.d k), none, none, none]) := by kernel_rfl
  have e2 : loopS (tupG 3 (consG (nameG 4) (consG (nameG 5) (consG (nameG 6) nilG)))) (seqS (ifS (orT (tA n) (orT (notT tB) (notT tB))) (retS (cst (.bl false))) nxS) (ifS (orT (tC n) (tD n)) (retS (cst (.bl false))) nxS)) [4, 5, 6] (errL w y k) [some s, some (.d w), some (.d y), some (.d k), none, none, none] = some (.nx, [some s, some (.d w), some (.d y), some (.d k), none, none, none]) := by
    refine loop_e _ fun d hd => ?_
    obtain ⟨c, nm, fs, xs, rfl, ok⟩ := isL (n := n) hw hy hk gw gy gk d hd
    obtain ⟨h1, h2, h3, h4⟩ := ok s (.d w) (.d y) (.d k)
    exact ⟨ro7 s (.d w) (.d y) (.d k) (.d (.exc c fs)) nm xs, by kernel_rfl, body_go h1 h2 h3 h4, by kernel_rfl⟩
  have e3 : G_law_right_t0 n = seqS (forS (seqW (cal0 [.ev (var 1), .ev (var 2), .ev (var 3)] (G_law_errors n))) (tupG 3 (consG (nameG 4) (consG (nameG 5) (consG (nameG 6) nilG)))) (seqS (ifS (orT (tA n) (orT (notT tB) (notT tB))) (retS (cst (.bl false))) nxS) (ifS (orT (tC n) (tD n)) (retS (cst (.bl false))) nxS)) [4, 5, 6]) (retS (toV (notT (asB (isVE false))))) := by kernel_rfl
  exact (congrFun e3 _).trans (seq_go (for_go e1 (show forget [4, 5, 6] _ = some [some s, some (.d w), some (.d y), some (.d k), none, none, none] by kernel_rfl) e2) (by kernel_rfl))
end Tw
end
section
set_option maxRecDepth 100000
set_option maxHeartbeats 4000000
namespace Tw
open PySem PySem.Spec PyProof.Rows L2
theorem right_w (n : Nat) {s : A} (hs : St7 true s) : WP (G_law_right n s []) fun y => y.1 = .d (.bl true) ∧ St7 true y.2 := by
  obtain ⟨x, y, z, rfl, hy⟩ := hs
  unfold G_law_right
  rw [WP_run1]
  unfold S_law_right
  simp
  refine ⟨.d (.tup [.str "", .str "", .str "b", .str "", .str "", .str "b"]), by kernel_rfl, ?_⟩
  refine ⟨_, rfl, ?_⟩
  refine (pick_w n ⟨x, y, z, rfl, hy⟩ (by simp) (by simp)).mono ?_
  rintro ⟨_, _⟩ ⟨w, hw, rfl, x, y, z, rfl, hy⟩
  simp
  refine (pick_w n ⟨x, y, z, rfl, hy⟩ (by simp) (by simp)).mono ?_
  rintro ⟨_, _⟩ ⟨t, ht, rfl, x, y, z, rfl, hy⟩
  simp
  refine (draw_w n ⟨x, y, z, rfl, hy⟩ (by omega) (by omega)).mono ?_
  rintro ⟨_, _⟩ ⟨r, rfl, h2, h3, x, y, z, rfl, hy⟩
  simp
  refine (pick_w n ⟨x, y, z, rfl, hy⟩ (by simp) (by simp)).mono ?_
  rintro ⟨_, _⟩ ⟨k, hk, rfl, x, y, z, rfl, hy⟩
  simp
  have dw : dataD w = true ∧ hgt w ≤ 80 := by
    simp only [List.mem_cons, List.not_mem_nil, or_false] at hw
    rcases hw with rfl | rfl | rfl | rfl <;> simp [dataD, datas, hgt, hgts]
  have dt : dataD t = true ∧ hgt t ≤ 80 := by
    simp only [List.mem_cons, List.not_mem_nil, or_false] at ht
    rcases ht with rfl | rfl | rfl | rfl <;> simp [dataD, hgt]
  have dk : dataD k = true ∧ hgt k ≤ 80 := by
    simp only [List.mem_cons, List.not_mem_nil, or_false] at hk
    rcases hk with rfl | rfl | rfl | rfl | rfl <;> simp [dataD, hgt]
  refine ⟨_, t0_e n dw.1 dt.1 dk.1 dw.2 dt.2 dk.2, ?_⟩
  simp
  exact ⟨x, y, z, rfl, hy⟩
theorem law_true (ns : List Int) (h : ns.length ≤ 63) : G_law 24 [.lst (ns.map .int)] = some (.d (.bl true)) := by
  have key : WP (G_law 24 [.lst (ns.map .int)]) fun r => r = .d (.bl true) := by
    unfold G_law
    rw [WP_run0]
    unfold S_law
    simp
    refine ⟨by omega, loop_inv (fun pre ρ => ρ = [some (A.d (.lst (ns.map .int))), none, none]) rfl ?_ ?_⟩
    · rintro pre d suf _ hds rfl
      have hd : ∃ j : Int, d = .int j := by
        have h1 : d ∈ cutD (ns.map D.int ++ [D.int 0]) none (some 4) := by rw [hds]; simp
        have h2 : d ∈ ns.map D.int ++ [D.int 0] := List.mem_of_mem_drop (List.mem_of_mem_take h1)
        rcases List.mem_append.mp h2 with h3 | h3
        · obtain ⟨j, _, rfl⟩ := List.mem_map.mp h3
          exact ⟨j, rfl⟩
        · exact ⟨0, List.mem_singleton.mp h3⟩
      obtain ⟨j, rfl⟩ := hd
      simp
      refine (source_w 24 j).mono ?_
      rintro _ ⟨x, y, z, rfl, hy⟩
      simp
      refine (right_w 24 ⟨x, y, z, rfl, hy⟩).mono ?_
      rintro ⟨_, _⟩ ⟨rfl, x, y, z, rfl, hy⟩
      simp
    · rintro _ rfl
      simp
  obtain ⟨r, e, rfl⟩ := key
  exact e
end Tw
end
section
set_option maxRecDepth 100000
namespace Tw
open PySem PySem.Spec PyProof.Rows L2
theorem kit_ofT {K : PySem.W.Frag} {D : Addr} (h : PySem.W.subIn K (.ref D) (.type "ValueError") = some true) : PySem.W.kitOne K (.ref D) (.type "ValueError") = some true := by
  unfold PySem.W.kitOne
  rw [show ((Value.ref D == Value.type "ValueError") = false) from rfl, if_neg Bool.false_ne_true]
  show (if PySem.W.kitMeta "ValueError" = true then _ else none) = _
  rw [if_pos (by kernel_rfl)]
  exact h
theorem kit_ofB {K : PySem.W.Frag} {C : Addr} {b : Bool} (h1 : PySem.W.isClsIn K C = true) (h2 : PySem.W.typeIn K (.ref C) = some (.type "type")) (h3 : PySem.W.subIn K (.type "ValueError") (.ref C) = some b) : PySem.W.kitOne K (.type "ValueError") (.ref C) = some b := by
  unfold PySem.W.kitOne
  rw [show ((Value.type "ValueError" == Value.ref C) = false) from rfl, if_neg Bool.false_ne_true]
  show (if ((PySem.W.clsIn K C).isSome && PySem.W.typeIn K (.ref C) == some (.type "type")) = true then _ else none) = _
  have h1' : (PySem.W.clsIn K C).isSome = true := h1
  rw [h1', h2]
  exact (if_pos rfl).trans h3
end Tw
end
section
set_option maxRecDepth 100000
set_option maxHeartbeats 4000000
namespace Tw
open PySem PySem.Spec PyProof.Rows L2
def top (i : Nat) : Stmt := PySem.Challenge.pw_twopatches_k02_errors.main.body.getD i (.Pass ⟨0, 0, 0, 0⟩)
abbrev st_law_errors : Stmt := (top 13)
abbrev st_NoDocument_told : Stmt := (inClass (top 2) 1)
abbrev st_Large_told : Stmt := (inClass (top 3) 1)
abbrev st_BadCount_told : Stmt := (inClass (top 4) 1)
abbrev st_NoChange_told : Stmt := (inClass (top 5) 1)
abbrev st_NoTime_told : Stmt := (inClass (top 6) 1)
abbrev st_NoBack_told : Stmt := (inClass (top 7) 0)
abbrev st_BadText_told : Stmt := (inClass (top 8) 1)
abbrev st_law_fields : Stmt := (top 14)
abbrev st_law_classes : Stmt := (top 15)
abbrev st_law_draw : Stmt := (top 11)
abbrev st_law_pick : Stmt := (top 12)
abbrev st_law_right : Stmt := (top 16)
abbrev st_law_source : Stmt := (top 10)
abbrev st_law : Stmt := (top 17)
theorem bo_abs : bootBuiltins "abs" = some (.builtin "abs") := by decide +kernel
theorem bo_len : bootBuiltins "len" = some (.builtin "len") := by decide +kernel
structure Txt (K : PySem.W.Frag) (mg : Str → Option Value) : Prop where
  m_law_errors : DefT K mg "_law_errors" st_law_errors ["_law_way", "_law_word", "_law_number"]
  m_NoDocument_told : MtX K mg "NoDocument" "told" "NoDocument.told" st_NoDocument_told
  m_Large_told : MtX K mg "Large" "told" "Large.told" st_Large_told
  m_BadCount_told : MtX K mg "BadCount" "told" "BadCount.told" st_BadCount_told
  m_NoChange_told : MtX K mg "NoChange" "told" "NoChange.told" st_NoChange_told
  m_NoTime_told : MtX K mg "NoTime" "told" "NoTime.told" st_NoTime_told
  m_NoBack_told : MtX K mg "NoBack" "told" "NoBack.told" st_NoBack_told
  m_BadText_told : MtX K mg "BadText" "told" "BadText.told" st_BadText_told
  m_law_fields : DefT K mg "_law_fields" st_law_fields ["_law_e", "_law_name_so"]
  m_law_classes : DefT K mg "_law_classes" st_law_classes ["_law_e"]
  m_law_draw : DefT K mg "_law_draw" st_law_draw ["_law_source_here", "_law_many"]
  m_law_pick : DefT K mg "_law_pick" st_law_pick ["_law_source_here", "_law_items"]
  m_law_right : DefT K mg "_law_right" st_law_right ["_law_source_here"]
  m_law_source : DefT K mg "_law_source" st_law_source ["_law_cell"]
  m_law : DefT K mg "law" st_law ["_law_script"]
  b_ValueError : mg "ValueError" = none
  b_abs : mg "abs" = none
  b_isinstance : mg "isinstance" = none
  b_len : mg "len" = none
  b_zip : mg "zip" = none
  xk_NoDocument : ∃ C fI, PySem.XkNoDocument.NoDocumentTxK K mg C fI
  xv_NoDocument : XvT K mg "NoDocument" ["path"] [("NoDocument", true), ("Large", false), ("BadCount", false), ("NoChange", false), ("NoTime", false), ("NoBack", false), ("BadText", false), ("PatchError", true)]
  xk_Large : ∃ C fI, PySem.XkLarge.LargeTxK K mg C fI
  xv_Large : XvT K mg "Large" ["what"] [("NoDocument", false), ("Large", true), ("BadCount", false), ("NoChange", false), ("NoTime", false), ("NoBack", false), ("BadText", false), ("PatchError", true)]
  xk_BadCount : ∃ C fI, PySem.XkBadCount.BadCountTxK K mg C fI
  xv_BadCount : XvT K mg "BadCount" ["what", "count"] [("NoDocument", false), ("Large", false), ("BadCount", true), ("NoChange", false), ("NoTime", false), ("NoBack", false), ("BadText", false), ("PatchError", true)]
  xk_NoChange : ∃ C fI, PySem.XkNoChange.NoChangeTxK K mg C fI
  xv_NoChange : XvT K mg "NoChange" ["path"] [("NoDocument", false), ("Large", false), ("BadCount", false), ("NoChange", true), ("NoTime", false), ("NoBack", false), ("BadText", false), ("PatchError", true)]
  xk_NoTime : ∃ C fI, PySem.XkNoTime.NoTimeTxK K mg C fI
  xv_NoTime : XvT K mg "NoTime" ["time"] [("NoDocument", false), ("Large", false), ("BadCount", false), ("NoChange", false), ("NoTime", true), ("NoBack", false), ("BadText", false), ("PatchError", true)]
  xn_NoBack : XnT K mg "NoBack"
  xv_NoBack : XvT K mg "NoBack" [] [("NoDocument", false), ("Large", false), ("BadCount", false), ("NoChange", false), ("NoTime", false), ("NoBack", true), ("BadText", false), ("PatchError", true)]
  xk_BadText : ∃ C fI, PySem.XkBadText.BadTextTxK K mg C fI
  xv_BadText : XvT K mg "BadText" ["place"] [("NoDocument", false), ("Large", false), ("BadCount", false), ("NoChange", false), ("NoTime", false), ("NoBack", false), ("BadText", true), ("PatchError", true)]
  xve_PatchError : ∃ C, mg "PatchError" = some (.ref C) ∧ PySem.W.kitOne K (.type "ValueError") (.ref C) = some false
section
variable {P : Program} {w : World} {K : PySem.W.Frag} {mg : Str → Option Value} {base : Heap}
theorem hu_ofG2 {A : Around} {k : Nat} (h : Room k A) : A.units + 102 < cLine := by have := h.un; omega
theorem hu_of64 {A : Around} {k : Nat} (h : Room k A) : A.units + 64 < cLine := by have := h.un; omega
theorem hu_ofG {A : Around} {k : Nat} (h : Room k A) : A.units + 101 < cLine := by have := h.un; omega
theorem sc_law_errors : FnScope ["_law_way", "_law_word", "_law_number", "_law_result"] ["_law_way", "_law_word", "_law_number"] (defScope st_law_errors) := ⟨rfl, rfl, rfl, by decide +kernel, rfl, by decide +kernel, by decide +kernel⟩
theorem bd_law_errors (T : Txt K mg) {k : Nat}    : BodyOk P w K mg base "_law_errors" st_law_errors ["_law_way", "_law_word", "_law_number", "_law_result"] k (S_law_errors ) := by
  intro f cdv A outer s H E hr
  have hn := sc_law_errors.nd
  exact (b_cons (s_set 3 hn (e_lst (a_cons (o_ev (e_tup (a_cons (o_ev (by
    obtain ⟨Cx, fx, xx⟩ := T.xk_NoDocument
    exact e_excS 0 xx.gC (pmk_NoDocumentK xx hr (pa_cons (pvN 0) pa_nil)))) (a_cons (o_ev e_str) (a_cons (o_ev (e_lst (a_cons (o_ev (e_var 0)) a_nil))) a_nil))))) (a_cons (o_ev (e_tup (a_cons (o_ev (by
    obtain ⟨Cx, fx, xx⟩ := T.xk_Large
    exact e_excS 1 xx.gC (pmk_LargeK xx hr (pa_cons (pvN 1) pa_nil)))) (a_cons (o_ev e_str) (a_cons (o_ev (e_lst (a_cons (o_ev (e_var 1)) a_nil))) a_nil))))) a_nil)))) (b_cons (s_set 3 hn (e_bin o_addX (o_pk 3) (o_ev (e_lst (a_cons (o_ev (e_tup (a_cons (o_ev (by
    obtain ⟨Cx, fx, xx⟩ := T.xk_BadCount
    exact e_excS2 1 2 xx.gC (pmk_BadCountK xx hr (pa_cons (pvN 1) (pa_cons (pvN 2) pa_nil))))) (a_cons (o_ev e_str) (a_cons (o_ev (e_lst (a_cons (o_ev (e_var 1)) (a_cons (o_ev (e_var 2)) a_nil)))) a_nil))))) (a_cons (o_ev (e_tup (a_cons (o_ev (by
    obtain ⟨Cx, fx, xx⟩ := T.xk_NoChange
    exact e_excS 0 xx.gC (pmk_NoChangeK xx hr (pa_cons (pvN 0) pa_nil)))) (a_cons (o_ev e_str) (a_cons (o_ev (e_lst (a_cons (o_ev (e_var 0)) a_nil))) a_nil))))) a_nil)))))) (b_cons (s_set 3 hn (e_bin o_addX (o_pk 3) (o_ev (e_lst (a_cons (o_ev (e_tup (a_cons (o_ev (by
    obtain ⟨Cx, fx, xx⟩ := T.xk_NoTime
    exact e_excS 2 xx.gC (pmk_NoTimeK xx hr (pa_cons (pvN 2) pa_nil)))) (a_cons (o_ev e_str) (a_cons (o_ev (e_lst (a_cons (o_ev (e_var 2)) a_nil))) a_nil))))) (a_cons (o_ev (e_tup (a_cons (o_ev (by
    obtain ⟨Cx, gx, ex, kx, sx, tx, mx⟩ := T.xn_NoBack
    exact e_exc0 gx (pmkN0 ex gx kx (L2.raises_own sx tx) rfl))) (a_cons (o_ev e_str) (a_cons (o_ev (e_lst a_nil)) a_nil))))) a_nil)))))) (b_cons (s_set 3 hn (e_bin o_addX (o_pk 3) (o_ev (e_lst (a_cons (o_ev (e_tup (a_cons (o_ev (by
    obtain ⟨Cx, fx, xx⟩ := T.xk_BadText
    exact e_excS 2 xx.gC (pmk_BadTextK xx hr (pa_cons (pvN 2) pa_nil)))) (a_cons (o_ev e_str) (a_cons (o_ev (e_lst (a_cons (o_ev (e_var 2)) a_nil))) a_nil))))) (a_cons (o_ev (e_tup (a_cons (o_ev (by
    obtain ⟨Cx, fx, xx⟩ := T.xk_NoDocument
    exact e_excS 0 xx.gC (pmkk_NoDocumentK xx hr (pk_cons (pvN 0) pk_nil)))) (a_cons (o_ev e_str) (a_cons (o_ev (e_lst (a_cons (o_ev (e_var 0)) a_nil))) a_nil))))) a_nil)))))) (b_cons (s_set 3 hn (e_bin o_addX (o_pk 3) (o_ev (e_lst (a_cons (o_ev (e_tup (a_cons (o_ev (by
    obtain ⟨Cx, fx, xx⟩ := T.xk_Large
    exact e_excS 1 xx.gC (pmkk_LargeK xx hr (pk_cons (pvN 1) pk_nil)))) (a_cons (o_ev e_str) (a_cons (o_ev (e_lst (a_cons (o_ev (e_var 1)) a_nil))) a_nil))))) (a_cons (o_ev (e_tup (a_cons (o_ev (by
    obtain ⟨Cx, fx, xx⟩ := T.xk_NoChange
    exact e_excS 0 xx.gC (pmkk_NoChangeK xx hr (pk_cons (pvN 0) pk_nil)))) (a_cons (o_ev e_str) (a_cons (o_ev (e_lst (a_cons (o_ev (e_var 0)) a_nil))) a_nil))))) a_nil)))))) (b_cons (s_expr (e_append 3 (o_ev (e_tup (a_cons (o_ev (by
    obtain ⟨Cx, fx, xx⟩ := T.xk_BadCount
    exact e_excS2K 1 2 xx.gC (pmkk_BadCountK xx hr (pk_cons (pvN 2) (pk_cons (pvN 1) pk_nil))))) (a_cons (o_ev e_str) (a_cons (o_ev (e_lst (a_cons (o_ev (e_var 1)) (a_cons (o_ev (e_var 2)) a_nil)))) a_nil))))))) (b_one (s_ret (e_bin o_addX (o_pk 3) (o_ev (e_lst (a_cons (o_ev (e_tup (a_cons (o_ev (by
    obtain ⟨Cx, fx, xx⟩ := T.xk_NoTime
    exact e_excS 2 xx.gC (pmkk_NoTimeK xx hr (pk_cons (pvN 2) pk_nil)))) (a_cons (o_ev e_str) (a_cons (o_ev (e_lst (a_cons (o_ev (e_var 2)) a_nil))) a_nil))))) (a_cons (o_ev (e_tup (a_cons (o_ev (by
    obtain ⟨Cx, fx, xx⟩ := T.xk_BadText
    exact e_excS 2 xx.gC (pmkk_BadTextK xx hr (pk_cons (pvN 2) pk_nil)))) (a_cons (o_ev e_str) (a_cons (o_ev (e_lst (a_cons (o_ev (e_var 2)) a_nil))) a_nil))))) a_nil)))))))))))))
theorem sc_NoDocument_told : FnScope ["self"] ["self"] (defScope st_NoDocument_told) := ⟨rfl, rfl, rfl, by decide +kernel, rfl, by decide +kernel, by decide +kernel⟩
theorem bd_NoDocument_told (T : Txt K mg) {k : Nat}    : BodyOk P w K mg base "NoDocument.told" st_NoDocument_told ["self"] k (S_NoDocument_told ) := by
  intro f cdv A outer s H E hr
  have hn := sc_NoDocument_told.nd
  exact (b_one (s_ret e_str))
theorem sc_Large_told : FnScope ["self"] ["self"] (defScope st_Large_told) := ⟨rfl, rfl, rfl, by decide +kernel, rfl, by decide +kernel, by decide +kernel⟩
theorem bd_Large_told (T : Txt K mg) {k : Nat}    : BodyOk P w K mg base "Large.told" st_Large_told ["self"] k (S_Large_told ) := by
  intro f cdv A outer s H E hr
  have hn := sc_Large_told.nd
  exact (b_one (s_ret e_str))
theorem sc_BadCount_told : FnScope ["self"] ["self"] (defScope st_BadCount_told) := ⟨rfl, rfl, rfl, by decide +kernel, rfl, by decide +kernel, by decide +kernel⟩
theorem bd_BadCount_told (T : Txt K mg) {k : Nat}    : BodyOk P w K mg base "BadCount.told" st_BadCount_told ["self"] k (S_BadCount_told ) := by
  intro f cdv A outer s H E hr
  have hn := sc_BadCount_told.nd
  exact (b_one (s_ret e_str))
theorem sc_NoChange_told : FnScope ["self"] ["self"] (defScope st_NoChange_told) := ⟨rfl, rfl, rfl, by decide +kernel, rfl, by decide +kernel, by decide +kernel⟩
theorem bd_NoChange_told (T : Txt K mg) {k : Nat}    : BodyOk P w K mg base "NoChange.told" st_NoChange_told ["self"] k (S_NoChange_told ) := by
  intro f cdv A outer s H E hr
  have hn := sc_NoChange_told.nd
  exact (b_one (s_ret e_str))
theorem sc_NoTime_told : FnScope ["self"] ["self"] (defScope st_NoTime_told) := ⟨rfl, rfl, rfl, by decide +kernel, rfl, by decide +kernel, by decide +kernel⟩
theorem bd_NoTime_told (T : Txt K mg) {k : Nat}    : BodyOk P w K mg base "NoTime.told" st_NoTime_told ["self"] k (S_NoTime_told ) := by
  intro f cdv A outer s H E hr
  have hn := sc_NoTime_told.nd
  exact (b_one (s_ret e_str))
theorem sc_NoBack_told : FnScope ["self"] ["self"] (defScope st_NoBack_told) := ⟨rfl, rfl, rfl, by decide +kernel, rfl, by decide +kernel, by decide +kernel⟩
theorem bd_NoBack_told (T : Txt K mg) {k : Nat}    : BodyOk P w K mg base "NoBack.told" st_NoBack_told ["self"] k (S_NoBack_told ) := by
  intro f cdv A outer s H E hr
  have hn := sc_NoBack_told.nd
  exact (b_one (s_ret e_str))
theorem sc_BadText_told : FnScope ["self"] ["self"] (defScope st_BadText_told) := ⟨rfl, rfl, rfl, by decide +kernel, rfl, by decide +kernel, by decide +kernel⟩
theorem bd_BadText_told (T : Txt K mg) {k : Nat}    : BodyOk P w K mg base "BadText.told" st_BadText_told ["self"] k (S_BadText_told ) := by
  intro f cdv A outer s H E hr
  have hn := sc_BadText_told.nd
  exact (b_one (s_ret e_str))
theorem sc_law_fields : FnScope ["_law_e", "_law_name_so"] ["_law_e", "_law_name_so"] (defScope st_law_fields) := ⟨rfl, rfl, rfl, by decide +kernel, rfl, by decide +kernel, by decide +kernel⟩
theorem bd_law_fields (T : Txt K mg) {k : Nat}    : BodyOk P w K mg base "_law_fields" st_law_fields ["_law_e", "_law_name_so"] k (S_law_fields ) := by
  intro f cdv A outer s H E hr
  have hn := sc_law_fields.nd
  exact (b_cons (s_if (t_cmp o_inL (o_pk 1) (o_ev (e_tup (a_cons (o_ev e_str) (a_cons (o_ev e_str) a_nil)))) (by rfl)) (b_one (s_ret (e_lst (a_cons (o_ev (e_vf 0 (P_vf (mm_cons ⟨_, _, T.xv_NoDocument, by decide⟩ (mm_cons ⟨_, _, T.xv_NoChange, by decide⟩ mm_nil))))) a_nil)))) b_nil) (b_cons (s_if (t_cmp o_eqS (o_pk 1) (o_ev e_str) (by rfl)) (b_one (s_ret (e_lst (a_cons (o_ev (e_vf 0 (P_vf (mm_cons ⟨_, _, T.xv_Large, by decide⟩ (mm_cons ⟨_, _, T.xv_BadCount, by decide⟩ mm_nil))))) a_nil)))) b_nil) (b_cons (s_if (t_cmp o_eqS (o_pk 1) (o_ev e_str) (by rfl)) (b_one (s_ret (e_lst (a_cons (o_ev (e_vf 0 (P_vf (mm_cons ⟨_, _, T.xv_Large, by decide⟩ (mm_cons ⟨_, _, T.xv_BadCount, by decide⟩ mm_nil))))) (a_cons (o_ev (e_vf 0 (P_vf (mm_cons ⟨_, _, T.xv_BadCount, by decide⟩ mm_nil)))) a_nil))))) b_nil) (b_cons (s_if (t_cmp o_eqS (o_pk 1) (o_ev e_str) (by rfl)) (b_one (s_ret (e_lst (a_cons (o_ev (e_vf 0 (P_vf (mm_cons ⟨_, _, T.xv_NoTime, by decide⟩ mm_nil)))) a_nil)))) b_nil) (b_one (s_ret (e_if (t_cmp o_eqS (o_pk 1) (o_ev e_str) (by rfl)) (e_lst (a_cons (o_ev (e_vf 0 (P_vf (mm_cons ⟨_, _, T.xv_BadText, by decide⟩ mm_nil)))) a_nil)) (e_lst a_nil))))))))
theorem sc_law_classes : FnScope ["_law_e", "_law_marks", "_law_names_so", "_law_name_so", "_law_mark"] ["_law_e"] (defScope st_law_classes) := ⟨rfl, rfl, rfl, by decide +kernel, rfl, by decide +kernel, by decide +kernel⟩
theorem bd_law_classes (T : Txt K mg) {k : Nat}    : BodyOk P w K mg base "_law_classes" st_law_classes ["_law_e", "_law_marks", "_law_names_so", "_law_name_so", "_law_mark"] k (S_law_classes ) := by
  intro f cdv A outer s H E hr
  have hn := sc_law_classes.nd
  exact (b_cons (s_set 1 hn (e_lst (a_cons (o_ev (by
    obtain ⟨Cx, gx, _⟩ := T.xv_NoDocument
    exact e_isV 0 gx (P_isV (tb_cons ⟨_, _, T.xv_NoDocument, by decide⟩ (tb_cons ⟨_, _, T.xv_Large, by decide⟩ (tb_cons ⟨_, _, T.xv_BadCount, by decide⟩ (tb_cons ⟨_, _, T.xv_NoChange, by decide⟩ (tb_cons ⟨_, _, T.xv_NoTime, by decide⟩ (tb_cons ⟨_, _, T.xv_NoBack, by decide⟩ (tb_cons ⟨_, _, T.xv_BadText, by decide⟩ tb_nil)))))))) T.b_isinstance)) (a_cons (o_ev (by
    obtain ⟨Cx, gx, _⟩ := T.xv_Large
    exact e_isV 0 gx (P_isV (tb_cons ⟨_, _, T.xv_NoDocument, by decide⟩ (tb_cons ⟨_, _, T.xv_Large, by decide⟩ (tb_cons ⟨_, _, T.xv_BadCount, by decide⟩ (tb_cons ⟨_, _, T.xv_NoChange, by decide⟩ (tb_cons ⟨_, _, T.xv_NoTime, by decide⟩ (tb_cons ⟨_, _, T.xv_NoBack, by decide⟩ (tb_cons ⟨_, _, T.xv_BadText, by decide⟩ tb_nil)))))))) T.b_isinstance)) (a_cons (o_ev (by
    obtain ⟨Cx, gx, _⟩ := T.xv_BadCount
    exact e_isV 0 gx (P_isV (tb_cons ⟨_, _, T.xv_NoDocument, by decide⟩ (tb_cons ⟨_, _, T.xv_Large, by decide⟩ (tb_cons ⟨_, _, T.xv_BadCount, by decide⟩ (tb_cons ⟨_, _, T.xv_NoChange, by decide⟩ (tb_cons ⟨_, _, T.xv_NoTime, by decide⟩ (tb_cons ⟨_, _, T.xv_NoBack, by decide⟩ (tb_cons ⟨_, _, T.xv_BadText, by decide⟩ tb_nil)))))))) T.b_isinstance)) (a_cons (o_ev (by
    obtain ⟨Cx, gx, _⟩ := T.xv_NoChange
    exact e_isV 0 gx (P_isV (tb_cons ⟨_, _, T.xv_NoDocument, by decide⟩ (tb_cons ⟨_, _, T.xv_Large, by decide⟩ (tb_cons ⟨_, _, T.xv_BadCount, by decide⟩ (tb_cons ⟨_, _, T.xv_NoChange, by decide⟩ (tb_cons ⟨_, _, T.xv_NoTime, by decide⟩ (tb_cons ⟨_, _, T.xv_NoBack, by decide⟩ (tb_cons ⟨_, _, T.xv_BadText, by decide⟩ tb_nil)))))))) T.b_isinstance)) a_nil)))))) (b_cons (s_set 1 hn (e_bin o_addX (o_pk 1) (o_ev (e_lst (a_cons (o_ev (by
    obtain ⟨Cx, gx, _⟩ := T.xv_NoTime
    exact e_isV 0 gx (P_isV (tb_cons ⟨_, _, T.xv_NoDocument, by decide⟩ (tb_cons ⟨_, _, T.xv_Large, by decide⟩ (tb_cons ⟨_, _, T.xv_BadCount, by decide⟩ (tb_cons ⟨_, _, T.xv_NoChange, by decide⟩ (tb_cons ⟨_, _, T.xv_NoTime, by decide⟩ (tb_cons ⟨_, _, T.xv_NoBack, by decide⟩ (tb_cons ⟨_, _, T.xv_BadText, by decide⟩ tb_nil)))))))) T.b_isinstance)) (a_cons (o_ev (by
    obtain ⟨Cx, gx, _⟩ := T.xv_NoBack
    exact e_isV 0 gx (P_isV (tb_cons ⟨_, _, T.xv_NoDocument, by decide⟩ (tb_cons ⟨_, _, T.xv_Large, by decide⟩ (tb_cons ⟨_, _, T.xv_BadCount, by decide⟩ (tb_cons ⟨_, _, T.xv_NoChange, by decide⟩ (tb_cons ⟨_, _, T.xv_NoTime, by decide⟩ (tb_cons ⟨_, _, T.xv_NoBack, by decide⟩ (tb_cons ⟨_, _, T.xv_BadText, by decide⟩ tb_nil)))))))) T.b_isinstance)) (a_cons (o_ev (by
    obtain ⟨Cx, gx, _⟩ := T.xv_BadText
    exact e_isV 0 gx (P_isV (tb_cons ⟨_, _, T.xv_NoDocument, by decide⟩ (tb_cons ⟨_, _, T.xv_Large, by decide⟩ (tb_cons ⟨_, _, T.xv_BadCount, by decide⟩ (tb_cons ⟨_, _, T.xv_NoChange, by decide⟩ (tb_cons ⟨_, _, T.xv_NoTime, by decide⟩ (tb_cons ⟨_, _, T.xv_NoBack, by decide⟩ (tb_cons ⟨_, _, T.xv_BadText, by decide⟩ tb_nil)))))))) T.b_isinstance)) a_nil))))))) (b_cons (s_set 2 hn (e_lst (a_cons (o_ev e_str) (a_cons (o_ev e_str) (a_cons (o_ev e_str) (a_cons (o_ev e_str) (a_cons (o_ev e_str) (a_cons (o_ev e_str) (a_cons (o_ev e_str) a_nil))))))))) (b_one (s_ret (e_lc rfl hn (w_zipY T.b_zip (e_var 2) (e_var 1)) (own := [("_law_name_so", 3), ("_law_mark", 4)]) (blkOk_by (by kernel_rfl)) (by decide) (fun _ _ _ _ _ => (g_tup rfl (gs_cons (g_name 3 hn) (gs_cons (g_name 4 hn) gs_nil)))) (fun _ _ _ _ _ => (c_one (t_val (e_var 4)))) (fun _ _ _ _ _ => (e_var 3))))))))
theorem sc_law_draw : FnScope ["_law_source_here", "_law_many", "_law_found", "_law_number"] ["_law_source_here", "_law_many"] (defScope st_law_draw) := ⟨rfl, rfl, rfl, by decide +kernel, rfl, by decide +kernel, by decide +kernel⟩
theorem bd_law_draw (T : Txt K mg) {k : Nat}    : BodyOk P w K mg base "_law_draw" st_law_draw ["_law_source_here", "_law_many", "_law_found", "_law_number"] k (S_law_draw ) := by
  intro f cdv A outer s H E hr
  have hn := sc_law_draw.nd
  exact (b_cons (s_if (t_cmp o_geI (o_ev (e_ix (hu_of hr) (o_pk 0) (o_ev e_int))) (o_ev (e_bin o_powI (o_ev e_int) (o_ev e_int))) (by rfl)) (b_cons (s_set 2 hn (e_bin o_modI (o_ev (e_ix (hu_of hr) (o_pk 0) (o_ev e_int))) (o_pk 1))) (b_cons (s_store 0 (hu_of hr) (e_bin o_fdivI (o_ev (e_ix (hu_of hr) (o_pk 0) (o_ev e_int))) (o_pk 1)) (o_ev e_int)) (b_one (s_retV 2)))) b_nil) (b_cons (s_store 0 (hu_of hr) (e_bin o_addX (o_ev (e_ix (hu_of hr) (o_pk 0) (o_ev e_int))) (o_ev e_int)) (o_ev e_int)) (b_cons (s_set 3 hn (e_bin o_modI (o_ev (e_bin o_mulI (o_ev (e_bin o_addX (o_ev (e_bin o_addX (o_ev (e_ix (hu_of hr) (o_pk 0) (o_ev e_int))) (o_ev (e_bin o_mulI (o_ev e_int) (o_ev (e_ix (hu_of hr) (o_pk 0) (o_ev e_int))))))) (o_ev e_int))) (o_ev e_int))) (o_ev e_int))) (b_cons (s_set 3 hn (e_bin o_modI (o_ev (e_bin o_mulI (o_pk 3) (o_ev (e_bin o_addX (o_ev (e_bin o_fdivI (o_pk 3) (o_ev e_int))) (o_ev e_int))))) (o_ev e_int))) (b_one (s_ret (e_bin o_modI (o_ev (e_bin o_modI (o_ev (e_bin o_addX (o_ev (e_bin o_fdivI (o_pk 3) (o_ev e_int))) (o_ev (e_bin o_mulI (o_ev (e_bin o_modI (o_pk 3) (o_ev e_int))) (o_ev e_int))))) (o_ev e_int))) (o_pk 1))))))))
theorem sc_law_pick : FnScope ["_law_source_here", "_law_items"] ["_law_source_here", "_law_items"] (defScope st_law_pick) := ⟨rfl, rfl, rfl, by decide +kernel, rfl, by decide +kernel, by decide +kernel⟩
theorem bd_law_pick (T : Txt K mg) {k : Nat} {k0 : Nat} {F_law_draw : F1} (C_law_draw : Cal1 P w K mg base "_law_draw" ["_law_source_here", "_law_many"] (k0) F_law_draw) (h0 : k0 + 0 ≤ k) : BodyOk P w K mg base "_law_pick" st_law_pick ["_law_source_here", "_law_items"] k (S_law_pick F_law_draw) := by
  intro f cdv A outer s H E hr
  have hn := sc_law_pick.nd
  exact (b_one (s_ret (e_ix (hu_of hr) (o_pk 1) (o_ev (e_call1C 0 C_law_draw hr (a_cons (o_ev (e_callB cD_len T.b_len bo_len (a_cons (o_pk 1) a_nil))) a_nil))))))
theorem sc_law_right : FnScope ["_law_source_here", "_law_way", "_law_word", "_law_number", "_law_e", "_law_name_so", "_law_fields_here"] ["_law_source_here"] (defScope st_law_right) := ⟨rfl, rfl, rfl, by decide +kernel, rfl, by decide +kernel, by decide +kernel⟩
theorem bd_law_right (T : Txt K mg) {k : Nat} {k0 : Nat} {k1 : Nat} {k2 : Nat} {k3 : Nat} {k4 : Nat} {k5 : Nat} {k6 : Nat} {k7 : Nat} {k8 : Nat} {k9 : Nat} {k10 : Nat} {k11 : Nat} {F_law_errors : F0} {F_NoDocument_told : F0} {F_Large_told : F0} {F_BadCount_told : F0} {F_NoChange_told : F0} {F_NoTime_told : F0} {F_NoBack_told : F0} {F_BadText_told : F0} {F_law_fields : F0} {F_law_classes : F0} {F_law_draw : F1} {F_law_pick : F1} (C_law_errors : Cal P w K mg base "_law_errors" ["_law_way", "_law_word", "_law_number"] (k0) F_law_errors) (h0 : k0 + 0 ≤ k) (C_NoDocument_told : CalV P w K mg base "NoDocument" "told" (k1) F_NoDocument_told) (h1 : k1 + 0 ≤ k) (C_Large_told : CalV P w K mg base "Large" "told" (k2) F_Large_told) (h2 : k2 + 0 ≤ k) (C_BadCount_told : CalV P w K mg base "BadCount" "told" (k3) F_BadCount_told) (h3 : k3 + 0 ≤ k) (C_NoChange_told : CalV P w K mg base "NoChange" "told" (k4) F_NoChange_told) (h4 : k4 + 0 ≤ k) (C_NoTime_told : CalV P w K mg base "NoTime" "told" (k5) F_NoTime_told) (h5 : k5 + 0 ≤ k) (C_NoBack_told : CalV P w K mg base "NoBack" "told" (k6) F_NoBack_told) (h6 : k6 + 0 ≤ k) (C_BadText_told : CalV P w K mg base "BadText" "told" (k7) F_BadText_told) (h7 : k7 + 0 ≤ k) (C_law_fields : Cal P w K mg base "_law_fields" ["_law_e", "_law_name_so"] (k8) F_law_fields) (h8 : k8 + 0 ≤ k) (C_law_classes : Cal P w K mg base "_law_classes" ["_law_e"] (k9) F_law_classes) (h9 : k9 + 0 ≤ k) (C_law_draw : Cal1 P w K mg base "_law_draw" ["_law_source_here", "_law_many"] (k10) F_law_draw) (h10 : k10 + 0 ≤ k) (C_law_pick : Cal1 P w K mg base "_law_pick" ["_law_source_here", "_law_items"] (k11) F_law_pick) (h11 : k11 + 0 ≤ k) : BodyOk P w K mg base "_law_right" st_law_right ["_law_source_here", "_law_way", "_law_word", "_law_number", "_law_e", "_law_name_so", "_law_fields_here"] k (S_law_right F_law_errors F_NoDocument_told F_Large_told F_BadCount_told F_NoChange_told F_NoTime_told F_NoBack_told F_BadText_told F_law_fields F_law_classes F_law_draw F_law_pick) := by
  intro f cdv A outer s H E hr
  have hn := sc_law_right.nd
  exact (b_cons (s_set 1 hn (e_call1C 0 C_law_pick hr (a_cons (o_ev (e_lst (a_cons (o_ev (e_tup a_nil)) (a_cons (o_ev (e_tup (a_cons (o_ev e_str) a_nil))) (a_cons (o_ev (e_tup (a_cons (o_ev e_str) (a_cons (o_ev e_str) a_nil)))) (a_cons (o_ev (e_bin o_mulT (o_ev (e_tup (a_cons (o_ev e_str) (a_cons (o_ev e_str) (a_cons (o_ev e_str) a_nil))))) (o_ev e_int))) a_nil)))))) a_nil))) (b_cons (s_set 2 hn (e_call1C 0 C_law_pick hr (a_cons (o_ev (e_lst (a_cons (o_ev e_str) (a_cons (o_ev e_str) (a_cons (o_ev e_str) (a_cons (o_ev e_str) a_nil)))))) a_nil))) (b_cons (s_set 3 hn (e_call1C 0 C_law_pick hr (a_cons (o_ev (e_lst (a_cons (o_ev e_int) (a_cons (o_ev e_int) (a_cons (o_ev (e_neg e_int)) (a_cons (o_ev (e_bin o_powI (o_ev e_int) (o_ev e_int))) (a_cons (o_ev (e_call1C 0 C_law_draw hr (a_cons (o_ev (e_bin o_powI (o_ev e_int) (o_ev e_int))) a_nil))) a_nil))))))) a_nil))) (b_cons (s_for [4, 5, 6] rfl PassesOwn.never (w_seq (e_callC C_law_errors hr (a_cons (o_ev (e_var 1)) (a_cons (o_ev (e_var 2)) (a_cons (o_ev (e_var 3)) a_nil))))) (g_tup rfl (gs_cons (g_name 4 hn) (gs_cons (g_name 5 hn) (gs_cons (g_name 6 hn) gs_nil)))) (b_cons (s_if (t_w (w_or (t_cmp (o_neG (hu_ofG hr)) (o_ev (e_callC C_law_classes hr (a_cons (o_ev (e_var 4)) a_nil))) (o_ev (e_lst (a_cons (o_ev (e_var 5)) a_nil))) (by rfl)) (w_or (t_not (t_val (by
    obtain ⟨Cx, gx, _⟩ := T.xve_PatchError
    exact e_isV 4 gx (P_isV (tb_cons ⟨_, _, T.xv_NoDocument, by decide⟩ (tb_cons ⟨_, _, T.xv_Large, by decide⟩ (tb_cons ⟨_, _, T.xv_BadCount, by decide⟩ (tb_cons ⟨_, _, T.xv_NoChange, by decide⟩ (tb_cons ⟨_, _, T.xv_NoTime, by decide⟩ (tb_cons ⟨_, _, T.xv_NoBack, by decide⟩ (tb_cons ⟨_, _, T.xv_BadText, by decide⟩ tb_nil)))))))) T.b_isinstance))) (w_or1 (t_not (t_val (e_isVB 4 (P_isVB (tb_cons ⟨rfl, _, _, T.xv_NoDocument⟩ (tb_cons ⟨rfl, _, _, T.xv_Large⟩ (tb_cons ⟨rfl, _, _, T.xv_BadCount⟩ (tb_cons ⟨rfl, _, _, T.xv_NoChange⟩ (tb_cons ⟨rfl, _, _, T.xv_NoTime⟩ (tb_cons ⟨rfl, _, _, T.xv_NoBack⟩ (tb_cons ⟨rfl, _, _, T.xv_BadText⟩ tb_nil)))))))) T.b_isinstance T.b_ValueError))))))) (b_one (s_ret e_bl)) b_nil) (b_one (s_if (t_w (w_or (t_cmp (o_neG (hu_ofG hr)) (o_ev (e_callC C_law_fields hr (a_cons (o_ev (e_var 4)) (a_cons (o_ev (e_var 5)) a_nil)))) (o_pk 6) (by rfl)) (w_or1 (t_cmp (o_neG (hu_ofG hr)) (o_ev (e_vm 4 (P_vm (tb_cons (C_NoDocument_told.up (by omega)) (tb_cons (C_Large_told.up (by omega)) (tb_cons (C_BadCount_told.up (by omega)) (tb_cons (C_NoChange_told.up (by omega)) (tb_cons (C_NoTime_told.up (by omega)) (tb_cons (C_NoBack_told.up (by omega)) (tb_cons (C_BadText_told.up (by omega)) tb_nil)))))))) hr)) (o_ev (e_bin o_addX (o_ev e_str) (o_pk 5))) (by rfl))))) (b_one (s_ret e_bl)) b_nil)))) (b_one (s_ret (e_not (by
    obtain ⟨Cx, gx, hx⟩ := T.xve_PatchError
    exact e_isVE false gx hx T.b_isinstance T.b_ValueError))))))))
theorem sc_law_source : FnScope ["_law_cell"] ["_law_cell"] (defScope st_law_source) := ⟨rfl, rfl, rfl, by decide +kernel, rfl, by decide +kernel, by decide +kernel⟩
theorem bd_law_source (T : Txt K mg) {k : Nat}    : BodyOk P w K mg base "_law_source" st_law_source ["_law_cell"] k (S_law_source ) := by
  intro f cdv A outer s H E hr
  have hn := sc_law_source.nd
  exact (b_one (s_ret (e_lst (a_cons (o_ev (e_callB cD_abs T.b_abs bo_abs (a_cons (o_pk 0) a_nil))) (a_cons (o_ev (e_bin o_modI (o_pk 0) (o_ev e_int))) (a_cons (o_ev e_int) a_nil))))))
theorem sc_law : FnScope ["_law_script", "_law_cell", "_law_source_here"] ["_law_script"] (defScope st_law) := ⟨rfl, rfl, rfl, by decide +kernel, rfl, by decide +kernel, by decide +kernel⟩
theorem bd_law (T : Txt K mg) {k : Nat} {k0 : Nat} {k1 : Nat} {F_law_right : F1} {F_law_source : F0} (C_law_right : Cal1 P w K mg base "_law_right" ["_law_source_here"] (k0) F_law_right) (h0 : k0 + 0 ≤ k) (C_law_source : Cal P w K mg base "_law_source" ["_law_cell"] (k1) F_law_source) (h1 : k1 + 0 ≤ k) : BodyOk P w K mg base "law" st_law ["_law_script", "_law_cell", "_law_source_here"] k (S_law F_law_right F_law_source) := by
  intro f cdv A outer s H E hr
  have hn := sc_law.nd
  exact (b_cons (s_for [1, 2] rfl PassesOwn.never (w_seq (e_slL (o_ev (e_bin o_addX (o_pk 0) (o_ev (e_lst (a_cons (o_ev e_int) a_nil))))) q_no (q_ev e_int))) (g_name 1 hn) (b_cons (s_set 2 hn (e_callC C_law_source hr (a_cons (o_ev (e_var 1)) a_nil))) (b_one (s_if (t_not (t_val (e_call1C 2 C_law_right hr a_nil))) (b_one (s_ret e_bl)) b_nil)))) (b_one (s_ret e_bl)))
theorem ok_law_errors (T : Txt K mg) (n : Nat) : Cal P w K mg base "_law_errors" ["_law_way", "_law_word", "_law_number"] (1 + n) (G_law_errors n) := Cal.mk T.m_law_errors sc_law_errors (bd_law_errors T (k := 0 + n) )
theorem ok_NoDocument_told (T : Txt K mg) (n : Nat) : CalV P w K mg base "NoDocument" "told" (1 + n) (G_NoDocument_told n) := CalV.mk T.m_NoDocument_told sc_NoDocument_told (bd_NoDocument_told T (k := 0 + n) )
theorem ok_Large_told (T : Txt K mg) (n : Nat) : CalV P w K mg base "Large" "told" (1 + n) (G_Large_told n) := CalV.mk T.m_Large_told sc_Large_told (bd_Large_told T (k := 0 + n) )
theorem ok_BadCount_told (T : Txt K mg) (n : Nat) : CalV P w K mg base "BadCount" "told" (1 + n) (G_BadCount_told n) := CalV.mk T.m_BadCount_told sc_BadCount_told (bd_BadCount_told T (k := 0 + n) )
theorem ok_NoChange_told (T : Txt K mg) (n : Nat) : CalV P w K mg base "NoChange" "told" (1 + n) (G_NoChange_told n) := CalV.mk T.m_NoChange_told sc_NoChange_told (bd_NoChange_told T (k := 0 + n) )
theorem ok_NoTime_told (T : Txt K mg) (n : Nat) : CalV P w K mg base "NoTime" "told" (1 + n) (G_NoTime_told n) := CalV.mk T.m_NoTime_told sc_NoTime_told (bd_NoTime_told T (k := 0 + n) )
theorem ok_NoBack_told (T : Txt K mg) (n : Nat) : CalV P w K mg base "NoBack" "told" (1 + n) (G_NoBack_told n) := CalV.mk T.m_NoBack_told sc_NoBack_told (bd_NoBack_told T (k := 0 + n) )
theorem ok_BadText_told (T : Txt K mg) (n : Nat) : CalV P w K mg base "BadText" "told" (1 + n) (G_BadText_told n) := CalV.mk T.m_BadText_told sc_BadText_told (bd_BadText_told T (k := 0 + n) )
theorem ok_law_fields (T : Txt K mg) (n : Nat) : Cal P w K mg base "_law_fields" ["_law_e", "_law_name_so"] (1 + n) (G_law_fields n) := Cal.mk T.m_law_fields sc_law_fields (bd_law_fields T (k := 0 + n) )
theorem ok_law_classes (T : Txt K mg) (n : Nat) : Cal P w K mg base "_law_classes" ["_law_e"] (1 + n) (G_law_classes n) := Cal.mk T.m_law_classes sc_law_classes (bd_law_classes T (k := 0 + n) )
theorem ok_law_draw (T : Txt K mg) (n : Nat) : Cal1 P w K mg base "_law_draw" ["_law_source_here", "_law_many"] (1 + n) (G_law_draw n) := Cal1.mk T.m_law_draw sc_law_draw (bd_law_draw T (k := 0 + n) )
theorem ok_law_pick (T : Txt K mg) (n : Nat) : Cal1 P w K mg base "_law_pick" ["_law_source_here", "_law_items"] (2 + n) (G_law_pick n) := Cal1.mk T.m_law_pick sc_law_pick (bd_law_pick T (k := 1 + n) (ok_law_draw T n) (by omega))
theorem ok_law_right (T : Txt K mg) (n : Nat) : Cal1 P w K mg base "_law_right" ["_law_source_here"] (3 + n) (G_law_right n) := Cal1.mk T.m_law_right sc_law_right (bd_law_right T (k := 2 + n) (ok_law_errors T n) (by omega) (ok_NoDocument_told T n) (by omega) (ok_Large_told T n) (by omega) (ok_BadCount_told T n) (by omega) (ok_NoChange_told T n) (by omega) (ok_NoTime_told T n) (by omega) (ok_NoBack_told T n) (by omega) (ok_BadText_told T n) (by omega) (ok_law_fields T n) (by omega) (ok_law_classes T n) (by omega) (ok_law_draw T n) (by omega) (ok_law_pick T n) (by omega))
theorem ok_law_source (T : Txt K mg) (n : Nat) : Cal P w K mg base "_law_source" ["_law_cell"] (1 + n) (G_law_source n) := Cal.mk T.m_law_source sc_law_source (bd_law_source T (k := 0 + n) )
theorem ok_law (T : Txt K mg) (n : Nat) : Cal P w K mg base "law" ["_law_script"] (4 + n) (G_law n) := Cal.mk T.m_law sc_law (bd_law T (k := 3 + n) (ok_law_right T n) (by omega) (ok_law_source T n) (by omega))
theorem fin_law (T : Txt K mg) (n : Nat) {f : Addr} {fd : FuncData} (F : Fun K "law" "law" st_law f fd) : FnG P w K mg base (4 + n) f fd ["_law_script"] (sp0 mg (G_law n)) := .of ((ok0 F sc_law (by decide) fun cdv A outer s H E hr => bd_law T (k := 3 + n) (ok_law_right T n) (by omega) (ok_law_source T n) (by omega) _ cdv A outer s H E hr).mono (by omega))
end
end Tw
end
set_option maxRecDepth 100000
set_option maxHeartbeats 4000000
namespace Tw
open PySem PySem.Spec PyProof.Rows L2
theorem sp_of {mg : Str → Option Value} {vs : List V} {H : Hp} {Q : VK} {E : XK} (h : spLaw vs H Q E) : sp0 mg (G_law 24) vs H Q E := by
  obtain ⟨a, ns, rfl, hr, hl, q⟩ := h
  refine ⟨fun _ => False, [.lst (ns.map D.int)], .d (.bl true), fun _ h => h.elim, ⟨_, _, rfl, ⟨a, _, rfl, fun h => h, hr, ints_rep ns⟩, rfl⟩, law_true ns hl, ?_⟩
  intro v H' fp _ _ _ own _
  have : v = .bl true := own.2
  rw [this]
  exact q H' 
theorem all_mk {l : PySem.W.OpenLaw} {w : World} {K : PySem.W.Frag} {h : Heap} {mg : Str → Option Value} {fa : Addr} (X : K.In h) (G : h.Ns mainGlobals mg) (hfa : mg "law" = some (.ref fa))
    {EC_NoDocument : Addr}
    {EC_Large : Addr}
    {EC_BadCount : Addr}
    {EC_NoChange : Addr}
    {EC_NoTime : Addr}
    {EC_NoBack : Addr}
    {EC_BadText : Addr}
    {EC_PatchError : Addr}
    {f0 : Addr} {od0 an0 : Option Addr} {sl0 : Array (Option Value)} {oc0 kV0 dc0 pm0 cd0 ct0 : Value}
    {f1 : Addr} {od1 an1 : Option Addr} {sl1 : Array (Option Value)} {oc1 kV1 dc1 pm1 cd1 ct1 : Value}
    {f2 : Addr} {od2 an2 : Option Addr} {sl2 : Array (Option Value)} {oc2 kV2 dc2 pm2 cd2 ct2 : Value}
    {f3 : Addr} {od3 an3 : Option Addr} {sl3 : Array (Option Value)} {oc3 kV3 dc3 pm3 cd3 ct3 : Value}
    {f4 : Addr} {od4 an4 : Option Addr} {sl4 : Array (Option Value)} {oc4 kV4 dc4 pm4 cd4 ct4 : Value}
    {f5 : Addr} {od5 an5 : Option Addr} {sl5 : Array (Option Value)} {oc5 kV5 dc5 pm5 cd5 ct5 : Value}
    {f6 : Addr} {od6 an6 : Option Addr} {sl6 : Array (Option Value)} {oc6 kV6 dc6 pm6 cd6 ct6 : Value}
    {f7 : Addr} {od7 an7 : Option Addr} {sl7 : Array (Option Value)} {oc7 kV7 dc7 pm7 cd7 ct7 : Value}
    {f8 : Addr} {od8 an8 : Option Addr} {sl8 : Array (Option Value)} {oc8 kV8 dc8 pm8 cd8 ct8 : Value}
    {f9 : Addr} {od9 an9 : Option Addr} {sl9 : Array (Option Value)} {oc9 kV9 dc9 pm9 cd9 ct9 : Value}
    {f10 : Addr} {od10 an10 : Option Addr} {sl10 : Array (Option Value)} {oc10 kV10 dc10 pm10 cd10 ct10 : Value}
    {f11 : Addr} {od11 an11 : Option Addr} {sl11 : Array (Option Value)} {oc11 kV11 dc11 pm11 cd11 ct11 : Value}
    {f12 : Addr} {od12 an12 : Option Addr} {sl12 : Array (Option Value)} {oc12 kV12 dc12 pm12 cd12 ct12 : Value}
    {f13 : Addr} {od13 an13 : Option Addr} {sl13 : Array (Option Value)} {oc13 kV13 dc13 pm13 cd13 ct13 : Value}
    {f14 : Addr} {od14 an14 : Option Addr} {sl14 : Array (Option Value)} {oc14 kV14 dc14 pm14 cd14 ct14 : Value}
    {fI_BadCount : Addr} {nm_BadCount q_BadCount : Str} {N_BadCount : Addr} {bs_BadCount : List Value} {sn_BadCount : List Str} {sub_BadCount : List Value} {ab_BadCount : Bool} {col_BadCount : Option Bool} {dd_BadCount : Option Addr} {m0_BadCount m1_BadCount m2_BadCount m3_BadCount m5_BadCount : Option Value} {odI_BadCount anI_BadCount : Option Addr} {slI_BadCount : Array (Option Value)} {ocI_BadCount dcI_BadCount pmI_BadCount cdI_BadCount ctI_BadCount : Value} {p1_BadCount p2_BadCount p3_BadCount p4_BadCount p5_BadCount p6_BadCount : Pos} {p7_BadCount p8_BadCount p9_BadCount p10_BadCount p11_BadCount : Pos}
    {fI_BadText : Addr} {nm_BadText q_BadText : Str} {N_BadText : Addr} {bs_BadText : List Value} {sn_BadText : List Str} {sub_BadText : List Value} {ab_BadText : Bool} {col_BadText : Option Bool} {dd_BadText : Option Addr} {m0_BadText m1_BadText m2_BadText m3_BadText m5_BadText : Option Value} {odI_BadText anI_BadText : Option Addr} {slI_BadText : Array (Option Value)} {ocI_BadText dcI_BadText pmI_BadText cdI_BadText ctI_BadText : Value} {p1_BadText p2_BadText p3_BadText p4_BadText p5_BadText p6_BadText : Pos}
    {fI_Large : Addr} {nm_Large q_Large : Str} {N_Large : Addr} {bs_Large : List Value} {sn_Large : List Str} {sub_Large : List Value} {ab_Large : Bool} {col_Large : Option Bool} {dd_Large : Option Addr} {m0_Large m1_Large m2_Large m3_Large m5_Large : Option Value} {odI_Large anI_Large : Option Addr} {slI_Large : Array (Option Value)} {ocI_Large dcI_Large pmI_Large cdI_Large ctI_Large : Value} {p1_Large p2_Large p3_Large p4_Large p5_Large p6_Large : Pos}
    {fI_NoChange : Addr} {nm_NoChange q_NoChange : Str} {N_NoChange : Addr} {bs_NoChange : List Value} {sn_NoChange : List Str} {sub_NoChange : List Value} {ab_NoChange : Bool} {col_NoChange : Option Bool} {dd_NoChange : Option Addr} {m0_NoChange m1_NoChange m2_NoChange m3_NoChange m5_NoChange : Option Value} {odI_NoChange anI_NoChange : Option Addr} {slI_NoChange : Array (Option Value)} {ocI_NoChange dcI_NoChange pmI_NoChange cdI_NoChange ctI_NoChange : Value} {p1_NoChange p2_NoChange p3_NoChange p4_NoChange p5_NoChange p6_NoChange : Pos}
    {fI_NoDocument : Addr} {nm_NoDocument q_NoDocument : Str} {N_NoDocument : Addr} {bs_NoDocument : List Value} {sn_NoDocument : List Str} {sub_NoDocument : List Value} {ab_NoDocument : Bool} {col_NoDocument : Option Bool} {dd_NoDocument : Option Addr} {m0_NoDocument m1_NoDocument m2_NoDocument m3_NoDocument m5_NoDocument : Option Value} {odI_NoDocument anI_NoDocument : Option Addr} {slI_NoDocument : Array (Option Value)} {ocI_NoDocument dcI_NoDocument pmI_NoDocument cdI_NoDocument ctI_NoDocument : Value} {p1_NoDocument p2_NoDocument p3_NoDocument p4_NoDocument p5_NoDocument p6_NoDocument : Pos}
    {fI_NoTime : Addr} {nm_NoTime q_NoTime : Str} {N_NoTime : Addr} {bs_NoTime : List Value} {sn_NoTime : List Str} {sub_NoTime : List Value} {ab_NoTime : Bool} {col_NoTime : Option Bool} {dd_NoTime : Option Addr} {m0_NoTime m1_NoTime m2_NoTime m3_NoTime m5_NoTime : Option Value} {odI_NoTime anI_NoTime : Option Addr} {slI_NoTime : Array (Option Value)} {ocI_NoTime dcI_NoTime pmI_NoTime cdI_NoTime ctI_NoTime : Value} {p1_NoTime p2_NoTime p3_NoTime p4_NoTime p5_NoTime p6_NoTime : Pos}
    (eC_NoDocument : PySem.W.nsIn K mainGlobals "NoDocument" = some (some (.ref EC_NoDocument)))
    (eC_Large : PySem.W.nsIn K mainGlobals "Large" = some (some (.ref EC_Large)))
    (eC_BadCount : PySem.W.nsIn K mainGlobals "BadCount" = some (some (.ref EC_BadCount)))
    (eC_NoChange : PySem.W.nsIn K mainGlobals "NoChange" = some (some (.ref EC_NoChange)))
    (eC_NoTime : PySem.W.nsIn K mainGlobals "NoTime" = some (some (.ref EC_NoTime)))
    (eC_NoBack : PySem.W.nsIn K mainGlobals "NoBack" = some (some (.ref EC_NoBack)))
    (eC_BadText : PySem.W.nsIn K mainGlobals "BadText" = some (some (.ref EC_BadText)))
    (eC_PatchError : PySem.W.nsIn K mainGlobals "PatchError" = some (some (.ref EC_PatchError)))
    (a0 : PySem.W.nsIn K mainGlobals "_law_errors" = some (some (.ref f0)))
    (l0 : K.lookup f0 = some ⟨oc0, od0, .func (PySem.W.fnOf "_law_errors" "_law_errors" (defArgs st_law_errors) (defBody st_law_errors) (defScope st_law_errors) .none kV0 dc0 pm0 an0 cd0 ct0), sl0⟩)
    (c0 : PySem.W.codeIn K cd0 "_law_errors" = true)
    (k0 : PySem.W.keepIn K (.ref f0) = true)
    (a1 : PySem.W.findIn K (.ref EC_NoDocument) "told" = some (some (.ref f1)))
    (i1 : PySem.W.isFn K (.ref f1) = true)
    (l1 : K.lookup f1 = some ⟨oc1, od1, .func (PySem.W.fnOf "told" "NoDocument.told" (defArgs st_NoDocument_told) (defBody st_NoDocument_told) (defScope st_NoDocument_told) .none kV1 dc1 pm1 an1 cd1 ct1), sl1⟩)
    (c1 : PySem.W.codeIn K cd1 "NoDocument.told" = true)
    (k1 : PySem.W.keepIn K (.ref f1) = true)
    (a2 : PySem.W.findIn K (.ref EC_Large) "told" = some (some (.ref f2)))
    (i2 : PySem.W.isFn K (.ref f2) = true)
    (l2 : K.lookup f2 = some ⟨oc2, od2, .func (PySem.W.fnOf "told" "Large.told" (defArgs st_Large_told) (defBody st_Large_told) (defScope st_Large_told) .none kV2 dc2 pm2 an2 cd2 ct2), sl2⟩)
    (c2 : PySem.W.codeIn K cd2 "Large.told" = true)
    (k2 : PySem.W.keepIn K (.ref f2) = true)
    (a3 : PySem.W.findIn K (.ref EC_BadCount) "told" = some (some (.ref f3)))
    (i3 : PySem.W.isFn K (.ref f3) = true)
    (l3 : K.lookup f3 = some ⟨oc3, od3, .func (PySem.W.fnOf "told" "BadCount.told" (defArgs st_BadCount_told) (defBody st_BadCount_told) (defScope st_BadCount_told) .none kV3 dc3 pm3 an3 cd3 ct3), sl3⟩)
    (c3 : PySem.W.codeIn K cd3 "BadCount.told" = true)
    (k3 : PySem.W.keepIn K (.ref f3) = true)
    (a4 : PySem.W.findIn K (.ref EC_NoChange) "told" = some (some (.ref f4)))
    (i4 : PySem.W.isFn K (.ref f4) = true)
    (l4 : K.lookup f4 = some ⟨oc4, od4, .func (PySem.W.fnOf "told" "NoChange.told" (defArgs st_NoChange_told) (defBody st_NoChange_told) (defScope st_NoChange_told) .none kV4 dc4 pm4 an4 cd4 ct4), sl4⟩)
    (c4 : PySem.W.codeIn K cd4 "NoChange.told" = true)
    (k4 : PySem.W.keepIn K (.ref f4) = true)
    (a5 : PySem.W.findIn K (.ref EC_NoTime) "told" = some (some (.ref f5)))
    (i5 : PySem.W.isFn K (.ref f5) = true)
    (l5 : K.lookup f5 = some ⟨oc5, od5, .func (PySem.W.fnOf "told" "NoTime.told" (defArgs st_NoTime_told) (defBody st_NoTime_told) (defScope st_NoTime_told) .none kV5 dc5 pm5 an5 cd5 ct5), sl5⟩)
    (c5 : PySem.W.codeIn K cd5 "NoTime.told" = true)
    (k5 : PySem.W.keepIn K (.ref f5) = true)
    (a6 : PySem.W.findIn K (.ref EC_NoBack) "told" = some (some (.ref f6)))
    (i6 : PySem.W.isFn K (.ref f6) = true)
    (l6 : K.lookup f6 = some ⟨oc6, od6, .func (PySem.W.fnOf "told" "NoBack.told" (defArgs st_NoBack_told) (defBody st_NoBack_told) (defScope st_NoBack_told) .none kV6 dc6 pm6 an6 cd6 ct6), sl6⟩)
    (c6 : PySem.W.codeIn K cd6 "NoBack.told" = true)
    (k6 : PySem.W.keepIn K (.ref f6) = true)
    (a7 : PySem.W.findIn K (.ref EC_BadText) "told" = some (some (.ref f7)))
    (i7 : PySem.W.isFn K (.ref f7) = true)
    (l7 : K.lookup f7 = some ⟨oc7, od7, .func (PySem.W.fnOf "told" "BadText.told" (defArgs st_BadText_told) (defBody st_BadText_told) (defScope st_BadText_told) .none kV7 dc7 pm7 an7 cd7 ct7), sl7⟩)
    (c7 : PySem.W.codeIn K cd7 "BadText.told" = true)
    (k7 : PySem.W.keepIn K (.ref f7) = true)
    (a8 : PySem.W.nsIn K mainGlobals "_law_fields" = some (some (.ref f8)))
    (l8 : K.lookup f8 = some ⟨oc8, od8, .func (PySem.W.fnOf "_law_fields" "_law_fields" (defArgs st_law_fields) (defBody st_law_fields) (defScope st_law_fields) .none kV8 dc8 pm8 an8 cd8 ct8), sl8⟩)
    (c8 : PySem.W.codeIn K cd8 "_law_fields" = true)
    (k8 : PySem.W.keepIn K (.ref f8) = true)
    (a9 : PySem.W.nsIn K mainGlobals "_law_classes" = some (some (.ref f9)))
    (l9 : K.lookup f9 = some ⟨oc9, od9, .func (PySem.W.fnOf "_law_classes" "_law_classes" (defArgs st_law_classes) (defBody st_law_classes) (defScope st_law_classes) .none kV9 dc9 pm9 an9 cd9 ct9), sl9⟩)
    (c9 : PySem.W.codeIn K cd9 "_law_classes" = true)
    (k9 : PySem.W.keepIn K (.ref f9) = true)
    (a10 : PySem.W.nsIn K mainGlobals "_law_draw" = some (some (.ref f10)))
    (l10 : K.lookup f10 = some ⟨oc10, od10, .func (PySem.W.fnOf "_law_draw" "_law_draw" (defArgs st_law_draw) (defBody st_law_draw) (defScope st_law_draw) .none kV10 dc10 pm10 an10 cd10 ct10), sl10⟩)
    (c10 : PySem.W.codeIn K cd10 "_law_draw" = true)
    (k10 : PySem.W.keepIn K (.ref f10) = true)
    (a11 : PySem.W.nsIn K mainGlobals "_law_pick" = some (some (.ref f11)))
    (l11 : K.lookup f11 = some ⟨oc11, od11, .func (PySem.W.fnOf "_law_pick" "_law_pick" (defArgs st_law_pick) (defBody st_law_pick) (defScope st_law_pick) .none kV11 dc11 pm11 an11 cd11 ct11), sl11⟩)
    (c11 : PySem.W.codeIn K cd11 "_law_pick" = true)
    (k11 : PySem.W.keepIn K (.ref f11) = true)
    (a12 : PySem.W.nsIn K mainGlobals "_law_right" = some (some (.ref f12)))
    (l12 : K.lookup f12 = some ⟨oc12, od12, .func (PySem.W.fnOf "_law_right" "_law_right" (defArgs st_law_right) (defBody st_law_right) (defScope st_law_right) .none kV12 dc12 pm12 an12 cd12 ct12), sl12⟩)
    (c12 : PySem.W.codeIn K cd12 "_law_right" = true)
    (k12 : PySem.W.keepIn K (.ref f12) = true)
    (a13 : PySem.W.nsIn K mainGlobals "_law_source" = some (some (.ref f13)))
    (l13 : K.lookup f13 = some ⟨oc13, od13, .func (PySem.W.fnOf "_law_source" "_law_source" (defArgs st_law_source) (defBody st_law_source) (defScope st_law_source) .none kV13 dc13 pm13 an13 cd13 ct13), sl13⟩)
    (c13 : PySem.W.codeIn K cd13 "_law_source" = true)
    (k13 : PySem.W.keepIn K (.ref f13) = true)
    (a14 : PySem.W.nsIn K mainGlobals "law" = some (some (.ref f14)))
    (l14 : K.lookup f14 = some ⟨oc14, od14, .func (PySem.W.fnOf "law" "law" (defArgs st_law) (defBody st_law) (defScope st_law) .none kV14 dc14 pm14 an14 cd14 ct14), sl14⟩)
    (c14 : PySem.W.codeIn K cd14 "law" = true)
    (k14 : PySem.W.keepIn K (.ref f14) = true)
    (z_ValueError : PySem.W.nsIn K mainGlobals "ValueError" = some none)
    (z_abs : PySem.W.nsIn K mainGlobals "abs" = some none)
    (z_isinstance : PySem.W.nsIn K mainGlobals "isinstance" = some none)
    (z_len : PySem.W.nsIn K mainGlobals "len" = some none)
    (z_zip : PySem.W.nsIn K mainGlobals "zip" = some none)
    (eh_sp : PySem.W.specialIn K (.builtin "object.__class__") "__get__" = some (some (.builtin "getset_descriptor.__get__")))
    (eh_tk : PySem.W.takesIn K (.builtin "object.__class__") = some true)
    (eg_BadCount : PySem.W.findIn K (.ref EC_BadCount) "__getattribute__" = some (some (.builtin "BaseException.__getattribute__")))
    (ek_BadCount : PySem.W.findIn K (.ref EC_BadCount) "__getattr__" = some none)
    (ee_BadCount : PySem.W.subIn K (.ref EC_BadCount) (.type "BaseException") = some true)
    (ed_BadCount : PySem.W.hasDictIn K EC_BadCount = true)
    (ei_BadCount : PySem.W.isClsIn K EC_BadCount = true)
    (ea_BadCount : PySem.W.findIn K (.ref EC_BadCount) "__class__" = some (some (.builtin "object.__class__")))
    (eo_BadCount : PySem.W.mroIn K EC_BadCount (.type "object") = some true)
    (xf_BadCount_what : PySem.W.findIn K (.ref EC_BadCount) "what" = some none)
    (xf_BadCount_count : PySem.W.findIn K (.ref EC_BadCount) "count" = some none)
    (xi_BadCount_NoDocument : PySem.W.subIn K (.ref EC_BadCount) (.ref EC_NoDocument) = some false)
    (xj_BadCount_NoDocument : PySem.W.isClsIn K EC_NoDocument = true)
    (xk_BadCount_NoDocument : PySem.W.typeIn K (.ref EC_NoDocument) = some (.type "type"))
    (xl_BadCount_NoDocument : PySem.W.subIn K (.ref EC_BadCount) (.ref EC_BadCount) = some true)
    (xi_BadCount_Large : PySem.W.subIn K (.ref EC_BadCount) (.ref EC_Large) = some false)
    (xj_BadCount_Large : PySem.W.isClsIn K EC_Large = true)
    (xk_BadCount_Large : PySem.W.typeIn K (.ref EC_Large) = some (.type "type"))
    (xl_BadCount_Large : PySem.W.subIn K (.ref EC_BadCount) (.ref EC_BadCount) = some true)
    (xi_BadCount_NoChange : PySem.W.subIn K (.ref EC_BadCount) (.ref EC_NoChange) = some false)
    (xj_BadCount_NoChange : PySem.W.isClsIn K EC_NoChange = true)
    (xk_BadCount_NoChange : PySem.W.typeIn K (.ref EC_NoChange) = some (.type "type"))
    (xl_BadCount_NoChange : PySem.W.subIn K (.ref EC_BadCount) (.ref EC_BadCount) = some true)
    (xi_BadCount_NoTime : PySem.W.subIn K (.ref EC_BadCount) (.ref EC_NoTime) = some false)
    (xj_BadCount_NoTime : PySem.W.isClsIn K EC_NoTime = true)
    (xk_BadCount_NoTime : PySem.W.typeIn K (.ref EC_NoTime) = some (.type "type"))
    (xl_BadCount_NoTime : PySem.W.subIn K (.ref EC_BadCount) (.ref EC_BadCount) = some true)
    (xi_BadCount_NoBack : PySem.W.subIn K (.ref EC_BadCount) (.ref EC_NoBack) = some false)
    (xj_BadCount_NoBack : PySem.W.isClsIn K EC_NoBack = true)
    (xk_BadCount_NoBack : PySem.W.typeIn K (.ref EC_NoBack) = some (.type "type"))
    (xl_BadCount_NoBack : PySem.W.subIn K (.ref EC_BadCount) (.ref EC_BadCount) = some true)
    (xi_BadCount_BadText : PySem.W.subIn K (.ref EC_BadCount) (.ref EC_BadText) = some false)
    (xj_BadCount_BadText : PySem.W.isClsIn K EC_BadText = true)
    (xk_BadCount_BadText : PySem.W.typeIn K (.ref EC_BadText) = some (.type "type"))
    (xl_BadCount_BadText : PySem.W.subIn K (.ref EC_BadCount) (.ref EC_BadCount) = some true)
    (xi_BadCount_PatchError : PySem.W.subIn K (.ref EC_BadCount) (.ref EC_PatchError) = some true)
    (xj_BadCount_PatchError : PySem.W.isClsIn K EC_PatchError = true)
    (xk_BadCount_PatchError : PySem.W.typeIn K (.ref EC_PatchError) = some (.type "type"))
    (xl_BadCount_PatchError : PySem.W.subIn K (.ref EC_BadCount) (.ref EC_BadCount) = some true)
    (xL_BadCount : K.lookup EC_BadCount = some (excClassObj nm_BadCount q_BadCount EC_BadCount N_BadCount bs_BadCount [.ref EC_PatchError, .type "ValueError", .type "Exception", .type "BaseException", .type "object"] true sn_BadCount sub_BadCount ab_BadCount col_BadCount dd_BadCount m0_BadCount m1_BadCount m2_BadCount m3_BadCount m5_BadCount "ValueError.__new__"))
    (es_BadCount : PySem.W.findIn K (.ref EC_BadCount) "__setattr__" = some (some (.builtin "object.__setattr__")))
    (en_BadCount : PySem.W.findIn K (.ref EC_BadCount) "what" = some none)
    (en2_BadCount : PySem.W.findIn K (.ref EC_BadCount) "count" = some none)
    (eI_BadCount : PySem.W.findIn K (.ref EC_BadCount) "__init__" = some (some (.ref fI_BadCount)))
    (eT_BadCount : PySem.W.typeIn K (.ref fI_BadCount) = some (.type "function"))
    (eL_BadCount : K.lookup fI_BadCount = some ⟨ocI_BadCount, odI_BadCount, .func (PySem.W.fnOf "__init__" "BadCount.__init__" (PySem.XkBadCount.iA p1_BadCount p2_BadCount p3_BadCount) (PySem.XkBadCount.iB p4_BadCount p5_BadCount p6_BadCount p7_BadCount p8_BadCount p9_BadCount p10_BadCount p11_BadCount) PySem.XkBadCount.iS .none .none dcI_BadCount pmI_BadCount anI_BadCount cdI_BadCount ctI_BadCount), slI_BadCount⟩)
    (ec_BadCount : PySem.W.codeIn K cdI_BadCount "BadCount.__init__" = true)
    (eK_BadCount : PySem.W.keepIn K (.ref EC_BadCount) = true)
    (ety_BadCount : PySem.W.typeIn K (.ref EC_BadCount) = some (.type "type"))
    (esu_BadCount : PySem.W.subIn K (.ref EC_BadCount) (.ref EC_BadCount) = some true)
    (eg_BadText : PySem.W.findIn K (.ref EC_BadText) "__getattribute__" = some (some (.builtin "BaseException.__getattribute__")))
    (ek_BadText : PySem.W.findIn K (.ref EC_BadText) "__getattr__" = some none)
    (ee_BadText : PySem.W.subIn K (.ref EC_BadText) (.type "BaseException") = some true)
    (ed_BadText : PySem.W.hasDictIn K EC_BadText = true)
    (ei_BadText : PySem.W.isClsIn K EC_BadText = true)
    (ea_BadText : PySem.W.findIn K (.ref EC_BadText) "__class__" = some (some (.builtin "object.__class__")))
    (eo_BadText : PySem.W.mroIn K EC_BadText (.type "object") = some true)
    (xf_BadText_place : PySem.W.findIn K (.ref EC_BadText) "place" = some none)
    (xi_BadText_NoDocument : PySem.W.subIn K (.ref EC_BadText) (.ref EC_NoDocument) = some false)
    (xj_BadText_NoDocument : PySem.W.isClsIn K EC_NoDocument = true)
    (xk_BadText_NoDocument : PySem.W.typeIn K (.ref EC_NoDocument) = some (.type "type"))
    (xl_BadText_NoDocument : PySem.W.subIn K (.ref EC_BadText) (.ref EC_BadText) = some true)
    (xi_BadText_Large : PySem.W.subIn K (.ref EC_BadText) (.ref EC_Large) = some false)
    (xj_BadText_Large : PySem.W.isClsIn K EC_Large = true)
    (xk_BadText_Large : PySem.W.typeIn K (.ref EC_Large) = some (.type "type"))
    (xl_BadText_Large : PySem.W.subIn K (.ref EC_BadText) (.ref EC_BadText) = some true)
    (xi_BadText_BadCount : PySem.W.subIn K (.ref EC_BadText) (.ref EC_BadCount) = some false)
    (xj_BadText_BadCount : PySem.W.isClsIn K EC_BadCount = true)
    (xk_BadText_BadCount : PySem.W.typeIn K (.ref EC_BadCount) = some (.type "type"))
    (xl_BadText_BadCount : PySem.W.subIn K (.ref EC_BadText) (.ref EC_BadText) = some true)
    (xi_BadText_NoChange : PySem.W.subIn K (.ref EC_BadText) (.ref EC_NoChange) = some false)
    (xj_BadText_NoChange : PySem.W.isClsIn K EC_NoChange = true)
    (xk_BadText_NoChange : PySem.W.typeIn K (.ref EC_NoChange) = some (.type "type"))
    (xl_BadText_NoChange : PySem.W.subIn K (.ref EC_BadText) (.ref EC_BadText) = some true)
    (xi_BadText_NoTime : PySem.W.subIn K (.ref EC_BadText) (.ref EC_NoTime) = some false)
    (xj_BadText_NoTime : PySem.W.isClsIn K EC_NoTime = true)
    (xk_BadText_NoTime : PySem.W.typeIn K (.ref EC_NoTime) = some (.type "type"))
    (xl_BadText_NoTime : PySem.W.subIn K (.ref EC_BadText) (.ref EC_BadText) = some true)
    (xi_BadText_NoBack : PySem.W.subIn K (.ref EC_BadText) (.ref EC_NoBack) = some false)
    (xj_BadText_NoBack : PySem.W.isClsIn K EC_NoBack = true)
    (xk_BadText_NoBack : PySem.W.typeIn K (.ref EC_NoBack) = some (.type "type"))
    (xl_BadText_NoBack : PySem.W.subIn K (.ref EC_BadText) (.ref EC_BadText) = some true)
    (xi_BadText_PatchError : PySem.W.subIn K (.ref EC_BadText) (.ref EC_PatchError) = some true)
    (xj_BadText_PatchError : PySem.W.isClsIn K EC_PatchError = true)
    (xk_BadText_PatchError : PySem.W.typeIn K (.ref EC_PatchError) = some (.type "type"))
    (xl_BadText_PatchError : PySem.W.subIn K (.ref EC_BadText) (.ref EC_BadText) = some true)
    (xL_BadText : K.lookup EC_BadText = some (excClassObj nm_BadText q_BadText EC_BadText N_BadText bs_BadText [.ref EC_PatchError, .type "ValueError", .type "Exception", .type "BaseException", .type "object"] true sn_BadText sub_BadText ab_BadText col_BadText dd_BadText m0_BadText m1_BadText m2_BadText m3_BadText m5_BadText "ValueError.__new__"))
    (es_BadText : PySem.W.findIn K (.ref EC_BadText) "__setattr__" = some (some (.builtin "object.__setattr__")))
    (en_BadText : PySem.W.findIn K (.ref EC_BadText) "place" = some none)
    (eI_BadText : PySem.W.findIn K (.ref EC_BadText) "__init__" = some (some (.ref fI_BadText)))
    (eT_BadText : PySem.W.typeIn K (.ref fI_BadText) = some (.type "function"))
    (eL_BadText : K.lookup fI_BadText = some ⟨ocI_BadText, odI_BadText, .func (PySem.W.fnOf "__init__" "BadText.__init__" (PySem.XkBadText.iA p1_BadText p2_BadText) (PySem.XkBadText.iB p3_BadText p4_BadText p5_BadText p6_BadText) PySem.XkBadText.iS .none .none dcI_BadText pmI_BadText anI_BadText cdI_BadText ctI_BadText), slI_BadText⟩)
    (ec_BadText : PySem.W.codeIn K cdI_BadText "BadText.__init__" = true)
    (eK_BadText : PySem.W.keepIn K (.ref EC_BadText) = true)
    (ety_BadText : PySem.W.typeIn K (.ref EC_BadText) = some (.type "type"))
    (esu_BadText : PySem.W.subIn K (.ref EC_BadText) (.ref EC_BadText) = some true)
    (eg_Large : PySem.W.findIn K (.ref EC_Large) "__getattribute__" = some (some (.builtin "BaseException.__getattribute__")))
    (ek_Large : PySem.W.findIn K (.ref EC_Large) "__getattr__" = some none)
    (ee_Large : PySem.W.subIn K (.ref EC_Large) (.type "BaseException") = some true)
    (ed_Large : PySem.W.hasDictIn K EC_Large = true)
    (ei_Large : PySem.W.isClsIn K EC_Large = true)
    (ea_Large : PySem.W.findIn K (.ref EC_Large) "__class__" = some (some (.builtin "object.__class__")))
    (eo_Large : PySem.W.mroIn K EC_Large (.type "object") = some true)
    (xf_Large_what : PySem.W.findIn K (.ref EC_Large) "what" = some none)
    (xi_Large_NoDocument : PySem.W.subIn K (.ref EC_Large) (.ref EC_NoDocument) = some false)
    (xj_Large_NoDocument : PySem.W.isClsIn K EC_NoDocument = true)
    (xk_Large_NoDocument : PySem.W.typeIn K (.ref EC_NoDocument) = some (.type "type"))
    (xl_Large_NoDocument : PySem.W.subIn K (.ref EC_Large) (.ref EC_Large) = some true)
    (xi_Large_BadCount : PySem.W.subIn K (.ref EC_Large) (.ref EC_BadCount) = some false)
    (xj_Large_BadCount : PySem.W.isClsIn K EC_BadCount = true)
    (xk_Large_BadCount : PySem.W.typeIn K (.ref EC_BadCount) = some (.type "type"))
    (xl_Large_BadCount : PySem.W.subIn K (.ref EC_Large) (.ref EC_Large) = some true)
    (xi_Large_NoChange : PySem.W.subIn K (.ref EC_Large) (.ref EC_NoChange) = some false)
    (xj_Large_NoChange : PySem.W.isClsIn K EC_NoChange = true)
    (xk_Large_NoChange : PySem.W.typeIn K (.ref EC_NoChange) = some (.type "type"))
    (xl_Large_NoChange : PySem.W.subIn K (.ref EC_Large) (.ref EC_Large) = some true)
    (xi_Large_NoTime : PySem.W.subIn K (.ref EC_Large) (.ref EC_NoTime) = some false)
    (xj_Large_NoTime : PySem.W.isClsIn K EC_NoTime = true)
    (xk_Large_NoTime : PySem.W.typeIn K (.ref EC_NoTime) = some (.type "type"))
    (xl_Large_NoTime : PySem.W.subIn K (.ref EC_Large) (.ref EC_Large) = some true)
    (xi_Large_NoBack : PySem.W.subIn K (.ref EC_Large) (.ref EC_NoBack) = some false)
    (xj_Large_NoBack : PySem.W.isClsIn K EC_NoBack = true)
    (xk_Large_NoBack : PySem.W.typeIn K (.ref EC_NoBack) = some (.type "type"))
    (xl_Large_NoBack : PySem.W.subIn K (.ref EC_Large) (.ref EC_Large) = some true)
    (xi_Large_BadText : PySem.W.subIn K (.ref EC_Large) (.ref EC_BadText) = some false)
    (xj_Large_BadText : PySem.W.isClsIn K EC_BadText = true)
    (xk_Large_BadText : PySem.W.typeIn K (.ref EC_BadText) = some (.type "type"))
    (xl_Large_BadText : PySem.W.subIn K (.ref EC_Large) (.ref EC_Large) = some true)
    (xi_Large_PatchError : PySem.W.subIn K (.ref EC_Large) (.ref EC_PatchError) = some true)
    (xj_Large_PatchError : PySem.W.isClsIn K EC_PatchError = true)
    (xk_Large_PatchError : PySem.W.typeIn K (.ref EC_PatchError) = some (.type "type"))
    (xl_Large_PatchError : PySem.W.subIn K (.ref EC_Large) (.ref EC_Large) = some true)
    (xL_Large : K.lookup EC_Large = some (excClassObj nm_Large q_Large EC_Large N_Large bs_Large [.ref EC_PatchError, .type "ValueError", .type "Exception", .type "BaseException", .type "object"] true sn_Large sub_Large ab_Large col_Large dd_Large m0_Large m1_Large m2_Large m3_Large m5_Large "ValueError.__new__"))
    (es_Large : PySem.W.findIn K (.ref EC_Large) "__setattr__" = some (some (.builtin "object.__setattr__")))
    (en_Large : PySem.W.findIn K (.ref EC_Large) "what" = some none)
    (eI_Large : PySem.W.findIn K (.ref EC_Large) "__init__" = some (some (.ref fI_Large)))
    (eT_Large : PySem.W.typeIn K (.ref fI_Large) = some (.type "function"))
    (eL_Large : K.lookup fI_Large = some ⟨ocI_Large, odI_Large, .func (PySem.W.fnOf "__init__" "Large.__init__" (PySem.XkLarge.iA p1_Large p2_Large) (PySem.XkLarge.iB p3_Large p4_Large p5_Large p6_Large) PySem.XkLarge.iS .none .none dcI_Large pmI_Large anI_Large cdI_Large ctI_Large), slI_Large⟩)
    (ec_Large : PySem.W.codeIn K cdI_Large "Large.__init__" = true)
    (eK_Large : PySem.W.keepIn K (.ref EC_Large) = true)
    (ety_Large : PySem.W.typeIn K (.ref EC_Large) = some (.type "type"))
    (esu_Large : PySem.W.subIn K (.ref EC_Large) (.ref EC_Large) = some true)
    (eg_NoBack : PySem.W.findIn K (.ref EC_NoBack) "__getattribute__" = some (some (.builtin "BaseException.__getattribute__")))
    (ek_NoBack : PySem.W.findIn K (.ref EC_NoBack) "__getattr__" = some none)
    (ee_NoBack : PySem.W.subIn K (.ref EC_NoBack) (.type "BaseException") = some true)
    (ed_NoBack : PySem.W.hasDictIn K EC_NoBack = true)
    (ei_NoBack : PySem.W.isClsIn K EC_NoBack = true)
    (ea_NoBack : PySem.W.findIn K (.ref EC_NoBack) "__class__" = some (some (.builtin "object.__class__")))
    (eo_NoBack : PySem.W.mroIn K EC_NoBack (.type "object") = some true)
    (xi_NoBack_NoDocument : PySem.W.subIn K (.ref EC_NoBack) (.ref EC_NoDocument) = some false)
    (xj_NoBack_NoDocument : PySem.W.isClsIn K EC_NoDocument = true)
    (xk_NoBack_NoDocument : PySem.W.typeIn K (.ref EC_NoDocument) = some (.type "type"))
    (xl_NoBack_NoDocument : PySem.W.subIn K (.ref EC_NoBack) (.ref EC_NoBack) = some true)
    (xi_NoBack_Large : PySem.W.subIn K (.ref EC_NoBack) (.ref EC_Large) = some false)
    (xj_NoBack_Large : PySem.W.isClsIn K EC_Large = true)
    (xk_NoBack_Large : PySem.W.typeIn K (.ref EC_Large) = some (.type "type"))
    (xl_NoBack_Large : PySem.W.subIn K (.ref EC_NoBack) (.ref EC_NoBack) = some true)
    (xi_NoBack_BadCount : PySem.W.subIn K (.ref EC_NoBack) (.ref EC_BadCount) = some false)
    (xj_NoBack_BadCount : PySem.W.isClsIn K EC_BadCount = true)
    (xk_NoBack_BadCount : PySem.W.typeIn K (.ref EC_BadCount) = some (.type "type"))
    (xl_NoBack_BadCount : PySem.W.subIn K (.ref EC_NoBack) (.ref EC_NoBack) = some true)
    (xi_NoBack_NoChange : PySem.W.subIn K (.ref EC_NoBack) (.ref EC_NoChange) = some false)
    (xj_NoBack_NoChange : PySem.W.isClsIn K EC_NoChange = true)
    (xk_NoBack_NoChange : PySem.W.typeIn K (.ref EC_NoChange) = some (.type "type"))
    (xl_NoBack_NoChange : PySem.W.subIn K (.ref EC_NoBack) (.ref EC_NoBack) = some true)
    (xi_NoBack_NoTime : PySem.W.subIn K (.ref EC_NoBack) (.ref EC_NoTime) = some false)
    (xj_NoBack_NoTime : PySem.W.isClsIn K EC_NoTime = true)
    (xk_NoBack_NoTime : PySem.W.typeIn K (.ref EC_NoTime) = some (.type "type"))
    (xl_NoBack_NoTime : PySem.W.subIn K (.ref EC_NoBack) (.ref EC_NoBack) = some true)
    (xi_NoBack_BadText : PySem.W.subIn K (.ref EC_NoBack) (.ref EC_BadText) = some false)
    (xj_NoBack_BadText : PySem.W.isClsIn K EC_BadText = true)
    (xk_NoBack_BadText : PySem.W.typeIn K (.ref EC_BadText) = some (.type "type"))
    (xl_NoBack_BadText : PySem.W.subIn K (.ref EC_NoBack) (.ref EC_NoBack) = some true)
    (xi_NoBack_PatchError : PySem.W.subIn K (.ref EC_NoBack) (.ref EC_PatchError) = some true)
    (xj_NoBack_PatchError : PySem.W.isClsIn K EC_PatchError = true)
    (xk_NoBack_PatchError : PySem.W.typeIn K (.ref EC_PatchError) = some (.type "type"))
    (xl_NoBack_PatchError : PySem.W.subIn K (.ref EC_NoBack) (.ref EC_NoBack) = some true)
    (eg_NoChange : PySem.W.findIn K (.ref EC_NoChange) "__getattribute__" = some (some (.builtin "BaseException.__getattribute__")))
    (ek_NoChange : PySem.W.findIn K (.ref EC_NoChange) "__getattr__" = some none)
    (ee_NoChange : PySem.W.subIn K (.ref EC_NoChange) (.type "BaseException") = some true)
    (ed_NoChange : PySem.W.hasDictIn K EC_NoChange = true)
    (ei_NoChange : PySem.W.isClsIn K EC_NoChange = true)
    (ea_NoChange : PySem.W.findIn K (.ref EC_NoChange) "__class__" = some (some (.builtin "object.__class__")))
    (eo_NoChange : PySem.W.mroIn K EC_NoChange (.type "object") = some true)
    (xf_NoChange_path : PySem.W.findIn K (.ref EC_NoChange) "path" = some none)
    (xi_NoChange_NoDocument : PySem.W.subIn K (.ref EC_NoChange) (.ref EC_NoDocument) = some false)
    (xj_NoChange_NoDocument : PySem.W.isClsIn K EC_NoDocument = true)
    (xk_NoChange_NoDocument : PySem.W.typeIn K (.ref EC_NoDocument) = some (.type "type"))
    (xl_NoChange_NoDocument : PySem.W.subIn K (.ref EC_NoChange) (.ref EC_NoChange) = some true)
    (xi_NoChange_Large : PySem.W.subIn K (.ref EC_NoChange) (.ref EC_Large) = some false)
    (xj_NoChange_Large : PySem.W.isClsIn K EC_Large = true)
    (xk_NoChange_Large : PySem.W.typeIn K (.ref EC_Large) = some (.type "type"))
    (xl_NoChange_Large : PySem.W.subIn K (.ref EC_NoChange) (.ref EC_NoChange) = some true)
    (xi_NoChange_BadCount : PySem.W.subIn K (.ref EC_NoChange) (.ref EC_BadCount) = some false)
    (xj_NoChange_BadCount : PySem.W.isClsIn K EC_BadCount = true)
    (xk_NoChange_BadCount : PySem.W.typeIn K (.ref EC_BadCount) = some (.type "type"))
    (xl_NoChange_BadCount : PySem.W.subIn K (.ref EC_NoChange) (.ref EC_NoChange) = some true)
    (xi_NoChange_NoTime : PySem.W.subIn K (.ref EC_NoChange) (.ref EC_NoTime) = some false)
    (xj_NoChange_NoTime : PySem.W.isClsIn K EC_NoTime = true)
    (xk_NoChange_NoTime : PySem.W.typeIn K (.ref EC_NoTime) = some (.type "type"))
    (xl_NoChange_NoTime : PySem.W.subIn K (.ref EC_NoChange) (.ref EC_NoChange) = some true)
    (xi_NoChange_NoBack : PySem.W.subIn K (.ref EC_NoChange) (.ref EC_NoBack) = some false)
    (xj_NoChange_NoBack : PySem.W.isClsIn K EC_NoBack = true)
    (xk_NoChange_NoBack : PySem.W.typeIn K (.ref EC_NoBack) = some (.type "type"))
    (xl_NoChange_NoBack : PySem.W.subIn K (.ref EC_NoChange) (.ref EC_NoChange) = some true)
    (xi_NoChange_BadText : PySem.W.subIn K (.ref EC_NoChange) (.ref EC_BadText) = some false)
    (xj_NoChange_BadText : PySem.W.isClsIn K EC_BadText = true)
    (xk_NoChange_BadText : PySem.W.typeIn K (.ref EC_BadText) = some (.type "type"))
    (xl_NoChange_BadText : PySem.W.subIn K (.ref EC_NoChange) (.ref EC_NoChange) = some true)
    (xi_NoChange_PatchError : PySem.W.subIn K (.ref EC_NoChange) (.ref EC_PatchError) = some true)
    (xj_NoChange_PatchError : PySem.W.isClsIn K EC_PatchError = true)
    (xk_NoChange_PatchError : PySem.W.typeIn K (.ref EC_PatchError) = some (.type "type"))
    (xl_NoChange_PatchError : PySem.W.subIn K (.ref EC_NoChange) (.ref EC_NoChange) = some true)
    (xL_NoChange : K.lookup EC_NoChange = some (excClassObj nm_NoChange q_NoChange EC_NoChange N_NoChange bs_NoChange [.ref EC_PatchError, .type "ValueError", .type "Exception", .type "BaseException", .type "object"] true sn_NoChange sub_NoChange ab_NoChange col_NoChange dd_NoChange m0_NoChange m1_NoChange m2_NoChange m3_NoChange m5_NoChange "ValueError.__new__"))
    (es_NoChange : PySem.W.findIn K (.ref EC_NoChange) "__setattr__" = some (some (.builtin "object.__setattr__")))
    (en_NoChange : PySem.W.findIn K (.ref EC_NoChange) "path" = some none)
    (eI_NoChange : PySem.W.findIn K (.ref EC_NoChange) "__init__" = some (some (.ref fI_NoChange)))
    (eT_NoChange : PySem.W.typeIn K (.ref fI_NoChange) = some (.type "function"))
    (eL_NoChange : K.lookup fI_NoChange = some ⟨ocI_NoChange, odI_NoChange, .func (PySem.W.fnOf "__init__" "NoChange.__init__" (PySem.XkNoChange.iA p1_NoChange p2_NoChange) (PySem.XkNoChange.iB p3_NoChange p4_NoChange p5_NoChange p6_NoChange) PySem.XkNoChange.iS .none .none dcI_NoChange pmI_NoChange anI_NoChange cdI_NoChange ctI_NoChange), slI_NoChange⟩)
    (ec_NoChange : PySem.W.codeIn K cdI_NoChange "NoChange.__init__" = true)
    (eK_NoChange : PySem.W.keepIn K (.ref EC_NoChange) = true)
    (ety_NoChange : PySem.W.typeIn K (.ref EC_NoChange) = some (.type "type"))
    (esu_NoChange : PySem.W.subIn K (.ref EC_NoChange) (.ref EC_NoChange) = some true)
    (eg_NoDocument : PySem.W.findIn K (.ref EC_NoDocument) "__getattribute__" = some (some (.builtin "BaseException.__getattribute__")))
    (ek_NoDocument : PySem.W.findIn K (.ref EC_NoDocument) "__getattr__" = some none)
    (ee_NoDocument : PySem.W.subIn K (.ref EC_NoDocument) (.type "BaseException") = some true)
    (ed_NoDocument : PySem.W.hasDictIn K EC_NoDocument = true)
    (ei_NoDocument : PySem.W.isClsIn K EC_NoDocument = true)
    (ea_NoDocument : PySem.W.findIn K (.ref EC_NoDocument) "__class__" = some (some (.builtin "object.__class__")))
    (eo_NoDocument : PySem.W.mroIn K EC_NoDocument (.type "object") = some true)
    (xf_NoDocument_path : PySem.W.findIn K (.ref EC_NoDocument) "path" = some none)
    (xi_NoDocument_Large : PySem.W.subIn K (.ref EC_NoDocument) (.ref EC_Large) = some false)
    (xj_NoDocument_Large : PySem.W.isClsIn K EC_Large = true)
    (xk_NoDocument_Large : PySem.W.typeIn K (.ref EC_Large) = some (.type "type"))
    (xl_NoDocument_Large : PySem.W.subIn K (.ref EC_NoDocument) (.ref EC_NoDocument) = some true)
    (xi_NoDocument_BadCount : PySem.W.subIn K (.ref EC_NoDocument) (.ref EC_BadCount) = some false)
    (xj_NoDocument_BadCount : PySem.W.isClsIn K EC_BadCount = true)
    (xk_NoDocument_BadCount : PySem.W.typeIn K (.ref EC_BadCount) = some (.type "type"))
    (xl_NoDocument_BadCount : PySem.W.subIn K (.ref EC_NoDocument) (.ref EC_NoDocument) = some true)
    (xi_NoDocument_NoChange : PySem.W.subIn K (.ref EC_NoDocument) (.ref EC_NoChange) = some false)
    (xj_NoDocument_NoChange : PySem.W.isClsIn K EC_NoChange = true)
    (xk_NoDocument_NoChange : PySem.W.typeIn K (.ref EC_NoChange) = some (.type "type"))
    (xl_NoDocument_NoChange : PySem.W.subIn K (.ref EC_NoDocument) (.ref EC_NoDocument) = some true)
    (xi_NoDocument_NoTime : PySem.W.subIn K (.ref EC_NoDocument) (.ref EC_NoTime) = some false)
    (xj_NoDocument_NoTime : PySem.W.isClsIn K EC_NoTime = true)
    (xk_NoDocument_NoTime : PySem.W.typeIn K (.ref EC_NoTime) = some (.type "type"))
    (xl_NoDocument_NoTime : PySem.W.subIn K (.ref EC_NoDocument) (.ref EC_NoDocument) = some true)
    (xi_NoDocument_NoBack : PySem.W.subIn K (.ref EC_NoDocument) (.ref EC_NoBack) = some false)
    (xj_NoDocument_NoBack : PySem.W.isClsIn K EC_NoBack = true)
    (xk_NoDocument_NoBack : PySem.W.typeIn K (.ref EC_NoBack) = some (.type "type"))
    (xl_NoDocument_NoBack : PySem.W.subIn K (.ref EC_NoDocument) (.ref EC_NoDocument) = some true)
    (xi_NoDocument_BadText : PySem.W.subIn K (.ref EC_NoDocument) (.ref EC_BadText) = some false)
    (xj_NoDocument_BadText : PySem.W.isClsIn K EC_BadText = true)
    (xk_NoDocument_BadText : PySem.W.typeIn K (.ref EC_BadText) = some (.type "type"))
    (xl_NoDocument_BadText : PySem.W.subIn K (.ref EC_NoDocument) (.ref EC_NoDocument) = some true)
    (xi_NoDocument_PatchError : PySem.W.subIn K (.ref EC_NoDocument) (.ref EC_PatchError) = some true)
    (xj_NoDocument_PatchError : PySem.W.isClsIn K EC_PatchError = true)
    (xk_NoDocument_PatchError : PySem.W.typeIn K (.ref EC_PatchError) = some (.type "type"))
    (xl_NoDocument_PatchError : PySem.W.subIn K (.ref EC_NoDocument) (.ref EC_NoDocument) = some true)
    (xL_NoDocument : K.lookup EC_NoDocument = some (excClassObj nm_NoDocument q_NoDocument EC_NoDocument N_NoDocument bs_NoDocument [.ref EC_PatchError, .type "ValueError", .type "Exception", .type "BaseException", .type "object"] true sn_NoDocument sub_NoDocument ab_NoDocument col_NoDocument dd_NoDocument m0_NoDocument m1_NoDocument m2_NoDocument m3_NoDocument m5_NoDocument "ValueError.__new__"))
    (es_NoDocument : PySem.W.findIn K (.ref EC_NoDocument) "__setattr__" = some (some (.builtin "object.__setattr__")))
    (en_NoDocument : PySem.W.findIn K (.ref EC_NoDocument) "path" = some none)
    (eI_NoDocument : PySem.W.findIn K (.ref EC_NoDocument) "__init__" = some (some (.ref fI_NoDocument)))
    (eT_NoDocument : PySem.W.typeIn K (.ref fI_NoDocument) = some (.type "function"))
    (eL_NoDocument : K.lookup fI_NoDocument = some ⟨ocI_NoDocument, odI_NoDocument, .func (PySem.W.fnOf "__init__" "NoDocument.__init__" (PySem.XkNoDocument.iA p1_NoDocument p2_NoDocument) (PySem.XkNoDocument.iB p3_NoDocument p4_NoDocument p5_NoDocument p6_NoDocument) PySem.XkNoDocument.iS .none .none dcI_NoDocument pmI_NoDocument anI_NoDocument cdI_NoDocument ctI_NoDocument), slI_NoDocument⟩)
    (ec_NoDocument : PySem.W.codeIn K cdI_NoDocument "NoDocument.__init__" = true)
    (eK_NoDocument : PySem.W.keepIn K (.ref EC_NoDocument) = true)
    (ety_NoDocument : PySem.W.typeIn K (.ref EC_NoDocument) = some (.type "type"))
    (esu_NoDocument : PySem.W.subIn K (.ref EC_NoDocument) (.ref EC_NoDocument) = some true)
    (eg_NoTime : PySem.W.findIn K (.ref EC_NoTime) "__getattribute__" = some (some (.builtin "BaseException.__getattribute__")))
    (ek_NoTime : PySem.W.findIn K (.ref EC_NoTime) "__getattr__" = some none)
    (ee_NoTime : PySem.W.subIn K (.ref EC_NoTime) (.type "BaseException") = some true)
    (ed_NoTime : PySem.W.hasDictIn K EC_NoTime = true)
    (ei_NoTime : PySem.W.isClsIn K EC_NoTime = true)
    (ea_NoTime : PySem.W.findIn K (.ref EC_NoTime) "__class__" = some (some (.builtin "object.__class__")))
    (eo_NoTime : PySem.W.mroIn K EC_NoTime (.type "object") = some true)
    (xf_NoTime_time : PySem.W.findIn K (.ref EC_NoTime) "time" = some none)
    (xi_NoTime_NoDocument : PySem.W.subIn K (.ref EC_NoTime) (.ref EC_NoDocument) = some false)
    (xj_NoTime_NoDocument : PySem.W.isClsIn K EC_NoDocument = true)
    (xk_NoTime_NoDocument : PySem.W.typeIn K (.ref EC_NoDocument) = some (.type "type"))
    (xl_NoTime_NoDocument : PySem.W.subIn K (.ref EC_NoTime) (.ref EC_NoTime) = some true)
    (xi_NoTime_Large : PySem.W.subIn K (.ref EC_NoTime) (.ref EC_Large) = some false)
    (xj_NoTime_Large : PySem.W.isClsIn K EC_Large = true)
    (xk_NoTime_Large : PySem.W.typeIn K (.ref EC_Large) = some (.type "type"))
    (xl_NoTime_Large : PySem.W.subIn K (.ref EC_NoTime) (.ref EC_NoTime) = some true)
    (xi_NoTime_BadCount : PySem.W.subIn K (.ref EC_NoTime) (.ref EC_BadCount) = some false)
    (xj_NoTime_BadCount : PySem.W.isClsIn K EC_BadCount = true)
    (xk_NoTime_BadCount : PySem.W.typeIn K (.ref EC_BadCount) = some (.type "type"))
    (xl_NoTime_BadCount : PySem.W.subIn K (.ref EC_NoTime) (.ref EC_NoTime) = some true)
    (xi_NoTime_NoChange : PySem.W.subIn K (.ref EC_NoTime) (.ref EC_NoChange) = some false)
    (xj_NoTime_NoChange : PySem.W.isClsIn K EC_NoChange = true)
    (xk_NoTime_NoChange : PySem.W.typeIn K (.ref EC_NoChange) = some (.type "type"))
    (xl_NoTime_NoChange : PySem.W.subIn K (.ref EC_NoTime) (.ref EC_NoTime) = some true)
    (xi_NoTime_NoBack : PySem.W.subIn K (.ref EC_NoTime) (.ref EC_NoBack) = some false)
    (xj_NoTime_NoBack : PySem.W.isClsIn K EC_NoBack = true)
    (xk_NoTime_NoBack : PySem.W.typeIn K (.ref EC_NoBack) = some (.type "type"))
    (xl_NoTime_NoBack : PySem.W.subIn K (.ref EC_NoTime) (.ref EC_NoTime) = some true)
    (xi_NoTime_BadText : PySem.W.subIn K (.ref EC_NoTime) (.ref EC_BadText) = some false)
    (xj_NoTime_BadText : PySem.W.isClsIn K EC_BadText = true)
    (xk_NoTime_BadText : PySem.W.typeIn K (.ref EC_BadText) = some (.type "type"))
    (xl_NoTime_BadText : PySem.W.subIn K (.ref EC_NoTime) (.ref EC_NoTime) = some true)
    (xi_NoTime_PatchError : PySem.W.subIn K (.ref EC_NoTime) (.ref EC_PatchError) = some true)
    (xj_NoTime_PatchError : PySem.W.isClsIn K EC_PatchError = true)
    (xk_NoTime_PatchError : PySem.W.typeIn K (.ref EC_PatchError) = some (.type "type"))
    (xl_NoTime_PatchError : PySem.W.subIn K (.ref EC_NoTime) (.ref EC_NoTime) = some true)
    (xL_NoTime : K.lookup EC_NoTime = some (excClassObj nm_NoTime q_NoTime EC_NoTime N_NoTime bs_NoTime [.ref EC_PatchError, .type "ValueError", .type "Exception", .type "BaseException", .type "object"] true sn_NoTime sub_NoTime ab_NoTime col_NoTime dd_NoTime m0_NoTime m1_NoTime m2_NoTime m3_NoTime m5_NoTime "ValueError.__new__"))
    (es_NoTime : PySem.W.findIn K (.ref EC_NoTime) "__setattr__" = some (some (.builtin "object.__setattr__")))
    (en_NoTime : PySem.W.findIn K (.ref EC_NoTime) "time" = some none)
    (eI_NoTime : PySem.W.findIn K (.ref EC_NoTime) "__init__" = some (some (.ref fI_NoTime)))
    (eT_NoTime : PySem.W.typeIn K (.ref fI_NoTime) = some (.type "function"))
    (eL_NoTime : K.lookup fI_NoTime = some ⟨ocI_NoTime, odI_NoTime, .func (PySem.W.fnOf "__init__" "NoTime.__init__" (PySem.XkNoTime.iA p1_NoTime p2_NoTime) (PySem.XkNoTime.iB p3_NoTime p4_NoTime p5_NoTime p6_NoTime) PySem.XkNoTime.iS .none .none dcI_NoTime pmI_NoTime anI_NoTime cdI_NoTime ctI_NoTime), slI_NoTime⟩)
    (ec_NoTime : PySem.W.codeIn K cdI_NoTime "NoTime.__init__" = true)
    (eK_NoTime : PySem.W.keepIn K (.ref EC_NoTime) = true)
    (ety_NoTime : PySem.W.typeIn K (.ref EC_NoTime) = some (.type "type"))
    (esu_NoTime : PySem.W.subIn K (.ref EC_NoTime) (.ref EC_NoTime) = some true)
    (ns_NoDocument : PySem.W.subIn K (.ref EC_NoDocument) (.ref EC_NoDocument) = some true)
    (nq_NoDocument : PySem.W.typeIn K (.ref EC_NoDocument) = some (.type "type"))
    (ve_NoDocument : PySem.W.subIn K (.ref EC_NoDocument) (.type "ValueError") = some true)
    (ns_Large : PySem.W.subIn K (.ref EC_Large) (.ref EC_Large) = some true)
    (nq_Large : PySem.W.typeIn K (.ref EC_Large) = some (.type "type"))
    (ve_Large : PySem.W.subIn K (.ref EC_Large) (.type "ValueError") = some true)
    (ns_BadCount : PySem.W.subIn K (.ref EC_BadCount) (.ref EC_BadCount) = some true)
    (nq_BadCount : PySem.W.typeIn K (.ref EC_BadCount) = some (.type "type"))
    (ve_BadCount : PySem.W.subIn K (.ref EC_BadCount) (.type "ValueError") = some true)
    (ns_NoChange : PySem.W.subIn K (.ref EC_NoChange) (.ref EC_NoChange) = some true)
    (nq_NoChange : PySem.W.typeIn K (.ref EC_NoChange) = some (.type "type"))
    (ve_NoChange : PySem.W.subIn K (.ref EC_NoChange) (.type "ValueError") = some true)
    (ns_NoTime : PySem.W.subIn K (.ref EC_NoTime) (.ref EC_NoTime) = some true)
    (nq_NoTime : PySem.W.typeIn K (.ref EC_NoTime) = some (.type "type"))
    (ve_NoTime : PySem.W.subIn K (.ref EC_NoTime) (.type "ValueError") = some true)
    (ns_NoBack : PySem.W.subIn K (.ref EC_NoBack) (.ref EC_NoBack) = some true)
    (nq_NoBack : PySem.W.typeIn K (.ref EC_NoBack) = some (.type "type"))
    (ve_NoBack : PySem.W.subIn K (.ref EC_NoBack) (.type "ValueError") = some true)
    (ns_BadText : PySem.W.subIn K (.ref EC_BadText) (.ref EC_BadText) = some true)
    (nq_BadText : PySem.W.typeIn K (.ref EC_BadText) = some (.type "type"))
    (ve_BadText : PySem.W.subIn K (.ref EC_BadText) (.type "ValueError") = some true)
    (nX_NoBack : PySem.W.excIn K EC_NoBack [.type "ValueError", .type "Exception", .type "BaseException", .type "object"] "ValueError.__new__" = true)
    (nK_NoBack : PySem.W.keepIn K (.ref EC_NoBack) = true)
    (vc_PatchError : PySem.W.isClsIn K EC_PatchError = true)
    (vt_PatchError : PySem.W.typeIn K (.ref EC_PatchError) = some (.type "type"))
    (vs_PatchError : PySem.W.subIn K (.type "ValueError") (.ref EC_PatchError) = some false)
    : ∃ fd : FuncData, (∀ (s : Shared) (v : Value), BindsTo s fd ⟨[v], []⟩ [("_law_script", v)]) ∧ ∀ base : Heap, K.In base → base.Ns mainGlobals mg → FnG l.prog w K mg base 28 fa fd ["_law_script"] spLaw := by
  have e := hfa.symm.trans (PySem.W.mg_of X G a14)
  cases e
  have F0 := fun_mk (st := st_law_errors) l0 c0 k0
  have F1 := fun_mk (st := st_NoDocument_told) l1 c1 k1
  have F2 := fun_mk (st := st_Large_told) l2 c2 k2
  have F3 := fun_mk (st := st_BadCount_told) l3 c3 k3
  have F4 := fun_mk (st := st_NoChange_told) l4 c4 k4
  have F5 := fun_mk (st := st_NoTime_told) l5 c5 k5
  have F6 := fun_mk (st := st_NoBack_told) l6 c6 k6
  have F7 := fun_mk (st := st_BadText_told) l7 c7 k7
  have F8 := fun_mk (st := st_law_fields) l8 c8 k8
  have F9 := fun_mk (st := st_law_classes) l9 c9 k9
  have F10 := fun_mk (st := st_law_draw) l10 c10 k10
  have F11 := fun_mk (st := st_law_pick) l11 c11 k11
  have F12 := fun_mk (st := st_law_right) l12 c12 k12
  have F13 := fun_mk (st := st_law_source) l13 c13 k13
  have F14 := fun_mk (st := st_law) l14 c14 k14
  have b0 := F0.binds (ps := ["_law_way", "_law_word", "_law_number"]) fun _ _ _ _ _ _ us hl => match us, hl with | [_, _, _], _ => rfl
  have b1 := F1.binds (ps := ["self"]) fun _ _ _ _ _ _ us hl => match us, hl with | [_], _ => rfl
  have b2 := F2.binds (ps := ["self"]) fun _ _ _ _ _ _ us hl => match us, hl with | [_], _ => rfl
  have b3 := F3.binds (ps := ["self"]) fun _ _ _ _ _ _ us hl => match us, hl with | [_], _ => rfl
  have b4 := F4.binds (ps := ["self"]) fun _ _ _ _ _ _ us hl => match us, hl with | [_], _ => rfl
  have b5 := F5.binds (ps := ["self"]) fun _ _ _ _ _ _ us hl => match us, hl with | [_], _ => rfl
  have b6 := F6.binds (ps := ["self"]) fun _ _ _ _ _ _ us hl => match us, hl with | [_], _ => rfl
  have b7 := F7.binds (ps := ["self"]) fun _ _ _ _ _ _ us hl => match us, hl with | [_], _ => rfl
  have b8 := F8.binds (ps := ["_law_e", "_law_name_so"]) fun _ _ _ _ _ _ us hl => match us, hl with | [_, _], _ => rfl
  have b9 := F9.binds (ps := ["_law_e"]) fun _ _ _ _ _ _ us hl => match us, hl with | [_], _ => rfl
  have b10 := F10.binds (ps := ["_law_source_here", "_law_many"]) fun _ _ _ _ _ _ us hl => match us, hl with | [_, _], _ => rfl
  have b11 := F11.binds (ps := ["_law_source_here", "_law_items"]) fun _ _ _ _ _ _ us hl => match us, hl with | [_, _], _ => rfl
  have b12 := F12.binds (ps := ["_law_source_here"]) fun _ _ _ _ _ _ us hl => match us, hl with | [_], _ => rfl
  have b13 := F13.binds (ps := ["_law_cell"]) fun _ _ _ _ _ _ us hl => match us, hl with | [_], _ => rfl
  have b14 := F14.binds (ps := ["_law_script"]) fun _ _ _ _ _ _ us hl => match us, hl with | [_], _ => rfl
  have T : Txt K mg := ⟨⟨_, _, PySem.W.mg_of X G a0, F0, b0⟩,
    ⟨_, _, _, PySem.W.mg_of X G eC_NoDocument, ⟨eg_NoDocument, ek_NoDocument, ee_NoDocument, ed_NoDocument⟩, a1, i1, k1, F1, b1⟩,
    ⟨_, _, _, PySem.W.mg_of X G eC_Large, ⟨eg_Large, ek_Large, ee_Large, ed_Large⟩, a2, i2, k2, F2, b2⟩,
    ⟨_, _, _, PySem.W.mg_of X G eC_BadCount, ⟨eg_BadCount, ek_BadCount, ee_BadCount, ed_BadCount⟩, a3, i3, k3, F3, b3⟩,
    ⟨_, _, _, PySem.W.mg_of X G eC_NoChange, ⟨eg_NoChange, ek_NoChange, ee_NoChange, ed_NoChange⟩, a4, i4, k4, F4, b4⟩,
    ⟨_, _, _, PySem.W.mg_of X G eC_NoTime, ⟨eg_NoTime, ek_NoTime, ee_NoTime, ed_NoTime⟩, a5, i5, k5, F5, b5⟩,
    ⟨_, _, _, PySem.W.mg_of X G eC_NoBack, ⟨eg_NoBack, ek_NoBack, ee_NoBack, ed_NoBack⟩, a6, i6, k6, F6, b6⟩,
    ⟨_, _, _, PySem.W.mg_of X G eC_BadText, ⟨eg_BadText, ek_BadText, ee_BadText, ed_BadText⟩, a7, i7, k7, F7, b7⟩,
    ⟨_, _, PySem.W.mg_of X G a8, F8, b8⟩,
    ⟨_, _, PySem.W.mg_of X G a9, F9, b9⟩,
    ⟨_, _, PySem.W.mg_of X G a10, F10, b10⟩,
    ⟨_, _, PySem.W.mg_of X G a11, F11, b11⟩,
    ⟨_, _, PySem.W.mg_of X G a12, F12, b12⟩,
    ⟨_, _, PySem.W.mg_of X G a13, F13, b13⟩,
    ⟨_, _, PySem.W.mg_of X G a14, F14, b14⟩,
    PySem.W.mg_none_of X G z_ValueError,
    PySem.W.mg_none_of X G z_abs,
    PySem.W.mg_none_of X G z_isinstance,
    PySem.W.mg_none_of X G z_len,
    PySem.W.mg_none_of X G z_zip,
    ⟨EC_NoDocument, fI_NoDocument, ⟨PySem.W.mg_of X G eC_NoDocument, ⟨_, _, _, _, _, _, _, _, _, _, _, _, _, _, _, xL_NoDocument, refs_one⟩, es_NoDocument, eg_NoDocument, ek_NoDocument, en_NoDocument, eI_NoDocument, eT_NoDocument, eK_NoDocument, ee_NoDocument, ety_NoDocument, ed_NoDocument, PySem.W.exm_ref ee_NoDocument ed_NoDocument ety_NoDocument esu_NoDocument, ⟨_, _, _, _, _, _, _, _, _, _, _, _, _, _, eL_NoDocument, ec_NoDocument⟩⟩⟩,
    ⟨EC_NoDocument, PySem.W.mg_of X G eC_NoDocument, ⟨ei_NoDocument, eg_NoDocument, ek_NoDocument, ee_NoDocument, ea_NoDocument, eh_sp, eh_tk, eo_NoDocument⟩, ed_NoDocument, fun fl hfl => by
      simp only [List.mem_cons, List.not_mem_nil, or_false] at hfl; rcases hfl with rfl
      · exact xf_NoDocument_path,
    fun p hp => by
      simp only [List.mem_cons, List.not_mem_nil, or_false] at hp; rcases hp with rfl | rfl | rfl | rfl | rfl | rfl | rfl | rfl
      · exact ⟨EC_NoDocument, PySem.W.mg_of X G eC_NoDocument, by unfold PySem.W.kitOne; simp⟩
      · exact ⟨EC_Large, PySem.W.mg_of X G eC_Large, kit_of xj_NoDocument_Large xk_NoDocument_Large xi_NoDocument_Large xl_NoDocument_Large⟩
      · exact ⟨EC_BadCount, PySem.W.mg_of X G eC_BadCount, kit_of xj_NoDocument_BadCount xk_NoDocument_BadCount xi_NoDocument_BadCount xl_NoDocument_BadCount⟩
      · exact ⟨EC_NoChange, PySem.W.mg_of X G eC_NoChange, kit_of xj_NoDocument_NoChange xk_NoDocument_NoChange xi_NoDocument_NoChange xl_NoDocument_NoChange⟩
      · exact ⟨EC_NoTime, PySem.W.mg_of X G eC_NoTime, kit_of xj_NoDocument_NoTime xk_NoDocument_NoTime xi_NoDocument_NoTime xl_NoDocument_NoTime⟩
      · exact ⟨EC_NoBack, PySem.W.mg_of X G eC_NoBack, kit_of xj_NoDocument_NoBack xk_NoDocument_NoBack xi_NoDocument_NoBack xl_NoDocument_NoBack⟩
      · exact ⟨EC_BadText, PySem.W.mg_of X G eC_BadText, kit_of xj_NoDocument_BadText xk_NoDocument_BadText xi_NoDocument_BadText xl_NoDocument_BadText⟩
      · exact ⟨EC_PatchError, PySem.W.mg_of X G eC_PatchError, kit_of xj_NoDocument_PatchError xk_NoDocument_PatchError xi_NoDocument_PatchError xl_NoDocument_PatchError⟩, kit_ofT ve_NoDocument⟩,
    ⟨EC_Large, fI_Large, ⟨PySem.W.mg_of X G eC_Large, ⟨_, _, _, _, _, _, _, _, _, _, _, _, _, _, _, xL_Large, refs_one⟩, es_Large, eg_Large, ek_Large, en_Large, eI_Large, eT_Large, eK_Large, ee_Large, ety_Large, ed_Large, PySem.W.exm_ref ee_Large ed_Large ety_Large esu_Large, ⟨_, _, _, _, _, _, _, _, _, _, _, _, _, _, eL_Large, ec_Large⟩⟩⟩,
    ⟨EC_Large, PySem.W.mg_of X G eC_Large, ⟨ei_Large, eg_Large, ek_Large, ee_Large, ea_Large, eh_sp, eh_tk, eo_Large⟩, ed_Large, fun fl hfl => by
      simp only [List.mem_cons, List.not_mem_nil, or_false] at hfl; rcases hfl with rfl
      · exact xf_Large_what,
    fun p hp => by
      simp only [List.mem_cons, List.not_mem_nil, or_false] at hp; rcases hp with rfl | rfl | rfl | rfl | rfl | rfl | rfl | rfl
      · exact ⟨EC_NoDocument, PySem.W.mg_of X G eC_NoDocument, kit_of xj_Large_NoDocument xk_Large_NoDocument xi_Large_NoDocument xl_Large_NoDocument⟩
      · exact ⟨EC_Large, PySem.W.mg_of X G eC_Large, by unfold PySem.W.kitOne; simp⟩
      · exact ⟨EC_BadCount, PySem.W.mg_of X G eC_BadCount, kit_of xj_Large_BadCount xk_Large_BadCount xi_Large_BadCount xl_Large_BadCount⟩
      · exact ⟨EC_NoChange, PySem.W.mg_of X G eC_NoChange, kit_of xj_Large_NoChange xk_Large_NoChange xi_Large_NoChange xl_Large_NoChange⟩
      · exact ⟨EC_NoTime, PySem.W.mg_of X G eC_NoTime, kit_of xj_Large_NoTime xk_Large_NoTime xi_Large_NoTime xl_Large_NoTime⟩
      · exact ⟨EC_NoBack, PySem.W.mg_of X G eC_NoBack, kit_of xj_Large_NoBack xk_Large_NoBack xi_Large_NoBack xl_Large_NoBack⟩
      · exact ⟨EC_BadText, PySem.W.mg_of X G eC_BadText, kit_of xj_Large_BadText xk_Large_BadText xi_Large_BadText xl_Large_BadText⟩
      · exact ⟨EC_PatchError, PySem.W.mg_of X G eC_PatchError, kit_of xj_Large_PatchError xk_Large_PatchError xi_Large_PatchError xl_Large_PatchError⟩, kit_ofT ve_Large⟩,
    ⟨EC_BadCount, fI_BadCount, ⟨PySem.W.mg_of X G eC_BadCount, ⟨_, _, _, _, _, _, _, _, _, _, _, _, _, _, _, xL_BadCount, refs_one⟩, es_BadCount, eg_BadCount, ek_BadCount, en_BadCount, en2_BadCount, eI_BadCount, eT_BadCount, eK_BadCount, ee_BadCount, ety_BadCount, ed_BadCount, PySem.W.exm_ref ee_BadCount ed_BadCount ety_BadCount esu_BadCount, ⟨_, _, _, _, _, _, _, _, _, _, _, _, _, _, _, _, _, _, _, eL_BadCount, ec_BadCount⟩⟩⟩,
    ⟨EC_BadCount, PySem.W.mg_of X G eC_BadCount, ⟨ei_BadCount, eg_BadCount, ek_BadCount, ee_BadCount, ea_BadCount, eh_sp, eh_tk, eo_BadCount⟩, ed_BadCount, fun fl hfl => by
      simp only [List.mem_cons, List.not_mem_nil, or_false] at hfl; rcases hfl with rfl | rfl
      · exact xf_BadCount_what
      · exact xf_BadCount_count,
    fun p hp => by
      simp only [List.mem_cons, List.not_mem_nil, or_false] at hp; rcases hp with rfl | rfl | rfl | rfl | rfl | rfl | rfl | rfl
      · exact ⟨EC_NoDocument, PySem.W.mg_of X G eC_NoDocument, kit_of xj_BadCount_NoDocument xk_BadCount_NoDocument xi_BadCount_NoDocument xl_BadCount_NoDocument⟩
      · exact ⟨EC_Large, PySem.W.mg_of X G eC_Large, kit_of xj_BadCount_Large xk_BadCount_Large xi_BadCount_Large xl_BadCount_Large⟩
      · exact ⟨EC_BadCount, PySem.W.mg_of X G eC_BadCount, by unfold PySem.W.kitOne; simp⟩
      · exact ⟨EC_NoChange, PySem.W.mg_of X G eC_NoChange, kit_of xj_BadCount_NoChange xk_BadCount_NoChange xi_BadCount_NoChange xl_BadCount_NoChange⟩
      · exact ⟨EC_NoTime, PySem.W.mg_of X G eC_NoTime, kit_of xj_BadCount_NoTime xk_BadCount_NoTime xi_BadCount_NoTime xl_BadCount_NoTime⟩
      · exact ⟨EC_NoBack, PySem.W.mg_of X G eC_NoBack, kit_of xj_BadCount_NoBack xk_BadCount_NoBack xi_BadCount_NoBack xl_BadCount_NoBack⟩
      · exact ⟨EC_BadText, PySem.W.mg_of X G eC_BadText, kit_of xj_BadCount_BadText xk_BadCount_BadText xi_BadCount_BadText xl_BadCount_BadText⟩
      · exact ⟨EC_PatchError, PySem.W.mg_of X G eC_PatchError, kit_of xj_BadCount_PatchError xk_BadCount_PatchError xi_BadCount_PatchError xl_BadCount_PatchError⟩, kit_ofT ve_BadCount⟩,
    ⟨EC_NoChange, fI_NoChange, ⟨PySem.W.mg_of X G eC_NoChange, ⟨_, _, _, _, _, _, _, _, _, _, _, _, _, _, _, xL_NoChange, refs_one⟩, es_NoChange, eg_NoChange, ek_NoChange, en_NoChange, eI_NoChange, eT_NoChange, eK_NoChange, ee_NoChange, ety_NoChange, ed_NoChange, PySem.W.exm_ref ee_NoChange ed_NoChange ety_NoChange esu_NoChange, ⟨_, _, _, _, _, _, _, _, _, _, _, _, _, _, eL_NoChange, ec_NoChange⟩⟩⟩,
    ⟨EC_NoChange, PySem.W.mg_of X G eC_NoChange, ⟨ei_NoChange, eg_NoChange, ek_NoChange, ee_NoChange, ea_NoChange, eh_sp, eh_tk, eo_NoChange⟩, ed_NoChange, fun fl hfl => by
      simp only [List.mem_cons, List.not_mem_nil, or_false] at hfl; rcases hfl with rfl
      · exact xf_NoChange_path,
    fun p hp => by
      simp only [List.mem_cons, List.not_mem_nil, or_false] at hp; rcases hp with rfl | rfl | rfl | rfl | rfl | rfl | rfl | rfl
      · exact ⟨EC_NoDocument, PySem.W.mg_of X G eC_NoDocument, kit_of xj_NoChange_NoDocument xk_NoChange_NoDocument xi_NoChange_NoDocument xl_NoChange_NoDocument⟩
      · exact ⟨EC_Large, PySem.W.mg_of X G eC_Large, kit_of xj_NoChange_Large xk_NoChange_Large xi_NoChange_Large xl_NoChange_Large⟩
      · exact ⟨EC_BadCount, PySem.W.mg_of X G eC_BadCount, kit_of xj_NoChange_BadCount xk_NoChange_BadCount xi_NoChange_BadCount xl_NoChange_BadCount⟩
      · exact ⟨EC_NoChange, PySem.W.mg_of X G eC_NoChange, by unfold PySem.W.kitOne; simp⟩
      · exact ⟨EC_NoTime, PySem.W.mg_of X G eC_NoTime, kit_of xj_NoChange_NoTime xk_NoChange_NoTime xi_NoChange_NoTime xl_NoChange_NoTime⟩
      · exact ⟨EC_NoBack, PySem.W.mg_of X G eC_NoBack, kit_of xj_NoChange_NoBack xk_NoChange_NoBack xi_NoChange_NoBack xl_NoChange_NoBack⟩
      · exact ⟨EC_BadText, PySem.W.mg_of X G eC_BadText, kit_of xj_NoChange_BadText xk_NoChange_BadText xi_NoChange_BadText xl_NoChange_BadText⟩
      · exact ⟨EC_PatchError, PySem.W.mg_of X G eC_PatchError, kit_of xj_NoChange_PatchError xk_NoChange_PatchError xi_NoChange_PatchError xl_NoChange_PatchError⟩, kit_ofT ve_NoChange⟩,
    ⟨EC_NoTime, fI_NoTime, ⟨PySem.W.mg_of X G eC_NoTime, ⟨_, _, _, _, _, _, _, _, _, _, _, _, _, _, _, xL_NoTime, refs_one⟩, es_NoTime, eg_NoTime, ek_NoTime, en_NoTime, eI_NoTime, eT_NoTime, eK_NoTime, ee_NoTime, ety_NoTime, ed_NoTime, PySem.W.exm_ref ee_NoTime ed_NoTime ety_NoTime esu_NoTime, ⟨_, _, _, _, _, _, _, _, _, _, _, _, _, _, eL_NoTime, ec_NoTime⟩⟩⟩,
    ⟨EC_NoTime, PySem.W.mg_of X G eC_NoTime, ⟨ei_NoTime, eg_NoTime, ek_NoTime, ee_NoTime, ea_NoTime, eh_sp, eh_tk, eo_NoTime⟩, ed_NoTime, fun fl hfl => by
      simp only [List.mem_cons, List.not_mem_nil, or_false] at hfl; rcases hfl with rfl
      · exact xf_NoTime_time,
    fun p hp => by
      simp only [List.mem_cons, List.not_mem_nil, or_false] at hp; rcases hp with rfl | rfl | rfl | rfl | rfl | rfl | rfl | rfl
      · exact ⟨EC_NoDocument, PySem.W.mg_of X G eC_NoDocument, kit_of xj_NoTime_NoDocument xk_NoTime_NoDocument xi_NoTime_NoDocument xl_NoTime_NoDocument⟩
      · exact ⟨EC_Large, PySem.W.mg_of X G eC_Large, kit_of xj_NoTime_Large xk_NoTime_Large xi_NoTime_Large xl_NoTime_Large⟩
      · exact ⟨EC_BadCount, PySem.W.mg_of X G eC_BadCount, kit_of xj_NoTime_BadCount xk_NoTime_BadCount xi_NoTime_BadCount xl_NoTime_BadCount⟩
      · exact ⟨EC_NoChange, PySem.W.mg_of X G eC_NoChange, kit_of xj_NoTime_NoChange xk_NoTime_NoChange xi_NoTime_NoChange xl_NoTime_NoChange⟩
      · exact ⟨EC_NoTime, PySem.W.mg_of X G eC_NoTime, by unfold PySem.W.kitOne; simp⟩
      · exact ⟨EC_NoBack, PySem.W.mg_of X G eC_NoBack, kit_of xj_NoTime_NoBack xk_NoTime_NoBack xi_NoTime_NoBack xl_NoTime_NoBack⟩
      · exact ⟨EC_BadText, PySem.W.mg_of X G eC_BadText, kit_of xj_NoTime_BadText xk_NoTime_BadText xi_NoTime_BadText xl_NoTime_BadText⟩
      · exact ⟨EC_PatchError, PySem.W.mg_of X G eC_PatchError, kit_of xj_NoTime_PatchError xk_NoTime_PatchError xi_NoTime_PatchError xl_NoTime_PatchError⟩, kit_ofT ve_NoTime⟩,
    ⟨EC_NoBack, PySem.W.mg_of X G eC_NoBack, nX_NoBack, nK_NoBack, ee_NoBack, nq_NoBack, PySem.W.exm_ref ee_NoBack ed_NoBack nq_NoBack ns_NoBack⟩,
    ⟨EC_NoBack, PySem.W.mg_of X G eC_NoBack, ⟨ei_NoBack, eg_NoBack, ek_NoBack, ee_NoBack, ea_NoBack, eh_sp, eh_tk, eo_NoBack⟩, ed_NoBack, fun fl hfl => by
      simp at hfl,
    fun p hp => by
      simp only [List.mem_cons, List.not_mem_nil, or_false] at hp; rcases hp with rfl | rfl | rfl | rfl | rfl | rfl | rfl | rfl
      · exact ⟨EC_NoDocument, PySem.W.mg_of X G eC_NoDocument, kit_of xj_NoBack_NoDocument xk_NoBack_NoDocument xi_NoBack_NoDocument xl_NoBack_NoDocument⟩
      · exact ⟨EC_Large, PySem.W.mg_of X G eC_Large, kit_of xj_NoBack_Large xk_NoBack_Large xi_NoBack_Large xl_NoBack_Large⟩
      · exact ⟨EC_BadCount, PySem.W.mg_of X G eC_BadCount, kit_of xj_NoBack_BadCount xk_NoBack_BadCount xi_NoBack_BadCount xl_NoBack_BadCount⟩
      · exact ⟨EC_NoChange, PySem.W.mg_of X G eC_NoChange, kit_of xj_NoBack_NoChange xk_NoBack_NoChange xi_NoBack_NoChange xl_NoBack_NoChange⟩
      · exact ⟨EC_NoTime, PySem.W.mg_of X G eC_NoTime, kit_of xj_NoBack_NoTime xk_NoBack_NoTime xi_NoBack_NoTime xl_NoBack_NoTime⟩
      · exact ⟨EC_NoBack, PySem.W.mg_of X G eC_NoBack, by unfold PySem.W.kitOne; simp⟩
      · exact ⟨EC_BadText, PySem.W.mg_of X G eC_BadText, kit_of xj_NoBack_BadText xk_NoBack_BadText xi_NoBack_BadText xl_NoBack_BadText⟩
      · exact ⟨EC_PatchError, PySem.W.mg_of X G eC_PatchError, kit_of xj_NoBack_PatchError xk_NoBack_PatchError xi_NoBack_PatchError xl_NoBack_PatchError⟩, kit_ofT ve_NoBack⟩,
    ⟨EC_BadText, fI_BadText, ⟨PySem.W.mg_of X G eC_BadText, ⟨_, _, _, _, _, _, _, _, _, _, _, _, _, _, _, xL_BadText, refs_one⟩, es_BadText, eg_BadText, ek_BadText, en_BadText, eI_BadText, eT_BadText, eK_BadText, ee_BadText, ety_BadText, ed_BadText, PySem.W.exm_ref ee_BadText ed_BadText ety_BadText esu_BadText, ⟨_, _, _, _, _, _, _, _, _, _, _, _, _, _, eL_BadText, ec_BadText⟩⟩⟩,
    ⟨EC_BadText, PySem.W.mg_of X G eC_BadText, ⟨ei_BadText, eg_BadText, ek_BadText, ee_BadText, ea_BadText, eh_sp, eh_tk, eo_BadText⟩, ed_BadText, fun fl hfl => by
      simp only [List.mem_cons, List.not_mem_nil, or_false] at hfl; rcases hfl with rfl
      · exact xf_BadText_place,
    fun p hp => by
      simp only [List.mem_cons, List.not_mem_nil, or_false] at hp; rcases hp with rfl | rfl | rfl | rfl | rfl | rfl | rfl | rfl
      · exact ⟨EC_NoDocument, PySem.W.mg_of X G eC_NoDocument, kit_of xj_BadText_NoDocument xk_BadText_NoDocument xi_BadText_NoDocument xl_BadText_NoDocument⟩
      · exact ⟨EC_Large, PySem.W.mg_of X G eC_Large, kit_of xj_BadText_Large xk_BadText_Large xi_BadText_Large xl_BadText_Large⟩
      · exact ⟨EC_BadCount, PySem.W.mg_of X G eC_BadCount, kit_of xj_BadText_BadCount xk_BadText_BadCount xi_BadText_BadCount xl_BadText_BadCount⟩
      · exact ⟨EC_NoChange, PySem.W.mg_of X G eC_NoChange, kit_of xj_BadText_NoChange xk_BadText_NoChange xi_BadText_NoChange xl_BadText_NoChange⟩
      · exact ⟨EC_NoTime, PySem.W.mg_of X G eC_NoTime, kit_of xj_BadText_NoTime xk_BadText_NoTime xi_BadText_NoTime xl_BadText_NoTime⟩
      · exact ⟨EC_NoBack, PySem.W.mg_of X G eC_NoBack, kit_of xj_BadText_NoBack xk_BadText_NoBack xi_BadText_NoBack xl_BadText_NoBack⟩
      · exact ⟨EC_BadText, PySem.W.mg_of X G eC_BadText, by unfold PySem.W.kitOne; simp⟩
      · exact ⟨EC_PatchError, PySem.W.mg_of X G eC_PatchError, kit_of xj_BadText_PatchError xk_BadText_PatchError xi_BadText_PatchError xl_BadText_PatchError⟩, kit_ofT ve_BadText⟩,
    ⟨EC_PatchError, PySem.W.mg_of X G eC_PatchError, kit_ofB vc_PatchError vt_PatchError vs_PatchError⟩⟩
  refine ⟨_, fun s v => .of_eq rfl, fun base _ _ => (fin_law (P := l.prog) (w := w) (base := base) T 24 F14).less fun vs H Q E q => sp_of q⟩
theorem walk {l : PySem.W.OpenLaw} {q : Program} {loose : List Str} {XP : (Str → Option Value) → Heap → Prop} {YP : World → Heap → Prop} {d : DefRec} {K : Params → PySem.W.Frag} (hn : l.most = some 63) (hdf : d.params.defaults = [])
    (hY : ∀ (w : World) (h : Heap), YP w h → (K w.params).In h) (hL : ∀ w : World, noL (K w.params) = true)
    (F : ∀ (w : World) (mg : Str → Option Value) (fa : Addr) (h : Heap), (K w.params).In h → h.Ns mainGlobals mg → mg d.name = some (.ref fa) →
      ∃ fd : FuncData, (∀ (s : Shared) (u : Value), BindsTo s fd ⟨[u], []⟩ [("_law_script", u)]) ∧ ∀ base : Heap, (K w.params).In base → base.Ns mainGlobals mg → FnG l.prog w (K w.params) mg base 28 fa fd ["_law_script"] spLaw) :
    PySem.W.WalkO q loose XP YP l.row.toRowW d [] (fun f vs => PySem.call f vs) :=
  walk_g (k := 28) hn hdf ⟨rfl, by decide, by decide⟩ hY hL F
end Tw
open PySem PySem.W PyProof.Rows
set_option maxRecDepth 100000 in
set_option maxHeartbeats 0 in
theorem PySem.Challenge.cw_twopatches_k02_errors_holds : PySem.Challenge.rw_twopatches_k02_errors.Holds := by
  w_on; o_law; k_head; (case hw => w_witness2)
  k_fill
  refine Tw.walk (l := PySem.Challenge.rw_twopatches_k02_errors) rfl rfl (fun w h Y => PySem.W.kIn_of Y) ?hL ?F
  case hL => intro w; rfl
  case F =>
    intro w mg fa h KX G hmg
    refine' Tw.all_mk KX G hmg ?eC_NoDocument ?eC_Large ?eC_BadCount ?eC_NoChange ?eC_NoTime ?eC_NoBack ?eC_BadText ?eC_PatchError ?a0 ?l0 ?c0 ?k0 ?a1 ?i1 ?l1 ?c1 ?k1 ?a2 ?i2 ?l2 ?c2 ?k2 ?a3 ?i3 ?l3 ?c3 ?k3 ?a4 ?i4 ?l4 ?c4 ?k4 ?a5 ?i5 ?l5 ?c5 ?k5 ?a6 ?i6 ?l6 ?c6 ?k6 ?a7 ?i7 ?l7 ?c7 ?k7 ?a8 ?l8 ?c8 ?k8 ?a9 ?l9 ?c9 ?k9 ?a10 ?l10 ?c10 ?k10 ?a11 ?l11 ?c11 ?k11 ?a12 ?l12 ?c12 ?k12 ?a13 ?l13 ?c13 ?k13 ?a14 ?l14 ?c14 ?k14 ?z_ValueError ?z_abs ?z_isinstance ?z_len ?z_zip ?eh_sp ?eh_tk ?eg_BadCount ?ek_BadCount ?ee_BadCount ?ed_BadCount ?ei_BadCount ?ea_BadCount ?eo_BadCount ?xf_BadCount_what ?xf_BadCount_count ?xi_BadCount_NoDocument ?xj_BadCount_NoDocument ?xk_BadCount_NoDocument ?xl_BadCount_NoDocument ?xi_BadCount_Large ?xj_BadCount_Large ?xk_BadCount_Large ?xl_BadCount_Large ?xi_BadCount_NoChange ?xj_BadCount_NoChange ?xk_BadCount_NoChange ?xl_BadCount_NoChange ?xi_BadCount_NoTime ?xj_BadCount_NoTime ?xk_BadCount_NoTime ?xl_BadCount_NoTime ?xi_BadCount_NoBack ?xj_BadCount_NoBack ?xk_BadCount_NoBack ?xl_BadCount_NoBack ?xi_BadCount_BadText ?xj_BadCount_BadText ?xk_BadCount_BadText ?xl_BadCount_BadText ?xi_BadCount_PatchError ?xj_BadCount_PatchError ?xk_BadCount_PatchError ?xl_BadCount_PatchError ?xL_BadCount ?es_BadCount ?en_BadCount ?en2_BadCount ?eI_BadCount ?eT_BadCount ?eL_BadCount ?ec_BadCount ?eK_BadCount ?ety_BadCount ?esu_BadCount ?eg_BadText ?ek_BadText ?ee_BadText ?ed_BadText ?ei_BadText ?ea_BadText ?eo_BadText ?xf_BadText_place ?xi_BadText_NoDocument ?xj_BadText_NoDocument ?xk_BadText_NoDocument ?xl_BadText_NoDocument ?xi_BadText_Large ?xj_BadText_Large ?xk_BadText_Large ?xl_BadText_Large ?xi_BadText_BadCount ?xj_BadText_BadCount ?xk_BadText_BadCount ?xl_BadText_BadCount ?xi_BadText_NoChange ?xj_BadText_NoChange ?xk_BadText_NoChange ?xl_BadText_NoChange ?xi_BadText_NoTime ?xj_BadText_NoTime ?xk_BadText_NoTime ?xl_BadText_NoTime ?xi_BadText_NoBack ?xj_BadText_NoBack ?xk_BadText_NoBack ?xl_BadText_NoBack ?xi_BadText_PatchError ?xj_BadText_PatchError ?xk_BadText_PatchError ?xl_BadText_PatchError ?xL_BadText ?es_BadText ?en_BadText ?eI_BadText ?eT_BadText ?eL_BadText ?ec_BadText ?eK_BadText ?ety_BadText ?esu_BadText ?eg_Large ?ek_Large ?ee_Large ?ed_Large ?ei_Large ?ea_Large ?eo_Large ?xf_Large_what ?xi_Large_NoDocument ?xj_Large_NoDocument ?xk_Large_NoDocument ?xl_Large_NoDocument ?xi_Large_BadCount ?xj_Large_BadCount ?xk_Large_BadCount ?xl_Large_BadCount ?xi_Large_NoChange ?xj_Large_NoChange ?xk_Large_NoChange ?xl_Large_NoChange ?xi_Large_NoTime ?xj_Large_NoTime ?xk_Large_NoTime ?xl_Large_NoTime ?xi_Large_NoBack ?xj_Large_NoBack ?xk_Large_NoBack ?xl_Large_NoBack ?xi_Large_BadText ?xj_Large_BadText ?xk_Large_BadText ?xl_Large_BadText ?xi_Large_PatchError ?xj_Large_PatchError ?xk_Large_PatchError ?xl_Large_PatchError ?xL_Large ?es_Large ?en_Large ?eI_Large ?eT_Large ?eL_Large ?ec_Large ?eK_Large ?ety_Large ?esu_Large ?eg_NoBack ?ek_NoBack ?ee_NoBack ?ed_NoBack ?ei_NoBack ?ea_NoBack ?eo_NoBack ?xi_NoBack_NoDocument ?xj_NoBack_NoDocument ?xk_NoBack_NoDocument ?xl_NoBack_NoDocument ?xi_NoBack_Large ?xj_NoBack_Large ?xk_NoBack_Large ?xl_NoBack_Large ?xi_NoBack_BadCount ?xj_NoBack_BadCount ?xk_NoBack_BadCount ?xl_NoBack_BadCount ?xi_NoBack_NoChange ?xj_NoBack_NoChange ?xk_NoBack_NoChange ?xl_NoBack_NoChange ?xi_NoBack_NoTime ?xj_NoBack_NoTime ?xk_NoBack_NoTime ?xl_NoBack_NoTime ?xi_NoBack_BadText ?xj_NoBack_BadText ?xk_NoBack_BadText ?xl_NoBack_BadText ?xi_NoBack_PatchError ?xj_NoBack_PatchError ?xk_NoBack_PatchError ?xl_NoBack_PatchError ?eg_NoChange ?ek_NoChange ?ee_NoChange ?ed_NoChange ?ei_NoChange ?ea_NoChange ?eo_NoChange ?xf_NoChange_path ?xi_NoChange_NoDocument ?xj_NoChange_NoDocument ?xk_NoChange_NoDocument ?xl_NoChange_NoDocument ?xi_NoChange_Large ?xj_NoChange_Large ?xk_NoChange_Large ?xl_NoChange_Large ?xi_NoChange_BadCount ?xj_NoChange_BadCount ?xk_NoChange_BadCount ?xl_NoChange_BadCount ?xi_NoChange_NoTime ?xj_NoChange_NoTime ?xk_NoChange_NoTime ?xl_NoChange_NoTime ?xi_NoChange_NoBack ?xj_NoChange_NoBack ?xk_NoChange_NoBack ?xl_NoChange_NoBack ?xi_NoChange_BadText ?xj_NoChange_BadText ?xk_NoChange_BadText ?xl_NoChange_BadText ?xi_NoChange_PatchError ?xj_NoChange_PatchError ?xk_NoChange_PatchError ?xl_NoChange_PatchError ?xL_NoChange ?es_NoChange ?en_NoChange ?eI_NoChange ?eT_NoChange ?eL_NoChange ?ec_NoChange ?eK_NoChange ?ety_NoChange ?esu_NoChange ?eg_NoDocument ?ek_NoDocument ?ee_NoDocument ?ed_NoDocument ?ei_NoDocument ?ea_NoDocument ?eo_NoDocument ?xf_NoDocument_path ?xi_NoDocument_Large ?xj_NoDocument_Large ?xk_NoDocument_Large ?xl_NoDocument_Large ?xi_NoDocument_BadCount ?xj_NoDocument_BadCount ?xk_NoDocument_BadCount ?xl_NoDocument_BadCount ?xi_NoDocument_NoChange ?xj_NoDocument_NoChange ?xk_NoDocument_NoChange ?xl_NoDocument_NoChange ?xi_NoDocument_NoTime ?xj_NoDocument_NoTime ?xk_NoDocument_NoTime ?xl_NoDocument_NoTime ?xi_NoDocument_NoBack ?xj_NoDocument_NoBack ?xk_NoDocument_NoBack ?xl_NoDocument_NoBack ?xi_NoDocument_BadText ?xj_NoDocument_BadText ?xk_NoDocument_BadText ?xl_NoDocument_BadText ?xi_NoDocument_PatchError ?xj_NoDocument_PatchError ?xk_NoDocument_PatchError ?xl_NoDocument_PatchError ?xL_NoDocument ?es_NoDocument ?en_NoDocument ?eI_NoDocument ?eT_NoDocument ?eL_NoDocument ?ec_NoDocument ?eK_NoDocument ?ety_NoDocument ?esu_NoDocument ?eg_NoTime ?ek_NoTime ?ee_NoTime ?ed_NoTime ?ei_NoTime ?ea_NoTime ?eo_NoTime ?xf_NoTime_time ?xi_NoTime_NoDocument ?xj_NoTime_NoDocument ?xk_NoTime_NoDocument ?xl_NoTime_NoDocument ?xi_NoTime_Large ?xj_NoTime_Large ?xk_NoTime_Large ?xl_NoTime_Large ?xi_NoTime_BadCount ?xj_NoTime_BadCount ?xk_NoTime_BadCount ?xl_NoTime_BadCount ?xi_NoTime_NoChange ?xj_NoTime_NoChange ?xk_NoTime_NoChange ?xl_NoTime_NoChange ?xi_NoTime_NoBack ?xj_NoTime_NoBack ?xk_NoTime_NoBack ?xl_NoTime_NoBack ?xi_NoTime_BadText ?xj_NoTime_BadText ?xk_NoTime_BadText ?xl_NoTime_BadText ?xi_NoTime_PatchError ?xj_NoTime_PatchError ?xk_NoTime_PatchError ?xl_NoTime_PatchError ?xL_NoTime ?es_NoTime ?en_NoTime ?eI_NoTime ?eT_NoTime ?eL_NoTime ?ec_NoTime ?eK_NoTime ?ety_NoTime ?esu_NoTime ?ns_NoDocument ?nq_NoDocument ?ve_NoDocument ?ns_Large ?nq_Large ?ve_Large ?ns_BadCount ?nq_BadCount ?ve_BadCount ?ns_NoChange ?nq_NoChange ?ve_NoChange ?ns_NoTime ?nq_NoTime ?ve_NoTime ?ns_NoBack ?nq_NoBack ?ve_NoBack ?ns_BadText ?nq_BadText ?ve_BadText ?nX_NoBack ?nK_NoBack ?vc_PatchError ?vt_PatchError ?vs_PatchError
    (case eC_NoDocument => k_is)
    (case eC_Large => k_is)
    (case eC_BadCount => k_is)
    (case eC_NoChange => k_is)
    (case eC_NoTime => k_is)
    (case eC_NoBack => k_is)
    (case eC_BadText => k_is)
    (case eC_PatchError => k_is)
    (case a0 => k_is)
    (case l0 => k_is)
    (case c0 => k_is)
    (case k0 => k_is)
    (case a1 => k_is)
    (case i1 => k_is)
    (case l1 => k_is)
    (case c1 => k_is)
    (case k1 => k_is)
    (case a2 => k_is)
    (case i2 => k_is)
    (case l2 => k_is)
    (case c2 => k_is)
    (case k2 => k_is)
    (case a3 => k_is)
    (case i3 => k_is)
    (case l3 => k_is)
    (case c3 => k_is)
    (case k3 => k_is)
    (case a4 => k_is)
    (case i4 => k_is)
    (case l4 => k_is)
    (case c4 => k_is)
    (case k4 => k_is)
    (case a5 => k_is)
    (case i5 => k_is)
    (case l5 => k_is)
    (case c5 => k_is)
    (case k5 => k_is)
    (case a6 => k_is)
    (case i6 => k_is)
    (case l6 => k_is)
    (case c6 => k_is)
    (case k6 => k_is)
    (case a7 => k_is)
    (case i7 => k_is)
    (case l7 => k_is)
    (case c7 => k_is)
    (case k7 => k_is)
    (case a8 => k_is)
    (case l8 => k_is)
    (case c8 => k_is)
    (case k8 => k_is)
    (case a9 => k_is)
    (case l9 => k_is)
    (case c9 => k_is)
    (case k9 => k_is)
    (case a10 => k_is)
    (case l10 => k_is)
    (case c10 => k_is)
    (case k10 => k_is)
    (case a11 => k_is)
    (case l11 => k_is)
    (case c11 => k_is)
    (case k11 => k_is)
    (case a12 => k_is)
    (case l12 => k_is)
    (case c12 => k_is)
    (case k12 => k_is)
    (case a13 => k_is)
    (case l13 => k_is)
    (case c13 => k_is)
    (case k13 => k_is)
    (case a14 => k_is)
    (case l14 => k_is)
    (case c14 => k_is)
    (case k14 => k_is)
    (case z_ValueError => k_is)
    (case z_abs => k_is)
    (case z_isinstance => k_is)
    (case z_len => k_is)
    (case z_zip => k_is)
    (case eh_sp => k_is)
    (case eh_tk => k_is)
    (case eg_BadCount => k_is)
    (case ek_BadCount => k_is)
    (case ee_BadCount => k_is)
    (case ed_BadCount => k_is)
    (case ei_BadCount => k_is)
    (case ea_BadCount => k_is)
    (case eo_BadCount => k_is)
    (case xf_BadCount_what => k_is)
    (case xf_BadCount_count => k_is)
    (case xi_BadCount_NoDocument => k_is)
    (case xj_BadCount_NoDocument => k_is)
    (case xk_BadCount_NoDocument => k_is)
    (case xl_BadCount_NoDocument => k_is)
    (case xi_BadCount_Large => k_is)
    (case xj_BadCount_Large => k_is)
    (case xk_BadCount_Large => k_is)
    (case xl_BadCount_Large => k_is)
    (case xi_BadCount_NoChange => k_is)
    (case xj_BadCount_NoChange => k_is)
    (case xk_BadCount_NoChange => k_is)
    (case xl_BadCount_NoChange => k_is)
    (case xi_BadCount_NoTime => k_is)
    (case xj_BadCount_NoTime => k_is)
    (case xk_BadCount_NoTime => k_is)
    (case xl_BadCount_NoTime => k_is)
    (case xi_BadCount_NoBack => k_is)
    (case xj_BadCount_NoBack => k_is)
    (case xk_BadCount_NoBack => k_is)
    (case xl_BadCount_NoBack => k_is)
    (case xi_BadCount_BadText => k_is)
    (case xj_BadCount_BadText => k_is)
    (case xk_BadCount_BadText => k_is)
    (case xl_BadCount_BadText => k_is)
    (case xi_BadCount_PatchError => k_is)
    (case xj_BadCount_PatchError => k_is)
    (case xk_BadCount_PatchError => k_is)
    (case xl_BadCount_PatchError => k_is)
    (case xL_BadCount => k_is)
    (case es_BadCount => k_is)
    (case en_BadCount => k_is)
    (case en2_BadCount => k_is)
    (case eI_BadCount => k_is)
    (case eT_BadCount => k_is)
    (case eL_BadCount => k_is)
    (case ec_BadCount => k_is)
    (case eK_BadCount => k_is)
    (case ety_BadCount => k_is)
    (case esu_BadCount => k_is)
    (case eg_BadText => k_is)
    (case ek_BadText => k_is)
    (case ee_BadText => k_is)
    (case ed_BadText => k_is)
    (case ei_BadText => k_is)
    (case ea_BadText => k_is)
    (case eo_BadText => k_is)
    (case xf_BadText_place => k_is)
    (case xi_BadText_NoDocument => k_is)
    (case xj_BadText_NoDocument => k_is)
    (case xk_BadText_NoDocument => k_is)
    (case xl_BadText_NoDocument => k_is)
    (case xi_BadText_Large => k_is)
    (case xj_BadText_Large => k_is)
    (case xk_BadText_Large => k_is)
    (case xl_BadText_Large => k_is)
    (case xi_BadText_BadCount => k_is)
    (case xj_BadText_BadCount => k_is)
    (case xk_BadText_BadCount => k_is)
    (case xl_BadText_BadCount => k_is)
    (case xi_BadText_NoChange => k_is)
    (case xj_BadText_NoChange => k_is)
    (case xk_BadText_NoChange => k_is)
    (case xl_BadText_NoChange => k_is)
    (case xi_BadText_NoTime => k_is)
    (case xj_BadText_NoTime => k_is)
    (case xk_BadText_NoTime => k_is)
    (case xl_BadText_NoTime => k_is)
    (case xi_BadText_NoBack => k_is)
    (case xj_BadText_NoBack => k_is)
    (case xk_BadText_NoBack => k_is)
    (case xl_BadText_NoBack => k_is)
    (case xi_BadText_PatchError => k_is)
    (case xj_BadText_PatchError => k_is)
    (case xk_BadText_PatchError => k_is)
    (case xl_BadText_PatchError => k_is)
    (case xL_BadText => k_is)
    (case es_BadText => k_is)
    (case en_BadText => k_is)
    (case eI_BadText => k_is)
    (case eT_BadText => k_is)
    (case eL_BadText => k_is)
    (case ec_BadText => k_is)
    (case eK_BadText => k_is)
    (case ety_BadText => k_is)
    (case esu_BadText => k_is)
    (case eg_Large => k_is)
    (case ek_Large => k_is)
    (case ee_Large => k_is)
    (case ed_Large => k_is)
    (case ei_Large => k_is)
    (case ea_Large => k_is)
    (case eo_Large => k_is)
    (case xf_Large_what => k_is)
    (case xi_Large_NoDocument => k_is)
    (case xj_Large_NoDocument => k_is)
    (case xk_Large_NoDocument => k_is)
    (case xl_Large_NoDocument => k_is)
    (case xi_Large_BadCount => k_is)
    (case xj_Large_BadCount => k_is)
    (case xk_Large_BadCount => k_is)
    (case xl_Large_BadCount => k_is)
    (case xi_Large_NoChange => k_is)
    (case xj_Large_NoChange => k_is)
    (case xk_Large_NoChange => k_is)
    (case xl_Large_NoChange => k_is)
    (case xi_Large_NoTime => k_is)
    (case xj_Large_NoTime => k_is)
    (case xk_Large_NoTime => k_is)
    (case xl_Large_NoTime => k_is)
    (case xi_Large_NoBack => k_is)
    (case xj_Large_NoBack => k_is)
    (case xk_Large_NoBack => k_is)
    (case xl_Large_NoBack => k_is)
    (case xi_Large_BadText => k_is)
    (case xj_Large_BadText => k_is)
    (case xk_Large_BadText => k_is)
    (case xl_Large_BadText => k_is)
    (case xi_Large_PatchError => k_is)
    (case xj_Large_PatchError => k_is)
    (case xk_Large_PatchError => k_is)
    (case xl_Large_PatchError => k_is)
    (case xL_Large => k_is)
    (case es_Large => k_is)
    (case en_Large => k_is)
    (case eI_Large => k_is)
    (case eT_Large => k_is)
    (case eL_Large => k_is)
    (case ec_Large => k_is)
    (case eK_Large => k_is)
    (case ety_Large => k_is)
    (case esu_Large => k_is)
    (case eg_NoBack => k_is)
    (case ek_NoBack => k_is)
    (case ee_NoBack => k_is)
    (case ed_NoBack => k_is)
    (case ei_NoBack => k_is)
    (case ea_NoBack => k_is)
    (case eo_NoBack => k_is)
    (case xi_NoBack_NoDocument => k_is)
    (case xj_NoBack_NoDocument => k_is)
    (case xk_NoBack_NoDocument => k_is)
    (case xl_NoBack_NoDocument => k_is)
    (case xi_NoBack_Large => k_is)
    (case xj_NoBack_Large => k_is)
    (case xk_NoBack_Large => k_is)
    (case xl_NoBack_Large => k_is)
    (case xi_NoBack_BadCount => k_is)
    (case xj_NoBack_BadCount => k_is)
    (case xk_NoBack_BadCount => k_is)
    (case xl_NoBack_BadCount => k_is)
    (case xi_NoBack_NoChange => k_is)
    (case xj_NoBack_NoChange => k_is)
    (case xk_NoBack_NoChange => k_is)
    (case xl_NoBack_NoChange => k_is)
    (case xi_NoBack_NoTime => k_is)
    (case xj_NoBack_NoTime => k_is)
    (case xk_NoBack_NoTime => k_is)
    (case xl_NoBack_NoTime => k_is)
    (case xi_NoBack_BadText => k_is)
    (case xj_NoBack_BadText => k_is)
    (case xk_NoBack_BadText => k_is)
    (case xl_NoBack_BadText => k_is)
    (case xi_NoBack_PatchError => k_is)
    (case xj_NoBack_PatchError => k_is)
    (case xk_NoBack_PatchError => k_is)
    (case xl_NoBack_PatchError => k_is)
    (case eg_NoChange => k_is)
    (case ek_NoChange => k_is)
    (case ee_NoChange => k_is)
    (case ed_NoChange => k_is)
    (case ei_NoChange => k_is)
    (case ea_NoChange => k_is)
    (case eo_NoChange => k_is)
    (case xf_NoChange_path => k_is)
    (case xi_NoChange_NoDocument => k_is)
    (case xj_NoChange_NoDocument => k_is)
    (case xk_NoChange_NoDocument => k_is)
    (case xl_NoChange_NoDocument => k_is)
    (case xi_NoChange_Large => k_is)
    (case xj_NoChange_Large => k_is)
    (case xk_NoChange_Large => k_is)
    (case xl_NoChange_Large => k_is)
    (case xi_NoChange_BadCount => k_is)
    (case xj_NoChange_BadCount => k_is)
    (case xk_NoChange_BadCount => k_is)
    (case xl_NoChange_BadCount => k_is)
    (case xi_NoChange_NoTime => k_is)
    (case xj_NoChange_NoTime => k_is)
    (case xk_NoChange_NoTime => k_is)
    (case xl_NoChange_NoTime => k_is)
    (case xi_NoChange_NoBack => k_is)
    (case xj_NoChange_NoBack => k_is)
    (case xk_NoChange_NoBack => k_is)
    (case xl_NoChange_NoBack => k_is)
    (case xi_NoChange_BadText => k_is)
    (case xj_NoChange_BadText => k_is)
    (case xk_NoChange_BadText => k_is)
    (case xl_NoChange_BadText => k_is)
    (case xi_NoChange_PatchError => k_is)
    (case xj_NoChange_PatchError => k_is)
    (case xk_NoChange_PatchError => k_is)
    (case xl_NoChange_PatchError => k_is)
    (case xL_NoChange => k_is)
    (case es_NoChange => k_is)
    (case en_NoChange => k_is)
    (case eI_NoChange => k_is)
    (case eT_NoChange => k_is)
    (case eL_NoChange => k_is)
    (case ec_NoChange => k_is)
    (case eK_NoChange => k_is)
    (case ety_NoChange => k_is)
    (case esu_NoChange => k_is)
    (case eg_NoDocument => k_is)
    (case ek_NoDocument => k_is)
    (case ee_NoDocument => k_is)
    (case ed_NoDocument => k_is)
    (case ei_NoDocument => k_is)
    (case ea_NoDocument => k_is)
    (case eo_NoDocument => k_is)
    (case xf_NoDocument_path => k_is)
    (case xi_NoDocument_Large => k_is)
    (case xj_NoDocument_Large => k_is)
    (case xk_NoDocument_Large => k_is)
    (case xl_NoDocument_Large => k_is)
    (case xi_NoDocument_BadCount => k_is)
    (case xj_NoDocument_BadCount => k_is)
    (case xk_NoDocument_BadCount => k_is)
    (case xl_NoDocument_BadCount => k_is)
    (case xi_NoDocument_NoChange => k_is)
    (case xj_NoDocument_NoChange => k_is)
    (case xk_NoDocument_NoChange => k_is)
    (case xl_NoDocument_NoChange => k_is)
    (case xi_NoDocument_NoTime => k_is)
    (case xj_NoDocument_NoTime => k_is)
    (case xk_NoDocument_NoTime => k_is)
    (case xl_NoDocument_NoTime => k_is)
    (case xi_NoDocument_NoBack => k_is)
    (case xj_NoDocument_NoBack => k_is)
    (case xk_NoDocument_NoBack => k_is)
    (case xl_NoDocument_NoBack => k_is)
    (case xi_NoDocument_BadText => k_is)
    (case xj_NoDocument_BadText => k_is)
    (case xk_NoDocument_BadText => k_is)
    (case xl_NoDocument_BadText => k_is)
    (case xi_NoDocument_PatchError => k_is)
    (case xj_NoDocument_PatchError => k_is)
    (case xk_NoDocument_PatchError => k_is)
    (case xl_NoDocument_PatchError => k_is)
    (case xL_NoDocument => k_is)
    (case es_NoDocument => k_is)
    (case en_NoDocument => k_is)
    (case eI_NoDocument => k_is)
    (case eT_NoDocument => k_is)
    (case eL_NoDocument => k_is)
    (case ec_NoDocument => k_is)
    (case eK_NoDocument => k_is)
    (case ety_NoDocument => k_is)
    (case esu_NoDocument => k_is)
    (case eg_NoTime => k_is)
    (case ek_NoTime => k_is)
    (case ee_NoTime => k_is)
    (case ed_NoTime => k_is)
    (case ei_NoTime => k_is)
    (case ea_NoTime => k_is)
    (case eo_NoTime => k_is)
    (case xf_NoTime_time => k_is)
    (case xi_NoTime_NoDocument => k_is)
    (case xj_NoTime_NoDocument => k_is)
    (case xk_NoTime_NoDocument => k_is)
    (case xl_NoTime_NoDocument => k_is)
    (case xi_NoTime_Large => k_is)
    (case xj_NoTime_Large => k_is)
    (case xk_NoTime_Large => k_is)
    (case xl_NoTime_Large => k_is)
    (case xi_NoTime_BadCount => k_is)
    (case xj_NoTime_BadCount => k_is)
    (case xk_NoTime_BadCount => k_is)
    (case xl_NoTime_BadCount => k_is)
    (case xi_NoTime_NoChange => k_is)
    (case xj_NoTime_NoChange => k_is)
    (case xk_NoTime_NoChange => k_is)
    (case xl_NoTime_NoChange => k_is)
    (case xi_NoTime_NoBack => k_is)
    (case xj_NoTime_NoBack => k_is)
    (case xk_NoTime_NoBack => k_is)
    (case xl_NoTime_NoBack => k_is)
    (case xi_NoTime_BadText => k_is)
    (case xj_NoTime_BadText => k_is)
    (case xk_NoTime_BadText => k_is)
    (case xl_NoTime_BadText => k_is)
    (case xi_NoTime_PatchError => k_is)
    (case xj_NoTime_PatchError => k_is)
    (case xk_NoTime_PatchError => k_is)
    (case xl_NoTime_PatchError => k_is)
    (case xL_NoTime => k_is)
    (case es_NoTime => k_is)
    (case en_NoTime => k_is)
    (case eI_NoTime => k_is)
    (case eT_NoTime => k_is)
    (case eL_NoTime => k_is)
    (case ec_NoTime => k_is)
    (case eK_NoTime => k_is)
    (case ety_NoTime => k_is)
    (case esu_NoTime => k_is)
    (case ns_NoDocument => k_is)
    (case nq_NoDocument => k_is)
    (case ve_NoDocument => k_is)
    (case ns_Large => k_is)
    (case nq_Large => k_is)
    (case ve_Large => k_is)
    (case ns_BadCount => k_is)
    (case nq_BadCount => k_is)
    (case ve_BadCount => k_is)
    (case ns_NoChange => k_is)
    (case nq_NoChange => k_is)
    (case ve_NoChange => k_is)
    (case ns_NoTime => k_is)
    (case nq_NoTime => k_is)
    (case ve_NoTime => k_is)
    (case ns_NoBack => k_is)
    (case nq_NoBack => k_is)
    (case ve_NoBack => k_is)
    (case ns_BadText => k_is)
    (case nq_BadText => k_is)
    (case ve_BadText => k_is)
    (case nX_NoBack => (try unfold vMro); k_exc)
    (case nK_NoBack => k_is)
    (case vc_PatchError => k_is)
    (case vt_PatchError => k_is)
    (case vs_PatchError => k_is)
