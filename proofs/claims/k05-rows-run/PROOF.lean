import PyProof.Rows.All
import Wide.All
import OpenK.AllK
import Wide.FinOn
import HandS.ForMost
import HandS.IsInst
import HandS.DictComp
import HandS.More
import HandS.TupAny
import HandS.TupMul
import HandS.Style
import KE.KEqNest
import HandS.WordsDict
import KE.KDictPairs
import KE.KEqDict
import PyProof.ReprRoads
import PyProof.ReprLen
import PySem.Challenge.RW_twopatches_k05_rows_run
set_option Elab.async false
set_option linter.all false
section
set_option maxRecDepth 100000
/-! Twopatches, layer 1: data as trees, how a heap bears them, the state of a frame. -/
namespace Tw
open PySem PySem.Spec PyProof.Rows L2

/-- data without addresses -/
inductive D where
  | non
  | bl (b : Bool)
  | int (i : Int)
  | str (x : Str)
  | lst (xs : List D)
  | tup (xs : List D)
  | pr (xs : List D)
  | dic (kvs : List (Key × D))
  | ins (c : Str) (fs : List (Str × D))
/-- what a slot holds: a tree that stands still, or an object that the frame may change (b: handed in by the caller) -/
inductive A where
  | d (x : D)
  | l (b : Bool) (xs : List D)
  | k (b : Bool) (kvs : List (Key × D))
  | i (b : Bool) (c : Str) (fs : List (Str × A))
  | t (b : Bool) (x : D)

/-- a thing that a walk may lock -/
def lk : HO → Bool
  | .lst _ => true
  | .tup _ => true
  | .dK _ => true
  | _ => false
/-- what stands at a is u, locked or not -/
def Rd (H : Hp) (a : Addr) (u : HO) : Prop := H a = some u ∨ ∃ o, H a = some (.frz o u) ∧ lk u = true
theorem Rd.l2 {H : Hp} {a : Addr} {u : HO} (h : Rd H a u) : L2.Rd H a u := by
  rcases h with h | ⟨o, h, _⟩
  · exact .inl h
  · exact .inr ⟨o, h⟩
theorem Rd.frz {H : Hp} {a : Addr} {o : Obj} {u : HO} (h : Rd H a (.frz o u)) : H a = some (.frz o u) := by
  rcases h with h | ⟨o, _, h⟩
  · exact h
  · cases h
theorem Rd.frz2 {H : Hp} {a : Addr} {o : Obj} {u : HO} (h : Rd H a (.frz o u)) : L2.Rd H a u := .inr ⟨o, h.frz⟩
theorem Rd.ins {H : Hp} {a C dx : Addr} {fs : List (Str × V)} (h : Rd H a (.ins C dx fs)) : H a = some (.ins C dx fs) := by
  rcases h with h | ⟨o, _, h⟩
  · exact h
  · cases h
section
variable (mg : Str → Option Value) (Z : Addr → Prop) (H : Hp)
mutual
def Rep : D → V → Prop
  | .non, v => v = .non
  | .bl b, v => v = .bl b
  | .int i, v => v = .int i
  | .str x, v => v = .str x
  | .lst ds, v => ∃ a vs, v = .ref a ∧ ¬ Z a ∧ Rd H a (.lst vs) ∧ Reps ds vs
  | .tup ds, v => ∃ a vs o, v = .ref a ∧ ¬ Z a ∧ o.dict = none ∧ Rd H a (.frz o (.tup vs)) ∧ Reps ds vs
  | .pr ds, v => ∃ a vs, v = .ref a ∧ ¬ Z a ∧ Rd H a (.tup vs) ∧ Reps ds vs
  | .dic kvs, v => ∃ a vs, v = .ref a ∧ ¬ Z a ∧ Rd H a (.dK vs) ∧ RepK kvs vs
  | .ins c fs, v => ∃ a C dx vs, v = .ref a ∧ ¬ Z a ∧ mg c = some (.ref C) ∧ Rd H a (.ins C dx vs) ∧ RepF fs vs
def Reps : List D → List V → Prop
  | [], vs => vs = []
  | d :: r, vs => ∃ v w, vs = v :: w ∧ Rep d v ∧ Reps r w
def RepK : List (Key × D) → List (Key × V) → Prop
  | [], vs => vs = []
  | (k, d) :: r, vs => ∃ v w, vs = (k, v) :: w ∧ Rep d v ∧ RepK r w
def RepF : List (Str × D) → List (Str × V) → Prop
  | [], vs => vs = []
  | (k, d) :: r, vs => ∃ v w, vs = (k, v) :: w ∧ Rep d v ∧ RepF r w
end
mutual
/-- a tree whose lists and dicts all belong to the frame -/
def OwnT : D → V → List Addr → Prop
  | .non, v, fp => v = .non ∧ fp = []
  | .bl b, v, fp => v = .bl b ∧ fp = []
  | .int i, v, fp => v = .int i ∧ fp = []
  | .str x, v, fp => v = .str x ∧ fp = []
  | .lst ds, v, fp => ∃ a vs q, v = .ref a ∧ fp = a :: q ∧ H a = some (.lst vs) ∧ OwnTs ds vs q
  | .dic kvs, v, fp => ∃ a vs q, v = .ref a ∧ fp = a :: q ∧ H a = some (.dK vs) ∧ OwnTk kvs vs q
  | .tup _, _, _ => False
  | .pr _, _, _ => False
  | .ins _ _, _, _ => False
def OwnTs : List D → List V → List Addr → Prop
  | [], vs, fp => vs = [] ∧ fp = []
  | d :: r, vs, fp => ∃ v w p q, vs = v :: w ∧ fp = p ++ q ∧ OwnT d v p ∧ OwnTs r w q
def OwnTk : List (Key × D) → List (Key × V) → List Addr → Prop
  | [], vs, fp => vs = [] ∧ fp = []
  | (k, d) :: r, vs, fp => ∃ v w p q, vs = (k, v) :: w ∧ fp = p ++ q ∧ OwnT d v p ∧ OwnTk r w q
end
mutual
def Own : A → V → List Addr → Prop
  | .d x, v, fp => fp = [] ∧ Rep mg Z H x v
  | .l _ xs, v, fp => ∃ a vs, v = .ref a ∧ fp = [a] ∧ H a = some (.lst vs) ∧ Reps mg Z H xs vs
  | .k _ xs, v, fp => ∃ a vs, v = .ref a ∧ fp = [a] ∧ H a = some (.dK vs) ∧ RepK mg Z H xs vs
  | .i _ c fs, v, fp => ∃ a C dx vs q, v = .ref a ∧ fp = a :: q ∧ mg c = some (.ref C) ∧ H a = some (.ins C dx vs) ∧ OwnF fs vs q
  | .t _ x, v, fp => OwnT H x v fp
def OwnF : List (Str × A) → List (Str × V) → List Addr → Prop
  | [], vs, fp => vs = [] ∧ fp = []
  | (k, x) :: r, vs, fp => ∃ v w p q, vs = (k, v) :: w ∧ fp = p ++ q ∧ Own x v p ∧ OwnF r w q
end
end

section
variable {mg : Str → Option Value} {Z Z' : Addr → Prop} {H H' : Hp}
mutual
theorem Rep.mono (h : ∀ a u, ¬ Z a → Rd H a u → ¬ Z' a ∧ Rd H' a u) : ∀ {x : D} {v : V}, Rep mg Z H x v → Rep mg Z' H' x v
  | .non, v, r => r
  | .bl b, v, r => r
  | .int i, v, r => r
  | .str x, v, r => r
  | .lst ds, v, ⟨a, vs, e, z, g, r⟩ => ⟨a, vs, e, (h a _ z g).1, (h a _ z g).2, Reps.mono h r⟩
  | .tup ds, v, ⟨a, vs, o, e, z, n, g, r⟩ => ⟨a, vs, o, e, (h a _ z g).1, n, (h a _ z g).2, Reps.mono h r⟩
  | .pr ds, v, ⟨a, vs, e, z, g, r⟩ => ⟨a, vs, e, (h a _ z g).1, (h a _ z g).2, Reps.mono h r⟩
  | .dic ds, v, ⟨a, vs, e, z, g, r⟩ => ⟨a, vs, e, (h a _ z g).1, (h a _ z g).2, RepK.mono h r⟩
  | .ins c fs, v, ⟨a, C, dx, vs, e, z, m, g, r⟩ => ⟨a, C, dx, vs, e, (h a _ z g).1, m, (h a _ z g).2, RepF.mono h r⟩
theorem Reps.mono (h : ∀ a u, ¬ Z a → Rd H a u → ¬ Z' a ∧ Rd H' a u) : ∀ {x : List D} {v : List V}, Reps mg Z H x v → Reps mg Z' H' x v
  | [], v, r => r
  | d :: t, v, ⟨x, w, e, r, q⟩ => ⟨x, w, e, Rep.mono h r, Reps.mono h q⟩
theorem RepK.mono (h : ∀ a u, ¬ Z a → Rd H a u → ¬ Z' a ∧ Rd H' a u) : ∀ {x : List (Key × D)} {v : List (Key × V)}, RepK mg Z H x v → RepK mg Z' H' x v
  | [], v, r => r
  | (k, d) :: t, v, ⟨x, w, e, r, q⟩ => ⟨x, w, e, Rep.mono h r, RepK.mono h q⟩
theorem RepF.mono (h : ∀ a u, ¬ Z a → Rd H a u → ¬ Z' a ∧ Rd H' a u) : ∀ {x : List (Str × D)} {v : List (Str × V)}, RepF mg Z H x v → RepF mg Z' H' x v
  | [], v, r => r
  | (k, d) :: t, v, ⟨x, w, e, r, q⟩ => ⟨x, w, e, Rep.mono h r, RepF.mono h q⟩
end
mutual
theorem OwnT.monoN : ∀ {x : D} {v : V} {fp : List Addr}, (∀ a ∈ fp, ∀ o, lk o = true → H a = some o → H' a = some o) → OwnT H x v fp → OwnT H' x v fp
  | .non, v, fp, _, r => r
  | .bl b, v, fp, _, r => r
  | .int i, v, fp, _, r => r
  | .str x, v, fp, _, r => r
  | .lst ds, v, fp, g, ⟨a, vs, q, e, f, h, r⟩ => ⟨a, vs, q, e, f, g a (by rw [f]; exact List.mem_cons_self) _ rfl h, OwnTs.monoN (fun b hb => g b (by rw [f]; exact List.mem_cons_of_mem _ hb)) r⟩
  | .dic ds, v, fp, g, ⟨a, vs, q, e, f, h, r⟩ => ⟨a, vs, q, e, f, g a (by rw [f]; exact List.mem_cons_self) _ rfl h, OwnTk.monoN (fun b hb => g b (by rw [f]; exact List.mem_cons_of_mem _ hb)) r⟩
  | .tup ds, v, fp, g, r => r.elim
  | .pr ds, v, fp, g, r => r.elim
  | .ins c fs, v, fp, g, r => r.elim
theorem OwnTs.monoN : ∀ {x : List D} {v : List V} {fp : List Addr}, (∀ a ∈ fp, ∀ o, lk o = true → H a = some o → H' a = some o) → OwnTs H x v fp → OwnTs H' x v fp
  | [], v, fp, _, r => r
  | d :: t, v, fp, g, ⟨x, w, p, q, e, f, r, s⟩ => ⟨x, w, p, q, e, f, OwnT.monoN (fun b hb => g b (by rw [f]; exact List.mem_append_left _ hb)) r, OwnTs.monoN (fun b hb => g b (by rw [f]; exact List.mem_append_right _ hb)) s⟩
theorem OwnTk.monoN : ∀ {x : List (Key × D)} {v : List (Key × V)} {fp : List Addr}, (∀ a ∈ fp, ∀ o, lk o = true → H a = some o → H' a = some o) → OwnTk H x v fp → OwnTk H' x v fp
  | [], v, fp, _, r => r
  | (k, d) :: t, v, fp, g, ⟨x, w, p, q, e, f, r, s⟩ => ⟨x, w, p, q, e, f, OwnT.monoN (fun b hb => g b (by rw [f]; exact List.mem_append_left _ hb)) r, OwnTk.monoN (fun b hb => g b (by rw [f]; exact List.mem_append_right _ hb)) s⟩
end
mutual
theorem OwnT.al : ∀ {x : D} {v : V} {fp : List Addr}, OwnT H x v fp → ∀ a ∈ fp, H a ≠ none
  | .non, v, fp, ⟨_, e⟩, a, ha => by rw [e] at ha; cases ha
  | .bl b, v, fp, ⟨_, e⟩, a, ha => by rw [e] at ha; cases ha
  | .int i, v, fp, ⟨_, e⟩, a, ha => by rw [e] at ha; cases ha
  | .str x, v, fp, ⟨_, e⟩, a, ha => by rw [e] at ha; cases ha
  | .lst ds, v, fp, ⟨a, vs, q, e, f, h, r⟩, b, hb => by
    rw [f] at hb
    rcases List.mem_cons.mp hb with hb | hb
    · rw [hb, h]; simp
    · exact OwnTs.al r b hb
  | .dic ds, v, fp, ⟨a, vs, q, e, f, h, r⟩, b, hb => by
    rw [f] at hb
    rcases List.mem_cons.mp hb with hb | hb
    · rw [hb, h]; simp
    · exact OwnTk.al r b hb
  | .tup ds, v, fp, r, _, _ => r.elim
  | .pr ds, v, fp, r, _, _ => r.elim
  | .ins c fs, v, fp, r, _, _ => r.elim
theorem OwnTs.al : ∀ {x : List D} {v : List V} {fp : List Addr}, OwnTs H x v fp → ∀ a ∈ fp, H a ≠ none
  | [], v, fp, ⟨_, e⟩, a, ha => by rw [e] at ha; cases ha
  | d :: t, v, fp, ⟨x, w, p, q, e, f, r, s⟩, a, ha => by
    rw [f] at ha
    rcases List.mem_append.mp ha with h | h
    · exact OwnT.al r a h
    · exact OwnTs.al s a h
theorem OwnTk.al : ∀ {x : List (Key × D)} {v : List (Key × V)} {fp : List Addr}, OwnTk H x v fp → ∀ a ∈ fp, H a ≠ none
  | [], v, fp, ⟨_, e⟩, a, ha => by rw [e] at ha; cases ha
  | (k, d) :: t, v, fp, ⟨x, w, p, q, e, f, r, s⟩, a, ha => by
    rw [f] at ha
    rcases List.mem_append.mp ha with h | h
    · exact OwnT.al r a h
    · exact OwnTk.al s a h
end
theorem OwnT.mono {x : D} {v : V} {fp : List Addr} (g : ∀ a ∈ fp, H' a = H a) (h : OwnT H x v fp) : OwnT H' x v fp := h.monoN fun a ha o _ e => (g a ha).trans e
theorem OwnTs.mono {x : List D} {v : List V} {fp : List Addr} (g : ∀ a ∈ fp, H' a = H a) (h : OwnTs H x v fp) : OwnTs H' x v fp := h.monoN fun a ha o _ e => (g a ha).trans e
theorem OwnTk.mono {x : List (Key × D)} {v : List (Key × V)} {fp : List Addr} (g : ∀ a ∈ fp, H' a = H a) (h : OwnTk H x v fp) : OwnTk H' x v fp := h.monoN fun a ha o _ e => (g a ha).trans e
/-! an owned tree, read -/
mutual
theorem OwnT.rep : ∀ {x : D} {v : V} {fp : List Addr}, (∀ a ∈ fp, ¬ Z a) → OwnT H x v fp → Rep mg Z H x v
  | .non, v, fp, _, r => r.1
  | .bl b, v, fp, _, r => r.1
  | .int i, v, fp, _, r => r.1
  | .str x, v, fp, _, r => r.1
  | .lst ds, v, fp, g, ⟨a, vs, q, e, f, h, r⟩ => ⟨a, vs, e, g a (by rw [f]; exact List.mem_cons_self), .inl h, OwnTs.rep (fun b hb => g b (by rw [f]; exact List.mem_cons_of_mem _ hb)) r⟩
  | .dic ds, v, fp, g, ⟨a, vs, q, e, f, h, r⟩ => ⟨a, vs, e, g a (by rw [f]; exact List.mem_cons_self), .inl h, OwnTk.rep (fun b hb => g b (by rw [f]; exact List.mem_cons_of_mem _ hb)) r⟩
  | .tup ds, v, fp, g, r => r.elim
  | .pr ds, v, fp, g, r => r.elim
  | .ins c fs, v, fp, g, r => r.elim
theorem OwnTs.rep : ∀ {x : List D} {v : List V} {fp : List Addr}, (∀ a ∈ fp, ¬ Z a) → OwnTs H x v fp → Reps mg Z H x v
  | [], v, fp, _, r => r.1
  | d :: t, v, fp, g, ⟨x, w, p, q, e, f, r, s⟩ => ⟨x, w, e, OwnT.rep (fun b hb => g b (by rw [f]; exact List.mem_append_left _ hb)) r, OwnTs.rep (fun b hb => g b (by rw [f]; exact List.mem_append_right _ hb)) s⟩
theorem OwnTk.rep : ∀ {x : List (Key × D)} {v : List (Key × V)} {fp : List Addr}, (∀ a ∈ fp, ¬ Z a) → OwnTk H x v fp → RepK mg Z H x v
  | [], v, fp, _, r => r.1
  | (k, d) :: t, v, fp, g, ⟨x, w, p, q, e, f, r, s⟩ => ⟨x, w, e, OwnT.rep (fun b hb => g b (by rw [f]; exact List.mem_append_left _ hb)) r, OwnTk.rep (fun b hb => g b (by rw [f]; exact List.mem_append_right _ hb)) s⟩
end
mutual
theorem Own.mono (h : ∀ a u, ¬ Z a → Rd H a u → ¬ Z' a ∧ Rd H' a u) : ∀ {x : A} {v : V} {fp : List Addr}, (∀ a ∈ fp, H' a = H a) → Own mg Z H x v fp → Own mg Z' H' x v fp
  | .d x, v, fp, _, ⟨e, r⟩ => ⟨e, Rep.mono h r⟩
  | .l b xs, v, fp, g, ⟨a, vs, e, f, q, r⟩ => ⟨a, vs, e, f, (g a (by rw [f]; exact List.mem_cons_self)).trans q, Reps.mono h r⟩
  | .k b xs, v, fp, g, ⟨a, vs, e, f, q, r⟩ => ⟨a, vs, e, f, (g a (by rw [f]; exact List.mem_cons_self)).trans q, RepK.mono h r⟩
  | .i b c fs, v, fp, g, ⟨a, C, dx, vs, p, e, f, m, q, r⟩ => ⟨a, C, dx, vs, p, e, f, m, (g a (by rw [f]; exact List.mem_cons_self)).trans q, OwnF.mono h (fun b hb => g b (by rw [f]; exact List.mem_cons_of_mem _ hb)) r⟩
  | .t b x, v, fp, g, r => OwnT.mono g r
theorem OwnF.mono (h : ∀ a u, ¬ Z a → Rd H a u → ¬ Z' a ∧ Rd H' a u) : ∀ {x : List (Str × A)} {v : List (Str × V)} {fp : List Addr}, (∀ a ∈ fp, H' a = H a) → OwnF mg Z H x v fp → OwnF mg Z' H' x v fp
  | [], v, fp, _, r => r
  | (k, d) :: t, v, fp, g, ⟨x, w, p, q, e, f, r, s⟩ => ⟨x, w, p, q, e, f, Own.mono h (fun b hb => g b (by rw [f]; exact List.mem_append_left _ hb)) r, OwnF.mono h (fun b hb => g b (by rw [f]; exact List.mem_append_right _ hb)) s⟩
end
mutual
theorem Own.al : ∀ {x : A} {v : V} {fp : List Addr}, Own mg Z H x v fp → ∀ a ∈ fp, H a ≠ none
  | .d x, v, fp, ⟨e, r⟩, a, ha => by rw [e] at ha; cases ha
  | .l b xs, v, fp, ⟨a, vs, e, f, q, r⟩, c, hc => by
    rw [f] at hc
    rw [List.mem_singleton.mp hc, q]
    simp
  | .k b xs, v, fp, ⟨a, vs, e, f, q, r⟩, c, hc => by
    rw [f] at hc
    rw [List.mem_singleton.mp hc, q]
    simp
  | .i b k fs, v, fp, ⟨a, C, dx, vs, p, e, f, m, q, r⟩, c, hc => by
    rw [f] at hc
    rcases List.mem_cons.mp hc with h | h
    · rw [h, q]; simp
    · exact OwnF.al r c h
  | .t b x, v, fp, r, c, hc => OwnT.al r c hc
theorem OwnF.al : ∀ {x : List (Str × A)} {v : List (Str × V)} {fp : List Addr}, OwnF mg Z H x v fp → ∀ a ∈ fp, H a ≠ none
  | [], v, fp, ⟨_, e⟩, a, ha => by rw [e] at ha; cases ha
  | (k, d) :: t, v, fp, ⟨x, w, p, q, e, f, r, s⟩, a, ha => by
    rw [f] at ha
    rcases List.mem_append.mp ha with h | h
    · exact Own.al r a h
    · exact OwnF.al s a h
end

/-! ### lists of data -/
theorem Reps.nil : Reps mg Z H [] [] := rfl
theorem Reps.cons {d : D} {v : V} {ds : List D} {vs : List V} (h : Rep mg Z H d v) (t : Reps mg Z H ds vs) : Reps mg Z H (d :: ds) (v :: vs) := ⟨v, vs, rfl, h, t⟩
theorem Reps.length : ∀ {x : List D} {v : List V}, Reps mg Z H x v → x.length = v.length
  | [], v, r => by rw [show v = [] from r]; rfl
  | d :: t, v, ⟨x, w, e, r, q⟩ => by rw [e, List.length_cons, List.length_cons, Reps.length q]
theorem Reps.get : ∀ {x : List D} {v : List V}, Reps mg Z H x v → ∀ {i : Nat} {d : D}, x[i]? = some d → ∃ u, v[i]? = some u ∧ Rep mg Z H d u
  | [], v, r, i, d, e => by simp at e
  | d :: t, v, ⟨x, w, e, r, q⟩, 0, d', e' => by
    have : d = d' := by simpa using e'
    subst this
    exact ⟨x, by rw [e]; rfl, r⟩
  | d :: t, v, ⟨x, w, e, r, q⟩, i + 1, d', e' => by
    obtain ⟨u, h1, h2⟩ := Reps.get q (i := i) (d := d') (by simpa using e')
    exact ⟨u, by rw [e]; simpa using h1, h2⟩
theorem Reps.getV : ∀ {x : List D} {v : List V}, Reps mg Z H x v → ∀ {i : Nat} {u : V}, v[i]? = some u → ∃ d, x[i]? = some d ∧ Rep mg Z H d u
  | [], v, r, i, d, e => by rw [show v = [] from r] at e; simp at e
  | d :: t, v, ⟨x, w, e, r, q⟩, 0, u, e' => by
    rw [e] at e'
    have : x = u := by simpa using e'
    subst this
    exact ⟨d, rfl, r⟩
  | d :: t, v, ⟨x, w, e, r, q⟩, i + 1, u, e' => by
    rw [e] at e'
    obtain ⟨y, h1, h2⟩ := Reps.getV q (i := i) (u := u) (by simpa using e')
    exact ⟨y, by simpa using h1, h2⟩
theorem Reps.append : ∀ {x y : List D} {v w : List V}, Reps mg Z H x v → Reps mg Z H y w → Reps mg Z H (x ++ y) (v ++ w)
  | [], y, v, w, r, s => by rw [show v = [] from r]; exact s
  | d :: t, y, v, w, ⟨a, b, e, r, q⟩, s => by rw [e]; exact ⟨a, b ++ w, rfl, r, Reps.append q s⟩
theorem Reps.take : ∀ {x : List D} {v : List V} (n : Nat), Reps mg Z H x v → Reps mg Z H (x.take n) (v.take n)
  | x, v, 0, r => rfl
  | [], v, n + 1, r => by rw [show v = [] from r]; rfl
  | d :: t, v, n + 1, ⟨a, b, e, r, q⟩ => by rw [e]; exact ⟨a, b.take n, rfl, r, Reps.take n q⟩
theorem Reps.drop : ∀ {x : List D} {v : List V} (n : Nat), Reps mg Z H x v → Reps mg Z H (x.drop n) (v.drop n)
  | x, v, 0, r => r
  | [], v, n + 1, r => by rw [show v = [] from r]; rfl
  | d :: t, v, n + 1, ⟨a, b, e, r, q⟩ => by rw [e]; exact Reps.drop n q
theorem Reps.set {d : D} {u : V} (h : Rep mg Z H d u) : ∀ {x : List D} {v : List V} (n : Nat), Reps mg Z H x v → Reps mg Z H (x.set n d) (v.set n u)
  | [], v, n, r => by rw [show v = [] from r]; rfl
  | c :: t, v, 0, ⟨a, b, e, r, q⟩ => by rw [e]; exact ⟨u, b, rfl, h, q⟩
  | c :: t, v, n + 1, ⟨a, b, e, r, q⟩ => by rw [e]; exact ⟨a, b.set n u, rfl, r, Reps.set h n q⟩
theorem Reps.map {α : Type} (f : α → D) (g : α → V) (h : ∀ a, Rep mg Z H (f a) (g a)) : ∀ l : List α, Reps mg Z H (l.map f) (l.map g)
  | [] => rfl
  | a :: t => ⟨g a, t.map g, rfl, h a, Reps.map f g h t⟩
theorem Reps.rev : ∀ {x : List D} {v : List V}, Reps mg Z H x v → Reps mg Z H x.reverse v.reverse
  | [], v, r => by rw [show v = [] from r]; rfl
  | d :: t, v, ⟨a, b, e, r, q⟩ => by rw [e, List.reverse_cons, List.reverse_cons]; exact Reps.append (Reps.rev q) ⟨a, [], rfl, r, rfl⟩
end
end Tw
end
section
set_option maxRecDepth 100000
/-! layer 2: the state of a frame -/
namespace Tw
open PySem PySem.Spec PyProof.Rows L2

def A.bor : A → Bool
  | .d _ => false
  | .l b _ => b
  | .k b _ => b
  | .i b _ _ => b
  | .t b _ => b
def fldsD : List (Str × A) → Option (List (Str × D))
  | [] => some []
  | (k, .d x) :: r => (fldsD r).map fun t => (k, x) :: t
  | _ => none
def A.toD : A → Option D
  | .d x => some x
  | .l false xs => some (.lst xs)
  | .k false kvs => some (.dic kvs)
  | .i false c fs => (fldsD fs).map fun t => .ins c t
  | .t false x => some x
  | _ => none
abbrev Ro := List (Option A)
abbrev Sg := L2.St
/-- the i-th slot -/
def at_ (ρ : Ro) (i : Nat) : Option A := (ρ[i]?).join
def atS (σ : Sg) (i : Nat) : Option V := (σ[i]?).join
theorem at_of {ρ : Ro} {i : Nat} {a : A} : at_ ρ i = some a ↔ ρ[i]? = some (some a) := by
  unfold at_
  cases h : ρ[i]? with
  | none => simp
  | some o => simp
theorem atS_of {σ : Sg} {i : Nat} {a : V} : atS σ i = some a ↔ σ[i]? = some (some a) := by
  unfold atS
  cases h : σ[i]? with
  | none => simp
  | some o => simp
theorem at_set {ρ : Ro} {i j : Nat} {o : Option A} (h : i < ρ.length) : at_ (ρ.set i o) j = if j = i then o else at_ ρ j := by
  unfold at_
  by_cases e : j = i
  · subst e; rw [List.getElem?_set_self h, if_pos rfl]; rfl
  · rw [List.getElem?_set_ne (Ne.symm e), if_neg e]
theorem atS_set {ρ : Sg} {i j : Nat} {o : Option V} (h : i < ρ.length) : atS (ρ.set i o) j = if j = i then o else atS ρ j := by
  unfold atS
  by_cases e : j = i
  · subst e; rw [List.getElem?_set_self h, if_pos rfl]; rfl
  · rw [List.getElem?_set_ne (Ne.symm e), if_neg e]
theorem at_lt {ρ : Ro} {i : Nat} {a : A} (h : at_ ρ i = some a) : i < ρ.length := (List.getElem?_eq_some_iff.mp (at_of.mp h)).1

/-- what stays the same through a frame: what may not be touched, the heap at the entry, what was handed in to be changed -/
structure Fx where
  Z0 : Addr → Prop
  H0 : Hp
  bor : Nat → List Addr
  bv : Nat → V
/-- the places: none is the value at hand, some i the i-th slot -/
abbrev Pl := Option Nat
def plA (r : Option A) (ρ : Ro) : Pl → Option A
  | none => r
  | some i => at_ ρ i
def plV (v : V) (σ : Sg) : Pl → Option V
  | none => some v
  | some i => atS σ i
def bOf (c : Fx) : Pl → List Addr
  | none => []
  | some i => c.bor i
abbrev Zof (c : Fx) (fp : Pl → List Addr) : Addr → Prop := fun b => c.Z0 b ∨ ∃ p, b ∈ fp p

structure Good (mg : Str → Option Value) (c : Fx) (σ : Sg) (H : Hp) (ρ : Ro) (ts : List D) (tv : List V) (r : Option A) (v : V) (fp : Pl → List Addr) : Prop where
  len : ρ.length = σ.length
  ent : ∀ p x, plA r ρ p = some x → ∃ u, plV v σ p = some u ∧ Own mg (Zof c fp) H x u (fp p)
  off : ∀ p, plA r ρ p = none → fp p = []
  nd : ∀ p, (fp p).Nodup
  ap : ∀ p q a, a ∈ fp p → a ∈ fp q → p = q
  new : ∀ p a, a ∈ fp p → a ∈ bOf c p ∨ c.H0 a = none
  tmp : Reps mg (Zof c fp) H ts tv
  keep : ∀ b o, c.H0 b = some o → (∀ i, b ∉ c.bor i) → H b = some o
  mor : ∀ b, c.H0 b ≠ none → H b ≠ none
  z0 : ∀ b, c.Z0 b → c.H0 b ≠ none
  bz : ∀ i a, a ∈ c.bor i → c.Z0 a
  bst : ∀ i, c.bor i ≠ [] → ∃ x, at_ ρ i = some x ∧ x.bor = true
  bvs : ∀ i x, at_ ρ i = some x → x.bor = true → atS σ i = some (c.bv i)
  rnb : ∀ x, r = some x → x.bor = false
  bnb : ∀ i x, at_ ρ i = some x → x.bor = false → c.bor i = []
def SR (mg : Str → Option Value) (c : Fx) (σ : Sg) (H : Hp) (ρ : Ro) (ts : List D) (tv : List V) (r : Option A) (v : V) : Prop := ∃ fp, Good mg c σ H ρ ts tv r v fp

def Sm (H H' : Hp) : Prop := ∀ b o, H b = some o → H' b = some o
theorem Sm.refl (H : Hp) : Sm H H := fun _ _ h => h
theorem Sm.trans {H H1 H2 : Hp} (a : Sm H H1) (b : Sm H1 H2) : Sm H H2 := fun c o h => b c o (a c o h)
theorem Sm.new {H : Hp} {p : Addr} {o : HO} (h : H p = none) : Sm H (upd H p o) := fun b u e => by
  rw [upd_ne (ne_of_none e h)]; exact e
theorem Sm.rd {H H' : Hp} (s : Sm H H') {a : Addr} {u : HO} (h : Rd H a u) : Rd H' a u := by
  rcases h with h | ⟨o, h, l⟩
  · exact .inl (s _ _ h)
  · exact .inr ⟨o, s _ _ h, l⟩
theorem Sm.none {H H' : Hp} (s : Sm H H') {a : Addr} (h : H' a = none) : H a = none := by
  cases q : H a with
  | none => rfl
  | some o => rw [s _ _ q] at h; cases h
theorem rd_some {H : Hp} {a : Addr} {u : HO} (h : Rd H a u) : H a ≠ none := by
  rcases h with h | ⟨o, h, _⟩ <;> rw [h] <;> simp

section
variable {mg : Str → Option Value} {c : Fx} {σ : Sg} {H H' : Hp} {ρ : Ro} {ts : List D} {tv : List V} {r : Option A} {v : V} {fp : Pl → List Addr}
theorem Good.alloc (g : Good mg c σ H ρ ts tv r v fp) {p : Pl} {a : Addr} (h : a ∈ fp p) : H a ≠ none := by
  cases q : plA r ρ p with
  | none => rw [g.off p q] at h; cases h
  | some x =>
    obtain ⟨u, _, o⟩ := g.ent p x q
    exact o.al a h
theorem Good.zal (g : Good mg c σ H ρ ts tv r v fp) {a : Addr} (h : Zof c fp a) : H a ≠ none := by
  rcases h with h | ⟨p, h⟩
  · exact g.mor a (g.z0 a h)
  · exact g.alloc h
theorem Good.new' (g : Good mg c σ H ρ ts tv r v fp) {a : Addr} (h : H a = none) : c.H0 a = none := by
  cases q : c.H0 a with
  | none => rfl
  | some o => exact absurd h (g.mor a (by rw [q]; simp))
/-- nothing that stood has changed -/
theorem Good.same (g : Good mg c σ H ρ ts tv r v fp) (s : Sm H H') : Good mg c σ H' ρ ts tv r v fp where
  len := g.len
  ent := fun p x e => by
    obtain ⟨u, e1, o⟩ := g.ent p x e
    refine ⟨u, e1, o.mono (fun a u z h => ⟨z, s.rd h⟩) fun a ha => ?_⟩
    cases q : H a with
    | none => exact absurd q (o.al a ha)
    | some w => exact s _ _ q
  off := g.off
  nd := g.nd
  ap := g.ap
  new := g.new
  tmp := g.tmp.mono fun a u z h => ⟨z, s.rd h⟩
  keep := fun b o e h => s _ _ (g.keep b o e h)
  mor := fun b h e => g.mor b h (s.none e)
  z0 := g.z0
  bz := g.bz
  bst := g.bst
  bvs := g.bvs
  rnb := g.rnb
  bnb := g.bnb
theorem SR.same (g : SR mg c σ H ρ ts tv r v) (s : Sm H H') : SR mg c σ H' ρ ts tv r v := let ⟨fp, g⟩ := g; ⟨fp, g.same s⟩
/-- the value at hand is dropped -/
theorem Good.drop (g : Good mg c σ H ρ ts tv r v fp) (u : V) : Good mg c σ H ρ ts tv none u (fun p => match p with | none => [] | some i => fp (some i)) := by
  have zz : ∀ a, Zof c (fun p => match p with | none => [] | some i => fp (some i)) a → Zof c fp a := fun a h => by
    rcases h with h | ⟨p, h⟩
    · exact .inl h
    · cases p with
      | none => cases h
      | some i => exact .inr ⟨some i, h⟩
  refine ⟨g.len, fun p x e => ?_, fun p e => ?_, fun p => ?_, fun p q a h1 h2 => ?_, fun p a h => ?_, g.tmp.mono fun a u z h => ⟨fun w => z (zz a w), h⟩, g.keep, g.mor, g.z0, g.bz, g.bst, g.bvs, fun _ e => (by cases e), g.bnb⟩
  · cases p with
    | none => cases e
    | some i =>
      obtain ⟨u, e1, o⟩ := g.ent (some i) x e
      exact ⟨u, e1, o.mono (fun a u z h => ⟨fun w => z (zz a w), h⟩) fun _ _ => rfl⟩
  · cases p with
    | none => rfl
    | some i => exact g.off (some i) e
  · cases p with
    | none => exact List.nodup_nil
    | some i => exact g.nd (some i)
  · cases p with
    | none => cases h1
    | some i =>
      cases q with
      | none => cases h2
      | some j => exact g.ap (some i) (some j) a h1 h2
  · cases p with
    | none => cases h
    | some i => exact g.new (some i) a h
theorem SR.drop (g : SR mg c σ H ρ ts tv r v) (u : V) : SR mg c σ H ρ ts tv none u := let ⟨_, g⟩ := g; ⟨_, g.drop u⟩
/-- a tree at hand -/
theorem Good.put (g : Good mg c σ H ρ ts tv none v fp) {x : D} {u : V} (h : Rep mg (Zof c fp) H x u) : Good mg c σ H ρ ts tv (some (.d x)) u fp := by
  refine ⟨g.len, fun p y e => ?_, fun p e => ?_, g.nd, g.ap, g.new, g.tmp, g.keep, g.mor, g.z0, g.bz, g.bst, g.bvs, fun y e => by cases e; rfl, g.bnb⟩
  · cases p with
    | none =>
      cases e
      exact ⟨u, rfl, g.off none rfl, h⟩
    | some i => exact g.ent (some i) y e
  · cases p with
    | none => cases e
    | some i => exact g.off (some i) e
/-- the tree at hand is set aside -/
theorem Good.push (g : Good mg c σ H ρ ts tv (some (.d x)) u fp) (v : V) : Good mg c σ H ρ (x :: ts) (u :: tv) none v fp := by
  obtain ⟨w, e1, e0, h⟩ := g.ent none _ rfl
  have e2 : u = w := Option.some.inj e1
  subst e2
  refine ⟨g.len, fun p y e => ?_, fun p e => ?_, g.nd, g.ap, g.new, ⟨u, tv, rfl, h, g.tmp⟩, g.keep, g.mor, g.z0, g.bz, g.bst, g.bvs, fun y e => (by cases e), g.bnb⟩
  · cases p with
    | none => cases e
    | some i => exact g.ent (some i) y e
  · cases p with
    | none => exact e0
    | some i => exact g.off (some i) e
/-- a new object at hand, with its footprint -/
def fpN (fp : Pl → List Addr) (q : List Addr) : Pl → List Addr
  | none => q
  | some i => fp (some i)
theorem Good.made (g : Good mg c σ H ρ ts tv none v fp) {x : A} {u : V} {q : List Addr} (s : Sm H H') (hq : ∀ a ∈ q, H a = none) (nd : q.Nodup) (h : Own mg (fun b => Zof c fp b ∨ b ∈ q) H' x u q) (hb : x.bor = false) : Good mg c σ H' ρ ts tv (some x) u (fpN fp q) := by
  have g' := g.same s
  have zz : ∀ a, Zof c (fpN fp q) a → Zof c fp a ∨ a ∈ q := fun a h => by
    rcases h with h | ⟨p, h⟩
    · exact .inl (.inl h)
    · cases p with
      | none => exact .inr h
      | some i => exact .inl (.inr ⟨some i, h⟩)
  have lift : ∀ a u, ¬ Zof c fp a → Rd H a u → ¬ Zof c (fpN fp q) a ∧ Rd H' a u := fun a u z h => ⟨fun w => by
    rcases zz a w with w | w
    · exact z w
    · exact rd_some h (hq a w), s.rd h⟩
  refine ⟨g.len, fun p y e => ?_, fun p e => ?_, fun p => ?_, fun p p' a h1 h2 => ?_, fun p a h => ?_, g.tmp.mono lift, g'.keep, g'.mor, g.z0, g.bz, g.bst, g.bvs, fun y e => by cases e; exact hb, g.bnb⟩
  · cases p with
    | none =>
      cases e
      exact ⟨u, rfl, h.mono (fun a u z h => ⟨fun w => z (zz a w), h⟩) fun _ _ => rfl⟩
    | some i =>
      obtain ⟨u, e1, o⟩ := g.ent (some i) y e
      refine ⟨u, e1, o.mono lift fun a ha => ?_⟩
      cases q : H a with
      | none => exact absurd q (o.al a ha)
      | some w => exact s _ _ q
  · cases p with
    | none => cases e
    | some i => exact g.off (some i) e
  · cases p with
    | none => exact nd
    | some i => exact g.nd (some i)
  · cases p with
    | none =>
      cases p' with
      | none => rfl
      | some j => exact absurd (hq a h1) (g.alloc (p := some j) h2)
    | some i =>
      cases p' with
      | none => exact absurd (hq a h2) (g.alloc (p := some i) h1)
      | some j => exact g.ap (some i) (some j) a h1 h2
  · cases p with
    | none => exact .inr (g.new' (hq a h))
    | some i => exact g.new (some i) a h
end
end Tw
end
section
set_option maxRecDepth 100000
/-! layer 3: steps of the state -/
namespace Tw
open PySem PySem.Spec PyProof.Rows L2
section
variable {mg : Str → Option Value} {c : Fx} {σ σ' : Sg} {H H' : Hp} {ρ ρ' : Ro} {ts : List D} {tv : List V} {r r' : Option A} {v v' : V} {fp fp' : Pl → List Addr}
/-- some places get other contents, the heap changes at most at theirs -/
theorem Good.remake (g : Good mg c σ H ρ ts tv r v fp) (ch : Pl → Prop) (hlen : ρ'.length = σ'.length)
    (hH : ∀ b o, H b = some o → (∀ p, ch p → b ∉ fp p) → H' b = some o) (hmor : ∀ b, H b ≠ none → H' b ≠ none)
    (hsame : ∀ p, ¬ ch p → plA r' ρ' p = plA r ρ p ∧ plV v' σ' p = plV v σ p ∧ fp' p = fp p)
    (hent : ∀ p x, ch p → plA r' ρ' p = some x → ∃ u, plV v' σ' p = some u ∧ Own mg (Zof c fp') H' x u (fp' p))
    (hoff : ∀ p, ch p → plA r' ρ' p = none → fp' p = [])
    (hnd : ∀ p, ch p → (fp' p).Nodup)
    (hap : ∀ p q a, a ∈ fp' p → a ∈ fp' q → p = q)
    (hin : ∀ p a, ch p → a ∈ fp' p → (a ∈ bOf c p ∨ c.H0 a = none))
    (hz : ∀ p a, a ∈ fp' p → (∃ q, a ∈ fp q) ∨ H a = none)
    (hbst : ∀ i, c.bor i ≠ [] → ch (some i) → ∃ x, at_ ρ' i = some x ∧ x.bor = true)
    (hbvs : ∀ i x, ch (some i) → at_ ρ' i = some x → x.bor = true → atS σ' i = some (c.bv i))
    (hrnb : ∀ x, r' = some x → x.bor = false)
    (hbnb : ∀ i x, ch (some i) → at_ ρ' i = some x → x.bor = false → c.bor i = [])
    : Good mg c σ' H' ρ' ts tv r' v' fp' := by
  have lift : ∀ a u, ¬ Zof c fp a → Rd H a u → ¬ Zof c fp' a ∧ Rd H' a u := fun a u z h => by
    refine ⟨fun w => ?_, ?_⟩
    · rcases w with w | ⟨p, w⟩
      · exact z (.inl w)
      · rcases hz p a w with ⟨q, w⟩ | w
        · exact z (.inr ⟨q, w⟩)
        · exact rd_some h w
    · have hn : ∀ p, ch p → a ∉ fp p := fun p _ hp => z (.inr ⟨p, hp⟩)
      rcases h with h | ⟨o, h, l⟩
      · exact .inl (hH _ _ h hn)
      · exact .inr ⟨o, hH _ _ h hn, l⟩
  refine ⟨hlen, fun p x e => ?_, fun p e => ?_, fun p => ?_, hap, fun p a h => ?_, g.tmp.mono lift, fun b o e h => ?_, fun b h => hmor b (g.mor b h), g.z0, g.bz, fun i h => ?_, fun i x e h => ?_, hrnb, fun i x e h => ?_⟩
  · by_cases hc : ch p
    · exact hent p x hc e
    · obtain ⟨e1, e2, e3⟩ := hsame p hc
      obtain ⟨u, q, o⟩ := g.ent p x (e1.symm.trans e)
      refine ⟨u, e2.trans q, ?_⟩
      rw [e3]
      refine o.mono lift fun a ha => ?_
      cases w : H a with
      | none => exact absurd w (o.al a ha)
      | some y => exact hH _ _ w fun p' hp' hm => hc (g.ap p p' a ha hm ▸ hp')
  · by_cases hc : ch p
    · exact hoff p hc e
    · obtain ⟨e1, e2, e3⟩ := hsame p hc
      rw [e3]
      exact g.off p (e1.symm.trans e)
  · by_cases hc : ch p
    · exact hnd p hc
    · rw [(hsame p hc).2.2]; exact g.nd p
  · by_cases hc : ch p
    · exact hin p a hc h
    · rw [(hsame p hc).2.2] at h; exact g.new p a h
  · refine hH _ _ (g.keep b o e h) fun p hp hm => ?_
    rcases g.new p b hm with w | w
    · cases p with
      | none => cases w
      | some i => exact h i w
    · rw [e] at w; cases w
  · by_cases hc : ch (some i)
    · exact hbst i h hc
    · obtain ⟨x, e, hb⟩ := g.bst i h
      exact ⟨x, (hsame _ hc).1.trans e, hb⟩
  · by_cases hc : ch (some i)
    · exact hbvs i x hc e h
    · exact (hsame _ hc).2.1.trans (g.bvs i x ((hsame _ hc).1.symm.trans e) h)
  · by_cases hc : ch (some i)
    · exact hbnb i x hc e h
    · exact g.bnb i x ((hsame _ hc).1.symm.trans e) h

theorem toD_nb {x : A} {d : D} (h : x.toD = some d) : x.bor = false := by
  cases x with
  | d _ => rfl
  | l b _ => cases b with
    | false => rfl
    | true => cases h
  | k b _ => cases b with
    | false => rfl
    | true => cases h
  | i b _ _ => cases b with
    | false => rfl
    | true => cases h
  | t b _ => cases b with
    | false => rfl
    | true => cases h
theorem OwnF.frz {Z : Addr → Prop} : ∀ {fs : List (Str × A)} {t : List (Str × D)} {vs : List (Str × V)} {q : List Addr}, OwnF mg Z H fs vs q → fldsD fs = some t → RepF mg Z H t vs
  | [], t, vs, q, h, e => by cases e; exact h.1
  | (k, .d x) :: r, t, vs, q, ⟨v, w, p, q', e1, e2, h1, h2⟩, e => by
    have e' : (fldsD r).map (fun t => (k, x) :: t) = some t := e
    cases e3 : fldsD r with
    | none => rw [e3] at e'; cases e'
    | some t' =>
      rw [e3] at e'
      cases e'
      exact ⟨v, w, e1, h1.2, OwnF.frz h2 e3⟩
  | (k, .l _ _) :: r, t, vs, q, _, e => by cases e
  | (k, .k _ _) :: r, t, vs, q, _, e => by cases e
  | (k, .i _ _ _) :: r, t, vs, q, _, e => by cases e
  | (k, .t _ _) :: r, t, vs, q, _, e => by cases e
theorem Own.frz {x : A} {d : D} {u : V} {q : List Addr} {Z : Addr → Prop} (h : Own mg Z H x u q) (e : x.toD = some d) {Z' : Addr → Prop} (hz : ∀ a, Z' a → Z a) (hq : ∀ a ∈ q, ¬ Z' a) : Rep mg Z' H d u := by
  have lift : ∀ a u, ¬ Z a → Rd H a u → ¬ Z' a ∧ Rd H a u := fun a u z h => ⟨fun w => z (hz a w), h⟩
  cases x with
  | d y => cases e; exact h.2.mono lift
  | l b xs => cases b with
    | true => cases e
    | false =>
      cases e
      obtain ⟨a, vs, e1, e2, e3, e4⟩ := h
      exact ⟨a, vs, e1, hq a (by rw [e2]; exact List.mem_cons_self), .inl e3, e4.mono lift⟩
  | k b xs => cases b with
    | true => cases e
    | false =>
      cases e
      obtain ⟨a, vs, e1, e2, e3, e4⟩ := h
      exact ⟨a, vs, e1, hq a (by rw [e2]; exact List.mem_cons_self), .inl e3, e4.mono lift⟩
  | i b c fs => cases b with
    | true => cases e
    | false =>
      have e' : (fldsD fs).map (fun t => D.ins c t) = some d := e
      cases e3 : fldsD fs with
      | none => rw [e3] at e'; cases e'
      | some t =>
        rw [e3] at e'
        cases e'
        obtain ⟨a, C, dx, vs, q', e1, e2, e4, e5, e6⟩ := h
        exact ⟨a, C, dx, vs, e1, hq a (by rw [e2]; exact List.mem_cons_self), e4, .inl e5, (e6.frz e3).mono lift⟩
  | t b x => cases b with
    | true => cases e
    | false => cases e; exact OwnT.rep hq h
/-- the value at hand becomes a tree -/
theorem Good.frzR {x : A} {d : D} (g : Good mg c σ H ρ ts tv (some x) v fp) (e : x.toD = some d) : Good mg c σ H ρ ts tv (some (.d d)) v (fpN fp []) := by
  have hz : ∀ a, Zof c (fpN fp []) a → Zof c fp a := fun a h => by
    rcases h with h | ⟨p, h⟩
    · exact .inl h
    · cases p with
      | none => cases h
      | some i => exact .inr ⟨some i, h⟩
  refine g.remake (fun p => p = none) g.len (fun b o e _ => e) (fun b h => h) (fun p hp => ?_) (fun p x hp e' => ?_) (fun p hp e' => ?_) (fun p hp => ?_) (fun p q a h1 h2 => ?_) (fun p a hp h => ?_) (fun p a h => ?_) (fun i _ h => by cases h) (fun i x h => by cases h) (fun y e => by cases e; rfl) (fun i x h => by cases h)
  · cases p with
    | none => exact absurd rfl hp
    | some i => exact ⟨rfl, rfl, rfl⟩
  · subst hp
    cases e'
    obtain ⟨u, e1, o⟩ := g.ent none _ rfl
    cases e1
    refine ⟨v, rfl, rfl, o.frz e hz fun a ha w => ?_⟩
    rcases w with w | ⟨p, w⟩
    · rcases g.new none a ha with k | k
      · cases k
      · exact g.z0 a w k
    · cases p with
      | none => cases w
      | some i => cases g.ap none (some i) a ha w
  · subst hp; rfl
  · subst hp; exact List.nodup_nil
  · cases p with
    | none => cases h1
    | some i =>
      cases q with
      | none => cases h2
      | some j => exact g.ap _ _ a h1 h2
  · subst hp; cases h
  · cases p with
    | none => cases h
    | some i => exact .inl ⟨some i, h⟩
/-- a slot's object becomes a tree -/
def fpS (fp : Pl → List Addr) (i : Nat) (q : List Addr) : Pl → List Addr
  | none => fp none
  | some j => if j = i then q else fp (some j)
theorem fpS_self {i : Nat} {q : List Addr} : fpS fp i q (some i) = q := if_pos rfl
theorem fpS_ne {i : Nat} {q : List Addr} {p : Pl} (h : p ≠ some i) : fpS fp i q p = fp p := by
  cases p with
  | none => rfl
  | some j => exact if_neg fun e => h (by rw [e])
theorem pl_set {i : Nat} {o : Option A} {p : Pl} (h : p ≠ some i) : plA r (ρ.set i o) p = plA r ρ p := by
  cases p with
  | none => rfl
  | some j =>
    show at_ _ j = at_ _ j
    unfold at_
    rw [List.getElem?_set_ne (fun e => h (by rw [e]))]
theorem Good.frzS {i : Nat} {x : A} {d : D} (g : Good mg c σ H ρ ts tv r v fp) (hx : at_ ρ i = some x) (e : x.toD = some d) : Good mg c σ H (ρ.set i (some (.d d))) ts tv r v (fpS fp i []) ∧ ∃ u, atS σ i = some u ∧ Rep mg (Zof c (fpS fp i [])) H d u := by
  have hz : ∀ a, Zof c (fpS fp i []) a → Zof c fp a := fun a h => by
    rcases h with h | ⟨p, h⟩
    · exact .inl h
    · by_cases hp : p = some i
      · subst hp; rw [fpS_self] at h; cases h
      · rw [fpS_ne hp] at h; exact .inr ⟨p, h⟩
  obtain ⟨u, e1, o⟩ := g.ent (some i) x hx
  have rep : Rep mg (Zof c (fpS fp i [])) H d u := o.frz e hz fun a ha w => by
    rcases w with w | ⟨p, w⟩
    · rcases g.new (some i) a ha with k | k
      · have : c.bor i = [] := g.bnb i x hx (toD_nb e)
        rw [show bOf c (some i) = c.bor i from rfl, this] at k
        cases k
      · exact g.z0 a w k
    · by_cases hp : p = some i
      · subst hp; rw [fpS_self] at w; cases w
      · rw [fpS_ne hp] at w
        exact hp (g.ap (some i) p a ha w).symm
  have hat : at_ (ρ.set i (some (.d d))) i = some (.d d) := by rw [at_set (at_lt hx), if_pos rfl]
  refine ⟨g.remake (fun p => p = some i) (by rw [List.length_set]; exact g.len) (fun b o e _ => e) (fun b h => h) (fun p hp => ⟨pl_set hp, rfl, fpS_ne hp⟩) (fun p y hp e' => ?_) (fun p hp e' => ?_) (fun p hp => ?_) (fun p q a h1 h2 => ?_) (fun p a hp h => ?_) (fun p a h => ?_) (fun j hj h => ?_) (fun j y h e' hb => ?_) g.rnb (fun j y h e' hb => ?_), u, e1, rep⟩
  · subst hp
    have : some (A.d d) = some y := hat.symm.trans e'
    cases this
    rw [fpS_self]
    exact ⟨u, e1, rfl, rep⟩
  · subst hp; exact fpS_self
  · subst hp; rw [fpS_self]; exact List.nodup_nil
  · by_cases hp : p = some i
    · subst hp; rw [fpS_self] at h1; cases h1
    · by_cases hq : q = some i
      · subst hq; rw [fpS_self] at h2; cases h2
      · rw [fpS_ne hp] at h1; rw [fpS_ne hq] at h2; exact g.ap _ _ a h1 h2
  · subst hp; rw [fpS_self] at h; cases h
  · by_cases hp : p = some i
    · subst hp; rw [fpS_self] at h; cases h
    · rw [fpS_ne hp] at h; exact .inl ⟨p, h⟩
  · cases h
    exact absurd (g.bnb i x hx (toD_nb e)) hj
  · cases h
    have : some (A.d d) = some y := hat.symm.trans e'
    cases this
    cases hb
  · cases h
    exact g.bnb i x hx (toD_nb e)
/-- the value at hand goes into a slot -/
def okOld (ρ : Ro) (i : Nat) : Bool := match at_ ρ i with | some x => !x.bor | none => decide (i < ρ.length)
theorem Good.store {i : Nat} {x : A} (g : Good mg c σ H ρ ts tv (some x) v fp) (hi : i < ρ.length) (ho : c.bor i = []) (u : V) : Good mg c (σ.set i (some v)) H (ρ.set i (some x)) ts tv none u (fpS (fpN fp []) i (fp none)) := by
  obtain ⟨w, e1, o⟩ := g.ent none x rfl
  cases e1
  have hz : ∀ a, Zof c (fpS (fpN fp []) i (fp none)) a → Zof c fp a := fun a h => by
    rcases h with h | ⟨p, h⟩
    · exact .inl h
    · by_cases hp : p = some i
      · subst hp; rw [fpS_self] at h; exact .inr ⟨none, h⟩
      · rw [fpS_ne hp] at h
        cases p with
        | none => cases h
        | some j => exact .inr ⟨some j, h⟩
  have hat : at_ (ρ.set i (some x)) i = some x := by rw [at_set hi, if_pos rfl]
  have hσ : i < σ.length := by rw [← g.len]; exact hi
  refine g.remake (fun p => p = some i ∨ p = none) (by rw [List.length_set, List.length_set]; exact g.len) (fun b o e _ => e) (fun b h => h) (fun p hp => ?_) (fun p y hp e' => ?_) (fun p hp e' => ?_) (fun p hp => ?_) (fun p q a h1 h2 => ?_) (fun p a hp h => ?_) (fun p a h => ?_) (fun j hj h => ?_) (fun j y h e' hb => ?_) (fun y e => by cases e) (fun j y h e' hb => ?_)
  · cases p with
    | none => exact absurd (.inr rfl) hp
    | some j =>
      have hj : (some j : Pl) ≠ some i := fun e => hp (.inl e)
      refine ⟨pl_set hj, ?_, fpS_ne hj⟩
      show atS _ j = atS _ j
      rw [atS_set hσ, if_neg fun e => hj (by rw [e])]
  · rcases hp with hp | hp
    · subst hp
      have : some x = some y := hat.symm.trans e'
      cases this
      refine ⟨v, ?_, ?_⟩
      · show atS _ i = _
        rw [atS_set hσ, if_pos rfl]
      · rw [fpS_self]
        exact o.mono (fun a u z h => ⟨fun w => z (hz a w), h⟩) fun _ _ => rfl
    · subst hp; cases e'
  · rcases hp with hp | hp
    · subst hp
      rw [show plA none (ρ.set i (some x)) (some i) = at_ (ρ.set i (some x)) i from rfl, hat] at e'
      cases e'
    · subst hp; rfl
  · rcases hp with hp | hp
    · subst hp; rw [fpS_self]; exact g.nd none
    · subst hp; exact List.nodup_nil
  · by_cases hp : p = some i
    · subst hp
      by_cases hq : q = some i
      · exact hq.symm
      · rw [fpS_self] at h1; rw [fpS_ne hq] at h2
        cases q with
        | none => cases h2
        | some j => cases g.ap none (some j) a h1 h2
    · rw [fpS_ne hp] at h1
      cases p with
      | none => cases h1
      | some k =>
        by_cases hq : q = some i
        · subst hq; rw [fpS_self] at h2; cases g.ap (some k) none a h1 h2
        · rw [fpS_ne hq] at h2
          cases q with
          | none => cases h2
          | some j => exact g.ap (some k) (some j) a h1 h2
  · rcases hp with hp | hp
    · subst hp
      rw [fpS_self] at h
      rcases g.new none a h with w | w
      · cases w
      · exact .inr w
    · subst hp; cases h
  · by_cases hp : p = some i
    · subst hp; rw [fpS_self] at h; exact .inl ⟨none, h⟩
    · rw [fpS_ne hp] at h
      cases p with
      | none => cases h
      | some j => exact .inl ⟨some j, h⟩
  · rcases h with h | h
    · cases h; exact absurd ho hj
    · cases h
  · rcases h with h | h
    · cases h
      have : some x = some y := hat.symm.trans e'
      cases this
      rw [g.rnb x rfl] at hb; cases hb
    · cases h
  · rcases h with h | h
    · cases h; exact ho
    · cases h
/-- the object of a slot is written -/
theorem Good.write {i : Nat} {x x' : A} {u : V} {q : List Addr} (g : Good mg c σ H ρ ts tv r v fp) (hx : at_ ρ i = some x) (hu : atS σ i = some u)
    (hH : ∀ b o, H b = some o → b ∉ fp (some i) → H' b = some o) (hmor : ∀ b, H b ≠ none → H' b ≠ none) (hb : x'.bor = x.bor) (nd : q.Nodup) (hq : ∀ a ∈ q, a ∈ fp (some i) ∨ H a = none)
    (h : Own mg (Zof c (fpS fp i q)) H' x' u q) : Good mg c σ H' (ρ.set i (some x')) ts tv r v (fpS fp i q) := by
  have hat : at_ (ρ.set i (some x')) i = some x' := by rw [at_set (at_lt hx), if_pos rfl]
  refine g.remake (fun p => p = some i) (by rw [List.length_set]; exact g.len) (fun b o e h => hH b o e (h _ rfl)) hmor (fun p hp => ⟨pl_set hp, rfl, fpS_ne hp⟩) (fun p y hp e' => ?_) (fun p hp e' => ?_) (fun p hp => ?_) (fun p p' a h1 h2 => ?_) (fun p a hp h => ?_) (fun p a h => ?_) (fun j hj h => ?_) (fun j y h e' hb' => ?_) g.rnb (fun j y h e' hb' => ?_)
  · subst hp
    have : some x' = some y := hat.symm.trans e'
    cases this
    rw [fpS_self]
    exact ⟨u, hu, h⟩
  · subst hp
    rw [show plA r (ρ.set i (some x')) (some i) = at_ (ρ.set i (some x')) i from rfl, hat] at e'
    cases e'
  · subst hp; rw [fpS_self]; exact nd
  · by_cases hp : p = some i
    · subst hp
      by_cases hp' : p' = some i
      · exact hp'.symm
      · rw [fpS_self] at h1; rw [fpS_ne hp'] at h2
        rcases hq a h1 with k | k
        · exact g.ap _ _ a k h2
        · exact absurd k (g.alloc h2)
    · rw [fpS_ne hp] at h1
      by_cases hp' : p' = some i
      · subst hp'; rw [fpS_self] at h2
        rcases hq a h2 with k | k
        · exact g.ap _ _ a h1 k
        · exact absurd k (g.alloc h1)
      · rw [fpS_ne hp'] at h2; exact g.ap _ _ a h1 h2
  · subst hp; rw [fpS_self] at h
    rcases hq a h with k | k
    · exact g.new _ a k
    · exact .inr (g.new' k)
  · by_cases hp : p = some i
    · subst hp; rw [fpS_self] at h
      rcases hq a h with k | k
      · exact .inl ⟨_, k⟩
      · exact .inr k
    · rw [fpS_ne hp] at h; exact .inl ⟨p, h⟩
  · cases h
    obtain ⟨y, e1, e2⟩ := g.bst i hj
    rw [hx] at e1; cases e1
    exact ⟨x', hat, hb.trans e2⟩
  · cases h
    have : some x' = some y := hat.symm.trans e'
    cases this
    exact g.bvs i x hx (hb.symm.trans hb')
  · cases h
    have : some x' = some y := hat.symm.trans e'
    cases this
    exact g.bnb i x hx (hb.symm.trans hb')
/-- a slot is forgotten -/
theorem Good.forget {i : Nat} (g : Good mg c σ H ρ ts tv r v fp) (hi : i < ρ.length) (ho : c.bor i = []) (w : Option V) : Good mg c (σ.set i w) H (ρ.set i none) ts tv r v (fpS fp i []) := by
  have hat : at_ (ρ.set i none) i = none := by rw [at_set hi, if_pos rfl]
  have hσ : i < σ.length := by rw [← g.len]; exact hi
  refine g.remake (fun p => p = some i) (by rw [List.length_set, List.length_set]; exact g.len) (fun b o e _ => e) (fun b h => h) (fun p hp => ⟨pl_set hp, ?_, fpS_ne hp⟩) (fun p y hp e' => ?_) (fun p hp e' => ?_) (fun p hp => ?_) (fun p q a h1 h2 => ?_) (fun p a hp h => ?_) (fun p a h => ?_) (fun j hj h => ?_) (fun j y h e' hb => ?_) g.rnb (fun j y h e' hb => ?_)
  · cases p with
    | none => rfl
    | some j =>
      show atS _ j = atS _ j
      rw [atS_set hσ, if_neg fun e => hp (by rw [e])]
  · subst hp
    have : none = some y := hat.symm.trans e'
    cases this
  · subst hp; exact fpS_self
  · subst hp; rw [fpS_self]; exact List.nodup_nil
  · by_cases hp : p = some i
    · subst hp; rw [fpS_self] at h1; cases h1
    · by_cases hq : q = some i
      · subst hq; rw [fpS_self] at h2; cases h2
      · rw [fpS_ne hp] at h1; rw [fpS_ne hq] at h2; exact g.ap _ _ a h1 h2
  · subst hp; rw [fpS_self] at h; cases h
  · by_cases hp : p = some i
    · subst hp; rw [fpS_self] at h; cases h
    · rw [fpS_ne hp] at h; exact .inl ⟨p, h⟩
  · cases h; exact absurd ho hj
  · cases h
    have : none = some y := hat.symm.trans e'
    cases this
  · cases h; exact ho
end
end Tw
end
section
set_option maxRecDepth 100000
/-! layer 4: judgements, expressions -/
namespace Tw
open PySem PySem.Spec PyProof.Rows L2

abbrev EF := Ro → Option (A × Ro)
def tE (mg : Str → Option Value) (f : EF) : TE := fun σ H Q => ∃ c ρ ts tv r ρ', SR mg c σ H ρ ts tv none .non ∧ f ρ = some (r, ρ') ∧ ∀ v H', SR mg c σ H' ρ' ts tv (some r) v → Q v H'
def EI (X : Cx) (e : Expr) (f : EF) : Prop := PE X e (tE X.mg f)
theorem _root_.L2.PE.imp {X : Cx} {e : Expr} {t t' : TE} (h : PE X e t) (k : ∀ σ H Q, t' σ H Q → t σ H Q) : PE X e t' := ⟨fun pins s σ H Q I w => h.run pins s σ H Q I (k σ H Q w)⟩
theorem _root_.L2.PT.imp {X : Cx} {e : Expr} {t t' : TT} (h : PT X e t) (k : ∀ σ H Q, t' σ H Q → t σ H Q) : PT X e t' := ⟨fun pins s σ H Q I w => h.run pins s σ H Q I (k σ H Q w)⟩
/-- the value as a tree -/
def dv (f : EF) : Ro → Option (D × Ro) := fun ρ => (f ρ).bind fun x => (x.1.toD).map fun d => (d, x.2)
theorem dv_some {f : EF} {ρ ρ' : Ro} {d : D} : dv f ρ = some (d, ρ') ↔ ∃ r, f ρ = some (r, ρ') ∧ r.toD = some d := by
  unfold dv
  constructor
  · intro h
    cases e : f ρ with
    | none => rw [e] at h; cases h
    | some x =>
      rw [e] at h
      obtain ⟨r, ρ1⟩ := x
      cases q : r.toD with
      | none => simp [q] at h
      | some d' =>
        simp [q] at h
        obtain ⟨h1, h2⟩ := h
        subst h1; subst h2
        exact ⟨r, rfl, q⟩
  · rintro ⟨r, e, q⟩
    rw [e]; simp [q]
section
variable {mg : Str → Option Value} {c : Fx} {σ : Sg} {H H' : Hp} {ρ ρ' : Ro} {ts : List D} {tv : List V} {r : Option A} {v : V} {f g : EF}
theorem SR.frz {x : A} {d : D} (h : SR mg c σ H ρ ts tv (some x) v) (e : x.toD = some d) : SR mg c σ H ρ ts tv (some (.d d)) v := let ⟨_, g⟩ := h; ⟨_, g.frzR e⟩
theorem SR.push {d : D} (h : SR mg c σ H ρ ts tv (some (.d d)) v) : SR mg c σ H ρ (d :: ts) (v :: tv) none .non := let ⟨_, g⟩ := h; ⟨_, g.push .non⟩
/-- go on with a tree set aside -/
theorem tE_dv {d : D} {Q : VK} (s : SR mg c σ H ρ ts tv none .non) (e : dv f ρ = some (d, ρ')) (k : ∀ v H', SR mg c σ H' ρ' (d :: ts) (v :: tv) none .non → Q v H') : tE mg f σ H Q := by
  obtain ⟨r, e1, e2⟩ := dv_some.mp e
  exact ⟨c, ρ, ts, tv, r, ρ', s, e1, fun v H' s' => k v H' (s'.frz e2).push⟩
theorem tE_r {x : A} {Q : VK} (s : SR mg c σ H ρ ts tv none .non) (e : f ρ = some (x, ρ')) (k : ∀ v H', SR mg c σ H' ρ' ts tv (some x) v → Q v H') : tE mg f σ H Q := ⟨c, ρ, ts, tv, x, ρ', s, e, k⟩
theorem Good.pops {fp : Pl → List Addr} {xs : List D} {ys : List V} (g : Good mg c σ H ρ (xs ++ ts) (ys ++ tv) r v fp) (hl : xs.length = ys.length) : Good mg c σ H ρ ts tv r v fp := by
  have t : Reps mg (Zof c fp) H ts tv := by
    have := g.tmp.drop xs.length
    rw [List.drop_left' rfl, List.drop_left' hl.symm] at this
    exact this
  exact ⟨g.len, g.ent, g.off, g.nd, g.ap, g.new, t, g.keep, g.mor, g.z0, g.bz, g.bst, g.bvs, g.rnb, g.bnb⟩
/-- what an operation answers: r, at the heap H, Z stands still -/
def Ret (mg : Str → Option Value) (Z : Addr → Prop) (H : Hp) (r : A) (Q : VK) : Prop :=
  ∀ v H' q, Sm H H' → (∀ a ∈ q, H a = none) → q.Nodup → Own mg (fun b => Z b ∨ b ∈ q) H' r v q → r.bor = false → Q v H'
theorem Ret.d {Z : Addr → Prop} {x : D} {Q : VK} (k : Ret mg Z H (.d x) Q) {v : V} {H' : Hp} (s : Sm H H') (h : Rep mg Z H' x v) : Q v H' :=
  k v H' [] s (fun _ h => by cases h) List.nodup_nil ⟨rfl, h.mono fun a u z w => ⟨fun e => (by rcases e with e | e; exact z e; cases e), w⟩⟩ rfl
theorem Ret.sc {Z : Addr → Prop} {x : D} {Q : VK} (k : Ret mg Z H (.d x) Q) {v : V} (h : Rep mg Z H x v) : Q v H := k.d (Sm.refl _) h
theorem Reps.new {Z : Addr → Prop} {p : Addr} {o : HO} {xs : List D} {vs : List V} (hp : H p = none) (h : Reps mg Z H xs vs) : Reps mg (fun b => Z b ∨ b ∈ [p]) (upd H p o) xs vs :=
  h.mono fun a u z w => ⟨fun e => by
    rcases e with e | e
    · exact z e
    · exact rd_some w (by rw [List.mem_singleton.mp e]; exact hp), (Sm.new hp).rd w⟩
theorem RepK.new {Z : Addr → Prop} {p : Addr} {o : HO} {xs : List (Key × D)} {vs : List (Key × V)} (hp : H p = none) (h : RepK mg Z H xs vs) : RepK mg (fun b => Z b ∨ b ∈ [p]) (upd H p o) xs vs :=
  h.mono fun a u z w => ⟨fun e => by
    rcases e with e | e
    · exact z e
    · exact rd_some w (by rw [List.mem_singleton.mp e]; exact hp), (Sm.new hp).rd w⟩
theorem Ret.l {Z : Addr → Prop} {xs : List D} {vs : List V} {Q : VK} (k : Ret mg Z H (.l false xs) Q) (h : Reps mg Z H xs vs) {p : Addr} (hp : H p = none) : Q (.ref p) (upd H p (.lst vs)) :=
  k (.ref p) _ [p] (Sm.new hp) (fun a e => by rw [List.mem_singleton.mp e]; exact hp) (by simp) ⟨p, vs, rfl, rfl, upd_same, h.new hp⟩ rfl
theorem Ret.k {Z : Addr → Prop} {xs : List (Key × D)} {vs : List (Key × V)} {Q : VK} (k : Ret mg Z H (.k false xs) Q) (h : RepK mg Z H xs vs) {p : Addr} (hp : H p = none) : Q (.ref p) (upd H p (.dK vs)) :=
  k (.ref p) _ [p] (Sm.new hp) (fun a e => by rw [List.mem_singleton.mp e]; exact hp) (by simp) ⟨p, vs, rfl, rfl, upd_same, h.new hp⟩ rfl
/-- a new tuple is a tree at once -/
theorem Ret.t {Z : Addr → Prop} {xs : List D} {vs : List V} {Q : VK} (hz : ∀ a, Z a → H a ≠ none) (k : Ret mg Z H (.d (.tup xs)) Q) (h : Reps mg Z H xs vs) {p : Addr} {o : Obj} (hp : H p = none) (ho : o.dict = none) : Q (.ref p) (upd H p (.frz o (.tup vs))) :=
  k.d (Sm.new hp) ⟨p, vs, o, rfl, fun w => hz p w hp, ho, .inl upd_same, h.mono fun a u z w => ⟨z, (Sm.new hp).rd w⟩⟩
/-- an operation's answer becomes the value at hand -/
theorem SR.ret {x : A} {Q : VK} {fp : Pl → List Addr} (g : Good mg c σ H ρ ts tv none .non fp) (k : ∀ v H', SR mg c σ H' ρ ts tv (some x) v → Q v H') : Ret mg (Zof c fp) H x Q := fun v H' q s hq nd h hb => k v H' ⟨_, g.made s hq nd h hb⟩

/-! ### two operands -/
/-- an operand: a tree, or a slot that is looked at when all operands are there -/
inductive Opd where
  | ev (f : EF)
  | pk (i : Nat)
def A.toP : A → Option D
  | .d x => some x
  | .l _ xs => some (.lst xs)
  | .k _ kvs => some (.dic kvs)
  | .i _ _ _ => none
  | .t _ _ => none
def peek (ρ : Ro) (i : Nat) : Option D := (at_ ρ i).bind A.toP
def ev1 : Opd → Ro → Option (Sum D Nat × Ro)
  | .ev f, ρ => (dv f ρ).map fun x => (.inl x.1, x.2)
  | .pk i, ρ => if (at_ ρ i).isSome = true then some (.inr i, ρ) else none
def res (ρ : Ro) : Sum D Nat → Option D
  | .inl d => some d
  | .inr i => peek ρ i
/-- as Rep, but the object itself may be one that is written -/
def RepT (mg : Str → Option Value) (Z : Addr → Prop) (H : Hp) : D → V → Prop
  | .lst ds, v => ∃ a vs, v = .ref a ∧ Rd H a (.lst vs) ∧ Reps mg Z H ds vs
  | .dic ds, v => ∃ a vs, v = .ref a ∧ Rd H a (.dK vs) ∧ RepK mg Z H ds vs
  | d, v => Rep mg Z H d v
theorem Rep.t {Z : Addr → Prop} {d : D} {v : V} (h : Rep mg Z H d v) : RepT mg Z H d v := by
  cases d with
  | lst ds => obtain ⟨a, vs, e, _, g, r⟩ := h; exact ⟨a, vs, e, g, r⟩
  | dic ds => obtain ⟨a, vs, e, _, g, r⟩ := h; exact ⟨a, vs, e, g, r⟩
  | _ => exact h
theorem Good.peek {fp : Pl → List Addr} {i : Nat} {d : D} (g : Good mg c σ H ρ ts tv r v fp) (h : peek ρ i = some d) {u : V} (hu : atS σ i = some u) : RepT mg (Zof c fp) H d u := by
  unfold Tw.peek at h
  cases e : at_ ρ i with
  | none => rw [e] at h; cases h
  | some x =>
    rw [e, Option.bind_some] at h
    obtain ⟨u', e1, o⟩ := g.ent (some i) x e
    cases hu.symm.trans e1
    cases x with
    | d y => cases h; exact o.2.t
    | l b xs => cases h; obtain ⟨a, vs, e1, e2, e3, e4⟩ := o; exact ⟨a, vs, e1, .inl e3, e4⟩
    | k b xs => cases h; obtain ⟨a, vs, e1, e2, e3, e4⟩ := o; exact ⟨a, vs, e1, .inl e3, e4⟩
    | i _ _ _ => cases h
    | t _ _ => cases h
/-- an operand as it was evaluated -/
def RA (mg : Str → Option Value) (Z : Addr → Prop) (σ : Sg) (H : Hp) : Sum D Nat → V → Prop
  | .inl d, v => Rep mg Z H d v
  | .inr i, v => atS σ i = some v
theorem Good.res {fp : Pl → List Addr} (g : Good mg c σ H ρ ts tv r v fp) {a : Sum D Nat} {u : V} {d : D} (h : RA mg (Zof c fp) σ H a u) (e : res ρ a = some d) : RepT mg (Zof c fp) H d u := by
  cases a with
  | inl x => cases e; exact Rep.t h
  | inr i => exact g.peek e h
def tO (mg : Str → Option Value) : Opd → TE
  | .ev f => tE mg f
  | .pk i => tVar i
def OI (X : Cx) (e : Expr) (o : Opd) : Prop := PE X e (tO X.mg o)
/-- how an evaluated operand is kept: a tree is set aside -/
def keepD : Sum D Nat → List D → List D
  | .inl d, ts => d :: ts
  | .inr _, ts => ts
def keepV : Sum D Nat → V → List V → List V
  | .inl _, v, tv => v :: tv
  | .inr _, _, tv => tv
theorem tO_go {o : Opd} {a : Sum D Nat} {Q : VK} (s : SR mg c σ H ρ ts tv none .non) (e : ev1 o ρ = some (a, ρ'))
    (k : ∀ v H', SR mg c σ H' ρ' (keepD a ts) (keepV a v tv) none .non → (∀ i, a = .inr i → atS σ i = some v) → Q v H') : tO mg o σ H Q := by
  cases o with
  | ev f =>
    have e' : (dv f ρ).map (fun x => ((Sum.inl x.1 : Sum D Nat), x.2)) = some (a, ρ') := e
    cases q : dv f ρ with
    | none => rw [q] at e'; cases e'
    | some x =>
      rw [q] at e'
      cases e'
      exact tE_dv (ρ' := x.2) (d := x.1) s q fun v H' s' => k v H' s' fun i h => by cases h
  | pk i =>
    have e' : (if (at_ ρ i).isSome = true then some ((Sum.inr i : Sum D Nat), ρ) else none) = some (a, ρ') := e
    by_cases hl : (at_ ρ i).isSome = true
    case neg => rw [if_neg hl] at e'; cases e'
    rw [if_pos hl] at e'
    cases e'
    obtain ⟨x, hx⟩ := Option.isSome_iff_exists.mp hl
    obtain ⟨fp, g⟩ := id s
    obtain ⟨u, hu, _⟩ := g.ent (some i) x hx
    exact ⟨u, atS_of.mp hu, k u H s fun j h => by cases h; exact hu⟩
def bin (o p : Opd) (op : D → D → Option A) : EF := fun ρ => (ev1 o ρ).bind fun x => (ev1 p x.2).bind fun y => (res y.2 x.1).bind fun a => (res y.2 y.1).bind fun b => (op a b).map fun r => (r, y.2)
theorem bind_some {α β : Type} {x : Option α} {f : α → Option β} {b : β} : x.bind f = some b ↔ ∃ a, x = some a ∧ f a = some b := by
  cases x <;> simp
theorem map_some {α β : Type} {x : Option α} {f : α → β} {b : β} : x.map f = some b ↔ ∃ a, x = some a ∧ f a = b := by
  cases x <;> simp
theorem bin_some {o p : Opd} {op : D → D → Option A} {x : A} : bin o p op ρ = some (x, ρ') → ∃ s ρ1 t a b, ev1 o ρ = some (s, ρ1) ∧ ev1 p ρ1 = some (t, ρ') ∧ res ρ' s = some a ∧ res ρ' t = some b ∧ op a b = some x := by
  unfold bin
  intro h
  obtain ⟨⟨s, ρ1⟩, e1, h⟩ := bind_some.mp h
  obtain ⟨⟨t, ρ2⟩, e2, h⟩ := bind_some.mp h
  obtain ⟨a, e3, h⟩ := bind_some.mp h
  obtain ⟨b, e4, h⟩ := bind_some.mp h
  obtain ⟨r, e5, h⟩ := map_some.mp h
  cases h
  exact ⟨s, ρ1, t, a, b, e1, e2, e3, e4, e5⟩
def rD (mg : Str → Option Value) (op : D → D → Option A) : R2 := fun x y H Q => ∃ Z a b r, (∀ p, Z p → H p ≠ none) ∧ RepT mg Z H a x ∧ RepT mg Z H b y ∧ op a b = some r ∧ Ret mg Z H r Q
theorem Good.pop1 {fp : Pl → List Addr} {a : Sum D Nat} {u : V} (g : Good mg c σ H ρ (keepD a ts) (keepV a u tv) none v fp) (hu : ∀ i, a = .inr i → atS σ i = some u) : Good mg c σ H ρ ts tv none v fp ∧ RA mg (Zof c fp) σ H a u := by
  cases a with
  | inl d =>
    obtain ⟨w, tw, e, h, t⟩ := g.tmp
    cases e
    exact ⟨g.pops (xs := [d]) (ys := [u]) rfl, h⟩
  | inr i => exact ⟨g, hu i rfl⟩
theorem tOp_of {o p : Opd} {op : D → D → Option A} {Q : VK} (h : tE mg (bin o p op) σ H Q) : tOp (rD mg op) (tO mg o) (tO mg p) σ H Q := by
  obtain ⟨c, ρ, ts, tv, r, ρ', s, e, k⟩ := h
  obtain ⟨x, ρ1, y, a, b, e1, e2, e3, e4, e5⟩ := bin_some e
  refine tO_go s e1 fun u H1 s1 hu => tO_go s1 e2 fun w H2 s2 hw => ?_
  obtain ⟨fp, g2⟩ := s2
  obtain ⟨g1, rb⟩ := g2.pop1 hw
  obtain ⟨g0, ra⟩ := g1.pop1 hu
  exact ⟨_, a, b, r, fun p h => g2.zal h, g0.res ra e3, g0.res rb e4, e5, SR.ret g0 k⟩
end
section
variable {X : Cx} {a b : Expr} {f g : EF} {o p : Opd} {pos : Pos}
theorem o_ev {e : Expr} (h : EI X e f) : OI X e (.ev f) := h
theorem o_pk (i : Nat) {x : Str} (hN : X.N[i]? = some x := by rfl) (hv : Vis X.env.scope x := by first | exact Or.inl rfl | exact Or.inr (Or.inl rfl) | exact Or.inr (Or.inr rfl)) (hd : (x == ("__debug__" : Str)) = false := by decide)
    (hcd : (x == ("__classdict__" : Str)) = false := by decide) : OI X (.Name x pos) (.pk i) := pe_var hN hv hd hcd
abbrev OpD (X : Cx) (F : Value → Value → Sem Value) (op : D → D → Option A) : Prop := OpR X F (rD X.mg op)
theorem e_bin {op : Operator} {F : D → D → Option A} (ho : OpD X (binaryOp op) F) (ha : OI X a o) (hb : OI X b p) : EI X (.BinOp a op b pos) (bin o p F) :=
  (pe_op ho ha hb).imp fun _ _ _ h => tOp_of h
theorem e_cmp {op : CmpOp} {F : D → D → Option A} (ho : OpD X (compareOp op) F) (ha : OI X a o) (hb : OI X b p) (hm : behindInMarks op b = false) : EI X (.Compare a [op] [b] pos) (bin o p F) :=
  (pe_cmpR ho ha hb hm).imp fun _ _ _ h => tOp_of h
theorem OpD.or {F : Value → Value → Sem Value} {p q : D → D → Option A} (h : OpD X F p) (k : OpD X F q) : OpD X F (fun a b => (p a b).or (q a b)) := by
  intro pins s σ H x y v u Q I rx ry w
  obtain ⟨Z, a, b, r, hz, ra, rb, e, k'⟩ := w
  cases e1 : p a b with
  | some z =>
    have e' : (p a b).or (q a b) = some r := e
    rw [e1] at e'
    cases e'
    exact h pins s σ H x y v u Q I rx ry ⟨Z, a, b, _, hz, ra, rb, e1, k'⟩
  | none =>
    have e' : (p a b).or (q a b) = some r := e
    rw [e1] at e'
    exact k pins s σ H x y v u Q I rx ry ⟨Z, a, b, _, hz, ra, rb, e', k'⟩

/-! ### names and constants -/
/-- a name whose value is read -/
def var (i : Nat) : EF := fun ρ => (at_ ρ i).bind fun x => x.toD.map fun d => (.d d, ρ.set i (some (.d d)))
theorem e_var (i : Nat) {x : Str} (hN : X.N[i]? = some x := by rfl) (hv : Vis X.env.scope x := by first | exact Or.inl rfl | exact Or.inr (Or.inl rfl) | exact Or.inr (Or.inr rfl)) (hd : (x == ("__debug__" : Str)) = false := by decide)
    (hcd : (x == ("__classdict__" : Str)) = false := by decide) : EI X (.Name x pos) (var i) := by
  refine (pe_var hN hv hd hcd).imp fun σ H Q h => ?_
  obtain ⟨c, ρ, ts, tv, r, ρ', ⟨fp, g⟩, e, k⟩ := h
  unfold var at e
  cases e1 : at_ ρ i with
  | none => rw [e1] at e; cases e
  | some y =>
    rw [e1, Option.bind_some] at e
    cases e2 : y.toD with
    | none => rw [e2] at e; cases e
    | some d =>
      rw [e2] at e
      cases e
      obtain ⟨g', u, hu, rep⟩ := g.frzS e1 e2
      exact ⟨u, atS_of.mp hu, k u H ⟨_, g'.put rep⟩⟩
def cst (x : D) : EF := fun ρ => some (.d x, ρ)
theorem e_cst {e : Expr} {v : V} {x : D} (h : PE X e (tC v)) (r : ∀ Z H, Rep X.mg Z H x v) : EI X e (cst x) := h.imp fun σ H Q h => by
  obtain ⟨c, ρ, ts, tv, r', ρ', ⟨fp, g⟩, e, k⟩ := h
  cases e
  exact k v H ⟨_, g.put (r _ _)⟩
theorem e_int {i : Int} {j pos} : EI X (.Constant (.int i) j pos) (cst (.int i)) := e_cst pe_int fun _ _ => rfl
theorem e_bl {i : Bool} {j pos} : EI X (.Constant (.bool i) j pos) (cst (.bl i)) := e_cst pe_bl fun _ _ => rfl
theorem e_non {j pos} : EI X (.Constant .none j pos) (cst .non) := e_cst pe_non fun _ _ => rfl
theorem e_str {i : Str} {j pos} : EI X (.Constant (.str i) j pos) (cst (.str i)) := e_cst pe_str fun _ _ => rfl
theorem e_gint {x : Str} {i : Int} {t : Tok} (hg : Gl X x := by rfl) (hm : X.mg x = some (.int i t)) (hd : (x == ("__debug__" : Str)) = false := by decide) : EI X (.Name x pos) (cst (.int i)) := e_cst (pe_glob (v := .int i) hg hm ⟨t, rfl⟩ hd) fun _ _ => rfl
theorem e_gstr {x : Str} {i : Str} {t : Tok} (hg : Gl X x := by rfl) (hm : X.mg x = some (.str i t)) (hd : (x == ("__debug__" : Str)) = false := by decide) : EI X (.Name x pos) (cst (.str i)) := e_cst (pe_glob (v := .str i) hg hm ⟨t, rfl⟩ hd) fun _ _ => rfl

/-! ### tests -/
abbrev TF := Ro → Option (Bool × Ro)
def tTst (mg : Str → Option Value) (f : TF) : TT := fun σ H Q => ∃ c ρ ts tv r ρ', SR mg c σ H ρ ts tv none .non ∧ f ρ = some (r, ρ') ∧ ∀ H', SR mg c σ H' ρ' ts tv none .non → Q r H'
def TI (X : Cx) (e : Expr) (f : TF) : Prop := PT X e (tTst X.mg f)
def WI (X : Cx) (e : Expr) (f : TF) : Prop := PW X e (tTst X.mg f)
/-- a value that is a bool -/
def asB (f : EF) : TF := fun ρ => (f ρ).bind fun x => match x.1 with | .d (.bl b) => some (b, x.2) | _ => none
theorem asB_some {f : EF} {ρ ρ' : Ro} {b : Bool} : asB f ρ = some (b, ρ') ↔ f ρ = some (.d (.bl b), ρ') := by
  unfold asB
  constructor
  · intro h
    cases e : f ρ with
    | none => rw [e] at h; cases h
    | some x =>
      rw [e] at h
      obtain ⟨r, ρ1⟩ := x
      simp only [Option.bind_some] at h
      split at h
      · cases h
        simp_all
      · cases h
  · intro h; rw [h]; rfl
theorem tB_of {mg : Str → Option Value} {σ : Sg} {H : Hp} {Q : Bool → Hp → Prop} (h : tTst mg (asB f) σ H Q) : tE mg f σ H fun x H1 => ∃ c, x = .bl c ∧ Q c H1 := by
  obtain ⟨c, ρ, ts, tv, r, ρ', s, e, k⟩ := h
  refine tE_r s (asB_some.mp e) fun v H' s' => ?_
  obtain ⟨fp, g⟩ := id s'
  obtain ⟨u, e1, e2, e3⟩ := g.ent none _ rfl
  cases e1
  have e3 : v = .bl r := e3
  exact ⟨r, e3, k H' (s'.drop _)⟩
theorem t_val {e : Expr} (h : EI X e f) (he : ∀ whole, isTrue e X.env whole = (do let v ← whole; standAt e.pos; holding [v] (truthy v)) := by intro _; rfl) : TI X e (asB f) := (pt_val h he).imp fun _ _ _ h => tB_of h
theorem t_cmp {op : CmpOp} {F : D → D → Option A} (ho : OpD X (compareOp op) F) (ha : OI X a o) (hb : OI X b p) (hm : behindInMarks op b = false) : TI X (.Compare a [op] [b] pos) (asB (bin o p F)) :=
  (pt_cmpR ho ha hb hm).imp fun σ H Q h => tOp_of (tB_of h)
def notT (f : TF) : TF := fun ρ => (f ρ).map fun x => (!x.1, x.2)
theorem t_not {f : TF} (h : TI X a f) : TI X (.UnaryOp .Not a pos) (notT f) := (pt_not h).imp fun σ H Q h => by
  obtain ⟨c, ρ, ts, tv, r, ρ', s, e, k⟩ := h
  unfold notT at e
  cases e1 : f ρ with
  | none => rw [e1] at e; cases e
  | some x =>
    rw [e1] at e
    cases e
    exact ⟨c, ρ, ts, tv, x.1, x.2, s, e1, k⟩
def andT (f g : TF) : TF := fun ρ => (f ρ).bind fun x => if x.1 then g x.2 else some (false, x.2)
def orT (f g : TF) : TF := fun ρ => (f ρ).bind fun x => if x.1 then some (true, x.2) else g x.2
theorem w_and1 {f : TF} (h : TI X a f) : WI X (.BoolOp .And [a] pos) f := pw_and1 h
theorem w_or1 {f : TF} (h : TI X a f) : WI X (.BoolOp .Or [a] pos) f := pw_or1 h
theorem _root_.L2.PW.imp {X : Cx} {e : Expr} {t t' : TT} (h : PW X e t) (k : ∀ σ H Q, t' σ H Q → t σ H Q) : PW X e t' := ⟨fun wh pins s σ H Q I w => h.run wh pins s σ H Q I (k σ H Q w)⟩
theorem w_and {rest : List Expr} {f g : TF} (h : TI X a f) (k : WI X (.BoolOp .And (b :: rest) pos) g) : WI X (.BoolOp .And (a :: b :: rest) pos) (andT f g) := (pw_and h k).imp fun σ H Q h => by
  obtain ⟨c, ρ, ts, tv, r, ρ', s, e, k⟩ := h
  unfold andT at e
  cases e1 : f ρ with
  | none => rw [e1] at e; cases e
  | some x =>
    rw [e1, Option.bind_some] at e
    obtain ⟨b, ρ1⟩ := x
    refine ⟨c, ρ, ts, tv, b, ρ1, s, e1, fun H' s' => ?_⟩
    cases b with
    | true => rw [if_pos rfl]; rw [if_pos rfl] at e; exact ⟨c, ρ1, ts, tv, r, ρ', s', e, k⟩
    | false =>
      rw [if_neg (by simp)]; rw [if_neg (by simp)] at e
      cases e
      exact k H' s'
theorem w_or {rest : List Expr} {f g : TF} (h : TI X a f) (k : WI X (.BoolOp .Or (b :: rest) pos) g) : WI X (.BoolOp .Or (a :: b :: rest) pos) (orT f g) := (pw_or h k).imp fun σ H Q h => by
  obtain ⟨c, ρ, ts, tv, r, ρ', s, e, k⟩ := h
  unfold orT at e
  cases e1 : f ρ with
  | none => rw [e1] at e; cases e
  | some x =>
    rw [e1, Option.bind_some] at e
    obtain ⟨b, ρ1⟩ := x
    refine ⟨c, ρ, ts, tv, b, ρ1, s, e1, fun H' s' => ?_⟩
    cases b with
    | false => rw [if_neg (by simp)]; rw [if_neg (by simp)] at e; exact ⟨c, ρ1, ts, tv, r, ρ', s', e, k⟩
    | true =>
      rw [if_pos rfl]; rw [if_pos rfl] at e
      cases e
      exact k H' s'
theorem t_w {e : Expr} {f : TF} (h : WI X e f) : TI X e f := PW.pt h
/-- bools as values -/
def toV (f : TF) : EF := fun ρ => (f ρ).map fun x => (.d (.bl x.1), x.2)
theorem toV_some {f : TF} {ρ ρ' : Ro} {x : A} : toV f ρ = some (x, ρ') ↔ ∃ b, f ρ = some (b, ρ') ∧ x = .d (.bl b) := by
  unfold toV
  cases f ρ with
  | none => simp
  | some y =>
    obtain ⟨b, ρ1⟩ := y
    simp only [Option.map_some, Option.some.injEq, Prod.mk.injEq]
    constructor
    · rintro ⟨rfl, rfl⟩; exact ⟨b, ⟨rfl, rfl⟩, rfl⟩
    · rintro ⟨b', ⟨rfl, rfl⟩, rfl⟩; exact ⟨rfl, rfl⟩
def ifE (t : TF) (f g : EF) : EF := fun ρ => (t ρ).bind fun x => if x.1 then f x.2 else g x.2
theorem e_if {cnd : Expr} {t : TF} (hc : TI X cnd t) (ha : EI X a f) (hb : EI X b g) : EI X (.IfExp cnd a b pos) (ifE t f g) := (pe_ifExp hc ha hb).imp fun σ H Q h => by
  obtain ⟨c, ρ, ts, tv, r, ρ', s, e, k⟩ := h
  unfold ifE at e
  cases e1 : t ρ with
  | none => rw [e1] at e; cases e
  | some x =>
    rw [e1, Option.bind_some] at e
    obtain ⟨b, ρ1⟩ := x
    refine ⟨c, ρ, ts, tv, b, ρ1, s, e1, fun H' s' => ?_⟩
    cases b with
    | true => rw [if_pos rfl]; rw [if_pos rfl] at e; exact ⟨c, ρ1, ts, tv, r, ρ', s', e, k⟩
    | false => rw [if_neg (by simp)]; rw [if_neg (by simp)] at e; exact ⟨c, ρ1, ts, tv, r, ρ', s', e, k⟩
/-- and, or, not as values: all parts bools -/
theorem e_one {op : BoolOp} (h : EI X a f) : EI X (.BoolOp op [a] pos) f := pe_one h
def andV (f g : EF) : EF := fun ρ => (asB f ρ).bind fun x => if x.1 then g x.2 else some (.d (.bl false), x.2)
def orV (f g : EF) : EF := fun ρ => (asB f ρ).bind fun x => if x.1 then some (.d (.bl true), x.2) else g x.2
theorem e_and {rest : List Expr} (h : EI X a f) (k : EI X (.BoolOp .And (b :: rest) pos) g) : EI X (.BoolOp .And (a :: b :: rest) pos) (andV f g) := (pe_and h k).imp fun σ H Q h => by
  obtain ⟨c, ρ, ts, tv, r, ρ', s, e, k⟩ := h
  unfold andV at e
  cases e1 : asB f ρ with
  | none => rw [e1] at e; cases e
  | some x =>
    rw [e1, Option.bind_some] at e
    obtain ⟨b, ρ1⟩ := x
    refine tB_of ⟨c, ρ, ts, tv, b, ρ1, s, e1, fun H' s' => ?_⟩
    cases b with
    | true => rw [if_pos rfl]; rw [if_pos rfl] at e; exact ⟨c, ρ1, ts, tv, r, ρ', s', e, k⟩
    | false =>
      rw [if_neg (by simp)]; rw [if_neg (by simp)] at e
      cases e
      obtain ⟨fp, g⟩ := s'
      exact k _ H' ⟨_, g.put (u := .bl false) rfl⟩
theorem e_or {rest : List Expr} (h : EI X a f) (k : EI X (.BoolOp .Or (b :: rest) pos) g) : EI X (.BoolOp .Or (a :: b :: rest) pos) (orV f g) := (pe_or h k).imp fun σ H Q h => by
  obtain ⟨c, ρ, ts, tv, r, ρ', s, e, k⟩ := h
  unfold orV at e
  cases e1 : asB f ρ with
  | none => rw [e1] at e; cases e
  | some x =>
    rw [e1, Option.bind_some] at e
    obtain ⟨b, ρ1⟩ := x
    refine tB_of ⟨c, ρ, ts, tv, b, ρ1, s, e1, fun H' s' => ?_⟩
    cases b with
    | false => rw [if_neg (by simp)]; rw [if_neg (by simp)] at e; exact ⟨c, ρ1, ts, tv, r, ρ', s', e, k⟩
    | true =>
      rw [if_pos rfl]; rw [if_pos rfl] at e
      cases e
      obtain ⟨fp, g⟩ := s'
      exact k _ H' ⟨_, g.put (u := .bl true) rfl⟩
theorem e_not (h : EI X a f) : EI X (.UnaryOp .Not a pos) (toV (notT (asB f))) := (pe_not h).imp fun σ H Q h => by
  obtain ⟨c, ρ, ts, tv, r, ρ', s, e, k⟩ := h
  obtain ⟨b, e1, rfl⟩ := toV_some.mp e
  unfold notT at e1
  cases e2 : asB f ρ with
  | none => rw [e2] at e1; cases e1
  | some x =>
    rw [e2] at e1
    cases e1
    refine tB_of ⟨c, ρ, ts, tv, x.1, x.2, s, e2, fun H' s' => ?_⟩
    obtain ⟨fp, g⟩ := s'
    exact k _ H' ⟨_, g.put (u := .bl (!x.1)) rfl⟩
end
end Tw
end
section
set_option maxRecDepth 100000
/-! layer 5: arguments, calls -/
namespace Tw
open PySem PySem.Spec PyProof.Rows L2

def evs : List Opd → Ro → Option (List (Sum D Nat) × Ro)
  | [], ρ => some ([], ρ)
  | o :: r, ρ => (ev1 o ρ).bind fun x => (evs r x.2).map fun y => (x.1 :: y.1, y.2)
def RAs (mg : Str → Option Value) (Z : Addr → Prop) (σ : Sg) (H : Hp) : List (Sum D Nat) → List V → Prop
  | [], vs => vs = []
  | a :: r, vs => ∃ v w, vs = v :: w ∧ RA mg Z σ H a v ∧ RAs mg Z σ H r w
def tAr (mg : Str → Option Value) (os : List Opd) : TA := fun σ H Q => ∃ c ρ ts tv ss ρ', SR mg c σ H ρ ts tv none .non ∧ evs os ρ = some (ss, ρ') ∧
  ∀ vs H' fp, Good mg c σ H' ρ' ts tv none .non fp → RAs mg (Zof c fp) σ H' ss vs → Q vs H'
def AI (X : Cx) (es : List Expr) (os : List Opd) : Prop := PA X es (tAr X.mg os)
theorem _root_.L2.PA.imp {X : Cx} {e : List Expr} {t t' : TA} (h : PA X e t) (k : ∀ σ H Q, t' σ H Q → t σ H Q) : PA X e t' := ⟨fun pos pins s σ H Q I w => h.run pos pins s σ H Q I (k σ H Q w)⟩
section
variable {X : Cx} {e : Expr} {es : List Expr} {o : Opd} {os : List Opd}
theorem a_nil : AI X [] [] := pa_nil.imp fun σ H Q h => by
  obtain ⟨c, ρ, ts, tv, ss, ρ', ⟨fp, g⟩, e, k⟩ := h
  cases e
  exact k [] H fp g rfl
theorem a_cons (ha : OI X e o) (hr : AI X es os) (hs : starEach (e :: es) X.env = (false, eval e X.env) :: starEach es X.env := by rfl) : AI X (e :: es) (o :: os) := (pa_cons ha hr hs).imp fun σ H Q h => by
  obtain ⟨c, ρ, ts, tv, ss, ρ', s, e, k⟩ := h
  obtain ⟨⟨a, ρ1⟩, e1, e2⟩ := bind_some.mp (show (ev1 o ρ).bind _ = _ from e)
  obtain ⟨⟨ss', ρ2⟩, e3, e4⟩ := map_some.mp e2
  cases e4
  exact tO_go s e1 fun u H1 s1 hu => ⟨c, ρ1, _, _, ss', _, s1, e3, fun vs H2 fp g ra => by
    obtain ⟨g0, r0⟩ := g.pop1 hu
    exact k (u :: vs) H2 fp g0 ⟨u, vs, rfl, r0, ra⟩⟩
end
/-! ### built-ins by their name -/
def ress (ρ : Ro) : List (Sum D Nat) → Option (List D)
  | [] => some []
  | a :: r => (res ρ a).bind fun x => (ress ρ r).map fun y => x :: y
def RepTs (mg : Str → Option Value) (Z : Addr → Prop) (H : Hp) : List D → List V → Prop
  | [], vs => vs = []
  | d :: r, vs => ∃ v w, vs = v :: w ∧ RepT mg Z H d v ∧ RepTs mg Z H r w
section
variable {mg : Str → Option Value} {c : Fx} {σ : Sg} {H H' : Hp} {ρ ρ' : Ro} {ts : List D} {tv : List V} {r : Option A} {v : V} {fp : Pl → List Addr}
theorem Good.ress (g : Good mg c σ H ρ ts tv r v fp) : ∀ {ss : List (Sum D Nat)} {vs : List V} {ds : List D}, RAs mg (Zof c fp) σ H ss vs → ress ρ ss = some ds → RepTs mg (Zof c fp) H ds vs
  | [], vs, ds, h, e => by cases e; exact h
  | a :: t, vs, ds, ⟨v, w, e1, h1, h2⟩, e => by
    obtain ⟨x, e2, e⟩ := bind_some.mp (show (Tw.res ρ a).bind _ = _ from e)
    obtain ⟨y, e3, e⟩ := map_some.mp e
    cases e
    exact ⟨v, w, e1, g.res h1 e2, Good.ress g h2 e3⟩
def rDs (mg : Str → Option Value) (op : List D → Option A) : List V → Hp → VK → Prop := fun xs H Q => ∃ Z ds r, (∀ p, Z p → H p ≠ none) ∧ RepTs mg Z H ds xs ∧ op ds = some r ∧ Ret mg Z H r Q
def app (os : List Opd) (op : List D → Option A) : EF := fun ρ => (evs os ρ).bind fun x => (ress x.2 x.1).bind fun ds => (op ds).map fun r => (r, x.2)
theorem app_go {os : List Opd} {op : List D → Option A} {Q : VK} (h : tE mg (app os op) σ H Q) : tAr mg os σ H fun vs H1 => rDs mg op vs H1 Q := by
  obtain ⟨c, ρ, ts, tv, r, ρ', s, e, k⟩ := h
  obtain ⟨⟨ss, ρ1⟩, e1, e⟩ := bind_some.mp (show (evs os ρ).bind _ = _ from e)
  obtain ⟨ds, e2, e⟩ := bind_some.mp e
  obtain ⟨x, e3, e⟩ := map_some.mp e
  cases e
  exact ⟨c, ρ, ts, tv, ss, ρ1, s, e1, fun vs H' fp g ra => ⟨_, ds, _, fun p h => g.zal h, g.ress ra e2, e3, SR.ret g k⟩⟩
end
section
variable {X : Cx} {e : Expr} {es : List Expr} {o : Opd} {os : List Opd} {pos p : Pos} {x : Str}
abbrev CallD (X : Cx) (f : Value) (op : List D → Option A) : Prop := CallR X f (rDs X.mg op)
theorem e_callB {id : String} {op : List D → Option A} (hc : CallD X (.builtin id) op) (hm : X.mg x = none) (hv : bootBuiltins x = some (.builtin id)) (ha : AI X (e :: es) os) (hg : Gl X x := by rfl) (hn : x ≠ "__name__" := by decide) (hdb : (x == ("__debug__" : Str)) = false := by decide)
    (he : starEach (e :: es) X.env = (false, eval e X.env) :: starEach es X.env := by rfl) (hpl : (backTo pos (starEach es X.env)).any (·.1) = false := by rfl) : EI X (.Call (.Name x p) (e :: es) [] pos) (app os op) :=
  (pe_callB hc hg hm hv ha hn hdb he hpl).imp fun σ H Q h => app_go h
theorem e_callTy {id : String} {op : List D → Option A} (hc : CallD X (.type id) op) (hm : X.mg x = none) (hv : bootBuiltins x = some (.type id)) (ha : AI X (e :: es) os) (hg : Gl X x := by rfl) (hn : x ≠ "__name__" := by decide) (hdb : (x == ("__debug__" : Str)) = false := by decide)
    (he : starEach (e :: es) X.env = (false, eval e X.env) :: starEach es X.env := by rfl) (hpl : (backTo pos (starEach es X.env)).any (·.1) = false := by rfl) : EI X (.Call (.Name x p) (e :: es) [] pos) (app os op) :=
  (pe_callTy hc hg hm hv ha hn hdb he hpl).imp fun σ H Q h => app_go h
theorem CallD.or {f : Value} {p q : List D → Option A} (h : CallD X f p) (k : CallD X f q) : CallD X f (fun a => (p a).or (q a)) := by
  intro pins s σ H xs us Q I r w
  obtain ⟨Z, ds, r', hz, ra, e, k'⟩ := w
  cases e1 : p ds with
  | some z =>
    have e' : (p ds).or (q ds) = some r' := e
    rw [e1] at e'
    cases e'
    exact h pins s σ H xs us Q I r ⟨Z, ds, _, hz, ra, e1, k'⟩
  | none =>
    have e' : (p ds).or (q ds) = some r' := e
    rw [e1] at e'
    exact k pins s σ H xs us Q I r ⟨Z, ds, _, hz, ra, e', k'⟩
end

/-! ### defs -/
def onlyD : List (Sum D Nat) → Option (List D)
  | [] => some []
  | .inl d :: r => (onlyD r).map fun y => d :: y
  | .inr _ :: _ => none
theorem RAs.only {mg : Str → Option Value} {Z : Addr → Prop} {σ : Sg} {H : Hp} : ∀ {ss : List (Sum D Nat)} {vs : List V} {ds : List D}, RAs mg Z σ H ss vs → onlyD ss = some ds → Reps mg Z H ds vs
  | [], vs, ds, h, e => by cases e; exact h
  | .inl d :: t, vs, ds, ⟨v, w, e1, h1, h2⟩, e => by
    obtain ⟨y, e3, e⟩ := map_some.mp (show (onlyD t).map _ = _ from e)
    cases e
    exact ⟨v, w, e1, h1, RAs.only h2 e3⟩
  | .inr _ :: _, _, _, _, e => by cases e
/-- a def that changes nothing that was handed in -/
abbrev F0 := List D → Option A
def sp0 (mg : Str → Option Value) (F : F0) : Sp := fun vs H Q _ => ∃ Z ds r, (∀ p, Z p → H p ≠ none) ∧ Reps mg Z H ds vs ∧ F ds = some r ∧ Ret mg Z H r Q
def cal0 (os : List Opd) (F : F0) : EF := fun ρ => (evs os ρ).bind fun x => (onlyD x.1).bind fun ds => (F ds).map fun r => (r, x.2)
def A.lend : A → Option A
  | .d _ => none
  | .l _ xs => some (.l true xs)
  | .k _ xs => some (.k true xs)
  | .i _ c fs => some (.i true c fs)
  | .t _ x => some (.t true x)
def A.mark (b : Bool) : A → A
  | .d x => .d x
  | .l _ xs => .l b xs
  | .k _ xs => .k b xs
  | .i _ c fs => .i b c fs
  | .t _ x => .t b x
/-- a def that may change its first argument -/
abbrev F1 := A → List D → Option (A × A)
def sp1 (mg : Str → Option Value) (F : F1) : Sp := fun vs H Q _ => ∃ Z x u fx ds us r x', vs = u :: us ∧ Own mg Z H x u fx ∧ x.bor = true ∧ fx.Nodup ∧ (∀ a ∈ fx, Z a) ∧ (∀ p, Z p → H p ≠ none) ∧ Reps mg Z H ds us ∧ F x ds = some (r, x') ∧
  ∀ v H' q fx', (∀ b o, H b = some o → b ∉ fx → H' b = some o) → (∀ b, H b ≠ none → H' b ≠ none) → (∀ a ∈ fx', a ∈ fx ∨ H a = none) → fx'.Nodup → (∀ a ∈ q, H a = none) → q.Nodup → (∀ a ∈ q, a ∉ fx') →
    Own mg (fun b => Z b ∨ b ∈ fx' ∨ b ∈ q) H' x' u fx' → Own mg (fun b => Z b ∨ b ∈ fx' ∨ b ∈ q) H' r v q → x'.bor = true → r.bor = false → Q v H'
def cal1 (i : Nat) (os : List Opd) (F : F1) : EF := fun ρ => (at_ ρ i).bind fun _ => (evs os ρ).bind fun x => (onlyD x.1).bind fun ds => (at_ x.2 i).bind fun a => a.lend.bind fun l => (F l ds).bind fun y => if y.2.bor = true then some (y.1, x.2.set i (some (y.2.mark a.bor))) else none
section
variable {mg : Str → Option Value} {Z : Addr → Prop} {H : Hp} {v : V} {q : List Addr}
theorem lend_bor {x y : A} (h : x.lend = some y) : y.bor = true := by
  cases x <;> cases h <;> rfl
theorem lend_own {x y : A} (h : x.lend = some y) (o : Own mg Z H x v q) : Own mg Z H y v q := by
  cases x <;> cases h <;> exact o
theorem mark_own {x : A} {b : Bool} (o : Own mg Z H x v q) : Own mg Z H (x.mark b) v q := by
  cases x <;> exact o
theorem mark_bor {x : A} {b : Bool} (h : x.bor = true) : (x.mark b).bor = b := by
  cases x with
  | d _ => cases h
  | _ => rfl
end
section
variable {mg : Str → Option Value} {c : Fx} {σ : Sg} {H H' : Hp} {ρ ρ' : Ro} {ts : List D} {tv : List V} {r : Option A} {v : V} {fp : Pl → List Addr}
theorem cal0_go {os : List Opd} {F : F0} {Q : VK} {E : XK} (h : tE mg (cal0 os F) σ H Q) : tAr mg os σ H fun vs H1 => sp0 mg F vs H1 Q E := by
  obtain ⟨c, ρ, ts, tv, r, ρ', s, e, k⟩ := h
  obtain ⟨⟨ss, ρ1⟩, e1, e⟩ := bind_some.mp (show (evs os ρ).bind _ = _ from e)
  obtain ⟨ds, e2, e⟩ := bind_some.mp e
  obtain ⟨x, e3, e⟩ := map_some.mp e
  cases e
  exact ⟨c, ρ, ts, tv, ss, ρ1, s, e1, fun vs H' fp g ra => ⟨_, ds, _, fun p h => g.zal h, ra.only e2, e3, SR.ret g k⟩⟩
/-- behind a call that changed the object of slot i -/
theorem Good.called {i : Nat} {x x' y : A} {u v' : V} {q fx' : List Addr} (g : Good mg c σ H ρ ts tv none v fp) (hx : at_ ρ i = some x) (hu : atS σ i = some u)
    (hH : ∀ b o, H b = some o → b ∉ fp (some i) → H' b = some o) (hmor : ∀ b, H b ≠ none → H' b ≠ none) (hin : ∀ a ∈ fx', a ∈ fp (some i) ∨ H a = none) (nd : fx'.Nodup) (hq : ∀ a ∈ q, H a = none) (ndq : q.Nodup) (hqf : ∀ a ∈ q, a ∉ fx')
    (hb : x'.bor = x.bor) (h1 : Own mg (fun b => Zof c fp b ∨ b ∈ fx' ∨ b ∈ q) H' x' u fx') (h2 : Own mg (fun b => Zof c fp b ∨ b ∈ fx' ∨ b ∈ q) H' y v' q) (hy : y.bor = false) : Good mg c σ H' (ρ.set i (some x')) ts tv (some y) v' (fpS (fpN fp q) i fx') := by
  have hat : at_ (ρ.set i (some x')) i = some x' := by rw [at_set (at_lt hx), if_pos rfl]
  have hfi : ∀ p, (fpS (fpN fp q) i fx') p = if p = none then q else if p = some i then fx' else fp p := fun p => by
    cases p with
    | none => rw [fpS_ne (by simp)]; rfl
    | some j =>
      rw [if_neg (by simp)]
      by_cases e : j = i
      · subst e; rw [fpS_self, if_pos rfl]
      · rw [fpS_ne (by simpa using e), if_neg (by simpa using e)]; rfl
  have zz : ∀ a, Zof c (fpS (fpN fp q) i fx') a → Zof c fp a ∨ a ∈ fx' ∨ a ∈ q := fun a h => by
    rcases h with h | ⟨p, h⟩
    · exact .inl (.inl h)
    · rw [hfi] at h
      split at h
      · exact .inr (.inr h)
      · split at h
        · exact .inr (.inl h)
        · exact .inl (.inr ⟨p, h⟩)
  have dis : ∀ p a, a ∈ fp p → a ∈ q → False := fun p a h h' => g.alloc h (hq a h')
  have disx : ∀ p a, p ≠ some i → a ∈ fp p → a ∈ fx' → False := fun p a hp h h' => by
    rcases hin a h' with w | w
    · exact hp (g.ap p (some i) a h w)
    · exact g.alloc h w
  refine g.remake (fun p => p = some i ∨ p = none) (by rw [List.length_set]; exact g.len) (fun b o e h => hH b o e (h _ (.inl rfl))) hmor (fun p hp => ?_) (fun p z hp e' => ?_) (fun p hp e' => ?_) (fun p hp => ?_) (fun p p' a h1 h2 => ?_) (fun p a hp h => ?_) (fun p a h => ?_) (fun j hj h => ?_) (fun j z h e' hb' => ?_) (fun z e => by cases e; exact hy) (fun j z h e' hb' => ?_)
  · have h1 : p ≠ some i := fun e => hp (.inl e)
    have h2 : p ≠ none := fun e => hp (.inr e)
    refine ⟨?_, ?_, ?_⟩
    · rw [pl_set h1]; cases p with
      | none => exact absurd rfl h2
      | some j => rfl
    · cases p with
      | none => exact absurd rfl h2
      | some j => rfl
    · rw [hfi, if_neg h2, if_neg h1]
  · rcases hp with hp | hp
    · subst hp
      have : some x' = some z := hat.symm.trans e'
      cases this
      rw [fpS_self]
      exact ⟨u, hu, h1.mono (fun a u z h => ⟨fun w => z (zz a w), h⟩) fun _ _ => rfl⟩
    · subst hp
      cases e'
      refine ⟨v', rfl, ?_⟩
      rw [hfi, if_pos rfl]
      exact h2.mono (fun a u z h => ⟨fun w => z (zz a w), h⟩) fun _ _ => rfl
  · rcases hp with hp | hp
    · subst hp
      rw [show plA (some y) (ρ.set i (some x')) (some i) = at_ (ρ.set i (some x')) i from rfl, hat] at e'
      cases e'
    · subst hp; cases e'
  · rcases hp with hp | hp
    · subst hp; rw [fpS_self]; exact nd
    · subst hp; rw [hfi, if_pos rfl]; exact ndq
  · rw [hfi] at h1 h2
    by_cases a1 : p = none
    · by_cases a2 : p' = none
      · rw [a1, a2]
      · rw [if_pos a1] at h1; rw [if_neg a2] at h2
        split at h2
        · exact absurd h2 (hqf a h1)
        · exact (dis _ a h2 h1).elim
    · rw [if_neg a1] at h1
      by_cases a2 : p' = none
      · rw [if_pos a2] at h2
        split at h1
        · exact absurd h1 (hqf a h2)
        · exact (dis _ a h1 h2).elim
      · rw [if_neg a2] at h2
        by_cases b1 : p = some i
        · by_cases b2 : p' = some i
          · rw [b1, b2]
          · rw [if_pos b1] at h1; rw [if_neg b2] at h2; exact (disx _ a b2 h2 h1).elim
        · rw [if_neg b1] at h1
          by_cases b2 : p' = some i
          · rw [if_pos b2] at h2; exact (disx _ a b1 h1 h2).elim
          · rw [if_neg b2] at h2; exact g.ap _ _ a h1 h2
  · rcases hp with hp | hp
    · subst hp; rw [fpS_self] at h
      rcases hin a h with k | k
      · exact g.new _ a k
      · exact .inr (g.new' k)
    · subst hp; rw [hfi, if_pos rfl] at h; exact .inr (g.new' (hq a h))
  · rw [hfi] at h
    split at h
    · exact .inr (hq a h)
    · split at h
      · rcases hin a h with k | k
        · exact .inl ⟨_, k⟩
        · exact .inr k
      · exact .inl ⟨p, h⟩
  · rcases h with h | h
    · cases h
      obtain ⟨z, e1, e2⟩ := g.bst i hj
      rw [hx] at e1; cases e1
      exact ⟨x', hat, hb.trans e2⟩
    · cases h
  · rcases h with h | h
    · cases h
      have : some x' = some z := hat.symm.trans e'
      cases this
      exact g.bvs i x hx (hb.symm.trans hb')
    · cases h
  · rcases h with h | h
    · cases h
      have : some x' = some z := hat.symm.trans e'
      cases this
      exact g.bnb i x hx (hb.symm.trans hb')
    · cases h
theorem cal1_go {i : Nat} {os : List Opd} {F : F1} {Q : VK} {E : XK} (h : tE mg (cal1 i os F) σ H Q) : tCons (tVar i) (tAr mg os) σ H fun vs H1 => sp1 mg F vs H1 Q E := by
  obtain ⟨c, ρ, ts, tv, r, ρ', s, e, k⟩ := h
  obtain ⟨a0, e0, e⟩ := bind_some.mp (show (at_ ρ i).bind _ = _ from e)
  obtain ⟨⟨ss, ρ1⟩, e1, e⟩ := bind_some.mp (show (evs os ρ).bind _ = _ from e)
  obtain ⟨ds, e2, e⟩ := bind_some.mp e
  obtain ⟨a, e3, e⟩ := bind_some.mp e
  obtain ⟨l, e4, e⟩ := bind_some.mp e
  obtain ⟨⟨y, x'⟩, e5, e⟩ := bind_some.mp e
  simp only at e2 e3 e5 e
  by_cases hb : x'.bor = true
  case neg => rw [if_neg hb] at e; cases e
  rw [if_pos hb] at e
  cases e
  -- the slot stood at the start, too: its value is the same
  have hstart : ∃ u, atS σ i = some u := by
    obtain ⟨fp, g⟩ := id s
    obtain ⟨u, hu, _⟩ := g.ent (some i) a0 e0
    exact ⟨u, hu⟩
  obtain ⟨u, hu⟩ := hstart
  refine ⟨u, atS_of.mp hu, c, ρ, ts, tv, ss, ρ1, s, e1, fun vs H' fp g ra => ?_⟩
  obtain ⟨u', hu', own⟩ := g.ent (some i) a e3
  cases hu.symm.trans hu'
  refine ⟨_, l, u, fp (some i), ds, vs, _, x', rfl, lend_own e4 own, lend_bor e4, g.nd _, fun b hb => .inr ⟨_, hb⟩, fun p h => g.zal h, ra.only e2, e5, ?_⟩
  intro v H2 q fx' k1 k2 k3 k4 k5 k6 k7 k8 k9 k10 k11
  exact k v H2 ⟨_, g.called e3 hu k1 k2 k3 k4 k5 k6 k7 (mark_bor k10) (mark_own k8) k9 k11⟩
end
end Tw
end
section
set_option maxRecDepth 100000
/-! layer 6: statements, bodies, calls of defs -/
namespace Tw
open PySem PySem.Spec PyProof.Rows L2

inductive Out where
  | nx
  | rt (r : A)
  | bk
  | ct
abbrev SF := Ro → Option (Out × Ro)
def Done (mg : Str → Option Value) (c : Fx) (ts : List D) (tv : List V) (D : Ends) (ρ : Ro) : Out → Prop
  | .nx => ∀ σ' H', SR mg c σ' H' ρ ts tv none .non → D.nx σ' H'
  | .rt r => ∀ σ' v H', SR mg c σ' H' ρ ts tv (some r) v → D.rt v H'
  | .bk => ∀ σ' H', SR mg c σ' H' ρ ts tv none .non → D.bk σ' H'
  | .ct => ∀ σ' H', SR mg c σ' H' ρ ts tv none .non → D.ct σ' H'
def tS (mg : Str → Option Value) (f : SF) : TS := fun D σ H => ∃ c ρ ts tv o ρ', SR mg c σ H ρ ts tv none .non ∧ f ρ = some (o, ρ') ∧ Done mg c ts tv D ρ' o
def SI (X : Cx) (st : Stmt) (f : SF) : Prop := PS X st (tS X.mg f)
def BI (X : Cx) (sts : List Stmt) (f : SF) : Prop := PSs X sts (tS X.mg f)
theorem _root_.L2.PS.imp {X : Cx} {e : Stmt} {t t' : TS} (h : PS X e t) (k : ∀ D σ H, t' D σ H → t D σ H) : PS X e t' := ⟨fun pins s σ H Q I w => h.run pins s σ H Q I (k _ _ _ w)⟩
theorem _root_.L2.PSs.imp {X : Cx} {e : List Stmt} {t t' : TS} (h : PSs X e t) (k : ∀ D σ H, t' D σ H → t D σ H) : PSs X e t' := ⟨fun pins s σ H Q I w => h.run pins s σ H Q I (k _ _ _ w)⟩
def seqS (f g : SF) : SF := fun ρ => (f ρ).bind fun x => match x.1 with | .nx => g x.2 | o => some (o, x.2)
def nxS : SF := fun ρ => some (.nx, ρ)
section
variable {mg : Str → Option Value} {c : Fx} {σ : Sg} {H H' : Hp} {ρ ρ' : Ro} {ts : List D} {tv : List V} {r : Option A} {v : V} {fp : Pl → List Addr}
theorem okOld_lt {i : Nat} (h : okOld ρ i = true) : i < ρ.length := by
  unfold okOld at h
  cases e : at_ ρ i with
  | some x => exact at_lt e
  | none => rw [e] at h; exact of_decide_eq_true h
theorem Good.old (g : Good mg c σ H ρ ts tv r v fp) {i : Nat} (h : okOld ρ i = true) : c.bor i = [] := by
  unfold okOld at h
  cases e : at_ ρ i with
  | some x =>
    rw [e] at h
    refine g.bnb i x e ?_
    cases q : x.bor with
    | false => rfl
    | true => simp [q] at h
  | none =>
    cases q : c.bor i with
    | nil => rfl
    | cons a t =>
      obtain ⟨x, e1, _⟩ := g.bst i (by rw [q]; simp)
      rw [e] at e1; cases e1
/-- the content of a slot becomes the value at hand -/
theorem Good.move {i : Nat} {x : A} (g : Good mg c σ H ρ ts tv none v fp) (hx : at_ ρ i = some x) (hb : x.bor = false) {u : V} (hu : atS σ i = some u) : Good mg c σ H (ρ.set i none) ts tv (some x) u (fpS (fpN fp (fp (some i))) i []) := by
  have hi := at_lt hx
  have hat : at_ (ρ.set i none) i = none := by rw [at_set hi, if_pos rfl]
  have ho : c.bor i = [] := g.bnb i x hx hb
  obtain ⟨u', e1, o⟩ := g.ent (some i) x hx
  cases hu.symm.trans e1
  have hz : ∀ a, Zof c (fpS (fpN fp (fp (some i))) i []) a → Zof c fp a := fun a h => by
    rcases h with h | ⟨p, h⟩
    · exact .inl h
    · by_cases hp : p = some i
      · subst hp; rw [fpS_self] at h; cases h
      · rw [fpS_ne hp] at h
        cases p with
        | none => exact .inr ⟨some i, h⟩
        | some j => exact .inr ⟨some j, h⟩
  refine g.remake (fun p => p = some i ∨ p = none) (by rw [List.length_set]; exact g.len) (fun b o e _ => e) (fun b h => h) (fun p hp => ?_) (fun p y hp e' => ?_) (fun p hp e' => ?_) (fun p hp => ?_) (fun p q a h1 h2 => ?_) (fun p a hp h => ?_) (fun p a h => ?_) (fun j hj h => ?_) (fun j y h e' hb' => ?_) (fun y e => by cases e; exact hb) (fun j y h e' hb' => ?_)
  · cases p with
    | none => exact absurd (.inr rfl) hp
    | some j =>
      have hj : (some j : Pl) ≠ some i := fun e => hp (.inl e)
      exact ⟨pl_set hj, rfl, fpS_ne hj⟩
  · rcases hp with hp | hp
    · subst hp
      have : none = some y := hat.symm.trans e'
      cases this
    · subst hp
      cases e'
      refine ⟨u, rfl, ?_⟩
      rw [fpS_ne (by simp)]
      exact o.mono (fun a u z h => ⟨fun w => z (hz a w), h⟩) fun _ _ => rfl
  · rcases hp with hp | hp
    · subst hp; exact fpS_self
    · subst hp; cases e'
  · rcases hp with hp | hp
    · subst hp; rw [fpS_self]; exact List.nodup_nil
    · subst hp; rw [fpS_ne (by simp)]; exact g.nd (some i)
  · by_cases hp : p = some i
    · subst hp; rw [fpS_self] at h1; cases h1
    · by_cases hq : q = some i
      · subst hq; rw [fpS_self] at h2; cases h2
      · rw [fpS_ne hp] at h1; rw [fpS_ne hq] at h2
        cases p with
        | none =>
          cases q with
          | none => rfl
          | some j => exact absurd (g.ap (some i) (some j) a h1 h2).symm hq
        | some k =>
          cases q with
          | none => exact absurd (g.ap (some i) (some k) a h2 h1).symm hp
          | some j => exact g.ap (some k) (some j) a h1 h2
  · rcases hp with hp | hp
    · subst hp; rw [fpS_self] at h; cases h
    · subst hp; rw [fpS_ne (by simp)] at h
      rcases g.new (some i) a h with k | k
      · rw [show bOf c (some i) = c.bor i from rfl, ho] at k; cases k
      · exact .inr k
  · by_cases hp : p = some i
    · subst hp; rw [fpS_self] at h; cases h
    · rw [fpS_ne hp] at h
      cases p with
      | none => exact .inl ⟨some i, h⟩
      | some j => exact .inl ⟨some j, h⟩
  · rcases h with h | h
    · cases h; exact absurd ho hj
    · cases h
  · rcases h with h | h
    · cases h
      have : none = some y := hat.symm.trans e'
      cases this
    · cases h
  · rcases h with h | h
    · cases h; exact ho
    · cases h
end
section
variable {X : Cx} {st : Stmt} {rest : List Stmt} {f g : SF} {e : Expr} {fe : EF} {pos pos' : Pos}
theorem b_nil : BI X [] nxS := pss_nil.imp fun D σ H h => by
  obtain ⟨c, ρ, ts, tv, o, ρ', s, e, k⟩ := h
  cases e
  exact k σ H s
theorem b_one (h : SI X st f) : BI X [st] f := pss_one h
theorem b_cons (h1 : SI X st f) (h2 : BI X rest g) : BI X (st :: rest) (seqS f g) := (pss_cons h1 h2).imp fun D σ H h => by
  obtain ⟨c, ρ, ts, tv, o, ρ', s, e, k⟩ := h
  obtain ⟨⟨o1, ρ1⟩, e1, e2⟩ := bind_some.mp (show (f ρ).bind _ = _ from e)
  refine ⟨c, ρ, ts, tv, o1, ρ1, s, e1, ?_⟩
  cases o1 with
  | nx => exact fun σ' H' s' => ⟨c, ρ1, ts, tv, o, ρ', s', e2, k⟩
  | rt r => cases e2; exact k
  | bk => cases e2; exact k
  | ct => cases e2; exact k
theorem s_pass : SI X (.Pass pos) nxS := ps_pass.imp fun D σ H h => by
  obtain ⟨c, ρ, ts, tv, o, ρ', s, e, k⟩ := h
  cases e
  exact k σ H s
theorem s_break : SI X (.Break pos) (fun ρ => some (.bk, ρ)) := ps_break.imp fun D σ H h => by
  obtain ⟨c, ρ, ts, tv, o, ρ', s, e, k⟩ := h
  cases e
  exact k σ H s
theorem s_continue : SI X (.Continue pos) (fun ρ => some (.ct, ρ)) := ps_continue.imp fun D σ H h => by
  obtain ⟨c, ρ, ts, tv, o, ρ', s, e, k⟩ := h
  cases e
  exact k σ H s
theorem s_never : SI X st (fun _ => none) := ps_never.imp fun D σ H h => by
  obtain ⟨c, ρ, ts, tv, o, ρ', s, e, k⟩ := h
  cases e
theorem b_never {sts : List Stmt} : BI X sts (fun _ => none) := pss_never.imp fun D σ H h => by
  obtain ⟨c, ρ, ts, tv, o, ρ', s, e, k⟩ := h
  cases e
theorem s_doc {x j} : SI X (.Expr (.Constant (.str x) j pos) pos') nxS := ps_doc.imp fun D σ H h => by
  obtain ⟨c, ρ, ts, tv, o, ρ', s, e, k⟩ := h
  cases e
  exact k σ H s
def retS (f : EF) : SF := fun ρ => (f ρ).map fun x => (.rt x.1, x.2)
theorem s_ret (h : EI X e fe) : SI X (.Return (some e) pos) (retS fe) := (ps_ret h).imp fun D σ H h => by
  obtain ⟨c, ρ, ts, tv, o, ρ', s, e, k⟩ := h
  obtain ⟨⟨r, ρ1⟩, e1, e2⟩ := map_some.mp (show (fe ρ).map _ = _ from e)
  cases e2
  exact ⟨c, ρ, ts, tv, r, ρ1, s, e1, fun v H' s' => k σ v H' s'⟩
def retN : SF := fun ρ => some (.rt (.d .non), ρ)
theorem s_retN : SI X (.Return none pos) retN := ps_retN.imp fun D σ H h => by
  obtain ⟨c, ρ, ts, tv, o, ρ', ⟨fp, g⟩, e, k⟩ := h
  cases e
  exact k σ .non H ⟨_, g.put (x := .non) (u := .non) rfl⟩
/-- return x: the object itself is handed on -/
def retV (i : Nat) : SF := fun ρ => (at_ ρ i).bind fun x => if x.bor = true then none else some (.rt x, ρ.set i none)
theorem s_retV (i : Nat) {x : Str} (hN : X.N[i]? = some x := by rfl) (hv : Vis X.env.scope x := by first | exact Or.inl rfl | exact Or.inr (Or.inl rfl) | exact Or.inr (Or.inr rfl)) (hd : (x == ("__debug__" : Str)) = false := by decide)
    (hcd : (x == ("__classdict__" : Str)) = false := by decide) : SI X (.Return (some (.Name x pos')) pos) (retV i) := (ps_ret (pe_var hN hv hd hcd)).imp fun D σ H h => by
  obtain ⟨c, ρ, ts, tv, o, ρ', ⟨fp, g⟩, e, k⟩ := h
  obtain ⟨x, e1, e2⟩ := bind_some.mp (show (at_ ρ i).bind _ = _ from e)
  by_cases hb : x.bor = true
  case pos => rw [if_pos hb] at e2; cases e2
  rw [if_neg hb] at e2
  cases e2
  obtain ⟨u, hu, _⟩ := g.ent (some i) x e1
  exact ⟨u, atS_of.mp hu, k σ u H ⟨_, g.move e1 (by simpa using hb) hu⟩⟩
def exprS (f : EF) : SF := fun ρ => (f ρ).map fun x => (.nx, x.2)
theorem s_expr (h : EI X e fe) (hs : swapsWith e none pos.line X.env = pure false := by rfl) : SI X (.Expr e pos) (exprS fe) := (ps_expr h hs).imp fun D σ H h => by
  obtain ⟨c, ρ, ts, tv, o, ρ', s, e, k⟩ := h
  obtain ⟨⟨r, ρ1⟩, e1, e2⟩ := map_some.mp (show (fe ρ).map _ = _ from e)
  cases e2
  exact ⟨c, ρ, ts, tv, r, ρ1, s, e1, fun v H' s' => k σ H' (s'.drop _)⟩
def ifS (t : TF) (f g : SF) : SF := fun ρ => (t ρ).bind fun x => if x.1 then f x.2 else g x.2
theorem s_if {cnd : Expr} {a b : List Stmt} {t : TF} (hc : TI X cnd t) (ha : BI X a f) (hb : BI X b g) : SI X (.If cnd a b pos) (ifS t f g) := (ps_if hc ha hb).imp fun D σ H h => by
  obtain ⟨c, ρ, ts, tv, o, ρ', s, e, k⟩ := h
  obtain ⟨⟨b, ρ1⟩, e1, e2⟩ := bind_some.mp (show (t ρ).bind _ = _ from e)
  refine ⟨c, ρ, ts, tv, b, ρ1, s, e1, fun H' s' => ?_⟩
  cases b with
  | true => rw [if_pos rfl]; rw [if_pos rfl] at e2; exact ⟨c, ρ1, ts, tv, o, ρ', s', e2, k⟩
  | false => rw [if_neg (by simp)]; rw [if_neg (by simp)] at e2; exact ⟨c, ρ1, ts, tv, o, ρ', s', e2, k⟩
/-- x = e: what e makes new belongs to the slot -/
def setS (i : Nat) (f : EF) : SF := fun ρ => (f ρ).bind fun x => if okOld x.2 i = true then some (.nx, x.2.set i (some x.1)) else none
theorem s_set (i : Nat) {x : Str} (hN : X.N.Nodup) (h : EI X e fe) (hi : X.N[i]? = some x := by rfl) (hx : Loc X.env.scope x := by first | exact Or.inl rfl | exact Or.inr rfl) (hs : swapsWith e (some (.Name x pos')) pos.line X.env = pure false := by rfl)
    (hf : X.fn x = true ∨ X.env.scope.names.lookup x = some .local := by first | exact .inl rfl | exact .inr rfl | assumption) : SI X (.Assign [.Name x pos'] e pos) (setS i fe) := (ps_set hN hi hx h hs hf).imp fun D σ H h => by
  obtain ⟨c, ρ, ts, tv, o, ρ', s, e, k⟩ := h
  obtain ⟨⟨r, ρ1⟩, e1, e2⟩ := bind_some.mp (show (fe ρ).bind _ = _ from e)
  by_cases ho : okOld ρ1 i = true
  case neg => rw [if_neg ho] at e2; cases e2
  rw [if_pos ho] at e2
  cases e2
  exact ⟨c, ρ, ts, tv, r, ρ1, s, e1, fun v H' ⟨fp, g⟩ => k _ H' ⟨_, g.store (okOld_lt ho) (g.old ho) _⟩⟩

/-! ### targets -/
abbrev GF := D → Ro → Option Ro
/-- only the slots js differ -/
def Agree (js : List Nat) (σ σ' : Sg) : Prop := ∀ vs : List Nat, (∀ j ∈ js, j ∈ vs) → wipe σ' vs = wipe σ vs
theorem wipe_set {i : Nat} {o : Option V} : ∀ {σ : Sg} {vs : List Nat}, i ∈ vs → wipe (σ.set i o) vs = wipe σ vs
  | σ, [], h => by cases h
  | σ, v :: vs, h => by
    show (wipe (σ.set i o) vs).set v none = (wipe σ vs).set v none
    by_cases hi : i ∈ vs
    · rw [wipe_set hi]
    · have e : i = v := by
        rcases List.mem_cons.mp h with h | h
        · exact h
        · exact absurd h hi
      subst e
      have comm : ∀ (vs : List Nat), i ∉ vs → wipe (σ.set i o) vs = (wipe σ vs).set i o := by
        intro vs
        induction vs with
        | nil => intro _; rfl
        | cons w ws ih =>
          intro hn
          show (wipe (σ.set i o) ws).set w none = ((wipe σ ws).set w none).set i o
          rw [ih fun h => hn (List.mem_cons_of_mem _ h), List.set_comm _ _ (fun e : i = w => hn (by rw [e]; exact List.mem_cons_self))]
      rw [comm vs hi, List.set_set]
theorem Agree.refl (σ : Sg) : Agree [] σ σ := fun _ _ => rfl
theorem Agree.set (σ : Sg) (i : Nat) (o : Option V) : Agree [i] σ (σ.set i o) := fun vs h => wipe_set (h i List.mem_cons_self)
theorem Agree.trans {js ks : List Nat} {σ σ1 σ2 : Sg} (a : Agree js σ σ1) (b : Agree ks σ1 σ2) : Agree (js ++ ks) σ σ2 := fun vs h => (b vs fun j hj => h j (List.mem_append_right _ hj)).trans (a vs fun j hj => h j (List.mem_append_left _ hj))
def tGr (mg : Str → Option Value) (js : List Nat) (f : GF) : TG := fun v σ H Q => ∃ c ρ ts tv d ρ', SR mg c σ H ρ (d :: ts) (v :: tv) none .non ∧ f d ρ = some ρ' ∧ ∀ σ' H', Agree js σ σ' → SR mg c σ' H' ρ' ts tv none .non → Q σ' H'
def GI (X : Cx) (e : Expr) (js : List Nat) (f : GF) : Prop := PG X e (tGr X.mg js f)
theorem _root_.L2.PG.imp {X : Cx} {e : Expr} {t t' : TG} (h : PG X e t) (k : ∀ v σ H Q, t' v σ H Q → t v σ H Q) : PG X e t' := ⟨fun pins s σ H v u Q I r w => h.run pins s σ H v u Q I r (k _ _ _ _ w)⟩
def nameG (i : Nat) : GF := fun d ρ => if okOld ρ i = true then some (ρ.set i (some (.d d))) else none
theorem Good.take {mg : Str → Option Value} {c : Fx} {σ : Sg} {H : Hp} {ρ : Ro} {ts : List D} {tv : List V} {v : V} {fp : Pl → List Addr} {d : D} {u : V} (g : Good mg c σ H ρ (d :: ts) (u :: tv) none v fp) : Good mg c σ H ρ ts tv (some (.d d)) u fp := by
  obtain ⟨w, tw, e, h, t⟩ := g.tmp
  cases e
  exact (g.pops (xs := [d]) (ys := [u]) rfl).put h
theorem g_name (i : Nat) {x : Str} (hN : X.N.Nodup) (hi : X.N[i]? = some x := by rfl) (hx : Loc X.env.scope x := by first | exact Or.inl rfl | exact Or.inr rfl) (hf : X.fn x = true ∨ X.env.scope.names.lookup x = some .local := by first | exact .inl rfl | exact .inr rfl | assumption) : GI X (.Name x pos) [i] (nameG i) :=
  (pg_name hN hi hx hf).imp fun v σ H Q h => by
    obtain ⟨c, ρ, ts, tv, d, ρ', ⟨fp, g⟩, e, k⟩ := h
    unfold nameG at e
    by_cases ho : okOld ρ i = true
    case neg => rw [if_neg ho] at e; cases e
    rw [if_pos ho] at e
    cases e
    exact k _ H (Agree.set _ _ _) ⟨_, g.take.store (okOld_lt ho) (g.old ho) _⟩
abbrev GsF := List D → Ro → Option Ro
def tGsr (mg : Str → Option Value) (js : List Nat) (f : GsF) : TGs := fun vs σ H Q => ∃ c ρ ts tv ds ρ', SR mg c σ H ρ (ds ++ ts) (vs ++ tv) none .non ∧ ds.length = vs.length ∧ f ds ρ = some ρ' ∧ ∀ σ' H', Agree js σ σ' → SR mg c σ' H' ρ' ts tv none .non → Q σ' H'
def GsI (X : Cx) (es : List Expr) (js : List Nat) (f : GsF) : Prop := PGs X es (tGsr X.mg js f)
theorem _root_.L2.PGs.imp {X : Cx} {e : List Expr} {t t' : TGs} (h : PGs X e t) (k : ∀ v σ H Q, t' v σ H Q → t v σ H Q) : PGs X e t' := ⟨fun pins s σ H v u Q I r w => h.run pins s σ H v u Q I r (k _ _ _ _ w)⟩
def nilG : GsF := fun ds ρ => match ds with | [] => some ρ | _ => none
def consG (f : GF) (g : GsF) : GsF := fun ds ρ => match ds with | d :: r => (f d ρ).bind fun ρ1 => g r ρ1 | [] => none
theorem gs_nil : GsI X [] [] nilG := pgs_nil.imp fun v σ H Q h => by
  obtain ⟨c, ρ, ts, tv, ds, ρ', s, hl, e, k⟩ := h
  cases ds with
  | cons _ _ => cases e
  | nil =>
    cases e
    cases v with
    | cons _ _ => cases hl
    | nil => exact ⟨rfl, k σ H (Agree.refl σ) s⟩
theorem gs_cons {es : List Expr} {js ks : List Nat} {f : GF} {g : GsF} (h1 : GI X e js f) (h2 : GsI X es ks g) (hs : (assignEach (e :: es) X.env).map (·.2) = assign e X.env :: (assignEach es X.env).map (·.2) := by rfl) : GsI X (e :: es) (js ++ ks) (consG f g) := (pgs_cons h1 h2 hs).imp fun v σ H Q h => by
  obtain ⟨c, ρ, ts, tv, ds, ρ', s, hl, e, k⟩ := h
  cases ds with
  | nil => cases e
  | cons d r =>
    cases v with
    | nil => cases hl
    | cons u w =>
      obtain ⟨ρ1, e1, e2⟩ := bind_some.mp (show (f d ρ).bind _ = _ from e)
      exact ⟨u, w, rfl, c, ρ, r ++ ts, w ++ tv, d, ρ1, s, e1, fun σ' H' a' s' => ⟨c, ρ1, ts, tv, r, ρ', s', by simpa using hl, e2, fun σ2 H2 a2 s2 => k σ2 H2 (a'.trans a2) s2⟩⟩
def tupG (n : Nat) (f : GsF) : GF := fun d ρ => match d with | .tup ds => if ds.length = n then f ds ρ else none | .pr ds => if ds.length = n then f ds ρ else none | _ => none
def tupOf : D → Option (List D)
  | .tup xs => some xs
  | .pr xs => some xs
  | _ => none
theorem tup_at {mg : Str → Option Value} {Z : Addr → Prop} {H : Hp} {d : D} {v : V} {ds : List D} (h : Rep mg Z H d v) (e : tupOf d = some ds) : ∃ a vs, v = .ref a ∧ ¬ Z a ∧ L2.Rd H a (.tup vs) ∧ Reps mg Z H ds vs := by
  cases d with
  | tup xs => cases e; obtain ⟨a, vs, o, e, z, _, g, r⟩ := h; exact ⟨a, vs, e, z, g.frz2, r⟩
  | pr xs => cases e; obtain ⟨a, vs, e, z, g, r⟩ := h; exact ⟨a, vs, e, z, g.l2, r⟩
  | _ => cases e
theorem g_tup {es : List Expr} {k : Nat} {js : List Nat} {f : GsF} {n : Nat} (hc : X.calm = true) (h : GsI X es js f) (hn : (assignEach es X.env).length = n := by rfl) (hst : (assignEach es X.env).findIdx? (·.1) = none := by rfl) : GI X (.Tuple es k pos) js (tupG n f) := (pg_tup hc h hn hst).imp fun v σ H Q h => by
  obtain ⟨c, ρ, ts, tv, d, ρ', ⟨fp, g⟩, e, kk⟩ := h
  obtain ⟨ds, hd, e'⟩ : ∃ ds, tupOf d = some ds ∧ (if ds.length = n then f ds ρ else none) = some ρ' := by
    cases d with
    | tup ds => exact ⟨ds, rfl, e⟩
    | pr ds => exact ⟨ds, rfl, e⟩
    | _ => cases e
  obtain ⟨w, tw, e1, rep, t⟩ := g.tmp
  cases e1
  obtain ⟨a, vs, e2, z, rd, reps⟩ := tup_at rep hd
  by_cases hl : ds.length = n
  case neg => rw [if_neg hl] at e'; cases e'
  rw [if_pos hl] at e'
  refine ⟨a, vs, e2, .inl rd, by rw [← reps.length]; exact hl, c, ρ, ts, _, ds, ρ', ?_, reps.length, e', kk⟩
  have g1 := g.pops (xs := [d]) (ys := [v]) rfl
  exact ⟨fp, g1.len, g1.ent, g1.off, g1.nd, g1.ap, g1.new, reps.append t, g1.keep, g1.mor, g1.z0, g1.bz, g1.bst, g1.bvs, g1.rnb, g1.bnb⟩
/-- target = value, by the tree -/
def asgS (f : EF) (g : GF) : SF := fun ρ => (dv f ρ).bind fun x => (g x.1 x.2).map fun ρ' => (.nx, ρ')
theorem s_asg {tg : Expr} {js : List Nat} {g : GF} (he : EI X e fe) (hg : GI X tg js g) (hs : swapsWithSole [tg] e pos.line X.env = pure false := by rfl) (hw : swappedStores [tg] e X.env = pure none := by rfl)
    (h1 : (assignEach [tg] X.env).map (·.2) = [assign tg X.env] := by rfl) : SI X (.Assign [tg] e pos) (asgS fe g) := (ps_asg he hg hs hw h1).imp fun D σ H h => by
  obtain ⟨c, ρ, ts, tv, o, ρ', s, e, k⟩ := h
  obtain ⟨⟨d, ρ1⟩, e1, e2⟩ := bind_some.mp (show (dv fe ρ).bind _ = _ from e)
  obtain ⟨ρ2, e3, e4⟩ := map_some.mp e2
  cases e4
  exact tE_dv s e1 fun v H' s' => ⟨c, ρ1, ts, tv, d, _, s', e3, fun σ' H'' _ s'' => k σ' H'' s''⟩
end

/-! ### calls of defs -/
section
variable {X : Cx} {k : Nat} {f : Addr} {fd : FuncData} {ps : List Str} {x : Str} {p pos : Pos} {e : Expr} {es : List Expr} {os : List Opd}
theorem e_call {F : F0} (G : FnOk X.prog X.w X.K X.mg X.base CX0 k f fd ps (sp0 X.mg F)) (hr : Room k X.A) (hm : X.mg x = some (.ref f)) (hk : PySem.W.keepIn X.K (.ref f) = true) (hb : Binds X.K fd ps []) (ha : AI X (e :: es) os) (hg : Gl X x := by rfl)
    (hdb : (x == ("__debug__" : Str)) = false := by decide) (he : starEach (e :: es) X.env = (false, eval e X.env) :: starEach es X.env := by rfl) (hpl : (backTo pos (starEach es X.env)).any (·.1) = false := by rfl) : EI X (.Call (.Name x p) (e :: es) [] pos) (cal0 os F) :=
  (pe_call G hr hg hm hk hb .nil pass0 ha hdb he hpl).imp fun σ H Q h => by
    show tAr X.mg os σ H fun vs H1 => sp0 X.mg F (vs ++ []) H1 Q E0
    simp only [List.append_nil]
    exact cal0_go h
theorem e_call00 {F : F0} (G : FnOk X.prog X.w X.K X.mg X.base CX0 k f fd ps (sp0 X.mg F)) (hr : Room k X.A) (hm : X.mg x = some (.ref f)) (hk : PySem.W.keepIn X.K (.ref f) = true) (hb : Binds X.K fd ps []) (hg : Gl X x := by rfl)
    (hdb : (x == ("__debug__" : Str)) = false := by decide) : EI X (.Call (.Name x p) [] [] pos) (cal0 [] F) :=
  (pe_call0 G hr hg hm hk hb .nil pass0 hdb).imp fun σ H Q h => by
    show sp0 X.mg F ([] ++ []) H Q E0
    obtain ⟨c, ρ, ts, tv, r, ρ', ⟨fp, g⟩, e, k⟩ := h
    obtain ⟨⟨ss, ρ1⟩, e1, e⟩ := bind_some.mp (show (evs [] ρ).bind _ = _ from e)
    cases e1
    obtain ⟨ds, e2, e⟩ := bind_some.mp e
    cases e2
    obtain ⟨x, e3, e⟩ := map_some.mp e
    cases e
    exact ⟨_, [], _, fun p h => g.zal h, rfl, e3, SR.ret g k⟩
theorem e_call1 {F : F1} (i : Nat) {y : Str} {py : Pos} (G : FnOk X.prog X.w X.K X.mg X.base CX0 k f fd ps (sp1 X.mg F)) (hr : Room k X.A) (hm : X.mg x = some (.ref f)) (hk : PySem.W.keepIn X.K (.ref f) = true) (hb : Binds X.K fd ps []) (ha : AI X es os)
    (hN : X.N[i]? = some y := by rfl) (hv : Vis X.env.scope y := by first | exact Or.inl rfl | exact Or.inr (Or.inl rfl) | exact Or.inr (Or.inr rfl)) (hd : (y == ("__debug__" : Str)) = false := by decide)
    (hcd : (y == ("__classdict__" : Str)) = false := by decide) (hg : Gl X x := by rfl) (hs1 : starEach (.Name y py :: es) X.env = (false, eval (.Name y py) X.env) :: starEach es X.env := by rfl)
    (hdb : (x == ("__debug__" : Str)) = false := by decide) (hpl : (backTo pos (starEach es X.env)).any (·.1) = false := by rfl) : EI X (.Call (.Name x p) (.Name y py :: es) [] pos) (cal1 i os F) :=
  (pe_call G hr hg hm hk hb .nil pass0 (pa_cons (pe_var hN hv hd hcd) ha hs1) hdb hs1 hpl).imp fun σ H Q h => by
    show tCons (tVar i) (tAr X.mg os) σ H fun vs H1 => sp1 X.mg F (vs ++ []) H1 Q E0
    simp only [List.append_nil]
    exact cal1_go h
end

/-! ### bodies of defs -/
def ro0 (n : Nat) (ds : List D) : Ro := ds.map (fun d => some (.d d)) ++ List.replicate (n - ds.length) none
def run0 (n np : Nat) (b : SF) : F0 := fun ds => if ds.length = np then (b (ro0 n ds)).bind fun x => match x.1 with | .rt r => some r | .nx => some (.d .non) | _ => none else none
def ro1 (n : Nat) (x : A) (ds : List D) : Ro := some x :: ro0 (n - 1) ds
def run1 (n np : Nat) (b : SF) : F1 := fun x ds => if ds.length + 1 = np then (b (ro1 n x ds)).bind fun y => (at_ y.2 0).bind fun x' => if x'.bor = true then (match y.1 with | .rt r => some (r, x') | .nx => some (.d .non, x') | _ => none) else none else none
theorem at_ro0 {n i : Nat} {ds : List D} {x : A} (h : at_ (ro0 n ds) i = some x) : ∃ d, ds[i]? = some d ∧ x = .d d := by
  have h := at_of.mp h
  unfold ro0 at h
  by_cases hi : i < ds.length
  · rw [List.getElem?_append_left (by simpa using hi), List.getElem?_map, List.getElem?_eq_getElem hi] at h
    simp only [Option.map_some, Option.some.injEq] at h
    exact ⟨ds[i], List.getElem?_eq_getElem hi, h.symm⟩
  · rw [List.getElem?_append_right (by simpa using hi)] at h
    have h2 := List.getElem?_replicate (a := (none : Option A)) (n := n - ds.length) (i := i - (ds.map (fun d => some (A.d d))).length)
    rw [h2] at h
    split at h
    · cases h
    · cases h
theorem atS_start {n : Nat} {N : List Str} {vs : List V} {i : Nat} {u : V} (h : vs[i]? = some u) : atS (L2.start N vs) i = some u := by
  refine atS_of.mpr ?_
  unfold L2.start
  have hi : i < vs.length := (List.getElem?_eq_some_iff.mp h).1
  rw [List.getElem?_append_left (by simpa using hi), List.getElem?_map, h]
  rfl
theorem good0 {mg : Str → Option Value} {Z : Addr → Prop} {H : Hp} {N : List Str} {ds : List D} {vs : List V} (hz : ∀ p, Z p → H p ≠ none) (hr : Reps mg Z H ds vs) (hl : ds.length ≤ N.length) :
    Good mg ⟨Z, H, fun _ => [], fun _ => .non⟩ (L2.start N vs) H (ro0 N.length ds) [] [] none .non (fun _ => []) := by
  have hle : ∀ a, Zof ⟨Z, H, fun _ => [], fun _ => .non⟩ (fun _ => []) a → Z a := fun a h => by
    rcases h with h | ⟨_, h⟩
    · exact h
    · cases h
  refine ⟨?_, fun p x e => ?_, fun _ _ => rfl, fun _ => List.nodup_nil, fun _ _ _ h => (by cases h), fun _ _ h => (by cases h), rfl, fun _ _ e _ => e, fun _ h => h, hz, fun _ _ h => (by cases h), fun _ h => absurd rfl h, fun i x e h => ?_, fun _ e => (by cases e), fun _ _ _ _ => rfl⟩
  · unfold ro0 L2.start
    simp only [List.length_append, List.length_map, List.length_replicate]
    rw [hr.length]
  · cases p with
    | none => cases e
    | some i =>
      obtain ⟨d, e1, rfl⟩ := at_ro0 e
      obtain ⟨u, e2, r⟩ := hr.get e1
      exact ⟨u, atS_start (n := 0) e2, rfl, r.mono fun a u z h => ⟨fun w => z (hle a w), h⟩⟩
  · obtain ⟨d, e1, rfl⟩ := at_ro0 e
    cases h
section
variable {P : Program} {w : World} {K : PySem.W.Frag} {mg : Str → Option Value} {base : Heap}
theorem ok0 {x qual : Str} {st : Stmt} {f : Addr} {fd : FuncData} {N ps : List Str} {k : Nat} {b : SF} (F : Fun K x qual st f fd) (S : FnScope N ps (defScope st)) (hnp : ps.length ≤ N.length)
    (hb : ∀ (cdv : Value) (A : Around) (outer : List Env) (s : Shared) (H : Hp) (E : XK), Room k (A.deeper (envOfC qual (defScope st) s.heap.objs.size f cdv)) → BI (cxOf CX0 P w K mg base N qual (defScope st) f cdv A outer s H E).nox (defBody st) b) :
    FnOk P w K mg base CX0 (k + 1) f fd ps (sp0 mg (run0 N.length ps.length b)) := by
  refine F.ok S (fun vs H Q E h => ?_) (fun cdv A outer s H vs Q E hr h => ?_)
  · obtain ⟨Z, ds, r, _, hr, e, _⟩ := h
    unfold run0 at e
    split at e
    · rename_i h1; rw [← h1, hr.length]
    · cases e
  · obtain ⟨Z, ds, r, hz, hrep, e, ret⟩ := h
    unfold run0 at e
    split at e
    case isFalse => cases e
    rename_i hl
    obtain ⟨⟨o, ρ'⟩, e1, e2⟩ := bind_some.mp e
    refine ⟨_, hb cdv A outer s H E hr, ⟨Z, H, fun _ => [], fun _ => .non⟩, _, [], [], o, ρ', ⟨_, good0 hz hrep (by omega)⟩, e1, ?_⟩
    have fin : ∀ σ' v H' y, SR mg ⟨Z, H, fun _ => [], fun _ => .non⟩ σ' H' ρ' [] [] (some y) v → y = r → Q v H' := fun σ' v H' y ⟨fp, g⟩ hy => by
      subst hy
      obtain ⟨u, e3, own⟩ := g.ent none _ rfl
      cases e3
      refine ret v H' (fp none) (fun b o e => g.keep b o e fun _ h => by cases h) (fun a ha => ?_) (g.nd none) (own.mono (fun a u z h => ⟨fun w => ?_, h⟩) fun _ _ => rfl) (g.rnb _ rfl)
      · rcases g.new none a ha with h | h
        · cases h
        · exact h
      · rcases w with w | w
        · exact z (.inl w)
        · exact z (.inr ⟨none, w⟩)
    cases o with
    | nx =>
      cases e2
      exact fun σ' H' ⟨fp, g⟩ => fin σ' .non H' _ ⟨_, g.put (x := .non) (u := .non) rfl⟩ rfl
    | rt y =>
      cases e2
      exact fun σ' v H' s => fin σ' v H' _ s rfl
    | bk => cases e2
    | ct => cases e2
theorem at_ro1 {n i : Nat} {ds : List D} {x y : A} (h : at_ (ro1 n x ds) i = some y) : (i = 0 ∧ y = x) ∨ ∃ j d, i = j + 1 ∧ ds[j]? = some d ∧ y = .d d := by
  cases i with
  | zero => left; exact ⟨rfl, by have := at_of.mp h; simpa [ro1] using this.symm⟩
  | succ j =>
    right
    have h' : at_ (ro0 (n - 1) ds) j = some y := h
    obtain ⟨d, e1, e2⟩ := at_ro0 h'
    exact ⟨j, d, rfl, e1, e2⟩
theorem good1 {Z : Addr → Prop} {H : Hp} {N : List Str} {ds : List D} {us : List V} {x : A} {u : V} {fx : List Addr} (hz : ∀ p, Z p → H p ≠ none) (hx : Own mg Z H x u fx) (hxb : x.bor = true) (nd : fx.Nodup) (hfz : ∀ a ∈ fx, Z a) (hr : Reps mg Z H ds us) (hl : ds.length + 1 ≤ N.length) :
    Good mg ⟨Z, H, fun i => if i = 0 then fx else [], fun _ => u⟩ (L2.start N (u :: us)) H (ro1 N.length x ds) [] [] none .non (fun p => if p = some 0 then fx else []) := by
  have hle : ∀ a, Zof ⟨Z, H, fun i => if i = 0 then fx else [], fun _ => u⟩ (fun p => if p = some 0 then fx else []) a → Z a := fun a h => by
    rcases h with h | ⟨p, h⟩
    · exact h
    · have h : a ∈ (if p = some 0 then fx else []) := h
      split at h
      · exact hfz a h
      · cases h
  have u0 : atS (L2.start N (u :: us)) 0 = some u := atS_start (n := 0) rfl
  have a0 : at_ (ro1 N.length x ds) 0 = some x := rfl
  refine ⟨?_, fun p y e => ?_, fun p e => ?_, fun p => ?_, fun p q a h1 h2 => ?_, fun p a h => ?_, rfl, fun _ _ e _ => e, fun _ h => h, hz, fun i a h => ?_, fun i h => ?_, fun i y e h => ?_, fun _ e => (by cases e), fun i y e h => ?_⟩
  · unfold ro1 ro0 L2.start
    simp only [List.length_append, List.length_map, List.length_replicate, List.length_cons]
    rw [hr.length]
    have := hr.length
    omega
  · cases p with
    | none => cases e
    | some i =>
      rcases at_ro1 e with ⟨rfl, rfl⟩ | ⟨j, d, rfl, e1, rfl⟩
      · exact ⟨u, u0, hx.mono (fun a u z h => ⟨fun w => z (hle a w), h⟩) fun _ _ => rfl⟩
      · obtain ⟨v, e2, r⟩ := hr.get e1
        exact ⟨v, atS_start (n := 0) (by simpa using e2), by simp, r.mono fun a u z h => ⟨fun w => z (hle a w), h⟩⟩
  · split
    · rename_i h; subst h
      rw [show plA none (ro1 N.length x ds) (some 0) = at_ (ro1 N.length x ds) 0 from rfl, a0] at e; cases e
    · rfl
  · show (if p = some 0 then fx else []).Nodup
    split
    · exact nd
    · exact List.nodup_nil
  · have h1 : a ∈ (if p = some 0 then fx else []) := h1
    have h2 : a ∈ (if q = some 0 then fx else []) := h2
    split at h1
    · split at h2
      · rename_i a b; rw [a, b]
      · cases h2
    · cases h1
  · left
    have h : a ∈ (if p = some 0 then fx else []) := h
    split at h
    · rename_i hp; subst hp; exact h
    · cases h
  · have h : a ∈ (if i = 0 then fx else []) := h
    split at h
    · exact hfz a h
    · cases h
  · have h : (if i = 0 then fx else []) ≠ [] := h
    split at h
    · rename_i hp; subst hp; exact ⟨x, a0, hxb⟩
    · exact absurd rfl h
  · rcases at_ro1 e with ⟨rfl, rfl⟩ | ⟨j, d, rfl, e1, rfl⟩
    · exact u0
    · cases h
  · rcases at_ro1 e with ⟨rfl, rfl⟩ | ⟨j, d, rfl, e1, rfl⟩
    · rw [hxb] at h; cases h
    · rfl
theorem ok1 {x qual : Str} {st : Stmt} {f : Addr} {fd : FuncData} {N ps : List Str} {k : Nat} {b : SF} (F : Fun K x qual st f fd) (S : FnScope N ps (defScope st)) (hnp : ps.length ≤ N.length)
    (hb : ∀ (cdv : Value) (A : Around) (outer : List Env) (s : Shared) (H : Hp) (E : XK), Room k (A.deeper (envOfC qual (defScope st) s.heap.objs.size f cdv)) → BI (cxOf CX0 P w K mg base N qual (defScope st) f cdv A outer s H E).nox (defBody st) b) :
    FnOk P w K mg base CX0 (k + 1) f fd ps (sp1 mg (run1 N.length ps.length b)) := by
  refine F.ok S (fun vs H Q E h => ?_) (fun cdv A outer s H vs Q E hr h => ?_)
  · obtain ⟨Z, x, u, fx, ds, us, r, x', rfl, _, _, _, _, _, hr, e, _⟩ := h
    unfold run1 at e
    split at e
    · rename_i h1; rw [← h1, hr.length]; rfl
    · cases e
  · obtain ⟨Z, x, u, fx, ds, us, r, x', rfl, hx, hxb, nd, hfz, hz, hrep, e, ret⟩ := h
    unfold run1 at e
    split at e
    case isFalse => cases e
    rename_i hl
    obtain ⟨⟨o, ρ'⟩, e1, e2⟩ := bind_some.mp e
    obtain ⟨y0, e3, e4⟩ := bind_some.mp e2
    simp only at e3 e4
    by_cases hyb : y0.bor = true
    case neg => rw [if_neg hyb] at e4; cases e4
    rw [if_pos hyb] at e4
    refine ⟨_, hb cdv A outer s H E hr, _, _, [], [], o, ρ', ⟨_, good1 hz hx hxb nd hfz hrep (by omega)⟩, e1, ?_⟩
    have fin : ∀ σ' v H' y, SR mg ⟨Z, H, fun i => if i = 0 then fx else [], fun _ => u⟩ σ' H' ρ' [] [] (some y) v → y = r → y0 = x' → Q v H' := fun σ' v H' y ⟨fp, g⟩ hy hy0 => by
      subst hy; subst hy0
      obtain ⟨u1, e5, own⟩ := g.ent none _ rfl
      cases e5
      obtain ⟨u2, e6, own2⟩ := g.ent (some 0) _ e3
      have e7 := g.bvs 0 _ e3 hyb
      cases e6.symm.trans e7
      have zz : ∀ a, (Z a ∨ a ∈ fp (some 0) ∨ a ∈ fp none) → Zof ⟨Z, H, fun i => if i = 0 then fx else [], fun _ => u⟩ fp a := fun a h => by
        rcases h with h | h | h
        · exact .inl h
        · exact .inr ⟨_, h⟩
        · exact .inr ⟨_, h⟩
      refine ret v H' (fp none) (fp (some 0)) (fun b o e hb => g.keep b o e fun i h => ?_) (fun b h => g.mor b h) (fun a ha => ?_) (g.nd _) (fun a ha => ?_) (g.nd none) (fun a h1 h2 => ?_) (own2.mono (fun a u z h => ⟨fun w => z (zz a w), h⟩) fun _ _ => rfl) (own.mono (fun a u z h => ⟨fun w => z (zz a w), h⟩) fun _ _ => rfl) hyb (g.rnb _ rfl)
      · have h : b ∈ (if i = 0 then fx else []) := h
        split at h
        · exact hb h
        · cases h
      · exact g.new (some 0) a ha
      · rcases g.new none a ha with h | h
        · cases h
        · exact h
      · cases g.ap _ _ a h1 h2
    cases o with
    | nx =>
      cases e4
      exact fun σ' H' ⟨fp, g⟩ => fin σ' .non H' _ ⟨_, g.put (x := .non) (u := .non) rfl⟩ rfl rfl
    | rt y =>
      cases e4
      exact fun σ' v H' s => fin σ' v H' _ s rfl rfl
    | bk => cases e4
    | ct => cases e4
end
end Tw
end
section
set_option maxRecDepth 100000
/-! layer 7: loops -/
namespace Tw
open PySem PySem.Spec PyProof.Rows L2

/-! ### pins: what stands still for a while -/
def Fx.pin (c : Fx) (a : Addr) (o : HO) : Fx := { c with H0 := upd c.H0 a o }
section
variable {mg : Str → Option Value} {c : Fx} {σ : Sg} {H H' : Hp} {ρ ρ' : Ro} {ts : List D} {tv : List V} {r : Option A} {v : V} {fp : Pl → List Addr} {a : Addr} {o : HO}
theorem Good.pin (g : Good mg c σ H ρ ts tv r v fp) (h : H a = some o) (hz : ¬ Zof c fp a) : Good mg (c.pin a o) σ H ρ ts tv r v fp := by
  refine ⟨g.len, g.ent, g.off, g.nd, g.ap, fun p b hb => ?_, g.tmp, fun b q e hn => ?_, fun b hb => ?_, fun b hb => ?_, g.bz, g.bst, g.bvs, g.rnb, g.bnb⟩
  · have hne : b ≠ a := fun e => hz (.inr ⟨p, e ▸ hb⟩)
    rcases g.new p b hb with w | w
    · left; cases p with
      | none => exact w
      | some i => exact w
    · right
      show upd c.H0 a o b = none
      rw [upd_ne hne]; exact w
  · have e' : upd c.H0 a o b = some q := e
    by_cases hb : b = a
    · subst hb; rw [upd_same] at e'; cases e'; exact h
    · rw [upd_ne hb] at e'; exact g.keep b q e' hn
  · have hb' : upd c.H0 a o b ≠ none := hb
    by_cases hba : b = a
    · subst hba; rw [h]; simp
    · rw [upd_ne hba] at hb'; exact g.mor b hb'
  · show upd c.H0 a o b ≠ none
    by_cases hba : b = a
    · subst hba; rw [upd_same]; simp
    · rw [upd_ne hba]; exact g.z0 b hb
/-- what was pinned is as it was -/
theorem Good.pinned (g : Good mg c σ H ρ ts tv r v fp) (h : c.H0 a = some o) (hz : ¬ c.Z0 a) : H a = some o := g.keep a o h fun i hi => hz (g.bz i a hi)
theorem Good.unpin (g : Good mg (c.pin a o) σ H ρ ts tv r v fp) (h : c.H0 a = none ∨ c.H0 a = some o) (hz0 : ∀ b, c.Z0 b → c.H0 b ≠ none) : Good mg c σ H ρ ts tv r v fp := by
  refine ⟨g.len, g.ent, g.off, g.nd, g.ap, fun p b hb => ?_, g.tmp, fun b q e hn => ?_, fun b hb => ?_, hz0, g.bz, g.bst, g.bvs, g.rnb, g.bnb⟩
  · rcases g.new p b hb with w | w
    · left; cases p with
      | none => exact w
      | some i => exact w
    · right
      have w' : upd c.H0 a o b = none := w
      by_cases hba : b = a
      · subst hba; rw [upd_same] at w'; cases w'
      · rw [upd_ne hba] at w'; exact w'
  · refine g.keep b q ?_ hn
    show upd c.H0 a o b = some q
    by_cases hba : b = a
    · subst hba
      rw [upd_same]
      rcases h with h | h
      · rw [h] at e; cases e
      · rw [h] at e; exact e
    · rw [upd_ne hba]; exact e
  · refine g.mor b ?_
    show upd c.H0 a o b ≠ none
    by_cases hba : b = a
    · subst hba; rw [upd_same]; simp
    · rw [upd_ne hba]; exact hb
theorem Good.pinOk (g : Good mg c σ H ρ ts tv r v fp) (h : H a = some o) (hz : ¬ c.Z0 a) : c.H0 a = none ∨ c.H0 a = some o := by
  cases q : c.H0 a with
  | none => exact .inl rfl
  | some u =>
    right
    rw [g.keep a u q fun i hi => hz (g.bz i a hi)] at h
    exact h
end

/-! ### what an iterator gives -/
def Pins (c : Fx) (P : List (Addr × HO)) : Prop := ∀ p ∈ P, c.H0 p.1 = some p.2 ∧ ¬ c.Z0 p.1
structure Gives (mg : Str → Option Value) (P : List (Addr × HO)) (T : List D) (TV : List V) (J : It) (ds : List D) : Prop where
  go : ∀ c σ H ρ r v T' V', Pins c P → SR mg c σ H ρ (T' ++ T) (V' ++ TV) r v → ∀ i, i < ds.length → J.go i H
  stop : ∀ c σ H ρ r v T' V', Pins c P → SR mg c σ H ρ (T' ++ T) (V' ++ TV) r v → ∀ i, ds.length ≤ i → J.stop i H
  yld : ∀ c σ H ρ T' V', Pins c P → T'.length = V'.length → SR mg c σ H ρ (T' ++ T) (V' ++ TV) none .non → ∀ i x H' d, ds[i]? = some d → J.yld i H x H' → SR mg c σ H' ρ (d :: (T' ++ T)) (x :: (V' ++ TV)) none .non ∧ Sm H H'
def Back (mg : Str → Option Value) (c' : Fx) (T : List D) (TV : List V) (c : Fx) (ts : List D) (tv : List V) : Prop := ∀ σ H ρ r v, SR mg c' σ H ρ T TV r v → SR mg c σ H ρ ts tv r v
abbrev WF := Ro → Option (List D × Ro)
def tW (mg : Str → Option Value) (w : WF) : L2.TI := fun σ H R => ∃ c ρ ts tv ds ρ', SR mg c σ H ρ ts tv none .non ∧ w ρ = some (ds, ρ') ∧
  ∀ J H' c' T TV P, SR mg c' σ H' ρ' T TV none .non → Pins c' P → Gives mg P T TV J ds → Back mg c' T TV c ts tv → (∀ b, c.Z0 b → c'.Z0 b) → R J H'
def IW (X : Cx) (tg e : Expr) (w : WF) : Prop := PI X tg e (tW X.mg w)
theorem _root_.L2.PI.imp {X : Cx} {tg e : Expr} {t t' : L2.TI} (h : PI X tg e t) (k : ∀ σ H Q, t' σ H Q → t σ H Q) : PI X tg e t' := ⟨fun pins s σ H Q I w => h.run pins s σ H Q I (k _ _ _ w)⟩

/-! ### the loop -/
def forget : List Nat → Ro → Option Ro
  | [], ρ => some ρ
  | i :: r, ρ => if okOld ρ i = true then forget r (ρ.set i none) else none
def loopS (g : GF) (b : SF) (fg : List Nat) : List D → Ro → Option (Out × Ro)
  | [], ρ => some (.nx, ρ)
  | d :: r, ρ => (g d ρ).bind fun ρ1 => (b ρ1).bind fun x => match x.1 with
    | .nx => (forget fg x.2).bind fun ρ2 => loopS g b fg r ρ2
    | .ct => (forget fg x.2).bind fun ρ2 => loopS g b fg r ρ2
    | .bk => (forget fg x.2).map fun ρ2 => (.nx, ρ2)
    | .rt a => some (.rt a, x.2)
def forS (w : WF) (g : GF) (b : SF) (fg : List Nat) : SF := fun ρ => (w ρ).bind fun x => (forget fg x.2).bind fun ρ2 => loopS g b fg x.1 ρ2
section
variable {mg : Str → Option Value} {c c' : Fx} {σ : Sg} {H H' : Hp} {ρ ρ' : Ro} {ts : List D} {tv : List V} {r : Option A} {v : V} {fp : Pl → List Addr}
theorem set_atS (σ : Sg) (i : Nat) : σ.set i (atS σ i) = σ := by
  unfold atS
  apply List.ext_getElem?
  intro j
  by_cases h : i < σ.length
  · by_cases e : j = i
    · subst e
      rw [List.getElem?_set_self h, List.getElem?_eq_getElem h]
      rfl
    · rw [List.getElem?_set_ne (Ne.symm e)]
  · rw [List.set_eq_of_length_le (by omega)]
theorem SR.forget : ∀ {fg : List Nat} {ρ ρ' : Ro}, SR mg c σ H ρ ts tv r v → forget fg ρ = some ρ' → SR mg c σ H ρ' ts tv r v
  | [], ρ, ρ', s, e => by cases e; exact s
  | i :: t, ρ, ρ', ⟨fp, g⟩, e => by
    have e' : (if okOld ρ i = true then Tw.forget t (ρ.set i none) else none) = some ρ' := e
    by_cases ho : okOld ρ i = true
    case neg => rw [if_neg ho] at e'; cases e'
    rw [if_pos ho] at e'
    have g' := g.forget (okOld_lt ho) (g.old ho) (atS σ i)
    rw [set_atS] at g'
    exact SR.forget ⟨_, g'⟩ e'
theorem Done.back {o : Out} {T : List D} {TV : List V} {E : Ends} (k : Done mg c ts tv E ρ o) (b : Back mg c' T TV c ts tv) : Done mg c' T TV E ρ o := by
  cases o with
  | nx => exact fun σ' H' s => k σ' H' (b _ _ _ _ _ s)
  | rt r => exact fun σ' v H' s => k σ' v H' (b _ _ _ _ _ s)
  | bk => exact fun σ' H' s => k σ' H' (b _ _ _ _ _ s)
  | ct => exact fun σ' H' s => k σ' H' (b _ _ _ _ _ s)
theorem for_core {js : List Nat} {g : GF} {b : SF} {fg : List Nat} {P : List (Addr × HO)} {T : List D} {TV : List V} {J : It} {ds : List D} {o : Out} {E : Ends}
    (s : SR mg c σ H ρ T TV none .non) (hp : Pins c P) (G : Gives mg P T TV J ds) (e : loopS g b fg ds ρ = some (o, ρ')) (k : Done mg c T TV E ρ' o) :
    ∃ W : Nat → Nat → Sg → Hp → Prop, (∃ m, W 0 m σ H) ∧ ∀ i m σ H, W i m σ H →
      (J.stop i H ∧ E.nx σ H) ∨ (J.go i H ∧ ∃ N : Sg → Hp → Prop, (∀ σ' H', N σ' H' → ∃ m', m' < m ∧ W (i + 1) m' σ' H') ∧ ∀ x H', J.yld i H x H' → tGr mg js g x σ H' fun σ2 H2 => tS mg b { E with nx := N, ct := N, bk := E.nx } σ2 H2) := by
  let N : Nat → Sg → Hp → Prop := fun i σ H => ∃ ρ, SR mg c σ H ρ T TV none .non ∧ loopS g b fg (ds.drop i) ρ = some (o, ρ')
  refine ⟨fun i m σ H => i ≤ ds.length ∧ m = ds.length - i ∧ N i σ H, ⟨_, Nat.zero_le _, rfl, ρ, s, e⟩, ?_⟩
  rintro i m σ H ⟨hi, rfl, ρ, s, e⟩
  by_cases hlt : i < ds.length
  · right
    refine ⟨G.go c σ H ρ _ _ [] [] hp s i hlt, N (i + 1), fun σ' H' q => ⟨ds.length - (i + 1), by omega, hlt, rfl, q⟩, fun x H' y => ?_⟩
    have hd : ds[i]? = some ds[i] := List.getElem?_eq_getElem hlt
    rw [List.drop_eq_getElem_cons hlt] at e
    obtain ⟨ρ1, e1, e2⟩ := bind_some.mp (show (g ds[i] ρ).bind _ = _ from e)
    obtain ⟨⟨o1, ρ2⟩, e3, e4⟩ := bind_some.mp e2
    refine ⟨c, ρ, T, TV, ds[i], ρ1, (G.yld c σ H ρ [] [] hp rfl s i x H' _ hd y).1, e1, fun σ2 H2 _ s2 => ⟨c, ρ1, T, TV, o1, ρ2, s2, e3, ?_⟩⟩
    cases o1 with
    | nx =>
      obtain ⟨ρ3, e5, e6⟩ := bind_some.mp e4
      exact fun σ' H' s' => ⟨ρ3, s'.forget e5, e6⟩
    | ct =>
      obtain ⟨ρ3, e5, e6⟩ := bind_some.mp e4
      exact fun σ' H' s' => ⟨ρ3, s'.forget e5, e6⟩
    | bk =>
      obtain ⟨ρ3, e5, e6⟩ := map_some.mp e4
      cases e6
      exact fun σ' H' s' => k σ' H' (s'.forget e5)
    | rt a => cases e4; exact k
  · left
    have e0 : ds.drop i = [] := List.drop_eq_nil_of_le (by omega)
    rw [e0] at e
    cases e
    exact ⟨G.stop c σ H _ _ _ [] [] hp s i (by omega), k σ H s⟩
end
section
variable {X : Cx} {tg iter : Expr} {body : List Stmt} {w : WF} {js : List Nat} {g : GF} {b : SF} {pos : Pos}
theorem s_for (fg : List Nat) (hc : X.calm = true) (hp : PassesOwn (model X.prog X.w) X.A X.env X.xe) (hi : IW X tg iter w) (hg : GI X tg js g) (hb : BI X body b) (hs : ∀ x, foldedSetIterable iter X.env x = pure x := by intro _; rfl) : SI X (.For tg iter body [] pos) (forS w g b fg) :=
  (ps_for hp hc hi hg hb hs).imp fun E σ H h => by
    obtain ⟨c, ρ, ts, tv, o, ρ', s, e, k⟩ := h
    obtain ⟨⟨ds, ρ1⟩, e1, e2⟩ := bind_some.mp (show (w ρ).bind _ = _ from e)
    obtain ⟨ρ2, e3, e4⟩ := bind_some.mp e2
    refine ⟨c, ρ, ts, tv, ds, ρ1, s, e1, fun J H' c' T TV P s' hp G bk _ => ?_⟩
    exact for_core (s'.forget e3) hp G e4 (Done.back k bk)
end

/-! ### lists and tuples -/
/-- the value of an expression, as its items -/
def itemsOf : D → Option (List D)
  | .lst xs => some xs
  | .tup xs => some xs
  | _ => none
def seqW (f : EF) : WF := fun ρ => (dv f ρ).bind fun x => (itemsOf x.1).map fun ds => (ds, x.2)
section
variable {X : Cx} {tg e : Expr}
def iSeq (K : PySem.W.Frag) (tl : TE) : L2.TI := fun σ H R => tl σ H fun x H1 => ∃ a, x = .ref a ∧ ((∃ xs, SqL K H1 a xs) ∧ R (Itl K a) H1 ∨ (∃ xs, SqT K H1 a xs) ∧ R (Itt K a) H1)
theorem pi_seq {tl : TE} (hl : PE X e tl) : PI X tg e (iSeq X.K tl) := by
  refine ⟨fun pins s σ H R I h => ?_⟩
  refine thn (hl.run pins s σ H _ I h) fun v s1 ⟨x, H1, I1, r1, q1⟩ => ?_
  obtain ⟨a, e, q1⟩ := q1
  subst e
  cases r1
  rcases q1 with ⟨⟨xs, hq⟩, q⟩ | ⟨⟨xs, hq⟩, q⟩
  · obtain ⟨its, rv, p, hz⟩ := I1.list hq
    refine wpAny_pyIter_list p.isList ?_
    refine ⟨s1.heap.objs.size, [s1.heap.objs.size], _, _, H1, rfl, I1.kept (t' := s1.toks) fun b o e => Heap.get?_push_of_some _ e, turn_list a _, ⟨_, Heap.get?_push_size _ rfl, rfl, rfl⟩, fun b hb => ?_, q⟩
    have e : b = s1.heap.objs.size := by simpa using hb
    subst e
    exact I1.fpOk (Nat.le_refl _) (I1.hok.fresh (Nat.le_refl _))
  · obtain ⟨its, rv, p, hz⟩ := I1.tuple hq
    refine wpAny_pyIter_tuple (show s1.heap.IsTuple a its.toArray from p) ?_
    refine ⟨s1.heap.objs.size, [s1.heap.objs.size], _, _, H1, rfl, I1.kept (t' := s1.toks) fun b o e => Heap.get?_push_of_some _ e, turn_tuple a _, ⟨_, Heap.get?_push_size _ rfl, rfl, rfl⟩, fun b hb => ?_, q⟩
    have e : b = s1.heap.objs.size := by simpa using hb
    subst e
    exact I1.fpOk (Nat.le_refl _) (I1.hok.fresh (Nat.le_refl _))
end
section
variable {mg : Str → Option Value} {c c' : Fx} {σ : Sg} {H H' : Hp} {ρ ρ' : Ro} {ts : List D} {tv : List V} {r : Option A} {v : V} {fp : Pl → List Addr}
theorem Good.retmp (g : Good mg c σ H ρ ts tv r v fp) {T : List D} {TV : List V} (h : Reps mg (Zof c fp) H T TV) : Good mg c σ H ρ T TV r v fp :=
  ⟨g.len, g.ent, g.off, g.nd, g.ap, g.new, h, g.keep, g.mor, g.z0, g.bz, g.bst, g.bvs, g.rnb, g.bnb⟩
theorem rd_of_pin {K : PySem.W.Frag} {a : Addr} {o u : HO} (h : H a = some o) (ho : o = u ∨ ∃ q, o = .frz q u) : L2.Rd H a u := by
  rcases ho with rfl | ⟨q, rfl⟩
  · exact .inl h
  · exact .inr ⟨q, h⟩
/-- the items stand in the heap as they are, the source is pinned -/
theorem gives_seq {K : PySem.W.Frag} {a : Addr} {o : HO} {xs : List V} {ds : List D} {T0 : List D} {V0 : List V} (hl : ds.length = xs.length) {J : It}
    (hJ : (J = Itl K a ∧ (o = .lst xs ∨ ∃ q, o = .frz q (.lst xs))) ∨ (J = Itt K a ∧ (o = .tup xs ∨ ∃ q, o = .frz q (.tup xs)))) : Gives mg [(a, o)] (ds ++ T0) (xs ++ V0) J ds := by
  have at' : ∀ {c σ H ρ r v T' V'}, Pins c [(a, o)] → SR mg c σ H ρ (T' ++ (ds ++ T0)) (V' ++ (xs ++ V0)) r v → H a = some o := fun hp ⟨fp, g⟩ => by
    obtain ⟨h1, h2⟩ := hp _ List.mem_cons_self
    exact g.pinned h1 h2
  refine ⟨fun c σ H ρ r v T' V' hp s i hi => ?_, fun c σ H ρ r v T' V' hp s i hi => ?_, fun c σ H ρ T' V' hp hlen s i x H' d hd y => ?_⟩
  · have h := at' hp s
    rcases hJ with ⟨rfl, ho⟩ | ⟨rfl, ho⟩
    · exact ⟨xs, xs[i]'(by omega), .inl (rd_of_pin (K := K) h ho), List.getElem?_eq_getElem _⟩
    · exact ⟨xs, xs[i]'(by omega), .inl (rd_of_pin (K := K) h ho), List.getElem?_eq_getElem _⟩
  · have h := at' hp s
    rcases hJ with ⟨rfl, ho⟩ | ⟨rfl, ho⟩
    · exact ⟨xs, .inl (rd_of_pin (K := K) h ho), by omega⟩
    · exact ⟨xs, .inl (rd_of_pin (K := K) h ho), by omega⟩
  · have h := at' hp s
    have key : H' = H ∧ xs[i]? = some x := by
      rcases hJ with ⟨rfl, ho⟩ | ⟨rfl, ho⟩
      · exact ⟨y.1, y.2 xs (.inl (rd_of_pin (K := K) h ho))⟩
      · exact ⟨y.1, y.2 xs (.inl (rd_of_pin (K := K) h ho))⟩
    obtain ⟨rfl, hx⟩ := key
    refine ⟨?_, Sm.refl _⟩
    obtain ⟨fp, g⟩ := s
    refine ⟨fp, g.retmp ?_⟩
    have t := g.tmp
    have t2 := t.drop T'.length
    rw [List.drop_left' rfl, List.drop_left' hlen.symm] at t2
    obtain ⟨u, hu, rep⟩ := t2.get (i := i) (d := d) (by rw [List.getElem?_append_left (List.getElem?_eq_some_iff.mp hd).1]; exact hd)
    rw [List.getElem?_append_left (by have := (List.getElem?_eq_some_iff.mp hd).1; omega), hx] at hu
    cases hu
    exact ⟨x, _, rfl, rep, t⟩
end
section
variable {X : Cx} {tg e : Expr} {f : EF}
theorem w_seq (h : EI X e f) : IW X tg e (seqW f) := (pi_seq h).imp fun σ H R w => by
  obtain ⟨c, ρ, ts, tv, ds, ρ', s, e1, k⟩ := w
  obtain ⟨⟨d, ρ1⟩, e2, e3⟩ := bind_some.mp (show (dv f ρ).bind _ = _ from e1)
  obtain ⟨ds', e4, e5⟩ := map_some.mp e3
  cases e5
  refine tE_dv s e2 fun v H1 s1 => ?_
  obtain ⟨fp, g⟩ := s1
  obtain ⟨v', tv', eq, rep, t⟩ := g.tmp
  cases eq
  have main : ∀ {a : Addr} {o : HO} {xs : List V} {J : It}, ¬ Zof c fp a → H1 a = some o → Reps X.mg (Zof c fp) H1 ds xs → ((J = Itl X.K a ∧ (o = .lst xs ∨ ∃ q, o = .frz q (.lst xs))) ∨ (J = Itt X.K a ∧ (o = .tup xs ∨ ∃ q, o = .frz q (.tup xs)))) → R J H1 := fun {a o xs J} hz ho hr hJ => by
    have g1 := (g.pin ho hz).retmp (T := ds ++ ts) (TV := xs ++ tv) (hr.append t)
    refine k J H1 (c.pin a o) _ _ [(a, o)] ⟨fp, g1⟩ (fun p hp => ?_) (gives_seq hr.length hJ) (fun σ H ρ r v ⟨fp', g'⟩ => ?_) (fun _ h => h)
    · rw [List.mem_singleton.mp hp]
      exact ⟨upd_same, fun w => hz (.inl w)⟩
    · exact ⟨fp', (g'.unpin (g.pinOk ho fun w => hz (.inl w)) g.z0).pops hr.length⟩
  cases d with
  | lst xs =>
    cases e4
    obtain ⟨a, vs, e6, hz, rd, hr⟩ := rep
    refine ⟨a, e6, .inl ⟨⟨vs, .inl rd.l2⟩, ?_⟩⟩
    rcases rd with rd | ⟨q, rd, _⟩
    · exact main hz rd hr (.inl ⟨rfl, .inl rfl⟩)
    · exact main hz rd hr (.inl ⟨rfl, .inr ⟨q, rfl⟩⟩)
  | tup xs =>
    cases e4
    obtain ⟨a, vs, o, e6, hz, _, rd, hr⟩ := rep
    refine ⟨a, e6, .inr ⟨⟨vs, .inl rd.frz2⟩, ?_⟩⟩
    exact main hz rd.frz hr (.inr ⟨rfl, .inr ⟨o, rfl⟩⟩)
  | _ => cases e4
/-! ### ranges -/
def rngL (lo : Int) (n : Nat) : List D := (List.range n).map fun i => .int (lo + (i : Nat))
theorem gives_rng {mg : Str → Option Value} {lo : Int} {n : Nat} {T : List D} {TV : List V} : Gives mg [] T TV (Itr lo n) (rngL lo n) := by
  have hl : (rngL lo n).length = n := by simp [rngL]
  refine ⟨fun c σ H ρ r v T' V' hp s i hi => by rw [hl] at hi; exact hi, fun c σ H ρ r v T' V' hp s i hi => by rw [hl] at hi; exact hi, fun c σ H ρ T' V' hp hlen s i x H' d hd y => ?_⟩
  obtain ⟨rfl, rfl⟩ := y
  obtain ⟨fp, g⟩ := s
  have e : d = .int (lo + (i : Nat)) := by
    have hi := (List.getElem?_eq_some_iff.mp hd).1
    rw [hl] at hi
    unfold rngL at hd
    rw [List.getElem?_map, List.getElem?_range hi] at hd
    exact (Option.some.inj hd).symm
  subst e
  exact ⟨⟨fp, g.retmp ⟨_, _, rfl, rfl, g.tmp⟩⟩, Sm.refl _⟩
def rng1W (f : EF) : WF := fun ρ => (dv f ρ).bind fun x => match x.1 with | .int n => if -(2 ^ 62) ≤ n ∧ n < 2 ^ 62 then some (rngL 0 n.toNat, x.2) else none | _ => none
def rng2W (f g : EF) : WF := fun ρ => (dv f ρ).bind fun x => (dv g x.2).bind fun y => match x.1, y.1 with | .int m, .int n => if (-(2 ^ 62) ≤ m ∧ m < 2 ^ 62) ∧ (-(2 ^ 62) ≤ n ∧ n < 2 ^ 62) then some (rngL m (n - m).toNat, y.2) else none | _, _ => none
theorem w_rng1 {p pos : Pos} (hm : X.mg "range" = none) (h : EI X e f) (hg : Gl X "range" := by rfl) (hs : starEach [e] X.env = [(false, eval e X.env)] := by rfl) (hs' : starEach (e :: []) X.env = (false, eval e X.env) :: starEach [] X.env := by rfl) : IW X tg (.Call (.Name "range" p) [e] [] pos) (rng1W f) :=
  (pi_range1 hg hm (pa_cons h pa_nil hs') hs).imp fun σ H R w => by
    obtain ⟨c, ρ, ts, tv, ds, ρ', s, e1, k⟩ := w
    obtain ⟨⟨d, ρ1⟩, e2, e3⟩ := bind_some.mp (show (dv f ρ).bind _ = _ from e1)
    cases d with
    | int n =>
      have e3 : (if -(2 ^ 62) ≤ n ∧ n < 2 ^ 62 then some (rngL 0 n.toNat, ρ1) else none) = some (ds, ρ') := e3
      split at e3
      case isFalse => cases e3
      rename_i hb
      cases e3
      refine tE_dv s e2 fun v H1 ⟨fp, g⟩ => ?_
      obtain ⟨v', tv', eq, rep, t⟩ := g.tmp
      cases eq
      have rep : v = .int n := rep
      subst rep
      exact ⟨n, rfl, hb.1, hb.2, k _ H1 c ts tv [] ⟨fp, g.pops (xs := [.int n]) (ys := [.int n]) rfl⟩ (fun p hp => by cases hp) gives_rng (fun _ _ _ _ _ s => s) fun _ h => h⟩
    | _ => cases e3
theorem w_rng2 {e' : Expr} {f' : EF} {p pos : Pos} (hm : X.mg "range" = none) (h : EI X e f) (h' : EI X e' f') (hg : Gl X "range" := by rfl) (hs : starEach [e, e'] X.env = [(false, eval e X.env), (false, eval e' X.env)] := by rfl) (hs2 : starEach [e'] X.env = [(false, eval e' X.env)] := by rfl)
    (hs3 : starEach (e :: [e']) X.env = (false, eval e X.env) :: starEach [e'] X.env := by rfl) (hs4 : starEach (e' :: []) X.env = (false, eval e' X.env) :: starEach [] X.env := by rfl) : IW X tg (.Call (.Name "range" p) [e, e'] [] pos) (rng2W f f') :=
  (pi_range2 hg hm (pa_cons h (pa_cons h' pa_nil hs4) hs3) hs hs2).imp fun σ H R w => by
    obtain ⟨c, ρ, ts, tv, ds, ρ', s, e1, k⟩ := w
    obtain ⟨⟨d, ρ1⟩, e2, e3⟩ := bind_some.mp (show (dv f ρ).bind _ = _ from e1)
    obtain ⟨⟨d', ρ2⟩, e4, e5⟩ := bind_some.mp e3
    cases d with
    | int m =>
      cases d' with
      | int n =>
        have e5 : (if (-(2 ^ 62) ≤ m ∧ m < 2 ^ 62) ∧ (-(2 ^ 62) ≤ n ∧ n < 2 ^ 62) then some (rngL m (n - m).toNat, ρ2) else none) = some (ds, ρ') := e5
        split at e5
        case isFalse => cases e5
        rename_i hb
        cases e5
        refine tE_dv s e2 fun v H1 s1 => tE_dv s1 e4 fun v2 H2 ⟨fp, g⟩ => ?_
        obtain ⟨w', tv', eq, rep2, t⟩ := g.tmp
        cases eq
        obtain ⟨v', tv', eq, rep, t⟩ := t
        cases eq
        have rep : v = .int m := rep
        have rep2 : v2 = .int n := rep2
        subst rep; subst rep2
        exact ⟨m, n, rfl, ⟨hb.1.1, hb.1.2, hb.2.1, hb.2.2⟩, k _ H2 c ts tv [] ⟨fp, g.pops (xs := [.int n, .int m]) (ys := [.int n, .int m]) rfl⟩ (fun p hp => by cases hp) gives_rng (fun _ _ _ _ _ s => s) fun _ h => h⟩
      | _ => cases e5
    | _ => cases e5
end
end Tw
end
section
set_option maxRecDepth 100000
/-! layer 8: walks over dicts; comprehensions -/
namespace Tw
open PySem PySem.Spec PyProof.Rows L2

def NF : HO → Prop
  | .frz _ (.tup _) => True
  | .frz _ _ => False
  | _ => True
theorem lk_nf {o : HO} (h : lk o = true) : NF o := by cases o <;> first | trivial | cases h
section
variable {mg : Str → Option Value} {Z Z' : Addr → Prop} {H H' : Hp}
mutual
theorem Rep.monoN (h : ∀ a u, NF u → ¬ Z a → Rd H a u → ¬ Z' a ∧ Rd H' a u) : ∀ {x : D} {v : V}, Rep mg Z H x v → Rep mg Z' H' x v
  | .non, v, r => r
  | .bl b, v, r => r
  | .int i, v, r => r
  | .str x, v, r => r
  | .lst ds, v, ⟨a, vs, e, z, g, r⟩ => ⟨a, vs, e, (h a (.lst vs) trivial z g).1, (h a (.lst vs) trivial z g).2, Reps.monoN h r⟩
  | .tup ds, v, ⟨a, vs, o, e, z, n, g, r⟩ => ⟨a, vs, o, e, (h a (.frz o (.tup vs)) trivial z g).1, n, (h a (.frz o (.tup vs)) trivial z g).2, Reps.monoN h r⟩
  | .pr ds, v, ⟨a, vs, e, z, g, r⟩ => ⟨a, vs, e, (h a (.tup vs) trivial z g).1, (h a (.tup vs) trivial z g).2, Reps.monoN h r⟩
  | .dic ds, v, ⟨a, vs, e, z, g, r⟩ => ⟨a, vs, e, (h a (.dK vs) trivial z g).1, (h a (.dK vs) trivial z g).2, RepK.monoN h r⟩
  | .ins c fs, v, ⟨a, C, dx, vs, e, z, m, g, r⟩ => ⟨a, C, dx, vs, e, (h a (.ins C dx vs) trivial z g).1, m, (h a (.ins C dx vs) trivial z g).2, RepF.monoN h r⟩
theorem Reps.monoN (h : ∀ a u, NF u → ¬ Z a → Rd H a u → ¬ Z' a ∧ Rd H' a u) : ∀ {x : List D} {v : List V}, Reps mg Z H x v → Reps mg Z' H' x v
  | [], v, r => r
  | d :: t, v, ⟨x, w, e, r, q⟩ => ⟨x, w, e, Rep.monoN h r, Reps.monoN h q⟩
theorem RepK.monoN (h : ∀ a u, NF u → ¬ Z a → Rd H a u → ¬ Z' a ∧ Rd H' a u) : ∀ {x : List (Key × D)} {v : List (Key × V)}, RepK mg Z H x v → RepK mg Z' H' x v
  | [], v, r => r
  | (k, d) :: t, v, ⟨x, w, e, r, q⟩ => ⟨x, w, e, Rep.monoN h r, RepK.monoN h q⟩
theorem RepF.monoN (h : ∀ a u, NF u → ¬ Z a → Rd H a u → ¬ Z' a ∧ Rd H' a u) : ∀ {x : List (Str × D)} {v : List (Str × V)}, RepF mg Z H x v → RepF mg Z' H' x v
  | [], v, r => r
  | (k, d) :: t, v, ⟨x, w, e, r, q⟩ => ⟨x, w, e, Rep.monoN h r, RepF.monoN h q⟩
end
mutual
theorem Own.monoN (h : ∀ a u, NF u → ¬ Z a → Rd H a u → ¬ Z' a ∧ Rd H' a u) : ∀ {x : A} {v : V} {fp : List Addr}, (∀ a ∈ fp, ∀ o, NF o → H a = some o → H' a = some o) → Own mg Z H x v fp → Own mg Z' H' x v fp
  | .d x, v, fp, _, ⟨e, r⟩ => ⟨e, Rep.monoN h r⟩
  | .l b xs, v, fp, g, ⟨a, vs, e, f, q, r⟩ => ⟨a, vs, e, f, g a (by rw [f]; exact List.mem_cons_self) _ trivial q, Reps.monoN h r⟩
  | .k b xs, v, fp, g, ⟨a, vs, e, f, q, r⟩ => ⟨a, vs, e, f, g a (by rw [f]; exact List.mem_cons_self) _ trivial q, RepK.monoN h r⟩
  | .i b c fs, v, fp, g, ⟨a, C, dx, vs, p, e, f, m, q, r⟩ => ⟨a, C, dx, vs, p, e, f, m, g a (by rw [f]; exact List.mem_cons_self) _ trivial q, OwnF.monoN h (fun b hb => g b (by rw [f]; exact List.mem_cons_of_mem _ hb)) r⟩
  | .t b x, v, fp, g, r => OwnT.monoN (fun a ha o l e => g a ha o (lk_nf l) e) r
theorem OwnF.monoN (h : ∀ a u, NF u → ¬ Z a → Rd H a u → ¬ Z' a ∧ Rd H' a u) : ∀ {x : List (Str × A)} {v : List (Str × V)} {fp : List Addr}, (∀ a ∈ fp, ∀ o, NF o → H a = some o → H' a = some o) → OwnF mg Z H x v fp → OwnF mg Z' H' x v fp
  | [], v, fp, _, r => r
  | (k, d) :: t, v, fp, g, ⟨x, w, p, q, e, f, r, s⟩ => ⟨x, w, p, q, e, f, Own.monoN h (fun b hb => g b (by rw [f]; exact List.mem_append_left _ hb)) r, OwnF.monoN h (fun b hb => g b (by rw [f]; exact List.mem_append_right _ hb)) s⟩
end
end

section
variable {mg : Str → Option Value} {c c' : Fx} {σ σ' : Sg} {H H' : Hp} {ρ ρ' : Ro} {ts : List D} {tv : List V} {r : Option A} {v : V} {fp : Pl → List Addr} {a : Addr} {u : HO} {od : Obj}
/-- the same state over another heap that reads alike but for locks -/
theorem Good.locks (g : Good mg c σ H ρ ts tv r v fp) (H0' : Hp) (hR : ∀ b w, NF w → ¬ Zof c fp b → Rd H b w → Rd H' b w) (hO : ∀ p b o, b ∈ fp p → NF o → H b = some o → H' b = some o)
    (hnew : ∀ b, c.H0 b = none → (∃ p, b ∈ fp p) → H0' b = none) (hkeep : ∀ b o, H0' b = some o → (∀ i, b ∉ c.bor i) → H' b = some o) (hmor : ∀ b, H0' b ≠ none → H' b ≠ none) (hz : ∀ b, c.Z0 b → H0' b ≠ none) :
    Good mg { c with H0 := H0' } σ H' ρ ts tv r v fp := by
  refine ⟨g.len, fun p x e => ?_, g.off, g.nd, g.ap, fun p b hb => ?_, g.tmp.monoN fun b w n z h => ⟨z, hR b w n z h⟩, hkeep, hmor, hz, g.bz, g.bst, g.bvs, g.rnb, g.bnb⟩
  · obtain ⟨y, e1, o⟩ := g.ent p x e
    exact ⟨y, e1, o.monoN (fun b w n z h => ⟨z, hR b w n z h⟩) fun b hb o n h => hO p b o hb n h⟩
  · rcases g.new p b hb with w | w
    · left; cases p with
      | none => exact w
      | some i => exact w
    · exact .inr (hnew b w ⟨p, hb⟩)
theorem Good.lock (g : Good mg c σ H ρ ts tv r v fp) (h : H a = some u) (nf : NF u) (hl : lk u = true) (hz : ¬ Zof c fp a) : Good mg (c.pin a (.frz od u)) σ (upd H a (.frz od u)) ρ ts tv r v fp := by
  refine g.locks (upd c.H0 a (.frz od u)) (fun b w n z hb => ?_) (fun p b o hb n h' => ?_) (fun b h' ⟨p, hp⟩ => ?_) (fun b o e hn => ?_) (fun b hb => ?_) (fun b hb => ?_)
  · by_cases e : b = a
    · subst e
      rcases hb with hb | ⟨q, hb, l⟩
      · rw [h] at hb; cases hb; exact .inr ⟨od, upd_same, hl⟩
      · rw [h] at hb; cases hb; cases hl
    · rcases hb with hb | ⟨q, hb, l⟩
      · exact .inl (by rw [upd_ne e]; exact hb)
      · exact .inr ⟨q, by rw [upd_ne e]; exact hb, l⟩
  · have e : b ≠ a := fun e => hz (.inr ⟨p, e ▸ hb⟩)
    rw [upd_ne e]; exact h'
  · have e : b ≠ a := fun e => hz (.inr ⟨p, e ▸ hp⟩)
    rw [upd_ne e]; exact h'
  · by_cases eb : b = a
    · subst eb; rw [upd_same] at e; rw [upd_same]; exact e
    · rw [upd_ne eb] at e; rw [upd_ne eb]; exact g.keep b o e hn
  · by_cases eb : b = a
    · subst eb; rw [upd_same]; simp
    · rw [upd_ne eb] at hb; rw [upd_ne eb]; exact g.mor b hb
  · by_cases eb : b = a
    · subst eb; rw [upd_same]; simp
    · rw [upd_ne eb]; exact g.z0 b hb
theorem Good.unlock (g : Good mg (c.pin a (.frz od u)) σ H ρ ts tv r v fp) (nt : ¬ NF (.frz od u)) (hz : ¬ c.Z0 a) (h0 : c.H0 a = none ∨ c.H0 a = some u) (hz0 : ∀ b, c.Z0 b → c.H0 b ≠ none) : Good mg c σ (upd H a u) ρ ts tv r v fp := by
  have hf : H a = some (.frz od u) := g.pinned (show upd c.H0 a _ a = _ from upd_same) hz
  refine g.locks (c := c.pin a (.frz od u)) c.H0 (fun b w n z hb => ?_) (fun p b o hb n h' => ?_) (fun b h' ⟨p, hp⟩ => ?_) (fun b o e hn => ?_) (fun b hb => ?_) hz0
  · by_cases e : b = a
    · subst e
      rcases hb with hb | ⟨q, hb, l⟩
      · rw [hf] at hb; cases hb; exact (nt n).elim
      · rw [hf] at hb; cases hb; exact .inl upd_same
    · rcases hb with hb | ⟨q, hb, l⟩
      · exact .inl (by rw [upd_ne e]; exact hb)
      · exact .inr ⟨q, by rw [upd_ne e]; exact hb, l⟩
  · have e : b ≠ a := fun e => by
      subst e; rw [hf] at h'; cases h'; exact (nt n).elim
    rw [upd_ne e]; exact h'
  · have h' : upd c.H0 a (.frz od u) b = none := h'
    by_cases eb : b = a
    · subst eb; rw [upd_same] at h'; cases h'
    · rw [upd_ne eb] at h'; exact h'
  · by_cases eb : b = a
    · subst eb
      rw [upd_same]
      rcases h0 with h0 | h0
      · rw [h0] at e; cases e
      · rw [h0] at e; exact e
    · rw [upd_ne eb]
      exact g.keep b o (by show upd c.H0 a _ b = _; rw [upd_ne eb]; exact e) hn
  · by_cases eb : b = a
    · subst eb; rw [upd_same]; simp
    · rw [upd_ne eb]; exact g.mor b (by show upd c.H0 a _ b ≠ _; rw [upd_ne eb]; exact hb)

/-! ### a dict in a slot, locked -/
def Locked (mg : Str → Option Value) (i : Nat) (c : Fx) (σ : Sg) (H : Hp) (ρ : Ro) (ts : List D) (tv : List V) (kvs : List (Key × D)) : Prop :=
  ∃ a od kws, atS σ i = some (.ref a) ∧ c.H0 a = some (.frz od (.dK kws)) ∧ ¬ c.Z0 a ∧ kvs.map (·.1) = kws.map (·.1) ∧ SR mg c σ H ρ (kvs.map (·.2) ++ ts) (kws.map (·.2) ++ tv) none .non
theorem RepK.keys {Z : Addr → Prop} : ∀ {x : List (Key × D)} {w : List (Key × V)}, RepK mg Z H x w → x.map (·.1) = w.map (·.1) ∧ Reps mg Z H (x.map (·.2)) (w.map (·.2))
  | [], w, r => by rw [show w = [] from r]; exact ⟨rfl, rfl⟩
  | (k, d) :: t, w, ⟨y, w', e, r, q⟩ => by
    obtain ⟨h1, h2⟩ := RepK.keys q
    rw [e]
    exact ⟨by simp [h1], y, _, rfl, r, h2⟩
theorem lock_of {i : Nat} {kvs : List (Key × D)} {ρ1 : Ro} (s : SR mg c σ H ρ ts tv none .non) (e : dv (var i) ρ = some (.dic kvs, ρ1)) :
    ∃ fp a kws, Good mg c σ H ρ1 ts tv none .non fp ∧ atS σ i = some (.ref a) ∧ ¬ Zof c fp a ∧ Rd H a (.dK kws) ∧ RepK mg (Zof c fp) H kvs kws := by
  obtain ⟨r, e1, e2⟩ := dv_some.mp e
  obtain ⟨x, e3, e4⟩ := bind_some.mp (show (at_ ρ i).bind _ = _ from e1)
  obtain ⟨d, e5, e6⟩ := map_some.mp e4
  cases e6
  cases e2
  obtain ⟨fp, g⟩ := s
  obtain ⟨g', u, hu, a, kws, rfl, hz, rd, rk⟩ := g.frzS e3 e5
  exact ⟨_, a, kws, g', hu, hz, rd, rk⟩
theorem lockS_go {t : TS} {i : Nat} {kvs : List (Key × D)} {ρ1 : Ro} {o : Out} {E : Ends} (s : SR mg c σ H ρ ts tv none .non) (e : dv (var i) ρ = some (.dic kvs, ρ1)) (k : Done mg c ts tv E ρ' o)
    (ht : ∀ c' H1 E', Locked mg i c' σ H1 ρ1 ts tv kvs → Done mg c' ts tv E' ρ' o → t E' σ H1) : tLock t E σ H ∨ t E σ H := by
  obtain ⟨fp, a, kws, g, hu, hz, rd, rk⟩ := lock_of s e
  obtain ⟨hk, hr⟩ := rk.keys
  rcases rd with rd | ⟨od, rd, _⟩
  · left
    refine ⟨a, _, rd, trivial, fun od => ht (c.pin a (.frz od (.dK kws))) _ _ ⟨a, od, kws, hu, upd_same, fun w => hz (.inl w), hk, fp, (g.lock rd trivial rfl hz).retmp ?_⟩ ?_⟩
    · have g2 := ((g.retmp (T := kvs.map (·.2) ++ ts) (TV := kws.map (·.2) ++ tv) (hr.append g.tmp)).lock (od := od) rd trivial rfl hz).tmp
      exact g2
    · have un : ∀ {σ' : Sg} {H' : Hp} {ρ : Ro} {r : Option A} {v : V}, SR mg (c.pin a (.frz od (.dK kws))) σ' H' ρ ts tv r v → H' a = some (.frz od (.dK kws)) ∧ SR mg c σ' (upd H' a (.dK kws)) ρ ts tv r v := fun ⟨fp', g'⟩ =>
        ⟨g'.pinned (show upd c.H0 a _ a = _ from upd_same) fun w => hz (.inl w), fp', g'.unlock (fun w => w) (fun w => hz (.inl w)) (g.pinOk rd fun w => hz (.inl w)) g.z0⟩
      cases o with
      | nx => exact fun σ' H' s' => ⟨(un s').1, k σ' _ (un s').2⟩
      | rt r => exact fun σ' v H' s' => ⟨(un s').1, k σ' v _ (un s').2⟩
      | bk => exact fun σ' H' s' => ⟨(un s').1, k σ' _ (un s').2⟩
      | ct => exact fun σ' H' s' => ⟨(un s').1, k σ' _ (un s').2⟩
  · right
    refine ht (c.pin a (.frz od (.dK kws))) H E ⟨a, od, kws, hu, upd_same, fun w => hz (.inl w), hk, fp, (g.pin rd hz).retmp (hr.append g.tmp)⟩ (k.back fun σ' H' ρ r v ⟨fp', g'⟩ => ⟨fp', g'.unpin (g.pinOk rd fun w => hz (.inl w)) g.z0⟩)
theorem lockE_go {t : TE} {i : Nat} {kvs : List (Key × D)} {ρ1 : Ro} {x : A} {Q : VK} (s : SR mg c σ H ρ ts tv none .non) (e : dv (var i) ρ = some (.dic kvs, ρ1)) (k : ∀ v H', SR mg c σ H' ρ' ts tv (some x) v → Q v H')
    (ht : ∀ c' H1 Q', Locked mg i c' σ H1 ρ1 ts tv kvs → (∀ v H', SR mg c' σ H' ρ' ts tv (some x) v → Q' v H') → t σ H1 Q') : tLockE t σ H Q ∨ t σ H Q := by
  obtain ⟨fp, a, kws, g, hu, hz, rd, rk⟩ := lock_of s e
  obtain ⟨hk, hr⟩ := rk.keys
  rcases rd with rd | ⟨od, rd, _⟩
  · left
    refine ⟨a, _, rd, trivial, fun od => ht (c.pin a (.frz od (.dK kws))) _ _ ⟨a, od, kws, hu, upd_same, fun w => hz (.inl w), hk, fp, (g.lock rd trivial rfl hz).retmp ?_⟩ fun v H' ⟨fp', g'⟩ => ?_⟩
    · exact ((g.retmp (T := kvs.map (·.2) ++ ts) (TV := kws.map (·.2) ++ tv) (hr.append g.tmp)).lock (od := od) rd trivial rfl hz).tmp
    · exact ⟨g'.pinned (show upd c.H0 a _ a = _ from upd_same) fun w => hz (.inl w), k v _ ⟨fp', g'.unlock (fun w => w) (fun w => hz (.inl w)) (g.pinOk rd fun w => hz (.inl w)) g.z0⟩⟩
  · right
    exact ht (c.pin a (.frz od (.dK kws))) H Q ⟨a, od, kws, hu, upd_same, fun w => hz (.inl w), hk, fp, (g.pin rd hz).retmp (hr.append g.tmp)⟩ fun v H' ⟨fp', g'⟩ => k v H' ⟨fp', g'.unpin (g.pinOk rd fun w => hz (.inl w)) g.z0⟩
end

/-! ### keys, values, items of a locked dict -/
def kD : Key → D
  | .inl i => .int i
  | .inr x => .str x
theorem kD_rep {mg : Str → Option Value} {Z : Addr → Prop} {H : Hp} (k : Key) : Rep mg Z H (kD k) (kV k) := by
  cases k <;> rfl
abbrev Md := List (Key × D) → List D
def mKeys : Md := fun kvs => kvs.map fun p => kD p.1
def mVals : Md := fun kvs => kvs.map (·.2)
def mItems : Md := fun kvs => kvs.map fun p => .pr [kD p.1, p.2]
structure DI (X : Cx) (tg e : Expr) (i : Nat) (m : Md) : Prop where
  ex : ∃ wi, PI X tg e wi ∧ ∀ c σ H ρ ts tv kvs R, Locked X.mg i c σ H ρ ts tv kvs → (∀ J P T TV, SR X.mg c σ H ρ T TV none .non → Pins c P → Gives X.mg P T TV J (m kvs) → Back X.mg c T TV c ts tv → R J H) → wi σ H R
section
variable {X : Cx} {tg : Expr} {x : Str} {px apos cpos : Pos}
theorem locked_back {mg : Str → Option Value} {c : Fx} {ts A : List D} {tv B : List V} (h : A.length = B.length) : Back mg c (A ++ ts) (B ++ tv) c ts tv := fun σ H ρ r v ⟨fp, g⟩ => ⟨fp, g.pops h⟩
theorem pinP {c : Fx} {a : Addr} {o : HO} (h : c.H0 a = some o) (hz : ¬ c.Z0 a) : Pins c [(a, o)] := fun p hp => by rw [List.mem_singleton.mp hp]; exact ⟨h, hz⟩
theorem key_at {kvs : List (Key × D)} {kws : List (Key × V)} (hk : kvs.map (·.1) = kws.map (·.1)) {i : Nat} {k : Key} {v : V} (h : kws[i]? = some (k, v)) : ∃ d, kvs[i]? = some (k, d) := by
  have e : (kvs.map (·.1))[i]? = some k := by rw [hk, List.getElem?_map, h]; rfl
  rw [List.getElem?_map] at e
  obtain ⟨p, e1, e2⟩ := map_some.mp e
  exact ⟨p.2, by rw [e1, ← e2]⟩
theorem len_of_keys {kvs : List (Key × D)} {kws : List (Key × V)} (hk : kvs.map (·.1) = kws.map (·.1)) : kvs.length = kws.length := by
  have := congrArg List.length hk
  simpa using this
theorem vals_at {mg : Str → Option Value} {c : Fx} {σ : Sg} {H : Hp} {ρ : Ro} {fp : Pl → List Addr} {T' ts : List D} {V' tv : List V} {r : Option A} {v : V} {kvs : List (Key × D)} {kws : List (Key × V)} (hk : kvs.map (·.1) = kws.map (·.1)) (hlen : T'.length = V'.length)
    (g : Good mg c σ H ρ (T' ++ (kvs.map (·.2) ++ ts)) (V' ++ (kws.map (·.2) ++ tv)) r v fp) {i : Nat} {k : Key} {u : V} {d : D} (h : kws[i]? = some (k, u)) (h' : kvs[i]? = some (k, d)) : Rep mg (Zof c fp) H d u := by
  have t2 := g.tmp.drop T'.length
  rw [List.drop_left' rfl, List.drop_left' hlen.symm] at t2
  have hi : i < kvs.length := (List.getElem?_eq_some_iff.mp h').1
  have hi' : i < kws.length := (List.getElem?_eq_some_iff.mp h).1
  obtain ⟨w, hw, rep⟩ := t2.get (i := i) (d := d) (by rw [List.getElem?_append_left (by simpa using hi), List.getElem?_map, h']; rfl)
  rw [List.getElem?_append_left (by simpa using hi'), List.getElem?_map, h] at hw
  cases hw
  exact rep
theorem d_keys (i : Nat) (hN : X.N[i]? = some x := by rfl) (hv : Vis X.env.scope x := by first | exact Or.inl rfl | exact Or.inr (Or.inl rfl) | exact Or.inr (Or.inr rfl)) (hd : (x == ("__debug__" : Str)) = false := by decide)
    (hcd : (x == ("__classdict__" : Str)) = false := by decide) : DI X tg (.Name x px) i mKeys := ⟨⟨_, pi_keys (pe_var hN hv hd hcd), fun c σ H ρ ts tv kvs R ⟨a, od, kws, hu, h0, hz, hk, s⟩ k => by
  have hl := len_of_keys hk
  have at' : ∀ {c σ H ρ r v T V}, Pins c [(a, .frz od (.dK kws))] → SR X.mg c σ H ρ T V r v → H a = some (.frz od (.dK kws)) := fun hp ⟨fp, g⟩ => g.pinned (hp _ List.mem_cons_self).1 (hp _ List.mem_cons_self).2
  refine ⟨.ref a, atS_of.mp hu, a, od, rfl, .inl ⟨kws, at' (pinP h0 hz) s, ?_⟩⟩
  refine k (Itk a od kws) _ _ _ s (pinP h0 hz) ⟨fun c σ H ρ r v T' V' hp s i hi => ⟨at' hp s, by rw [← hl]; simpa [mKeys] using hi⟩, fun c σ H ρ r v T' V' hp s i hi => ⟨at' hp s, by rw [← hl]; simpa [mKeys] using hi⟩, fun c σ H ρ T' V' hp hlen s i x H' d hd y => ?_⟩ (locked_back (by simp [hl]))
  obtain ⟨rfl, k', v', e1, rfl⟩ := y
  obtain ⟨d', e2⟩ := key_at hk e1
  unfold mKeys at hd
  rw [List.getElem?_map, e2] at hd
  cases hd
  obtain ⟨fp, g⟩ := s
  exact ⟨⟨fp, g.retmp ⟨_, _, rfl, kD_rep k', g.tmp⟩⟩, Sm.refl _⟩⟩⟩
theorem d_vals (i : Nat) (hN : X.N[i]? = some x := by rfl) (hv : Vis X.env.scope x := by first | exact Or.inl rfl | exact Or.inr (Or.inl rfl) | exact Or.inr (Or.inr rfl)) (hd : (x == ("__debug__" : Str)) = false := by decide)
    (hcd : (x == ("__classdict__" : Str)) = false := by decide) (hbase : attributeBase (.Name x px) "values" X.env (eval (.Name x px) X.env) = eval (.Name x px) X.env := by rfl) (hline : (apos.endLine == cpos.line) = true := by rfl) : DI X tg (.Call (.Attribute (.Name x px) "values" apos) [] [] cpos) i mVals := ⟨⟨_, pi_values (pe_var hN hv hd hcd) hbase hline, fun c σ H ρ ts tv kvs R ⟨a, od, kws, hu, h0, hz, hk, s⟩ k => by
  have hl := len_of_keys hk
  have at' : ∀ {c σ H ρ r v T V}, Pins c [(a, .frz od (.dK kws))] → SR X.mg c σ H ρ T V r v → H a = some (.frz od (.dK kws)) := fun hp ⟨fp, g⟩ => g.pinned (hp _ List.mem_cons_self).1 (hp _ List.mem_cons_self).2
  refine ⟨.ref a, atS_of.mp hu, a, od, kws, rfl, at' (pinP h0 hz) s, ?_⟩
  refine k (Itd a od kws) _ _ _ s (pinP h0 hz) ⟨fun c σ H ρ r v T' V' hp s i hi => ⟨at' hp s, by rw [← hl]; simpa [mVals] using hi⟩, fun c σ H ρ r v T' V' hp s i hi => ⟨at' hp s, by rw [← hl]; simpa [mVals] using hi⟩, fun c σ H ρ T' V' hp hlen s i x H' d hd y => ?_⟩ (locked_back (by simp [hl]))
  obtain ⟨rfl, k', e1⟩ := y
  obtain ⟨d', e2⟩ := key_at hk e1
  unfold mVals at hd
  rw [List.getElem?_map, e2] at hd
  cases hd
  obtain ⟨fp, g⟩ := s
  exact ⟨⟨fp, g.retmp ⟨_, _, rfl, vals_at hk hlen g e1 e2, g.tmp⟩⟩, Sm.refl _⟩⟩⟩
theorem d_items (i : Nat) {elts : List Expr} {kk : Nat} {tpos : Pos} (hN : X.N[i]? = some x := by rfl) (hv : Vis X.env.scope x := by first | exact Or.inl rfl | exact Or.inr (Or.inl rfl) | exact Or.inr (Or.inr rfl)) (hd : (x == ("__debug__" : Str)) = false := by decide)
    (hcd : (x == ("__classdict__" : Str)) = false := by decide) (hbase : attributeBase (.Name x px) "items" X.env (eval (.Name x px) X.env) = eval (.Name x px) X.env := by rfl) (hline : (apos.endLine == cpos.line) = true := by rfl) : DI X (.Tuple elts kk tpos) (.Call (.Attribute (.Name x px) "items" apos) [] [] cpos) i mItems := ⟨⟨_, pi_items (pe_var hN hv hd hcd) hbase hline, fun c σ H ρ ts tv kvs R ⟨a, od, kws, hu, h0, hz, hk, s⟩ k => by
  have hl := len_of_keys hk
  have at' : ∀ {c σ H ρ r v T V}, Pins c [(a, .frz od (.dK kws))] → SR X.mg c σ H ρ T V r v → H a = some (.frz od (.dK kws)) := fun hp ⟨fp, g⟩ => g.pinned (hp _ List.mem_cons_self).1 (hp _ List.mem_cons_self).2
  refine ⟨.ref a, atS_of.mp hu, a, od, kws, rfl, at' (pinP h0 hz) s, ?_⟩
  refine k (Iti a od kws) _ _ _ s (pinP h0 hz) ⟨fun c σ H ρ r v T' V' hp s i hi => ⟨at' hp s, by rw [← hl]; simpa [mItems] using hi⟩, fun c σ H ρ r v T' V' hp s i hi => ⟨at' hp s, by rw [← hl]; simpa [mItems] using hi⟩, fun c σ H ρ T' V' hp hlen s i x H' d hd y => ?_⟩ (locked_back (by simp [hl]))
  obtain ⟨T, k', v', e1, rfl, hT, rfl⟩ := y
  obtain ⟨d', e2⟩ := key_at hk e1
  unfold mItems at hd
  rw [List.getElem?_map, e2] at hd
  cases hd
  obtain ⟨fp, g⟩ := s
  have rep := vals_at hk hlen g e1 e2
  have g' := g.same (Sm.new (o := .tup [kV k', v']) hT)
  refine ⟨⟨fp, g'.retmp ⟨_, _, rfl, ⟨T, [kV k', v'], rfl, fun w => g.zal w hT, .inl upd_same, ⟨_, _, rfl, kD_rep k', ⟨_, _, rfl, rep.mono fun a u z w => ⟨z, (Sm.new hT).rd w⟩, rfl⟩⟩⟩, g'.tmp⟩⟩, Sm.new hT⟩⟩⟩
end
/-- for .. in a dict's keys, values, items -/
def forD (i : Nat) (m : Md) (g : GF) (b : SF) (fg : List Nat) : SF := fun ρ => (dv (var i) ρ).bind fun x => match x.1 with
  | .dic kvs => (forget fg x.2).bind fun ρ2 => loopS g b fg (m kvs) ρ2
  | _ => none
theorem PS.or {X : Cx} {st : Stmt} {t u : TS} (h : PS X st t) (k : PS X st u) : PS X st (fun D σ H => t D σ H ∨ u D σ H) := ⟨fun pins s σ H D I w => by
  rcases w with w | w
  · exact h.run pins s σ H D I w
  · exact k.run pins s σ H D I w⟩
theorem PE.or {X : Cx} {e : Expr} {t u : TE} (h : PE X e t) (k : PE X e u) : PE X e (fun σ H Q => t σ H Q ∨ u σ H Q) := ⟨fun pins s σ H D I w => by
  rcases w with w | w
  · exact h.run pins s σ H D I w
  · exact k.run pins s σ H D I w⟩
theorem s_forD {X : Cx} {tg iter : Expr} {body : List Stmt} {js : List Nat} {i : Nat} {m : Md} {g : GF} {b : SF} {pos : Pos} (fg : List Nat) (hc : X.calm = true) (hp : PassesOwn (model X.prog X.w) X.A X.env X.xe) (hi : DI X tg iter i m) (hg : GI X tg js g) (hb : BI X body b)
    (hs : ∀ x, foldedSetIterable iter X.env x = pure x := by intro _; rfl) : SI X (.For tg iter body [] pos) (forD i m g b fg) := by
  obtain ⟨wi, hwi, hk⟩ := hi.ex
  have base := ps_for hp hc hwi hg hb hs (pos := pos)
  refine (PS.or (ps_lock base) base).imp fun E σ H h => ?_
  obtain ⟨c, ρ, ts, tv, o, ρ', s, e, k⟩ := h
  obtain ⟨⟨d, ρ1⟩, e1, e2⟩ := bind_some.mp (show (dv (var i) ρ).bind _ = _ from e)
  cases d with
  | dic kvs =>
    obtain ⟨ρ2, e3, e4⟩ := bind_some.mp e2
    refine lockS_go s e1 k fun c' H1 E' L kd => hk c' σ H1 ρ1 ts tv kvs _ L fun J P T TV s' hp G bk => ?_
    exact for_core (s'.forget e3) hp G e4 (Done.back kd bk)
  | _ => cases e2
end Tw
end
section
set_option maxRecDepth 100000
/-! layer 9: comprehensions -/
namespace Tw
open PySem PySem.Spec PyProof.Rows L2

def Fx.acc (c : Fx) (a : Addr) (o : HO) : Fx := { c with Z0 := fun b => c.Z0 b ∨ b = a, H0 := upd c.H0 a o }
section
variable {mg : Str → Option Value} {c c' : Fx} {σ σ' : Sg} {H H' : Hp} {ρ ρ' : Ro} {ts : List D} {tv : List V} {r : Option A} {v : V} {fp : Pl → List Addr} {a : Addr} {o o' : HO}
/-- a new object that grows is set aside -/
theorem Good.acc0 (g : Good mg c σ H ρ ts tv r v fp) (hn : H a = none) : Good mg (c.acc a o) σ (upd H a o) ρ ts tv r v fp := by
  have lift : ∀ b w, ¬ Zof c fp b → Rd H b w → ¬ Zof (c.acc a o) fp b ∧ Rd (upd H a o) b w := fun b w z h => ⟨fun q => by
    rcases q with (q | q) | ⟨p, q⟩
    · exact z (.inl q)
    · exact rd_some h (q ▸ hn)
    · exact z (.inr ⟨p, q⟩), (Sm.new hn).rd h⟩
  refine ⟨g.len, fun p x e => ?_, g.off, g.nd, g.ap, fun p b hb => ?_, g.tmp.mono lift, fun b q e hb => ?_, fun b hb => ?_, fun b hb => ?_, fun i b hb => .inl (g.bz i b hb), g.bst, g.bvs, g.rnb, g.bnb⟩
  · obtain ⟨u, e1, ow⟩ := g.ent p x e
    refine ⟨u, e1, ow.mono lift fun b hb => upd_ne fun e => ?_⟩
    exact ow.al b hb (e ▸ hn)
  · have hne : b ≠ a := fun e => g.alloc hb (e ▸ hn)
    rcases g.new p b hb with w | w
    · left; cases p with
      | none => exact w
      | some i => exact w
    · right
      show upd c.H0 a o b = none
      rw [upd_ne hne]; exact w
  · have e' : upd c.H0 a o b = some q := e
    by_cases hba : b = a
    · subst hba; rw [upd_same] at e'; rw [upd_same]; exact e'
    · rw [upd_ne hba] at e'; rw [upd_ne hba]; exact g.keep b q e' hb
  · by_cases hba : b = a
    · subst hba; rw [upd_same]; simp
    · rw [upd_ne hba]; exact g.mor b (by have h : upd c.H0 a o b ≠ none := hb; rw [upd_ne hba] at h; exact h)
  · show upd c.H0 a o b ≠ none
    by_cases hba : b = a
    · subst hba; rw [upd_same]; simp
    · rw [upd_ne hba]
      rcases hb with hb | hb
      · exact g.z0 b hb
      · exact absurd hb hba
theorem Good.accNot (g : Good mg (c.acc a o) σ H ρ ts tv r v fp) (h0 : c.H0 a = none) (hz0 : ∀ b, c.Z0 b → c.H0 b ≠ none) (hb : ∀ i b, b ∈ c.bor i → c.Z0 b) (p : Pl) : a ∉ fp p := fun h => by
  rcases g.new p a h with w | w
  · cases p with
    | none => cases w
    | some i => exact hz0 a (hb i a w) h0
  · have w : upd c.H0 a o a = none := w
    rw [upd_same] at w; cases w
theorem Good.accAt (g : Good mg (c.acc a o) σ H ρ ts tv r v fp) (h0 : c.H0 a = none) (hz0 : ∀ b, c.Z0 b → c.H0 b ≠ none) (hb : ∀ i b, b ∈ c.bor i → c.Z0 b) : H a = some o :=
  g.keep a o (show upd c.H0 a o a = _ from upd_same) fun i h => hz0 a (hb i a h) h0
/-- it grows -/
theorem Good.acc1 (g : Good mg (c.acc a o) σ H ρ ts tv r v fp) (h0 : c.H0 a = none) (hz0 : ∀ b, c.Z0 b → c.H0 b ≠ none) (hb : ∀ i b, b ∈ c.bor i → c.Z0 b) : Good mg (c.acc a o') σ (upd H a o') ρ ts tv r v fp := by
  have hna := g.accNot h0 hz0 hb
  have lift : ∀ b w, ¬ Zof (c.acc a o) fp b → Rd H b w → ¬ Zof (c.acc a o') fp b ∧ Rd (upd H a o') b w := fun b w z h => ⟨z, by
    have hne : b ≠ a := fun e => z (.inl (.inr e))
    rcases h with h | ⟨q, h, l⟩
    · exact .inl (by rw [upd_ne hne]; exact h)
    · exact .inr ⟨q, by rw [upd_ne hne]; exact h, l⟩⟩
  refine ⟨g.len, fun p x e => ?_, g.off, g.nd, g.ap, fun p b hb' => ?_, g.tmp.mono lift, fun b q e hb' => ?_, fun b hb' => ?_, fun b hb' => ?_, g.bz, g.bst, g.bvs, g.rnb, g.bnb⟩
  · obtain ⟨u, e1, ow⟩ := g.ent p x e
    exact ⟨u, e1, ow.mono lift fun b hb' => upd_ne fun e => hna p (e ▸ hb')⟩
  · have hne : b ≠ a := fun e => hna p (e ▸ hb')
    rcases g.new p b hb' with w | w
    · left; cases p with
      | none => exact w
      | some i => exact w
    · right
      have w : upd c.H0 a o b = none := w
      show upd c.H0 a o' b = none
      rw [upd_ne hne] at w ⊢; exact w
  · have e' : upd c.H0 a o' b = some q := e
    by_cases hba : b = a
    · subst hba; rw [upd_same] at e'; rw [upd_same]; exact e'
    · rw [upd_ne hba] at e'; rw [upd_ne hba]
      exact g.keep b q (by show upd c.H0 a o b = _; rw [upd_ne hba]; exact e') hb'
  · by_cases hba : b = a
    · subst hba; rw [upd_same]; simp
    · rw [upd_ne hba]
      exact g.mor b (by have h : upd c.H0 a o' b ≠ none := hb'; rw [upd_ne hba] at h; show upd c.H0 a o b ≠ none; rw [upd_ne hba]; exact h)
  · show upd c.H0 a o' b ≠ none
    by_cases hba : b = a
    · subst hba; rw [upd_same]; simp
    · rw [upd_ne hba]
      rcases hb' with hb' | hb'
      · exact hz0 b hb'
      · exact absurd hb' hba
/-- it is the value at hand -/
theorem Good.acc2 {x : A} (g : Good mg (c.acc a o) σ H ρ ts tv none v fp) (h0 : c.H0 a = none) (hz0 : ∀ b, c.Z0 b → c.H0 b ≠ none) (hb : ∀ i b, b ∈ c.bor i → c.Z0 b) (hx : Own mg (Zof (c.acc a o) fp) H x (.ref a) [a]) (hxb : x.bor = false) : Good mg c σ H ρ ts tv (some x) (.ref a) (fpN fp [a]) := by
  have hna := g.accNot h0 hz0 hb
  have lift : ∀ b w, ¬ Zof (c.acc a o) fp b → Rd H b w → ¬ Zof c (fpN fp [a]) b ∧ Rd H b w := fun b w z h => ⟨fun q => by
    rcases q with q | ⟨p, q⟩
    · exact z (.inl (.inl q))
    · cases p with
      | none => exact z (.inl (.inr (List.mem_singleton.mp q)))
      | some i => exact z (.inr ⟨some i, q⟩), h⟩
  refine ⟨g.len, fun p y e => ?_, fun p e => ?_, fun p => ?_, fun p q b h1 h2 => ?_, fun p b hb' => ?_, g.tmp.mono lift, fun b q e hb' => ?_, fun b hb' => ?_, hz0, hb, g.bst, g.bvs, fun y e => by cases e; exact hxb, g.bnb⟩
  · cases p with
    | none => cases e; exact ⟨_, rfl, hx.mono lift fun _ _ => rfl⟩
    | some i =>
      obtain ⟨u, e1, ow⟩ := g.ent (some i) y e
      exact ⟨u, e1, ow.mono lift fun _ _ => rfl⟩
  · cases p with
    | none => cases e
    | some i => exact g.off (some i) e
  · cases p with
    | none => simp [fpN]
    | some i => exact g.nd (some i)
  · cases p with
    | none =>
      cases q with
      | none => rfl
      | some j => exact absurd (show a ∈ fp (some j) from by have := List.mem_singleton.mp h1; subst this; exact h2) (hna (some j))
    | some i =>
      cases q with
      | none => exact absurd (show a ∈ fp (some i) from by have := List.mem_singleton.mp h2; subst this; exact h1) (hna (some i))
      | some j => exact g.ap (some i) (some j) b h1 h2
  · cases p with
    | none => right; rw [List.mem_singleton.mp hb']; exact h0
    | some i =>
      have hne : b ≠ a := fun e => hna (some i) (e ▸ hb')
      rcases g.new (some i) b hb' with w | w
      · exact .inl w
      · right
        have w : upd c.H0 a o b = none := w
        rw [upd_ne hne] at w; exact w
  · have hba : b ≠ a := fun z => by subst z; rw [h0] at e; cases e
    exact g.keep b q (by show upd c.H0 a o b = _; rw [upd_ne hba]; exact e) hb'
  · have hba : b ≠ a := fun z => by subst z; exact hb' h0
    exact g.mor b (by show upd c.H0 a o b ≠ none; rw [upd_ne hba]; exact hb')
/-- other slots than those that are known -/
theorem Good.reslot (g : Good mg c σ H ρ ts tv r v fp) (hl : σ'.length = σ.length) (h : ∀ i x, at_ ρ i = some x → atS σ' i = atS σ i) : Good mg c σ' H ρ ts tv r v fp := by
  refine ⟨g.len.trans hl.symm, fun p x e => ?_, g.off, g.nd, g.ap, g.new, g.tmp, g.keep, g.mor, g.z0, g.bz, g.bst, fun i x e hb => ?_, g.rnb, g.bnb⟩
  · cases p with
    | none => exact g.ent none x e
    | some i =>
      obtain ⟨u, e1, ow⟩ := g.ent (some i) x e
      exact ⟨u, (h i x e).trans e1, ow⟩
  · exact (h i x e).trans (g.bvs i x e hb)
theorem atS_wipe {i : Nat} : ∀ {vs : List Nat}, atS (wipe σ vs) i = if i ∈ vs then none else atS σ i
  | [] => by simp [wipe]
  | v :: vs => by
    show atS ((wipe σ vs).set v none) i = _
    by_cases e : i = v
    · subst e
      rw [if_pos List.mem_cons_self]
      by_cases h : i < (wipe σ vs).length
      · rw [atS_set h, if_pos rfl]
      · unfold atS
        rw [List.getElem?_eq_none (by rw [List.length_set]; omega)]
        rfl
    · have : atS ((wipe σ vs).set v none) i = atS (wipe σ vs) i := by
        unfold atS; rw [List.getElem?_set_ne (Ne.symm e)]
      rw [this, atS_wipe]
      by_cases h : i ∈ vs
      · rw [if_pos h, if_pos (List.mem_cons_of_mem _ h)]
      · rw [if_neg h, if_neg (by simp [e, h])]
theorem forget_none : ∀ {fg : List Nat} {ρ ρ' : Ro}, forget fg ρ = some ρ' → (∀ i ∈ fg, at_ ρ' i = none) ∧ ∀ i, at_ ρ i = none → at_ ρ' i = none
  | [], ρ, ρ', e => by cases e; exact ⟨fun i h => (by cases h), fun i h => h⟩
  | j :: t, ρ, ρ', e => by
    have e' : (if okOld ρ j = true then Tw.forget t (ρ.set j none) else none) = some ρ' := e
    by_cases ho : okOld ρ j = true
    case neg => rw [if_neg ho] at e'; cases e'
    rw [if_pos ho] at e'
    obtain ⟨h1, h2⟩ := forget_none e'
    refine ⟨fun i hi => ?_, fun i hi => h2 i ?_⟩
    · rcases List.mem_cons.mp hi with rfl | hi
      · exact h2 i (by rw [at_set (okOld_lt ho), if_pos rfl])
      · exact h1 i hi
    · rw [at_set (okOld_lt ho)]
      split
      · rfl
      · exact hi
theorem SR.wiped {vs : List Nat} (s : SR mg c σ H ρ ts tv r v) (h : ∀ i ∈ vs, at_ ρ i = none) : SR mg c (wipe σ vs) H ρ ts tv r v := by
  obtain ⟨fp, g⟩ := s
  refine ⟨fp, g.reslot (wipe_length σ vs) fun i x e => ?_⟩
  rw [atS_wipe, if_neg fun hi => by rw [h i hi] at e; cases e]
theorem SR.unwiped {vs : List Nat} (s : SR mg c (wipe σ vs) H ρ ts tv r v) (h : ∀ i ∈ vs, at_ ρ i = none) : SR mg c σ H ρ ts tv r v := by
  obtain ⟨fp, g⟩ := s
  refine ⟨fp, g.reslot (wipe_length σ vs).symm fun i x e => ?_⟩
  rw [atS_wipe, if_neg fun hi => by rw [h i hi] at e; cases e]
end

/-! ### list comprehensions -/
def tstY : TF := fun ρ => some (true, ρ)
def lcL (g : GF) (t : TF) (f : EF) (own : List Nat) : List D → List D → Ro → Option (List D × Ro)
  | [], acc, ρ => some (acc, ρ)
  | d :: r, acc, ρ => (g d ρ).bind fun ρ1 => (t ρ1).bind fun x =>
    if x.1 then (dv f x.2).bind fun y => (forget own y.2).bind fun ρ2 => if acc.length < 16777216 then lcL g t f own r (acc ++ [y.1]) ρ2 else none
    else (forget own x.2).bind fun ρ2 => lcL g t f own r acc ρ2
def PTsI (X : Cx) (ifs : List Expr) (t : TF) : Prop := PTs X ifs (tTst X.mg t)
theorem _root_.L2.PTs.imp {X : Cx} {ifs : List Expr} {t t' : TT} (h : PTs X ifs t) (k : ∀ σ H Q, t' σ H Q → t σ H Q) : PTs X ifs t' := ⟨fun pins s σ H Q I w => h.run pins s σ H Q I (k _ _ _ w)⟩
theorem c_nil {X : Cx} : PTsI X [] tstY := pts_nil.imp fun σ H Q h => by
  obtain ⟨c, ρ, ts, tv, b, ρ', s, e, k⟩ := h
  cases e
  exact k H s
theorem c_one {X : Cx} {e : Expr} {t : TF} (h : TI X e t) : PTsI X [e] t := pts_one h
section
variable {mg : Str → Option Value} {c c' : Fx} {σ σ' : Sg} {H H' : Hp} {ρ ρ' : Ro} {ts : List D} {tv : List V} {r : Option A} {v : V} {fp : Pl → List Addr}
theorem SR.fx (s : SR mg c σ H ρ ts tv r v) : (∀ b, c.Z0 b → c.H0 b ≠ none) ∧ ∀ i b, b ∈ c.bor i → c.Z0 b := let ⟨_, g⟩ := s; ⟨g.z0, g.bz⟩
theorem lc_go {js vs : List Nat} {g : GF} {t : TF} {f : EF} {P : List (Addr × HO)} {T : List D} {TV : List V} {J : It} {ds ys : List D} {ρf : Ro} {Q : VK} (hjs : ∀ j ∈ js, j ∈ vs)
    (s : SR mg c σ H ρ T TV none .non) (hp : Pins c P) (G : Gives mg P T TV J ds) (hw : ∀ i ∈ vs, at_ ρ i = none) (e : lcL g t f vs ds [] ρ = some (ys, ρf))
    (k : ∀ a H', SR mg c σ H' ρf T TV (some (.l false ys)) (.ref a) → Q (.ref a) H') : ∀ D, H D = none → ∃ W : Nat → Nat → Hp → Prop, (∃ m, W 0 m (upd H D (.lst []))) ∧ ∀ i m H, W i m H →
      (J.stop i H ∧ Q (.ref D) H) ∨ (J.go i H ∧ ∃ Nx : Hp → Prop, (∀ H', Nx H' → ∃ m', m' < m ∧ W (i + 1) m' H') ∧ ∀ x H', J.yld i H x H' → tGr mg js g x (wipe σ vs) H' fun σ2 H2 => wipe σ2 vs = wipe σ vs ∧ tTst mg t σ2 H2 fun b H3 =>
        if b = true then tE mg f σ2 H3 fun y H4 => ∃ acc, H4 D = some (.lst acc) ∧ acc.length < sizeLine ∧ Nx (upd H4 D (.lst (acc ++ [y]))) else Nx H3) := by
  intro D hD
  have h0 : c.H0 D = none := by obtain ⟨fp, g⟩ := s; exact g.new' hD
  obtain ⟨hz0, hbz⟩ := s.fx
  let N : Nat → Hp → Prop := fun i H => ∃ ρ acc av, acc.length = av.length ∧ SR mg (c.acc D (.lst av)) (wipe σ vs) H ρ (acc ++ T) (av ++ TV) none .non ∧ (∀ i ∈ vs, at_ ρ i = none) ∧ lcL g t f vs (ds.drop i) acc ρ = some (ys, ρf)
  refine ⟨fun i m H => i ≤ ds.length ∧ m = ds.length - i ∧ N i H, ⟨_, Nat.zero_le _, rfl, ρ, [], [], rfl, ?_, hw, e⟩, ?_⟩
  · obtain ⟨fp, g⟩ := s.wiped hw
    exact ⟨fp, g.acc0 hD⟩
  · rintro i m H2 ⟨hi, rfl, ρ2, acc, av, hla, s2, hw2, e2⟩
    have hp2 : Pins (c.acc D (.lst av)) P := fun p hp' => by
      obtain ⟨q1, q2⟩ := hp p hp'
      have hne : p.1 ≠ D := fun z => by rw [z, h0] at q1; cases q1
      refine ⟨?_, fun w => ?_⟩
      · show upd c.H0 D _ p.1 = _
        rw [upd_ne hne]; exact q1
      · rcases w with w | w
        · exact q2 w
        · exact hne w
    by_cases hlt : i < ds.length
    · right
      refine ⟨G.go _ _ _ _ _ _ acc av hp2 s2 i hlt, N (i + 1), fun H' q => ⟨ds.length - (i + 1), by omega, hlt, rfl, q⟩, fun x H' y => ?_⟩
      have hd : ds[i]? = some ds[i] := List.getElem?_eq_getElem hlt
      rw [List.drop_eq_getElem_cons hlt] at e2
      obtain ⟨ρ3, e3, e4⟩ := bind_some.mp (show (g ds[i] ρ2).bind _ = _ from e2)
      obtain ⟨⟨b, ρ4⟩, e5, e6⟩ := bind_some.mp e4
      refine ⟨_, ρ2, acc ++ T, av ++ TV, ds[i], ρ3, (G.yld _ _ _ _ acc av hp2 hla s2 i x H' _ hd y).1, e3, fun σ3 H3 ag s3 => ⟨?_, _, ρ3, _, _, b, ρ4, s3, e5, fun H4 s4 => ?_⟩⟩
      · rw [ag vs hjs]
        have ww : ∀ vs : List Nat, wipe (wipe σ vs) vs = wipe σ vs := fun vs => by
          refine List.ext_getElem? fun j => ?_
          have ha : atS (wipe (wipe σ vs) vs) j = atS (wipe σ vs) j := by
            rw [atS_wipe, atS_wipe]; split <;> rfl
          have hl1 : (wipe (wipe σ vs) vs).length = (wipe σ vs).length := wipe_length _ _
          unfold atS at ha
          by_cases hj : j < (wipe σ vs).length
          · rw [List.getElem?_eq_getElem hj, List.getElem?_eq_getElem (by omega)] at ha ⊢
            exact congrArg some ha
          · rw [List.getElem?_eq_none (by omega), List.getElem?_eq_none (by omega)]
        exact ww vs
      · have hag : ∀ {H5 : Hp} {ρ5 ρ6 : Ro} {cc : Fx} {T5 : List Tw.D} {V5 : List V}, SR mg cc σ3 H5 ρ5 T5 V5 none .non → forget vs ρ5 = some ρ6 → SR mg cc (wipe σ vs) H5 ρ6 T5 V5 none .non ∧ ∀ i ∈ vs, at_ ρ6 i = none := fun {H5 ρ5 ρ6 cc T5 V5} s5 e7 => by
          have hw6 := (forget_none e7).1
          have s6 := (s5.forget e7).wiped hw6
          have hagr : wipe σ3 vs = wipe σ vs := by
            rw [ag vs hjs]
            refine List.ext_getElem? fun j => ?_
            have ha : atS (wipe (wipe σ vs) vs) j = atS (wipe σ vs) j := by
              rw [atS_wipe, atS_wipe]; split <;> rfl
            have hl1 : (wipe (wipe σ vs) vs).length = (wipe σ vs).length := wipe_length _ _
            unfold atS at ha
            by_cases hj : j < (wipe σ vs).length
            · rw [List.getElem?_eq_getElem hj, List.getElem?_eq_getElem (by omega)] at ha ⊢
              exact congrArg some ha
            · rw [List.getElem?_eq_none (by omega), List.getElem?_eq_none (by omega)]
          rw [hagr] at s6
          exact ⟨s6, hw6⟩
        cases b with
        | false =>
          refine iteF ?_
          rw [if_neg (by simp)] at e6
          obtain ⟨ρ5, e7, e8⟩ := bind_some.mp e6
          obtain ⟨s5, hw5⟩ := hag s4 e7
          exact ⟨ρ5, acc, av, hla, s5, hw5, e8⟩
        | true =>
          refine iteT ?_
          rw [if_pos rfl] at e6
          obtain ⟨⟨y1, ρ5⟩, e7, e8⟩ := bind_some.mp e6
          obtain ⟨ρ6, e9, e10⟩ := bind_some.mp e8
          simp only at e10
          by_cases hlen : acc.length < 16777216
          case neg => rw [if_neg hlen] at e10; cases e10
          rw [if_pos hlen] at e10
          refine tE_dv s4 e7 fun u H5 s5 => ?_
          obtain ⟨s6, hw6⟩ := hag s5 e9
          obtain ⟨fp, g6⟩ := s6
          refine ⟨av, g6.accAt h0 hz0 hbz, by rw [← hla, sizeLine_eq]; exact hlen, ρ6, acc ++ [y1], av ++ [u], by simp [hla], ?_, hw6, e10⟩
          obtain ⟨u', tw, eq, ru, rt⟩ := g6.tmp
          cases eq
          have t0 := rt.take acc.length
          have t1 := rt.drop acc.length
          rw [List.take_left' rfl, List.take_left' hla.symm] at t0
          rw [List.drop_left' rfl, List.drop_left' hla.symm] at t1
          refine ⟨fp, Good.acc1 (o := .lst av) (g6.retmp ?_) h0 hz0 hbz⟩
          exact (t0.append (Reps.cons ru Reps.nil)).append t1
    · left
      have en : ds.drop i = [] := List.drop_eq_nil_of_le (by omega)
      rw [en] at e2
      cases e2
      refine ⟨G.stop _ _ _ _ _ _ _ _ hp2 s2 i (by omega), k D H2 ?_⟩
      obtain ⟨fp, g⟩ := s2.unwiped hw2
      have t0 := g.tmp.take ys.length
      rw [List.take_left' rfl, List.take_left' hla.symm] at t0
      exact ⟨_, (g.pops hla).acc2 h0 hz0 hbz ⟨D, av, rfl, rfl, g.accAt h0 hz0 hbz, t0⟩ rfl⟩
end
def lcE (w : WF) (g : GF) (t : TF) (f : EF) (own : List Nat) : EF := fun ρ => (w ρ).bind fun x => (forget own x.2).bind fun ρ1 => (lcL g t f own x.1 [] ρ1).map fun y => (.l false y.1, y.2)
def lcD (i : Nat) (m : Md) (g : GF) (t : TF) (f : EF) (own : List Nat) : EF := fun ρ => (dv (var i) ρ).bind fun x => match x.1 with
  | .dic kvs => (forget own x.2).bind fun ρ1 => (lcL g t f own (m kvs) [] ρ1).map fun y => (.l false y.1, y.2)
  | _ => none
section
variable {X : Cx} {elt tg iter : Expr} {ifs : List Expr} {scope : Scope} {own : List (Str × Nat)} {pos : Pos} {w : WF} {js : List Nat} {g : GF} {t : TF} {f : EF}
theorem e_lc (hc : X.calm = true) (hN : X.N.Nodup) (hi : IW X tg iter w) (ok : BlkOk X.N X.env.scope scope own) (hjs : ∀ j ∈ js, j ∈ own.map (·.2))
    (hg : ∀ (s : Shared) (H : Hp) (C : Addr) (cl : List (Str × Addr)) (fp : List Addr), GI (X.blk s H scope (compEnvC scope cl C X.env) fp) tg js g) (ht : ∀ (s : Shared) (H : Hp) (C : Addr) (cl : List (Str × Addr)) (fp : List Addr), PTsI (X.blk s H scope (compEnvC scope cl C X.env) fp) ifs t)
    (he : ∀ (s : Shared) (H : Hp) (C : Addr) (cl : List (Str × Addr)) (fp : List Addr), EI (X.blk s H scope (compEnvC scope cl C X.env) fp) elt f) (hs : ∀ x, foldedSetIterable iter X.env x = pure x := by intro _; rfl) :
    EI X (.ListComp elt [⟨tg, iter, ifs, 0⟩] scope pos) (lcE w g t f (own.map (·.2))) := (pe_lc (g := tGr X.mg js g) (tt := tTst X.mg t) (te := tE X.mg f) hc hN hi ok hg ht he hs).imp fun σ H Q h => by
  obtain ⟨c, ρ, ts, tv, r, ρ', s, e, k⟩ := h
  obtain ⟨⟨ds, ρ1⟩, e1, e2⟩ := bind_some.mp (show (w ρ).bind _ = _ from e)
  obtain ⟨ρ2, e3, e4⟩ := bind_some.mp e2
  obtain ⟨⟨ys, ρf⟩, e5, e6⟩ := map_some.mp e4
  cases e6
  refine ⟨c, ρ, ts, tv, ds, ρ1, s, e1, fun J H' c' T TV P s' hp G bk _ => ?_⟩
  exact lc_go hjs (s'.forget e3) hp G (forget_none e3).1 e5 fun a H2 s2 => k _ H2 (bk _ _ _ _ _ s2)
theorem e_lcD {i : Nat} {m : Md} (hc : X.calm = true) (hN : X.N.Nodup) (hi : DI X tg iter i m) (ok : BlkOk X.N X.env.scope scope own) (hjs : ∀ j ∈ js, j ∈ own.map (·.2))
    (hg : ∀ (s : Shared) (H : Hp) (C : Addr) (cl : List (Str × Addr)) (fp : List Addr), GI (X.blk s H scope (compEnvC scope cl C X.env) fp) tg js g) (ht : ∀ (s : Shared) (H : Hp) (C : Addr) (cl : List (Str × Addr)) (fp : List Addr), PTsI (X.blk s H scope (compEnvC scope cl C X.env) fp) ifs t)
    (he : ∀ (s : Shared) (H : Hp) (C : Addr) (cl : List (Str × Addr)) (fp : List Addr), EI (X.blk s H scope (compEnvC scope cl C X.env) fp) elt f) (hs : ∀ x, foldedSetIterable iter X.env x = pure x := by intro _; rfl) :
    EI X (.ListComp elt [⟨tg, iter, ifs, 0⟩] scope pos) (lcD i m g t f (own.map (·.2))) := by
  obtain ⟨wi, hwi, hk⟩ := hi.ex
  have base := pe_lc (g := tGr X.mg js g) (tt := tTst X.mg t) (te := tE X.mg f) hc hN hwi ok hg ht he hs (pos := pos)
  refine (PE.or (pe_lock base) base).imp fun σ H Q h => ?_
  obtain ⟨c, ρ, ts, tv, r, ρ', s, e, k⟩ := h
  obtain ⟨⟨d, ρ1⟩, e1, e2⟩ := bind_some.mp (show (dv (var i) ρ).bind _ = _ from e)
  cases d with
  | dic kvs =>
    obtain ⟨ρ2, e3, e4⟩ := bind_some.mp e2
    obtain ⟨⟨ys, ρf⟩, e5, e6⟩ := map_some.mp e4
    cases e6
    refine lockE_go s e1 k fun c' H1 Q' L kd => hk c' σ H1 ρ1 ts tv kvs _ L fun J P T TV s' hp G bk => ?_
    exact lc_go hjs (s'.forget e3) hp G (forget_none e3).1 e5 fun a H2 s2 => kd _ H2 (bk _ _ _ _ _ s2)
  | _ => cases e2
/-- x = [..] on one line -/
theorem s_setLc (i : Nat) {y : Str} {py : Pos} {spos : Pos} (hc : X.calm = true) (hN : X.N.Nodup) (hi : IW X tg iter w) (ok : BlkOk X.N X.env.scope scope own) (hjs : ∀ j ∈ js, j ∈ own.map (·.2))
    (hg : ∀ (s : Shared) (H : Hp) (C : Addr) (cl : List (Str × Addr)) (fp : List Addr), GI (X.blk s H scope (compEnvC scope cl C X.env) fp) tg js g) (ht : ∀ (s : Shared) (H : Hp) (C : Addr) (cl : List (Str × Addr)) (fp : List Addr), PTsI (X.blk s H scope (compEnvC scope cl C X.env) fp) ifs t)
    (he : ∀ (s : Shared) (H : Hp) (C : Addr) (cl : List (Str × Addr)) (fp : List Addr), EI (X.blk s H scope (compEnvC scope cl C X.env) fp) elt f)
    (hsw : swapsWith (.ListComp elt [⟨tg, iter, ifs, 0⟩] scope pos) (some (.Name y py)) spos.line X.env = pure true) (hy : X.N[i]? = some y := by rfl) (hyl : X.env.scope.names.lookup y = some .local := by rfl) (hs : ∀ x, foldedSetIterable iter X.env x = pure x := by intro _; rfl) :
    SI X (.Assign [.Name y py] (.ListComp elt [⟨tg, iter, ifs, 0⟩] scope pos) spos) (setS i (lcE w g t f (own.map (·.2)))) := (ps_setLc (g := tGr X.mg js g) (tt := tTst X.mg t) (te := tE X.mg f) hc hN hy hyl hsw hi ok hg ht he hs).imp fun E σ H h => by
  obtain ⟨c, ρ, ts, tv, o, ρ', s, e, k⟩ := h
  obtain ⟨⟨r, ρ1⟩, e1, e2⟩ := bind_some.mp (show (lcE w g t f (own.map (·.2)) ρ).bind _ = _ from e)
  by_cases ho : okOld ρ1 i = true
  case neg => rw [if_neg ho] at e2; cases e2
  rw [if_pos ho] at e2
  cases e2
  obtain ⟨⟨ds, ρ2⟩, e3, e4⟩ := bind_some.mp (show (w ρ).bind _ = _ from e1)
  obtain ⟨ρ3, e5, e6⟩ := bind_some.mp e4
  obtain ⟨⟨ys, ρf⟩, e7, e8⟩ := map_some.mp e6
  cases e8
  refine ⟨c, ρ, ts, tv, ds, ρ2, s, e3, fun J H' c' T TV P s' hp G bk _ => ?_⟩
  refine lc_go (Q := fun x H1 => gName i x σ H1 E.nx) hjs (s'.forget e5) hp G (forget_none e5).1 e7 fun a H2 s2 => ?_
  obtain ⟨fp, g2⟩ := bk _ _ _ _ _ s2
  exact k _ H2 ⟨_, g2.store (okOld_lt ho) (g2.old ho) _⟩
theorem s_setLcD (i : Nat) {j : Nat} {m : Md} {y : Str} {py : Pos} {spos : Pos} (hc : X.calm = true) (hN : X.N.Nodup) (hi : DI X tg iter j m) (ok : BlkOk X.N X.env.scope scope own) (hjs : ∀ j ∈ js, j ∈ own.map (·.2))
    (hg : ∀ (s : Shared) (H : Hp) (C : Addr) (cl : List (Str × Addr)) (fp : List Addr), GI (X.blk s H scope (compEnvC scope cl C X.env) fp) tg js g) (ht : ∀ (s : Shared) (H : Hp) (C : Addr) (cl : List (Str × Addr)) (fp : List Addr), PTsI (X.blk s H scope (compEnvC scope cl C X.env) fp) ifs t)
    (he : ∀ (s : Shared) (H : Hp) (C : Addr) (cl : List (Str × Addr)) (fp : List Addr), EI (X.blk s H scope (compEnvC scope cl C X.env) fp) elt f)
    (hsw : swapsWith (.ListComp elt [⟨tg, iter, ifs, 0⟩] scope pos) (some (.Name y py)) spos.line X.env = pure true) (hy : X.N[i]? = some y := by rfl) (hyl : X.env.scope.names.lookup y = some .local := by rfl) (hs : ∀ x, foldedSetIterable iter X.env x = pure x := by intro _; rfl) :
    SI X (.Assign [.Name y py] (.ListComp elt [⟨tg, iter, ifs, 0⟩] scope pos) spos) (setS i (lcD j m g t f (own.map (·.2)))) := by
  obtain ⟨wi, hwi, hk⟩ := hi.ex
  have base := ps_setLc (g := tGr X.mg js g) (tt := tTst X.mg t) (te := tE X.mg f) hc hN hy hyl hsw hwi ok hg ht he hs
  refine (PS.or (ps_lock base) base).imp fun E σ H h => ?_
  obtain ⟨c, ρ, ts, tv, o, ρ', s, e, k⟩ := h
  obtain ⟨⟨r, ρ1⟩, e1, e2⟩ := bind_some.mp (show (lcD j m g t f (own.map (·.2)) ρ).bind _ = _ from e)
  by_cases ho : okOld ρ1 i = true
  case neg => rw [if_neg ho] at e2; cases e2
  rw [if_pos ho] at e2
  cases e2
  obtain ⟨⟨d, ρ2⟩, e3, e4⟩ := bind_some.mp (show (dv (var j) ρ).bind _ = _ from e1)
  cases d with
  | dic kvs =>
    obtain ⟨ρ3, e5, e6⟩ := bind_some.mp e4
    obtain ⟨⟨ys, ρf⟩, e7, e8⟩ := map_some.mp e6
    cases e8
    refine lockS_go s e3 k fun c' H1 E' L kd => hk c' σ H1 ρ2 ts tv kvs _ L fun J P T TV s' hp G bk => ?_
    refine lc_go (Q := fun x H1 => gName i x σ H1 E'.nx) hjs (s'.forget e5) hp G (forget_none e5).1 e7 fun a H2 s2 => ?_
    obtain ⟨fp, g2⟩ := bk _ _ _ _ _ s2
    exact kd _ H2 ⟨_, g2.store (okOld_lt ho) (g2.old ho) _⟩
  | _ => cases e4
end

/-! ### dict comprehensions -/
def toKey : D → Option Key
  | .int i => some (.inl i)
  | .str x => some (.inr x)
  | _ => none
def getD (kvs : List (Key × D)) (k : Key) : Option D := (kvs.find? fun kv => decide (kv.1 = k)).map (·.2)
def putD (kvs : List (Key × D)) (k : Key) (v : D) : List (Key × D) :=
  if (kvs.any fun kv => decide (kv.1 = k)) = true then kvs.map (fun kv => if kv.1 = k then (kv.1, v) else kv) else kvs ++ [(k, v)]
def delD (kvs : List (Key × D)) (k : Key) : List (Key × D) := kvs.filter fun kv => decide (kv.1 ≠ k)
section
variable {mg : Str → Option Value} {Z : Addr → Prop} {H : Hp}
theorem toKey_rep {d : D} {k : Key} {v : V} (h : Rep mg Z H d v) (e : toKey d = some k) : v = kV k := by
  cases d <;> cases e <;> exact h
theorem RepK.len : ∀ {x : List (Key × D)} {w : List (Key × V)}, RepK mg Z H x w → x.length = w.length
  | [], w, r => by rw [show w = [] from r]; rfl
  | (k, d) :: t, w, ⟨y, w', e, r, q⟩ => by rw [e, List.length_cons, List.length_cons, RepK.len q]
theorem RepK.get {k : Key} : ∀ {x : List (Key × D)} {w : List (Key × V)}, RepK mg Z H x w → (getD x k = none ∧ valV w k = none) ∨ ∃ d v, getD x k = some d ∧ valV w k = some v ∧ Rep mg Z H d v
  | [], w, r => by rw [show w = [] from r]; exact .inl ⟨rfl, rfl⟩
  | (k', d) :: t, w, ⟨y, w', e, r, q⟩ => by
    rw [e]
    by_cases h : k' = k
    · right
      exact ⟨d, y, by simp [getD, h], valV_pos h, r⟩
    · rcases RepK.get (k := k) q with ⟨h1, h2⟩ | ⟨d', v', h1, h2, h3⟩
      · left
        refine ⟨?_, (valV_neg (p := (k', y)) h).trans h2⟩
        simp only [getD, List.find?_cons] at h1 ⊢
        simpa [h] using h1
      · right
        refine ⟨d', v', ?_, (valV_neg (p := (k', y)) h).trans h2, h3⟩
        simp only [getD, List.find?_cons] at h1 ⊢
        simpa [h] using h1
theorem RepK.any {k : Key} : ∀ {x : List (Key × D)} {w : List (Key × V)}, RepK mg Z H x w → (x.any fun kv => decide (kv.1 = k)) = (w.any fun kv => decide (kv.1 = k))
  | [], w, r => by rw [show w = [] from r]; rfl
  | (k', d) :: t, w, ⟨y, w', e, r, q⟩ => by
    rw [e, List.any_cons, List.any_cons, RepK.any q]
theorem RepK.append : ∀ {x y : List (Key × D)} {v w : List (Key × V)}, RepK mg Z H x v → RepK mg Z H y w → RepK mg Z H (x ++ y) (v ++ w)
  | [], y, v, w, r, s => by rw [show v = [] from r]; exact s
  | (k, d) :: t, y, v, w, ⟨a, b, e, r, q⟩, s => by rw [e]; exact ⟨a, b ++ w, rfl, r, RepK.append q s⟩
theorem RepK.repl {k : Key} {d : D} {v : V} (hd : Rep mg Z H d v) : ∀ {x : List (Key × D)} {w : List (Key × V)}, RepK mg Z H x w → RepK mg Z H (x.map fun kv => if kv.1 = k then (kv.1, d) else kv) (w.map fun kv => if kv.1 = k then (kv.1, v) else kv)
  | [], w, r => by rw [show w = [] from r]; rfl
  | (k', d') :: t, w, ⟨y, w', e, r, q⟩ => by
    rw [e, List.map_cons, List.map_cons]
    by_cases h : k' = k
    · rw [if_pos h, if_pos h]; exact ⟨v, _, rfl, hd, RepK.repl hd q⟩
    · rw [if_neg h, if_neg h]; exact ⟨y, _, rfl, r, RepK.repl hd q⟩
theorem RepK.put {x : List (Key × D)} {w : List (Key × V)} {k : Key} {d : D} {v : V} (h : RepK mg Z H x w) (hd : Rep mg Z H d v) : RepK mg Z H (putD x k d) (putK w k v) := by
  unfold putD putK
  rw [h.any]
  split
  · exact h.repl hd
  · exact h.append ⟨v, [], rfl, hd, rfl⟩
theorem RepK.del {k : Key} : ∀ {x : List (Key × D)} {w : List (Key × V)}, RepK mg Z H x w → RepK mg Z H (delD x k) (dropK w k)
  | [], w, r => by rw [show w = [] from r]; rfl
  | (k', d) :: t, w, ⟨y, w', e, r, q⟩ => by
    rw [e]
    unfold delD dropK
    rw [List.filter_cons, List.filter_cons]
    by_cases h : k' = k
    · rw [if_neg (by simpa using h), if_neg (by simpa using h)]; exact RepK.del q
    · rw [if_pos (by simpa using h), if_pos (by simpa using h)]; exact ⟨y, _, rfl, r, RepK.del q⟩
end
def dcL (g : GF) (t : TF) (fk fv : EF) (own : List Nat) : List D → List (Key × D) → Ro → Option (List (Key × D) × Ro)
  | [], acc, ρ => some (acc, ρ)
  | d :: r, acc, ρ => (g d ρ).bind fun ρ1 => (t ρ1).bind fun x =>
    if x.1 then (dv fk x.2).bind fun y => (toKey y.1).bind fun k => (dv fv y.2).bind fun z => (forget own z.2).bind fun ρ2 => if acc.length < 16777216 then dcL g t fk fv own r (putD acc k z.1) ρ2 else none
    else (forget own x.2).bind fun ρ2 => dcL g t fk fv own r acc ρ2
theorem repK_of {mg : Str → Option Value} {Z : Addr → Prop} {H : Hp} : ∀ {x : List (Key × D)} {w : List (Key × V)}, x.map (·.1) = w.map (·.1) → Reps mg Z H (x.map (·.2)) (w.map (·.2)) → RepK mg Z H x w
  | [], [], _, _ => rfl
  | [], _ :: _, h, _ => by simp at h
  | _ :: _, [], h, _ => by simp at h
  | (k, d) :: t, (k', v) :: w, h, ⟨y, w', e, r, q⟩ => by
    simp only [List.map_cons, List.cons.injEq] at h e
    obtain ⟨h1, h2⟩ := h
    obtain ⟨e1, e2⟩ := e
    subst h1; subst e1; subst e2
    exact ⟨v, w, rfl, r, repK_of h2 q⟩
section
variable {mg : Str → Option Value} {c c' : Fx} {σ σ' : Sg} {H H' : Hp} {ρ ρ' : Ro} {ts : List D} {tv : List V} {r : Option A} {v : V} {fp : Pl → List Addr}
theorem wipe_wipe (σ : Sg) (vs : List Nat) : wipe (wipe σ vs) vs = wipe σ vs := by
  refine List.ext_getElem? fun j => ?_
  have ha : atS (wipe (wipe σ vs) vs) j = atS (wipe σ vs) j := by
    rw [atS_wipe, atS_wipe]; split <;> rfl
  have hl1 : (wipe (wipe σ vs) vs).length = (wipe σ vs).length := wipe_length _ _
  unfold atS at ha
  by_cases hj : j < (wipe σ vs).length
  · rw [List.getElem?_eq_getElem hj, List.getElem?_eq_getElem (by omega)] at ha ⊢
    exact congrArg some ha
  · rw [List.getElem?_eq_none (by omega), List.getElem?_eq_none (by omega)]
theorem dc_go {js vs : List Nat} {g : GF} {t : TF} {fk fv : EF} {P : List (Addr × HO)} {T : List D} {TV : List V} {J : It} {ds : List D} {ys : List (Key × D)} {ρf : Ro} {Q : VK} (hjs : ∀ j ∈ js, j ∈ vs)
    (s : SR mg c σ H ρ T TV none .non) (hp : Pins c P) (G : Gives mg P T TV J ds) (hw : ∀ i ∈ vs, at_ ρ i = none) (e : dcL g t fk fv vs ds [] ρ = some (ys, ρf))
    (k : ∀ a H', SR mg c σ H' ρf T TV (some (.k false ys)) (.ref a) → Q (.ref a) H') : ∀ D, H D = none → ∃ W : Nat → Nat → Hp → Prop, (∃ m, W 0 m (upd H D (.dK []))) ∧ ∀ i m H, W i m H →
      (J.stop i H ∧ Q (.ref D) H) ∨ (J.go i H ∧ ∃ Nx : Hp → Prop, (∀ H', Nx H' → ∃ m', m' < m ∧ W (i + 1) m' H') ∧ ∀ x H', J.yld i H x H' → tGr mg js g x (wipe σ vs) H' fun σ2 H2 => wipe σ2 vs = wipe σ vs ∧ tTst mg t σ2 H2 fun b H3 =>
        if b = true then tE mg fk σ2 H3 fun y H4 => tE mg fv σ2 H4 fun z H5 => ∃ kvs k, y = kV k ∧ H5 D = some (.dK kvs) ∧ kvs.length < sizeLine ∧ Nx (upd H5 D (.dK (putK kvs k z))) else Nx H3) := by
  intro D hD
  have h0 : c.H0 D = none := by obtain ⟨fp, g⟩ := s; exact g.new' hD
  obtain ⟨hz0, hbz⟩ := s.fx
  let N : Nat → Hp → Prop := fun i H => ∃ ρ acc av, acc.map (·.1) = av.map (·.1) ∧ SR mg (c.acc D (.dK av)) (wipe σ vs) H ρ (acc.map (·.2) ++ T) (av.map (·.2) ++ TV) none .non ∧ (∀ i ∈ vs, at_ ρ i = none) ∧ dcL g t fk fv vs (ds.drop i) acc ρ = some (ys, ρf)
  refine ⟨fun i m H => i ≤ ds.length ∧ m = ds.length - i ∧ N i H, ⟨_, Nat.zero_le _, rfl, ρ, [], [], rfl, ?_, hw, e⟩, ?_⟩
  · obtain ⟨fp, g⟩ := s.wiped hw
    exact ⟨fp, g.acc0 hD⟩
  · rintro i m H2 ⟨hi, rfl, ρ2, acc, av, hka, s2, hw2, e2⟩
    have hla : (acc.map (·.2)).length = (av.map (·.2)).length := by simpa using len_of_keys hka
    have hp2 : Pins (c.acc D (.dK av)) P := fun p hp' => by
      obtain ⟨q1, q2⟩ := hp p hp'
      have hne : p.1 ≠ D := fun z => by rw [z, h0] at q1; cases q1
      refine ⟨?_, fun w => ?_⟩
      · show upd c.H0 D _ p.1 = _
        rw [upd_ne hne]; exact q1
      · rcases w with w | w
        · exact q2 w
        · exact hne w
    by_cases hlt : i < ds.length
    · right
      refine ⟨G.go _ _ _ _ _ _ _ _ hp2 s2 i hlt, N (i + 1), fun H' q => ⟨ds.length - (i + 1), by omega, hlt, rfl, q⟩, fun x H' y => ?_⟩
      have hd : ds[i]? = some ds[i] := List.getElem?_eq_getElem hlt
      rw [List.drop_eq_getElem_cons hlt] at e2
      obtain ⟨ρ3, e3, e4⟩ := bind_some.mp (show (g ds[i] ρ2).bind _ = _ from e2)
      obtain ⟨⟨b, ρ4⟩, e5, e6⟩ := bind_some.mp e4
      refine ⟨_, ρ2, _, _, ds[i], ρ3, (G.yld _ _ _ _ _ _ hp2 hla s2 i x H' _ hd y).1, e3, fun σ3 H3 ag s3 => ⟨?_, _, ρ3, _, _, b, ρ4, s3, e5, fun H4 s4 => ?_⟩⟩
      · rw [ag vs hjs, wipe_wipe]
      · have hag : ∀ {H5 : Hp} {ρ5 ρ6 : Ro} {cc : Fx} {T5 : List Tw.D} {V5 : List V}, SR mg cc σ3 H5 ρ5 T5 V5 none .non → forget vs ρ5 = some ρ6 → SR mg cc (wipe σ vs) H5 ρ6 T5 V5 none .non ∧ ∀ i ∈ vs, at_ ρ6 i = none := fun {H5 ρ5 ρ6 cc T5 V5} s5 e7 => by
          have hw6 := (forget_none e7).1
          have s6 := (s5.forget e7).wiped hw6
          rw [ag vs hjs, wipe_wipe] at s6
          exact ⟨s6, hw6⟩
        cases b with
        | false =>
          refine iteF ?_
          rw [if_neg (by simp)] at e6
          obtain ⟨ρ5, e7, e8⟩ := bind_some.mp e6
          obtain ⟨s5, hw5⟩ := hag s4 e7
          exact ⟨ρ5, acc, av, hka, s5, hw5, e8⟩
        | true =>
          refine iteT ?_
          rw [if_pos rfl] at e6
          obtain ⟨⟨y1, ρ5⟩, e7, e8⟩ := bind_some.mp e6
          obtain ⟨kk, e9, e10⟩ := bind_some.mp e8
          obtain ⟨⟨z1, ρ6⟩, e11, e12⟩ := bind_some.mp e10
          obtain ⟨ρ7, e13, e14⟩ := bind_some.mp e12
          simp only at e14
          by_cases hlen : acc.length < 16777216
          case neg => rw [if_neg hlen] at e14; cases e14
          rw [if_pos hlen] at e14
          refine tE_dv s4 e7 fun u H5 s5 => tE_dv s5 e11 fun u2 H6 s6 => ?_
          obtain ⟨s7, hw7⟩ := hag s6 e13
          obtain ⟨fp, g7⟩ := s7
          obtain ⟨w1, tw, eq, rz, rt⟩ := g7.tmp
          cases eq
          obtain ⟨w2, tw, eq, ry, rt⟩ := rt
          cases eq
          have hy := toKey_rep ry e9
          refine ⟨av, kk, hy, g7.accAt h0 hz0 hbz, by rw [← len_of_keys hka, sizeLine_eq]; exact hlen, ρ7, putD acc kk z1, putK av kk u2, ?_, ?_, hw7, e14⟩
          · have t0 := rt.take (acc.map (·.2)).length
            rw [List.take_left' rfl, List.take_left' hla.symm] at t0
            exact ((repK_of hka t0).put (k := kk) rz).keys.1
          · have t0 := rt.take (acc.map (·.2)).length
            have t1 := rt.drop (acc.map (·.2)).length
            rw [List.take_left' rfl, List.take_left' hla.symm] at t0
            rw [List.drop_left' rfl, List.drop_left' hla.symm] at t1
            refine ⟨fp, Good.acc1 (o := .dK av) (g7.retmp ?_) h0 hz0 hbz⟩
            exact ((repK_of hka t0).put (k := kk) rz).keys.2.append t1
    · left
      have en : ds.drop i = [] := List.drop_eq_nil_of_le (by omega)
      rw [en] at e2
      cases e2
      refine ⟨G.stop _ _ _ _ _ _ _ _ hp2 s2 i (by omega), k D H2 ?_⟩
      obtain ⟨fp, g⟩ := s2.unwiped hw2
      have t0 := g.tmp.take (ys.map (·.2)).length
      rw [List.take_left' rfl, List.take_left' hla.symm] at t0
      exact ⟨_, (g.pops hla).acc2 h0 hz0 hbz ⟨D, av, rfl, rfl, g.accAt h0 hz0 hbz, repK_of hka t0⟩ rfl⟩
end
def dcE (w : WF) (g : GF) (t : TF) (fk fv : EF) (own : List Nat) : EF := fun ρ => (w ρ).bind fun x => (forget own x.2).bind fun ρ1 => (dcL g t fk fv own x.1 [] ρ1).map fun y => (.k false y.1, y.2)
def dcD (i : Nat) (m : Md) (g : GF) (t : TF) (fk fv : EF) (own : List Nat) : EF := fun ρ => (dv (var i) ρ).bind fun x => match x.1 with
  | .dic kvs => (forget own x.2).bind fun ρ1 => (dcL g t fk fv own (m kvs) [] ρ1).map fun y => (.k false y.1, y.2)
  | _ => none
section
variable {X : Cx} {kx vx tg iter : Expr} {ifs : List Expr} {scope : Scope} {own : List (Str × Nat)} {pos : Pos} {w : WF} {js : List Nat} {g : GF} {t : TF} {fk fv : EF}
theorem e_dc (hc : X.calm = true) (hN : X.N.Nodup) (hi : IW X tg iter w) (ok : BlkOk X.N X.env.scope scope own) (hjs : ∀ j ∈ js, j ∈ own.map (·.2))
    (hg : ∀ (s : Shared) (H : Hp) (C : Addr) (cl : List (Str × Addr)) (fp : List Addr), GI (X.blk s H scope (compEnvC scope cl C X.env) fp) tg js g) (ht : ∀ (s : Shared) (H : Hp) (C : Addr) (cl : List (Str × Addr)) (fp : List Addr), PTsI (X.blk s H scope (compEnvC scope cl C X.env) fp) ifs t)
    (hk : ∀ (s : Shared) (H : Hp) (C : Addr) (cl : List (Str × Addr)) (fp : List Addr), EI (X.blk s H scope (compEnvC scope cl C X.env) fp) kx fk)
    (he : ∀ (s : Shared) (H : Hp) (C : Addr) (cl : List (Str × Addr)) (fp : List Addr), EI (X.blk s H scope (compEnvC scope cl C X.env) fp) vx fv) (hs : ∀ x, foldedSetIterable iter X.env x = pure x := by intro _; rfl) :
    EI X (.DictComp kx vx [⟨tg, iter, ifs, 0⟩] scope pos) (dcE w g t fk fv (own.map (·.2))) := (pe_dc (g := tGr X.mg js g) (tt := tTst X.mg t) (tk := tE X.mg fk) (tv := tE X.mg fv) hc hN hi ok hg ht hk he hs).imp fun σ H Q h => by
  obtain ⟨c, ρ, ts, tv, r, ρ', s, e, k⟩ := h
  obtain ⟨⟨ds, ρ1⟩, e1, e2⟩ := bind_some.mp (show (w ρ).bind _ = _ from e)
  obtain ⟨ρ2, e3, e4⟩ := bind_some.mp e2
  obtain ⟨⟨ys, ρf⟩, e5, e6⟩ := map_some.mp e4
  cases e6
  refine ⟨c, ρ, ts, tv, ds, ρ1, s, e1, fun J H' c' T TV P s' hp G bk _ => ?_⟩
  exact dc_go hjs (s'.forget e3) hp G (forget_none e3).1 e5 fun a H2 s2 => k _ H2 (bk _ _ _ _ _ s2)
theorem e_dcD {i : Nat} {m : Md} (hc : X.calm = true) (hN : X.N.Nodup) (hi : DI X tg iter i m) (ok : BlkOk X.N X.env.scope scope own) (hjs : ∀ j ∈ js, j ∈ own.map (·.2))
    (hg : ∀ (s : Shared) (H : Hp) (C : Addr) (cl : List (Str × Addr)) (fp : List Addr), GI (X.blk s H scope (compEnvC scope cl C X.env) fp) tg js g) (ht : ∀ (s : Shared) (H : Hp) (C : Addr) (cl : List (Str × Addr)) (fp : List Addr), PTsI (X.blk s H scope (compEnvC scope cl C X.env) fp) ifs t)
    (hk : ∀ (s : Shared) (H : Hp) (C : Addr) (cl : List (Str × Addr)) (fp : List Addr), EI (X.blk s H scope (compEnvC scope cl C X.env) fp) kx fk)
    (he : ∀ (s : Shared) (H : Hp) (C : Addr) (cl : List (Str × Addr)) (fp : List Addr), EI (X.blk s H scope (compEnvC scope cl C X.env) fp) vx fv) (hs : ∀ x, foldedSetIterable iter X.env x = pure x := by intro _; rfl) :
    EI X (.DictComp kx vx [⟨tg, iter, ifs, 0⟩] scope pos) (dcD i m g t fk fv (own.map (·.2))) := by
  obtain ⟨wi, hwi, hkk⟩ := hi.ex
  have base := pe_dc (g := tGr X.mg js g) (tt := tTst X.mg t) (tk := tE X.mg fk) (tv := tE X.mg fv) hc hN hwi ok hg ht hk he hs (pos := pos)
  refine (PE.or (pe_lock base) base).imp fun σ H Q h => ?_
  obtain ⟨c, ρ, ts, tv, r, ρ', s, e, k⟩ := h
  obtain ⟨⟨d, ρ1⟩, e1, e2⟩ := bind_some.mp (show (dv (var i) ρ).bind _ = _ from e)
  cases d with
  | dic kvs =>
    obtain ⟨ρ2, e3, e4⟩ := bind_some.mp e2
    obtain ⟨⟨ys, ρf⟩, e5, e6⟩ := map_some.mp e4
    cases e6
    refine lockE_go s e1 k fun c' H1 Q' L kd => hkk c' σ H1 ρ1 ts tv kvs _ L fun J P T TV s' hp G bk => ?_
    exact dc_go hjs (s'.forget e3) hp G (forget_none e3).1 e5 fun a H2 s2 => kd _ H2 (bk _ _ _ _ _ s2)
  | _ => cases e2
end
end Tw
end
section
set_option maxRecDepth 100000
/-! layer 10: operators, built-ins, subscripts, displays, stores -/
namespace Tw
open PySem PySem.Spec PyProof.Rows L2

/-! ### tuples as they are laid: their object is told -/
section
variable {X : Cx}
def rCatF (K : PySem.W.Frag) : R2 := fun x y H Q => ∃ a b xs ys, x = .ref a ∧ y = .ref b ∧ SqT K H a xs ∧ SqT K H b ys ∧ xs.length + ys.length ≤ sizeLine ∧
  (xs = [] → Q (.ref b) H) ∧ (xs ≠ [] → ys = [] → Q (.ref a) H) ∧ (xs ≠ [] → ys ≠ [] → ∀ p o, H p = none → o.dict = none → Q (.ref p) (upd H p (.frz o (.tup (xs ++ ys)))))
theorem op_catF : OpR X (binaryOp .Add) (rCatF X.K) := by
  intro pins s σ H x y v u Q I rx ry h
  obtain ⟨a, b, xs, ys, rfl, rfl, ha, hb, hz, q0, q1, q2⟩ := h
  obtain ⟨its, r1, p1, _⟩ := I.tuple ha
  obtain ⟨its2, r2, p2, _⟩ := I.tuple hb
  cases rx
  cases ry
  by_cases hx : xs = []
  · subst hx
    cases r1
    exact cat_tup0 p1 p2 ⟨.ref b, H, I, rfl, q0 rfl⟩
  · refine HT.cat_tup p1 p2 (fun z => hx (r1.nil_iff.mp z)) (fun z => ⟨.ref a, H, I, rfl, q1 hx (r2.nil_iff.mp z)⟩) (fun z => ?_)
      (by rw [← r1.length, ← r2.length]; exact hz)
    refine ⟨.ref s.heap.objs.size, _, I.laid (t' := s.toks) (o := .frz { cls := .type "tuple", data := .seq (its ++ its2).toArray } (.tup (xs ++ ys))) (fun b ob q => Heap.get?_push_of_some _ q) (Nat.le_refl _)
      ⟨Heap.get?_push_size _ rfl, ?_⟩, rfl, q2 hx (fun w => z (r2.nil_iff.mpr w)) _ _ (I.hok.fresh (Nat.le_refl _)) rfl⟩
    exact ⟨by rw [List.length_append]; exact hz, _, r1.append r2, IsTup.new _ _⟩
def tTupF (t : TA) : TE := fun σ H Q => t σ H fun xs H1 => xs.length ≤ sizeLine ∧ ∀ p o, H1 p = none → o.dict = none → Q (.ref p) (upd H1 p (.frz o (.tup xs)))
theorem pe_tupF {es : List Expr} {t : TA} {pos : Pos} {x1} (h : PA X es t) : PE X (.Tuple es x1 pos) (tTupF t) := by
  refine ⟨fun pins s σ H Q I hq => ?_⟩
  refine wpAny_Tuple_spliced (thn (h.run pos pins s σ H _ I hq) fun us s1 ⟨xs, H1, I1, r, z, q⟩ => ⟨by rw [← r.length]; exact z, ?_⟩)
  refine ⟨.ref s1.heap.objs.size, _, I1.laid (t' := s1.toks) (o := .frz _ (.tup xs)) (fun b u e => Heap.get?_push_of_some _ e) (Nat.le_refl _) ⟨Heap.get?_push_size _ rfl, ?_⟩, rfl, q _ _ (I1.hok.fresh (Nat.le_refl _)) rfl⟩
  exact ⟨z, us, r, ⟨_, Heap.get?_push_size _ rfl, rfl, _, rfl⟩⟩
def rTupF (K : PySem.W.Frag) : List V → Hp → VK → Prop := fun xs H Q => ∃ p ys, xs = [.ref p] ∧ ((SqL K H p ys ∧ ∀ l o, H l = none → o.dict = none → Q (.ref l) (upd H l (.frz o (.tup ys)))) ∨ (SqT K H p ys ∧ Q (.ref p) H))
theorem call_tupleF : CallR X (.type "tuple") (rTupF X.K) := by
  intro pins s σ H xs us Q I r h
  obtain ⟨p, ys, rfl, h⟩ := h
  obtain ⟨u, rfl, rx⟩ := vals1 r
  cases rx
  rcases h with ⟨hq, q⟩ | ⟨hq, q⟩
  · obtain ⟨its, r', pl, hz⟩ := I.list hq
    have hlen := r'.length
    refine call_tuple_list pl.isList (fun h' kp => ?_) (by simp only [List.size_toArray] <;> omega)
    have I1 : Inv X pins σ H { s with heap := h' } := I.kept (t' := s.toks) kp
    exact ⟨.ref h'.objs.size, _, I1.laid (t' := s.toks) (o := .frz { cls := .type "tuple", data := .seq its.toArray } (.tup ys)) (fun b o e => Heap.get?_push_of_some _ e) (Nat.le_refl _)
      ⟨Heap.get?_push_size _ rfl, hz, its, r', IsTup.new _ _⟩, rfl, q _ _ (I1.hok.fresh (Nat.le_refl _)) rfl⟩
  · obtain ⟨its, r', pl, hz⟩ := I.tuple hq
    exact call_tuple_same pl ⟨.ref p, H, I, rfl, q⟩
end
/-! ### whole numbers and texts -/
def onII (C : Int → Int → Bool) (g : Int → Int → D) : D → D → Option A
  | .int i, .int j => if C i j = true then some (.d (g i j)) else none
  | _, _ => none
section
variable {X : Cx}
theorem op_ii {F : Value → Value → Sem Value} {C : Int → Int → Prop} {c : Int → Int → Bool} {g : Int → Int → V} {gD : Int → Int → D} (ho : OpR X F (rI C g)) (hc : ∀ i j, c i j = true → C i j) (hg : ∀ i j Z H, Rep X.mg Z H (gD i j) (g i j)) : OpD X F (onII c gD) := by
  intro pins s σ H x y v u Q I rx ry w
  obtain ⟨Z, a, b, r, hz, ra, rb, e, k⟩ := w
  unfold onII at e
  split at e
  · split at e
    · rename_i i j h
      cases e
      have e1 : x = .int i := ra
      have e2 : y = .int j := rb
      exact ho pins s σ H x y v u Q I rx ry ⟨i, j, e1, e2, hc i j h, k.sc (hg i j Z H)⟩
    · cases e
  · cases e
theorem op_ii0 {F : Value → Value → Sem Value} {g : Int → Int → V} {gD : Int → Int → D} (ho : OpR X F (rI0 g)) (hg : ∀ i j Z H, Rep X.mg Z H (gD i j) (g i j)) : OpD X F (onII (fun _ _ => true) gD) :=
  op_ii (C := fun _ _ => True) (fun pins s σ H x y v u Q I rx ry ⟨i, j, e1, e2, _, q⟩ => ho pins s σ H x y v u Q I rx ry ⟨i, j, e1, e2, q⟩) (fun _ _ _ => trivial) hg
abbrev addI := onII (fun _ _ => true) fun i j => .int (i + j)
abbrev subI := onII (fun _ _ => true) fun i j => .int (i - j)
abbrev cMul (i j : Int) : Bool := (decide (-(2 ^ 64) < i) && decide (i < 2 ^ 64)) || (decide (-(2 ^ 64) < j) && decide (j < 2 ^ 64))
abbrev mulI := onII cMul fun i j => .int (i * j)
abbrev modI := onII (fun _ j => decide (0 < j)) fun i j => .int (i % j)
abbrev fdivI := onII (fun _ j => decide (0 < j) && decide (j < 1073741824)) fun i j => .int (i / j)
abbrev powI := onII (fun i j => decide (0 ≤ j) && decide (j ≤ 1000000) && decide (i.natAbs < 2 ^ 64)) fun i j => .int (i ^ j.toNat)
theorem o_addI : OpD X (binaryOp .Add) addI := op_ii0 op_add fun _ _ _ _ => rfl
theorem o_subI : OpD X (binaryOp .Sub) subI := op_ii0 op_sub fun _ _ _ _ => rfl
theorem o_mulI : OpD X (binaryOp .Mult) mulI := op_ii op_mul (fun i j h => by
  simp only [cMul, Bool.or_eq_true, Bool.and_eq_true, decide_eq_true_eq] at h
  exact h) fun _ _ _ _ => rfl
theorem o_modI : OpD X (binaryOp .Mod) modI := op_ii op_mod (fun i j h => of_decide_eq_true h) fun _ _ _ _ => rfl
theorem o_fdivI : OpD X (binaryOp .FloorDiv) fdivI := op_ii op_fdiv (fun i j h => by
  simp only [Bool.and_eq_true, decide_eq_true_eq] at h
  exact h) fun _ _ _ _ => rfl
theorem o_powI : OpD X (binaryOp .Pow) powI := op_ii op_pow (fun i j h => by
  simp only [Bool.and_eq_true, decide_eq_true_eq] at h
  exact ⟨h.1.1, h.1.2, h.2⟩) fun _ _ _ _ => rfl
abbrev ltI := onII (fun _ _ => true) fun i j => .bl (decide (i < j))
abbrev leI := onII (fun _ _ => true) fun i j => .bl (decide (i ≤ j))
abbrev gtI := onII (fun _ _ => true) fun i j => .bl (decide (j < i))
abbrev geI := onII (fun _ _ => true) fun i j => .bl (decide (j ≤ i))
theorem o_ltI : OpD X (compareOp .Lt) ltI := op_ii0 op_lt fun _ _ _ _ => rfl
theorem o_leI : OpD X (compareOp .LtE) leI := op_ii0 op_le fun _ _ _ _ => rfl
theorem o_gtI : OpD X (compareOp .Gt) gtI := op_ii0 op_gt fun _ _ _ _ => rfl
theorem o_geI : OpD X (compareOp .GtE) geI := op_ii0 op_ge fun _ _ _ _ => rfl
def addS : D → D → Option A
  | .str x, .str y => if x.length + y.length ≤ 16777216 then some (.d (.str (x ++ y))) else none
  | _, _ => none
theorem o_addS : OpD X (binaryOp .Add) addS := by
  intro pins s σ H x y v u Q I rx ry w
  obtain ⟨Z, a, b, r, hz, ra, rb, e, k⟩ := w
  unfold addS at e
  split at e
  · split at e
    · rename_i i j h
      cases e
      exact op_add_str pins s σ H x y v u Q I rx ry ⟨i, j, ra, rb, by rw [sizeLine_eq]; exact h, k.sc rfl⟩
    · cases e
  · cases e
/-- list + list, tuple + tuple -/
def addL : D → D → Option A
  | .lst x, .lst y => if x.length + y.length ≤ 16777216 then some (.l false (x ++ y)) else none
  | _, _ => none
def addT : D → D → Option A
  | .tup x, .tup y => if x.length + y.length ≤ 16777216 then some (.d (.tup (x ++ y))) else none
  | _, _ => none
theorem o_addL : OpD X (binaryOp .Add) addL := by
  intro pins s σ H x y v u Q I rx ry w
  obtain ⟨Z, a, b, r, hz, ra, rb, e, k⟩ := w
  unfold addL at e
  split at e
  · rename_i xs ys
    split at e
    · rename_i h
      cases e
      obtain ⟨p, vs, rfl, g1, r1⟩ := ra
      obtain ⟨q, us, rfl, g2, r2⟩ := rb
      cases rx
      cases ry
      obtain ⟨z1, i1, n1, w1, e1⟩ := g1.l2.ok I.hok
      obtain ⟨z2, i2, n2, w2, e2⟩ := g2.l2.ok I.hok
      have hlen : i1.length + i2.length ≤ sizeLine := by
        rw [← w1.length, ← w2.length, ← r1.length, ← r2.length, sizeLine_eq]; exact h
      refine PySem.P.add_list e1 e2 ?_ (by simpa using hlen)
      rw [show i1.toArray ++ i2.toArray = (i1 ++ i2).toArray from by simp]
      refine ⟨.ref _, _, I.lnew (t' := s.toks) (w1.append w2) (by rw [List.length_append, w1.length, w2.length]; exact hlen), rfl, k.l (r1.append r2) I.fresh⟩
    · cases e
  · cases e
theorem o_addT : OpD X (binaryOp .Add) addT := by
  intro pins s σ H x y v u Q I rx ry w
  obtain ⟨Z, a, b, r, hz, ra, rb, e, k⟩ := w
  unfold addT at e
  split at e
  · rename_i xs ys
    split at e
    · rename_i h
      cases e
      have ra' : Rep X.mg Z H (.tup xs) x := ra
      have rb' : Rep X.mg Z H (.tup ys) y := rb
      obtain ⟨p, vs, o1, rfl, _, _, g1, r1⟩ := ra
      obtain ⟨q, us, o2, rfl, _, _, g2, r2⟩ := rb
      refine op_catF pins s σ H _ _ v u Q I rx ry ⟨p, q, vs, us, rfl, rfl, .inl g1.frz2, .inl g2.frz2, by rw [← r1.length, ← r2.length, sizeLine_eq]; exact h, fun e => ?_, fun _ e => ?_, fun _ _ t o ht ho => ?_⟩
      · subst e
        have : xs = [] := by have := r1.length; simpa using this
        subst this
        exact k.sc rb'
      · subst e
        have : ys = [] := by have := r2.length; simpa using this
        subst this
        rw [List.append_nil] at k
        exact k.sc ra'
      · exact k.t hz (r1.append r2) ht ho
    · cases e
  · cases e
def orD (p q : D → D → Option A) : D → D → Option A := fun a b => (p a b).or (q a b)
abbrev addX := orD addI (orD addS (orD addL addT))
theorem o_addX : OpD X (binaryOp .Add) addX := o_addI.or (o_addS.or (o_addL.or o_addT))
/-- -i -/
def un (f : EF) (g : D → Option A) : EF := fun ρ => (dv f ρ).bind fun x => (g x.1).map fun r => (r, x.2)
def negI : D → Option A
  | .int i => some (.d (.int (-i)))
  | _ => none
theorem e_neg {a : Expr} {f : EF} {pos : Pos} (ha : EI X a f) : EI X (.UnaryOp .USub a pos) (un f negI) := (pe_un un_neg ha).imp fun σ H Q h => by
  obtain ⟨c, ρ, ts, tv, r, ρ', s, e, k⟩ := h
  obtain ⟨⟨d, ρ1⟩, e1, e2⟩ := bind_some.mp (show (dv f ρ).bind _ = _ from e)
  obtain ⟨x, e3, e4⟩ := map_some.mp e2
  cases e4
  unfold negI at e3
  split at e3
  · rename_i d' i hd
    cases e3
    simp only at hd
    subst hd
    refine tE_dv s e1 fun v H1 ⟨fp, g⟩ => ?_
    obtain ⟨v', tv', eq, rep, t⟩ := g.tmp
    cases eq
    have rep : v = .int i := rep
    subst rep
    exact ⟨i, rfl, k _ H1 ⟨_, (g.pops (xs := [.int i]) (ys := [.int i]) rfl).put (x := .int (-i)) (u := .int (-i)) rfl⟩⟩
  · cases e3
/-! ### is None -/
def nonD : D → Bool
  | .non => true
  | _ => false
def isN : D → D → Option A
  | x, .non => some (.d (.bl (nonD x)))
  | _, _ => none
def notN : D → D → Option A
  | x, .non => some (.d (.bl (!nonD x)))
  | _, _ => none
theorem isN_of {mg : Str → Option Value} {Z : Addr → Prop} {H : Hp} {x : D} {v : V} (h : RepT mg Z H x v) : decide (v = .non) = nonD x := by
  cases x with
  | non => have h : v = .non := h; subst h; rfl
  | bl b => have h : v = .bl b := h; subst h; rfl
  | int b => have h : v = .int b := h; subst h; rfl
  | str b => have h : v = .str b := h; subst h; rfl
  | lst b => obtain ⟨a, vs, rfl, _⟩ := h; rfl
  | tup b => obtain ⟨a, vs, _, rfl, _⟩ := h; rfl
  | pr b => obtain ⟨a, vs, rfl, _⟩ := h; rfl
  | dic b => obtain ⟨a, vs, rfl, _⟩ := h; rfl
  | ins c b => obtain ⟨a, C, dx, vs, rfl, _⟩ := h; rfl
theorem o_isN : OpD X (compareOp .Is) isN := by
  intro pins s σ H x y v u Q I rx ry w
  obtain ⟨Z, a, b, r, hz, ra, rb, e, k⟩ := w
  cases b <;> cases e
  refine op_isN pins s σ H x y v u Q I rx ry ⟨rb, ?_⟩
  rw [isN_of ra]
  exact k.sc (v := .bl (nonD a)) rfl
theorem o_notN : OpD X (compareOp .IsNot) notN := by
  intro pins s σ H x y v u Q I rx ry w
  obtain ⟨Z, a, b, r, hz, ra, rb, e, k⟩ := w
  cases b <;> cases e
  refine op_notN pins s σ H x y v u Q I rx ry ⟨rb, ?_⟩
  rw [isN_of ra]
  exact k.sc (v := .bl (!nonD a)) rfl
/-! ### == and != of scalars -/
def scD : D → D → Option Bool
  | .non, .non => some true
  | .bl a, .bl b => some (decide (a = b))
  | .int a, .int b => some (decide (a = b))
  | .str a, .str b => some (decide (a = b))
  | _, _ => none
def eqS : D → D → Option A := fun a b => (scD a b).map fun r => .d (.bl r)
def neS : D → D → Option A := fun a b => (scD a b).map fun r => .d (.bl (!r))
theorem scD_of {mg : Str → Option Value} {Z : Addr → Prop} {H : Hp} {a b : D} {x y : V} {r : Bool} (ra : RepT mg Z H a x) (rb : RepT mg Z H b y) (e : scD a b = some r) : scal x y = true ∧ decide (x = y) = r := by
  unfold scD at e
  split at e
  · cases e; cases (show x = .non from ra); cases (show y = .non from rb); exact ⟨rfl, rfl⟩
  · rename_i p q
    cases e; cases (show x = .bl p from ra); cases (show y = .bl q from rb)
    exact ⟨rfl, by simp⟩
  · rename_i p q
    cases e; cases (show x = .int p from ra); cases (show y = .int q from rb)
    exact ⟨rfl, by simp⟩
  · rename_i p q
    cases e; cases (show x = .str p from ra); cases (show y = .str q from rb)
    exact ⟨rfl, by simp⟩
  · cases e
theorem o_eqS : OpD X (compareOp .Eq) eqS := by
  intro pins s σ H x y v u Q I rx ry w
  obtain ⟨Z, a, b, r, hz, ra, rb, e, k⟩ := w
  obtain ⟨t, e1, rfl⟩ := map_some.mp (show (scD a b).map _ = _ from e)
  obtain ⟨h1, h2⟩ := scD_of ra rb e1
  refine op_eq pins s σ H x y v u Q I rx ry ⟨h1, ?_⟩
  rw [h2]; exact k.sc rfl
theorem o_neS : OpD X (compareOp .NotEq) neS := by
  intro pins s σ H x y v u Q I rx ry w
  obtain ⟨Z, a, b, r, hz, ra, rb, e, k⟩ := w
  obtain ⟨t, e1, rfl⟩ := map_some.mp (show (scD a b).map _ = _ from e)
  obtain ⟨h1, h2⟩ := scD_of ra rb e1
  refine op_ne pins s σ H x y v u Q I rx ry ⟨h1, ?_⟩
  rw [h2]; exact k.sc rfl
/-! ### in: flat things in a list or tuple -/
def flatD : D → Bool
  | .non => true
  | .bl _ => true
  | .int _ => true
  | .str _ => true
  | _ => false
def flV : D → V
  | .bl b => .bl b
  | .int i => .int i
  | .str x => .str x
  | _ => .non
theorem flat_of {mg : Str → Option Value} {Z : Addr → Prop} {H : Hp} {a : D} {x : V} (h : RepT mg Z H a x) (f : flatD a = true) : x = flV a ∧ flatV x = true := by
  cases a <;> first | (cases f; done) | (cases h; exact ⟨rfl, rfl⟩)
theorem flats_of {mg : Str → Option Value} {Z : Addr → Prop} {H : Hp} : ∀ {xs : List D} {vs : List V}, Reps mg Z H xs vs → xs.all flatD = true → vs = xs.map flV ∧ vs.all flatV = true
  | [], vs, r, _ => by rw [show vs = [] from r]; exact ⟨rfl, rfl⟩
  | d :: t, vs, ⟨v, w, e, r, q⟩, h => by
    rw [List.all_cons, Bool.and_eq_true] at h
    obtain ⟨h1, h2⟩ := flat_of r.t h.1
    obtain ⟨h3, h4⟩ := flats_of q h.2
    rw [e]
    refine ⟨by rw [h1, h3]; rfl, ?_⟩
    rw [List.all_cons, h2, h4]; rfl
def inL (neg : Bool) : D → D → Option A := fun a b => (itemsOf b).bind fun xs => if (flatD a && xs.all flatD) = true then some (.d (.bl (if neg = true then !inV (flV a) (xs.map flV) else inV (flV a) (xs.map flV)))) else none
theorem seq_at {b : D} {xs : List D} {y : V} {Z : Addr → Prop} {H : Hp} (rb : RepT X.mg Z H b y) (e : itemsOf b = some xs) : ∃ p vs, y = .ref p ∧ (SqL X.K H p vs ∨ SqT X.K H p vs) ∧ Reps X.mg Z H xs vs := by
  cases b with
  | lst ys => cases e; obtain ⟨p, vs, rfl, g, r⟩ := rb; exact ⟨p, vs, rfl, .inl (.inl g.l2), r⟩
  | tup ys => cases e; obtain ⟨p, vs, o, rfl, _, _, g, r⟩ := rb; exact ⟨p, vs, rfl, .inr (.inl g.frz2), r⟩
  | _ => cases e
theorem o_inL : OpD X (compareOp .In) (inL false) := by
  intro pins s σ H x y v u Q I rx ry w
  obtain ⟨Z, a, b, r, hz, ra, rb, e, k⟩ := w
  obtain ⟨xs, e1, e2⟩ := bind_some.mp (show (itemsOf b).bind _ = _ from e)
  split at e2
  case isFalse => cases e2
  rename_i h
  cases e2
  rw [Bool.and_eq_true] at h
  obtain ⟨p, vs, rfl, hs, hr⟩ := seq_at rb e1
  obtain ⟨h1, h2⟩ := flat_of ra h.1
  obtain ⟨h3, h4⟩ := flats_of hr h.2
  subst h1; subst h3
  exact op_in_seq pins s σ H _ _ v u Q I rx ry ⟨p, _, rfl, hs, h2, h4, k.sc rfl⟩
theorem o_ninL : OpD X (compareOp .NotIn) (inL true) := by
  intro pins s σ H x y v u Q I rx ry w
  obtain ⟨Z, a, b, r, hz, ra, rb, e, k⟩ := w
  obtain ⟨xs, e1, e2⟩ := bind_some.mp (show (itemsOf b).bind _ = _ from e)
  split at e2
  case isFalse => cases e2
  rename_i h
  cases e2
  rw [Bool.and_eq_true] at h
  obtain ⟨p, vs, rfl, hs, hr⟩ := seq_at rb e1
  obtain ⟨h1, h2⟩ := flat_of ra h.1
  obtain ⟨h3, h4⟩ := flats_of hr h.2
  subst h1; subst h3
  exact op_notIn_seq pins s σ H _ _ v u Q I rx ry ⟨p, _, rfl, hs, h2, h4, k.sc rfl⟩
end

/-! ### items and slices -/
def itemD (xs : List D) (i : Int) : Option D := atI xs i
def ixL : D → D → Option A := fun a b => match b with
  | .int i => (itemsOf a).bind fun xs => (atI xs i).map A.d
  | _ => none
def ixS : D → D → Option A := fun a b => match a, b with
  | .str z, .int i => if z.length ≤ 16777216 then (atI z.cps.toList i).map fun c => .d (.str ⟨#[c]⟩) else none
  | _, _ => none
section
variable {X : Cx} {a b : Expr} {o p : Opd} {f g : EF} {pos : Pos}
theorem atI_rep {mg : Str → Option Value} {Z : Addr → Prop} {H : Hp} {xs : List D} {vs : List V} {i : Int} {d : D} (h : Reps mg Z H xs vs) (e : atI xs i = some d) : ∃ v, atI vs i = some v ∧ Rep mg Z H d v := by
  unfold atI at e ⊢
  rw [← h.length]
  obtain ⟨j, e1, e2⟩ := bind_some.mp e
  obtain ⟨v, e3, e4⟩ := h.get e2
  exact ⟨v, by rw [e1, Option.bind_some]; exact e3, e4⟩
theorem ix_L : IxR X (rD X.mg ixL) := by
  intro value slice pins s σ H x y v u Q I rx ry w hs
  obtain ⟨Z, a, b, r, hz, ra, rb, e, k⟩ := w
  unfold ixL at e
  split at e
  · rename_i i
    obtain ⟨xs, e2, e3⟩ := bind_some.mp e
    obtain ⟨d, e4, e5⟩ := map_some.mp e3
    subst e5
    obtain ⟨q, vs, rfl, hq, hr⟩ := seq_at ra e2
    obtain ⟨w, e6, rep⟩ := atI_rep hr e4
    refine ix_seq value slice pins s σ H _ y v u Q I rx ry ?_ hs
    rcases hq with hq | hq
    · exact .inl ⟨q, vs, i, w, rfl, rb, hq, e6, k.sc rep⟩
    · exact .inr (.inl ⟨q, vs, i, w, rfl, rb, hq, e6, k.sc rep⟩)
  · cases e
theorem ix_S : IxR X (rD X.mg ixS) := by
  intro value slice pins s σ H x y v u Q I rx ry w hs
  obtain ⟨Z, a, b, r, hz, ra, rb, e, k⟩ := w
  unfold ixS at e
  split at e
  · rename_i z i
    split at e
    · rename_i hl
      obtain ⟨ch, e4, e5⟩ := map_some.mp e
      subst e5
      exact ix_seq value slice pins s σ H x y v u Q I rx ry (.inr (.inr ⟨z, i, ch, ra, rb, by rw [sizeLine_eq]; exact hl, e4, k.sc rfl⟩)) hs
    · cases e
  · cases e
/-- d[k] -/
def ixK : D → D → Option A := fun a b => match a with
  | .dic kvs => (toKey b).bind fun k => (Tw.getD kvs k).map A.d
  | _ => none
theorem bin_or {F G : D → D → Option A} {ρ : Ro} {y : A × Ro} (h : bin o p (orD F G) ρ = some y) : bin o p F ρ = some y ∨ bin o p G ρ = some y := by
  obtain ⟨x, ρ'⟩ := y
  obtain ⟨s, ρ1, t, a, b, e1, e2, e3, e4, e5⟩ := bin_some h
  have go : ∀ K : D → D → Option A, bin o p K ρ = (K a b).map fun r => (r, ρ') := fun K => by
    unfold bin
    rw [e1, Option.bind_some]
    simp only
    rw [e2, Option.bind_some]
    simp only
    rw [e3, Option.bind_some, e4, Option.bind_some]
  rw [go, go]
  have e5 : (F a b).or (G a b) = some x := e5
  cases q : F a b with
  | some z => rw [q] at e5; left; cases e5; rfl
  | none => rw [q] at e5; right; have e5 : G a b = some x := e5; rw [e5]; rfl
theorem tE_or {mg : Str → Option Value} {F G : D → D → Option A} {σ : Sg} {H : Hp} {Q : VK} (h : tE mg (bin o p (orD F G)) σ H Q) : tE mg (bin o p F) σ H Q ∨ tE mg (bin o p G) σ H Q := by
  obtain ⟨c, ρ, ts, tv, r, ρ', s, e, k⟩ := h
  rcases bin_or e with e | e
  · exact .inl ⟨c, ρ, ts, tv, r, ρ', s, e, k⟩
  · exact .inr ⟨c, ρ, ts, tv, r, ρ', s, e, k⟩
abbrev ixX := orD ixK (orD ixL ixS)
theorem e_ix (hu : X.A.units + 1 < cLine) (ha : OI X a o) (hb : OI X b p) (hs : PlainIx b := by exact fun _ _ => rfl) (hn : NoSl b := by exact fun _ _ => rfl) : EI X (.Subscript a b pos) (bin o p ixX) := by
  refine (PE.or (pe_dget hu ha hb hn) (PE.or (pe_ix ix_L ha hb hs) (pe_ix ix_S ha hb hs))).imp fun σ H Q h => ?_
  rcases tE_or h with h | h
  · left
    have h2 : ∀ x y H, rD X.mg ixK x y H Q → ∃ a v, x = .ref a ∧ DGet H a y (some v) ∧ Q v H := fun x y H ⟨Z, a, b, r, hz, ra, rb, e, k⟩ => by
      unfold ixK at e
      split at e
      · rename_i kvs
        obtain ⟨kk, e1, e2⟩ := bind_some.mp e
        obtain ⟨d, e3, e4⟩ := map_some.mp e2
        subst e4
        obtain ⟨q, vs, rfl, g, rk⟩ := ra
        have hy : y = kV kk := by
          cases b <;> cases e1 <;> exact rb
        rcases rk.get (k := kk) with ⟨h1, _⟩ | ⟨d', v, h1, h2, h3⟩
        · rw [h1] at e3; cases e3
        · rw [h1] at e3; cases e3
          exact ⟨q, v, rfl, .inl ⟨vs, kk, g.l2, hy, h2.symm⟩, k.sc h3⟩
      · cases e
    obtain ⟨c, ρ, ts, tv, r, ρ', s, e, k⟩ := h
    obtain ⟨x, ρ1, y, a, b, e1, e2, e3, e4, e5⟩ := bin_some e
    refine tO_go s e1 fun u H1 s1 hu => tO_go s1 e2 fun w H2 s2 hw => ?_
    obtain ⟨fp, g2⟩ := s2
    obtain ⟨g1, rb⟩ := g2.pop1 hw
    obtain ⟨g0, ra⟩ := g1.pop1 hu
    exact h2 _ _ _ ⟨_, a, b, r, fun p h => g2.zal h, g0.res ra e3, g0.res rb e4, e5, SR.ret g0 k⟩
  · right
    rcases tE_or h with h | h
    · exact .inl (tOp_of h)
    · exact .inr (tOp_of h)
/-! ### slices -/
inductive Part where
  | no
  | ev (f : EF)
def part : Part → Ro → Option (Option Int × Ro)
  | .no, ρ => some (none, ρ)
  | .ev f, ρ => (dv f ρ).bind fun x => match x.1 with | .int i => some (some i, x.2) | _ => none
def tPt (mg : Str → Option Value) : Part → TO
  | .no => tNoPart
  | .ev f => tPart (tE mg f)
def QI (X : Cx) (e : Option Expr) (q : Part) : Prop := PO X e (tPt X.mg q)
theorem q_no : QI X none .no := po_none
theorem q_ev (h : EI X a f) : QI X (some a) (.ev f) := po_some h
theorem tPt_go {mg : Str → Option Value} {c : Fx} {σ : Sg} {H : Hp} {ρ ρ' : Ro} {ts : List D} {tv : List V} {q : Part} {i : Option Int} {Q : Option Int → Hp → Prop} (s : SR mg c σ H ρ ts tv none .non) (e : part q ρ = some (i, ρ')) (k : ∀ H', SR mg c σ H' ρ' ts tv none .non → Q i H') : tPt mg q σ H Q := by
  cases q with
  | no => cases e; exact k H s
  | ev f =>
    obtain ⟨⟨d, ρ1⟩, e1, e2⟩ := bind_some.mp (show (dv f ρ).bind _ = _ from e)
    cases d with
    | int j =>
      cases e2
      refine tE_dv s e1 fun v H1 ⟨fp, g⟩ => ?_
      obtain ⟨v', tv', eq, rep, t⟩ := g.tmp
      cases eq
      have rep : v = .int j := rep
      subst rep
      exact ⟨j, rfl, k H1 ⟨fp, g.pops (xs := [.int j]) (ys := [.int j]) rfl⟩⟩
    | _ => cases e2
def cutD {α : Type} (xs : List α) (lo hi : Option Int) : List α := (xs.drop (HT.sIx xs.length 0 lo)).take (HT.sIx xs.length xs.length hi - HT.sIx xs.length 0 lo)
/-- xs[lo:hi] of a list -/
def slL (o : Opd) (l h : Part) : EF := fun ρ => (ev1 o ρ).bind fun x => (part l x.2).bind fun i => (part h i.2).bind fun j => (res j.2 x.1).bind fun d => match d with
  | .lst xs => some (.l false (cutD xs i.1 j.1), j.2)
  | _ => none
theorem e_slL {lo hi : Option Expr} {q r : Part} {p2 : Pos} (ha : OI X a o) (hl : QI X lo q) (hh : QI X hi r) : EI X (.Subscript a (.Slice lo hi none p2) pos) (slL o q r) := (pe_slice sl_list ha hl hh).imp fun σ H Q h => by
  obtain ⟨c, ρ, ts, tv, rr, ρ', s, e, k⟩ := h
  obtain ⟨⟨x, ρ1⟩, e1, e⟩ := bind_some.mp (show (ev1 o ρ).bind _ = _ from e)
  obtain ⟨⟨i, ρ2⟩, e2, e⟩ := bind_some.mp e
  obtain ⟨⟨j, ρ3⟩, e3, e⟩ := bind_some.mp e
  obtain ⟨d, e4, e⟩ := bind_some.mp e
  cases d with
  | lst xs =>
    cases e
    refine tO_go s e1 fun u H1 s1 hu => tPt_go s1 e2 fun H2 s2 => tPt_go s2 e3 fun H3 ⟨fp, g⟩ => ?_
    obtain ⟨g0, ra⟩ := g.pop1 hu
    obtain ⟨p, vs, rfl, gd, hr⟩ := g0.res ra e4
    refine ⟨p, vs, rfl, .inl gd.l2, fun p hp => (SR.ret (x := .l false (cutD xs i j)) g0 k).l ?_ hp⟩
    unfold cutD cutV
    rw [hr.length]
    exact (hr.drop _).take _
  | _ => cases e
/-- xs[::-1] -/
def revL (o : Opd) : EF := fun ρ => (ev1 o ρ).bind fun x => (res x.2 x.1).bind fun d => match d with
  | .lst xs => some (.l false xs.reverse, x.2)
  | _ => none
theorem e_revL {k : Nat} {p1 p2 p3 : Pos} (ha : OI X a o) : EI X (.Subscript a (.Slice none none (some (.UnaryOp .USub (.Constant (.int 1) k p1) p2)) p3) pos) (revL o) := (pe_revL ha).imp fun σ H Q h => by
  obtain ⟨c, ρ, ts, tv, rr, ρ', s, e, k⟩ := h
  obtain ⟨⟨x, ρ1⟩, e1, e⟩ := bind_some.mp (show (ev1 o ρ).bind _ = _ from e)
  obtain ⟨d, e4, e⟩ := bind_some.mp e
  cases d with
  | lst xs =>
    cases e
    refine tO_go s e1 fun u H1 ⟨fp, g⟩ hu => ?_
    obtain ⟨g0, ra⟩ := g.pop1 hu
    obtain ⟨p, vs, rfl, gd, hr⟩ := g0.res ra e4
    exact ⟨p, vs, rfl, .inl gd.l2, fun p hp => (SR.ret (x := .l false xs.reverse) g0 k).l hr.rev hp⟩
  | _ => cases e
/-! ### displays -/
def lstE (os : List Opd) : EF := fun ρ => (evs os ρ).bind fun x => (onlyD x.1).bind fun ds => if ds.length ≤ 16777216 then some (.l false ds, x.2) else none
def tupE (os : List Opd) : EF := fun ρ => (evs os ρ).bind fun x => (onlyD x.1).bind fun ds => if ds.length ≤ 16777216 then some (.d (.tup ds), x.2) else none
theorem e_lst {es : List Expr} {os : List Opd} {x1} (h : AI X es os) : EI X (.List es x1) (lstE os) := (pe_lst h).imp fun σ H Q h => by
  obtain ⟨c, ρ, ts, tv, r, ρ', s, e, k⟩ := h
  obtain ⟨⟨ss, ρ1⟩, e1, e⟩ := bind_some.mp (show (evs os ρ).bind _ = _ from e)
  obtain ⟨ds, e2, e⟩ := bind_some.mp e
  split at e
  case isFalse => cases e
  rename_i hl
  cases e
  refine ⟨c, ρ, ts, tv, ss, ρ1, s, e1, fun vs H' fp g ra => ?_⟩
  have hr := ra.only e2
  exact ⟨by rw [← hr.length, sizeLine_eq]; exact hl, fun p hp => (SR.ret (x := .l false ds) g k).l hr hp⟩
theorem e_tup {es : List Expr} {os : List Opd} {x1} (h : AI X es os) : EI X (.Tuple es x1 pos) (tupE os) := (pe_tupF h).imp fun σ H Q h => by
  obtain ⟨c, ρ, ts, tv, r, ρ', s, e, k⟩ := h
  obtain ⟨⟨ss, ρ1⟩, e1, e⟩ := bind_some.mp (show (evs os ρ).bind _ = _ from e)
  obtain ⟨ds, e2, e⟩ := bind_some.mp e
  split at e
  case isFalse => cases e
  rename_i hl
  cases e
  refine ⟨c, ρ, ts, tv, ss, ρ1, s, e1, fun vs H' fp g ra => ?_⟩
  have hr := ra.only e2
  exact ⟨by rw [← hr.length, sizeLine_eq]; exact hl, fun p o hp ho => (SR.ret (x := .d (.tup ds)) g k).t (fun p h => g.zal h) hr hp ho⟩
/-- {} -/
def dic0 : EF := fun ρ => some (.k false [], ρ)
theorem e_dic0 : EI X (.Dict [] [] pos) dic0 := pe_dnewK.imp fun σ H Q h => by
  obtain ⟨c, ρ, ts, tv, r, ρ', ⟨fp, g⟩, e, k⟩ := h
  cases e
  exact fun p hp => (SR.ret (x := .k false []) g k).k rfl hp
end
end Tw
end
section
set_option maxRecDepth 100000
/-! layer 11: dicts, lists that grow, built-ins by name -/
namespace Tw
open PySem PySem.Spec PyProof.Rows L2

/-! ### dict displays -/
def mergeD (kvs more : List (Key × D)) : List (Key × D) := more.foldl (fun acc kv => putD acc kv.1 kv.2) kvs
theorem RepK.merge {mg : Str → Option Value} {Z : Addr → Prop} {H : Hp} : ∀ {m : List (Key × D)} {w : List (Key × V)} {x : List (Key × D)} {v : List (Key × V)}, RepK mg Z H m w → RepK mg Z H x v → RepK mg Z H (mergeD x m) (mergeK v w)
  | [], w, x, v, r, s => by rw [show w = [] from r]; exact s
  | (k, d) :: t, w, x, v, ⟨y, w', e, r, q⟩, s => by
    rw [e]
    show RepK mg Z H (mergeD (putD x k d) t) (mergeK (putK v k y) w')
    exact RepK.merge q (s.put r)
inductive PPsI (X : Cx) (pos : Pos) : List (Option Expr) → List Expr → List (EF × EF) → Prop where
  | mk {ks : List (Option Expr)} {vs : List Expr} {fs : List (EF × EF)} (h : PPs X pos ks vs (fs.map fun p => (tE X.mg p.1, tE X.mg p.2))) : PPsI X pos ks vs fs
def pairsE : List (EF × EF) → Ro → Option (List (Key × D) × Ro)
  | [], ρ => some ([], ρ)
  | (f, g) :: r, ρ => (dv f ρ).bind fun x => (toKey x.1).bind fun k => (dv g x.2).bind fun y => (pairsE r y.2).map fun z => ((k, y.1) :: z.1, z.2)
def dicE (ps : List (EF × EF)) : EF := fun ρ => (pairsE ps ρ).bind fun x => if x.1.length ≤ 15 then some (.k false (mergeD [] x.1), x.2) else none
section
variable {X : Cx} {a b : Expr} {o p : Opd} {f g : EF} {pos : Pos}
theorem pp_nil : PPsI X pos [] [] [] := ⟨pps_nil⟩
theorem pp_cons {ks : List (Option Expr)} {vs : List Expr} {fs : List (EF × EF)} (hk : EI X a f) (hv : EI X b g) (hr : PPsI X pos ks vs fs) : PPsI X pos (some a :: ks) (b :: vs) ((f, g) :: fs) := by
  obtain ⟨h⟩ := hr
  exact ⟨pps_cons hk hv h⟩
theorem pairs_go {mg : Str → Option Value} {c : Fx} {σ : Sg} {Q : List (V × V) → Hp → Prop} : ∀ {fs : List (EF × EF)} {H : Hp} {ρ ρ' : Ro} {ts : List D} {tv : List V} {kvs : List (Key × D)}, SR mg c σ H ρ ts tv none .non → pairsE fs ρ = some (kvs, ρ') →
    (∀ H' kws fp, Good mg c σ H' ρ' ts tv none .non fp → RepK mg (Zof c fp) H' kvs kws → Q (kws.map fun kv => (kV kv.1, kv.2)) H') → tPairs (fs.map fun p => (tE mg p.1, tE mg p.2)) σ H Q
  | [], H, ρ, ρ', ts, tv, kvs, ⟨fp, g⟩, e, k => by cases e; exact k H [] fp g rfl
  | (f, g) :: r, H, ρ, ρ', ts, tv, kvs, s, e, k => by
    obtain ⟨⟨x, ρ1⟩, e1, e⟩ := bind_some.mp (show (dv f ρ).bind _ = _ from e)
    obtain ⟨kk, e2, e⟩ := bind_some.mp e
    obtain ⟨⟨y, ρ2⟩, e3, e⟩ := bind_some.mp e
    obtain ⟨⟨z, ρ3⟩, e4, e⟩ := map_some.mp e
    cases e
    refine tE_dv s e1 fun u H1 s1 => tE_dv s1 e3 fun w H2 s2 => pairs_go s2 e4 fun H' kws fp g' rk => ?_
    obtain ⟨w', tw, eq, rw_, rt⟩ := g'.tmp
    cases eq
    obtain ⟨u', tu, eq, ru, rt⟩ := rt
    cases eq
    have hu := toKey_rep ru e2
    subst hu
    exact k H' ((kk, w) :: kws) fp (g'.pops (xs := [y, x]) (ys := [w, kV kk]) rfl) ⟨w, kws, rfl, rw_, rk⟩
theorem e_dic {ks : List (Option Expr)} {vs : List Expr} {fs : List (EF × EF)} (h : PPsI X pos ks vs fs) (hall : ks.all (·.isSome) = true := by rfl) (hl : ks.length = vs.length := by rfl) (h0 : ks ≠ [] := by simp) (h15 : ks.length ≤ 15 := by decide) : EI X (.Dict ks vs pos) (dicE fs) := by
  obtain ⟨h⟩ := h
  refine (pe_disp h hall hl h0 h15).imp fun σ H Q h => ?_
  obtain ⟨c, ρ, ts, tv, r, ρ', s, e, k⟩ := h
  obtain ⟨⟨kvs, ρ1⟩, e1, e⟩ := bind_some.mp (show (pairsE fs ρ).bind _ = _ from e)
  split at e
  case isFalse => cases e
  rename_i hlen
  cases e
  obtain ⟨hz0, hbz⟩ := s.fx
  intro q hq
  have h0' : c.H0 q = none := by obtain ⟨fp, g⟩ := s; exact g.new' hq
  obtain ⟨fp0, g0⟩ := s
  refine pairs_go ⟨fp0, g0.acc0 (o := .dK []) hq⟩ e1 fun H' kws fp g' rk => ?_
  refine ⟨g'.accAt h0' hz0 hbz, kws, rfl, by rw [← rk.len]; exact hlen, k (.ref q) _ ?_⟩
  have g1 := (g'.retmp (T := kvs.map (·.2) ++ ts) (TV := kws.map (·.2) ++ tv) (rk.keys.2.append g'.tmp)).acc1 (o' := .dK (mergeK [] kws)) h0' hz0 hbz
  have t0 := g1.tmp.take (kvs.map (·.2)).length
  have hla : (kvs.map (·.2)).length = (kws.map (·.2)).length := by simpa using rk.len
  rw [List.take_left' rfl, List.take_left' hla.symm] at t0
  have rk1 := repK_of rk.keys.1 t0
  exact ⟨_, (g1.pops hla).acc2 (x := .k false (mergeD [] kvs)) h0' hz0 hbz ⟨q, _, rfl, rfl, upd_same, rk1.merge (x := []) (v := []) rfl⟩ rfl⟩
/-! ### k in d -/
def inK (neg : Bool) : D → D → Option A := fun a b => match b with
  | .dic kvs => (toKey a).map fun k => .d (.bl (if neg = true then !(Tw.getD kvs k).isSome else (Tw.getD kvs k).isSome))
  | _ => none
theorem inK_at {neg : Bool} {Z : Addr → Prop} {H : Hp} {a b : D} {x y : V} {r : A} {mg : Str → Option Value} (ra : RepT mg Z H a x) (rb : RepT mg Z H b y) (e : inK neg a b = some r) : ∃ p o, y = .ref p ∧ DGet H p x o ∧ r = .d (.bl (if neg = true then !o.isSome else o.isSome)) := by
  cases b with
  | dic kvs =>
    obtain ⟨kk, e1, e2⟩ := map_some.mp (show (toKey a).map _ = _ from e)
    obtain ⟨p, vs, rfl, g, rk⟩ := rb
    have hx : x = kV kk := by cases a <;> cases e1 <;> exact ra
    refine ⟨p, valV vs kk, rfl, .inl ⟨vs, kk, g.l2, hx, rfl⟩, ?_⟩
    rw [← e2]
    rcases rk.get (k := kk) with ⟨h1, h2⟩ | ⟨d, v, h1, h2, _⟩ <;> rw [h1, h2] <;> rfl
  | _ => cases e
theorem tIn_of {mg : Str → Option Value} {neg : Bool} {σ : Sg} {H : Hp} {Q : VK} (h : tE mg (bin o p (inK neg)) σ H Q) : tO mg o σ H fun y H1 => tO mg p σ H1 fun x H2 => ∃ a q, x = .ref a ∧ DGet H2 a y q ∧ Q (.bl (if neg = true then !q.isSome else q.isSome)) H2 := by
  obtain ⟨c, ρ, ts, tv, r, ρ', s, e, k⟩ := h
  obtain ⟨x, ρ1, y, a, b, e1, e2, e3, e4, e5⟩ := bin_some e
  refine tO_go s e1 fun u H1 s1 hu => tO_go s1 e2 fun w H2 s2 hw => ?_
  obtain ⟨fp, g2⟩ := s2
  obtain ⟨g1, rb⟩ := g2.pop1 hw
  obtain ⟨g0, ra⟩ := g1.pop1 hu
  obtain ⟨q, oo, rfl, dg, rfl⟩ := inK_at (g0.res ra e3) (g0.res rb e4) e5
  exact ⟨q, oo, rfl, dg, k _ H2 ⟨_, g0.put (x := .bl _) (u := .bl _) rfl⟩⟩
theorem c_inK (hu : X.A.units + 1 < cLine) (ha : OI X a o) (hb : OI X b p) : PC X .In a b (tE X.mg (bin o p (inK false))) := by
  have h := pc_din hu ha hb
  refine ⟨fun pins s σ H Q I w => h.run pins s σ H Q I ?_⟩
  exact tIn_of w
theorem c_ninK (hu : X.A.units + 1 < cLine) (ha : OI X a o) (hb : OI X b p) : PC X .NotIn a b (tE X.mg (bin o p (inK true))) := by
  have h := pc_dnotin hu ha hb
  refine ⟨fun pins s σ H Q I w => h.run pins s σ H Q I ?_⟩
  exact tIn_of w
theorem e_inK (hu : X.A.units + 1 < cLine) (ha : OI X a o) (hb : OI X b p) (hm : behindInMarks .In b = false := by rfl) : EI X (.Compare a [.In] [b] pos) (bin o p (inK false)) := pe_cmp (c_inK hu ha hb) hm
theorem e_ninK (hu : X.A.units + 1 < cLine) (ha : OI X a o) (hb : OI X b p) (hm : behindInMarks .NotIn b = false := by rfl) : EI X (.Compare a [.NotIn] [b] pos) (bin o p (inK true)) := pe_cmp (c_ninK hu ha hb) hm
theorem t_inK (hu : X.A.units + 1 < cLine) (ha : OI X a o) (hb : OI X b p) (hm : behindInMarks .In b = false := by rfl) : TI X (.Compare a [.In] [b] pos) (asB (bin o p (inK false))) := (pt_cmp (c_inK hu ha hb) hm).imp fun _ _ _ h => tB_of h
theorem t_ninK (hu : X.A.units + 1 < cLine) (ha : OI X a o) (hb : OI X b p) (hm : behindInMarks .NotIn b = false := by rfl) : TI X (.Compare a [.NotIn] [b] pos) (asB (bin o p (inK true))) := (pt_cmp (c_ninK hu ha hb) hm).imp fun _ _ _ h => tB_of h
/-! ### d.get, d.pop -/
def isDic : D → Bool
  | .dic _ => true
  | _ => false
def dicD : D → Option (List (Key × D))
  | .dic kvs => some kvs
  | _ => none
def getE (o p : Opd) : EF := fun ρ => (ev1 o ρ).bind fun x => (res x.2 x.1).bind fun d0 => if isDic d0 = true then (ev1 p x.2).bind fun y => (res y.2 x.1).bind fun d => (dicD d).bind fun kvs => (res y.2 y.1).bind fun kd => (toKey kd).map fun k => (.d ((Tw.getD kvs k).getD .non), y.2) else none
theorem isD_of {mg : Str → Option Value} {Z : Addr → Prop} {H : Hp} {d : D} {v : V} (h : RepT mg Z H d v) (e : isDic d = true) : ∃ a, v = .ref a ∧ IsD H a := by
  cases d with
  | dic kvs => obtain ⟨a, vs, rfl, g, _⟩ := h; exact ⟨a, rfl, .inl ⟨vs, g.l2⟩⟩
  | _ => cases e
theorem dget_of {mg : Str → Option Value} {Z : Addr → Prop} {H : Hp} {d kd : D} {v y : V} {kvs : List (Key × D)} {k : Key} (h : RepT mg Z H d v) (e : dicD d = some kvs) (hk : RepT mg Z H kd y) (ek : toKey kd = some k) {a : Addr} (ha : v = .ref a) :
    y = kV k ∧ ∃ vs, Rd H a (.dK vs) ∧ RepK mg Z H kvs vs := by
  cases d with
  | dic kvs' =>
    cases e
    obtain ⟨b, vs, e2, g, rk⟩ := h
    rw [ha] at e2; cases e2
    refine ⟨?_, vs, g, rk⟩
    cases kd <;> cases ek <;> exact hk
  | _ => cases e
theorem e_get {apos cpos : Pos} (hu : X.A.units + 1 < cLine) (ha : OI X a o) (hb : OI X b p) (m : M1 X a "get" apos b cpos := by exact ⟨rfl, rfl, rfl, rfl⟩) : EI X (.Call (.Attribute a "get" apos) [b] [] cpos) (getE o p) := (pe_dget1 hu ha hb m).imp fun σ H Q h => by
  obtain ⟨c, ρ, ts, tv, r, ρ', s, e, k⟩ := h
  obtain ⟨⟨x, ρ1⟩, e1, e⟩ := bind_some.mp (show (ev1 o ρ).bind _ = _ from e)
  obtain ⟨d0, e2, e⟩ := bind_some.mp e
  split at e
  case isFalse => cases e
  rename_i hd
  obtain ⟨⟨y, ρ2⟩, e3, e⟩ := bind_some.mp e
  obtain ⟨d, e4, e⟩ := bind_some.mp e
  obtain ⟨kvs, e5, e⟩ := bind_some.mp e
  obtain ⟨kd, e6, e⟩ := bind_some.mp e
  obtain ⟨kk, e7, e⟩ := map_some.mp e
  cases e
  refine tO_go s e1 fun u H1 s1 hu => ?_
  obtain ⟨fp1, g1⟩ := id s1
  obtain ⟨g1', ra1⟩ := g1.pop1 hu
  obtain ⟨a, rfl, isd⟩ := isD_of (g1'.res ra1 e2) hd
  refine ⟨a, rfl, isd, tO_go s1 e3 fun w H2 s2 hw => ?_⟩
  obtain ⟨fp, g2⟩ := s2
  obtain ⟨g1, rb⟩ := g2.pop1 hw
  obtain ⟨g0, ra⟩ := g1.pop1 hu
  obtain ⟨hy, vs, gd, rk⟩ := dget_of (g0.res ra e4) e5 (g0.res rb e6) e7 rfl
  refine ⟨valV vs kk, .inl ⟨vs, kk, gd.l2, hy, rfl⟩, ?_⟩
  rcases rk.get (k := kk) with ⟨h1, h2⟩ | ⟨d', v, h1, h2, h3⟩
  · rw [h1] at k; rw [h2]; exact k _ H2 ⟨_, g0.put (x := .non) (u := .non) rfl⟩
  · rw [h1] at k; rw [h2]; exact k _ H2 ⟨_, g0.put h3⟩
/-- d.pop(k, x) of a slot's own dict -/
def popE (i : Nat) (p q : Opd) : EF := fun ρ => (peek ρ i).bind fun d0 => if isDic d0 = true then (ev1 p ρ).bind fun y => (ev1 q y.2).bind fun z => (res z.2 y.1).bind fun kd => (toKey kd).bind fun k => (match z.1 with | .inl dd => some dd | .inr _ => none).bind fun dd => match at_ z.2 i with
  | some (.k b kvs) => some (.d ((Tw.getD kvs k).getD dd), if (Tw.getD kvs k).isSome = true then z.2.set i (some (.k b (delD kvs k))) else z.2)
  | _ => none else none
theorem Good.writeK {mg : Str → Option Value} {c : Fx} {σ : Sg} {H : Hp} {ρ : Ro} {ts : List D} {tv : List V} {r : Option A} {v : V} {fp : Pl → List Addr} {i : Nat} {bb : Bool} {kvs kvs' : List (Key × D)} (g : Good mg c σ H ρ ts tv r v fp) (hx : at_ ρ i = some (.k bb kvs)) :
    ∃ a vs, atS σ i = some (.ref a) ∧ H a = some (.dK vs) ∧ RepK mg (Zof c fp) H kvs vs ∧ ∀ vs', RepK mg (Zof c fp) H kvs' vs' → ∃ fp', Good mg c σ (upd H a (.dK vs')) (ρ.set i (some (.k bb kvs'))) ts tv r v fp' ∧ ∀ d u, Rep mg (Zof c fp) H d u → Rep mg (Zof c fp') (upd H a (.dK vs')) d u := by
  obtain ⟨u, hu, a, vs, rfl, hf, ho, rk⟩ := g.ent (some i) _ hx
  refine ⟨a, vs, hu, ho, rk, fun vs' rk' => ?_⟩
  have hz : ∀ b, Zof c (fpS fp i [a]) b ↔ Zof c fp b := fun b => by
    have : fpS fp i [a] = fp := by
      funext p
      by_cases hp : p = some i
      · subst hp; rw [fpS_self, hf]
      · exact fpS_ne hp
    rw [this]
  have lift : ∀ b w, ¬ Zof c fp b → Rd H b w → ¬ Zof c (fpS fp i [a]) b ∧ Rd (upd H a (.dK vs')) b w := fun b w z h => by
    refine ⟨fun q => z ((hz b).mp q), ?_⟩
    have hne : b ≠ a := fun e => z (.inr ⟨some i, by rw [hf, e]; exact List.mem_cons_self⟩)
    rcases h with h | ⟨q, h, l⟩
    · exact .inl (by rw [upd_ne hne]; exact h)
    · exact .inr ⟨q, by rw [upd_ne hne]; exact h, l⟩
  refine ⟨fpS fp i [a], g.write (x' := .k bb kvs') (q := [a]) hx hu (fun b o e hb => ?_) (fun b hb => ?_) rfl (by simp) (fun b hb => .inl (by rw [hf]; exact hb)) ⟨a, vs', rfl, rfl, upd_same, rk'.mono lift⟩, fun d u r => r.mono lift⟩
  · have hne : b ≠ a := fun e => hb (by rw [hf, e]; exact List.mem_cons_self)
    rw [upd_ne hne]; exact e
  · by_cases e : b = a
    · subst e; rw [upd_same]; simp
    · rw [upd_ne e]; exact hb
theorem e_pop (i : Nat) {x : Str} {px apos cpos : Pos} (hb : OI X a o) (hd : OI X b p) (hN : X.N[i]? = some x := by rfl) (hv : Vis X.env.scope x := by first | exact Or.inl rfl | exact Or.inr (Or.inl rfl) | exact Or.inr (Or.inr rfl)) (hdb : (x == ("__debug__" : Str)) = false := by decide)
    (hcd : (x == ("__classdict__" : Str)) = false := by decide) (m : M2 X (.Name x px) "pop" apos a b cpos := by exact ⟨rfl, rfl, rfl, rfl⟩) : EI X (.Call (.Attribute (.Name x px) "pop" apos) [a, b] [] cpos) (popE i o p) := (pe_dpop2 (pe_var hN hv hdb hcd) hb hd m).imp fun σ H Q h => by
  obtain ⟨c, ρ, ts, tv, r, ρ', s, e, k⟩ := h
  obtain ⟨d0, e0, e⟩ := bind_some.mp (show (peek ρ i).bind _ = _ from e)
  split at e
  case isFalse => cases e
  rename_i hdic
  obtain ⟨⟨y, ρ1⟩, e1, e⟩ := bind_some.mp e
  obtain ⟨⟨z, ρ2⟩, e2, e⟩ := bind_some.mp e
  obtain ⟨kd, e3, e⟩ := bind_some.mp e
  obtain ⟨kk, e4, e⟩ := bind_some.mp e
  obtain ⟨dd, e5, e⟩ := bind_some.mp e
  split at e
  case h_2 => cases e
  rename_i bb kvs hat
  cases e
  obtain ⟨u, hu⟩ : ∃ u, atS σ i = some u := by
    obtain ⟨fp, g⟩ := id s
    unfold peek at e0
    obtain ⟨x0, e7, _⟩ := bind_some.mp e0
    obtain ⟨u, hu, _⟩ := g.ent (some i) x0 e7
    exact ⟨u, hu⟩
  obtain ⟨fp0, gg⟩ := id s
  obtain ⟨a, rfl, isd⟩ := isD_of (gg.peek e0 hu) hdic
  refine ⟨.ref a, atS_of.mp hu, a, rfl, isd, tO_go s e1 fun w H1 s1 hw => tO_go s1 e2 fun w2 H2 s2 hw2 => ?_⟩
  obtain ⟨fp, g2⟩ := s2
  obtain ⟨g1, rb⟩ := g2.pop1 hw2
  obtain ⟨g0, ra⟩ := g1.pop1 hw
  obtain ⟨a', vs, hu', ho, rk, wr⟩ := g0.writeK (kvs' := delD kvs kk) hat
  cases hu.symm.trans hu'
  have hy : w = kV kk := by
    have h := g0.res ra e3
    cases kd <;> cases e4 <;> exact h
  have hz : Rep X.mg (Zof c fp) H2 dd w2 := by
    cases z with
    | inl q => cases e5; exact rb
    | inr q => cases e5
  refine ⟨vs, kk, ho, hy, fun v hv => ?_, fun hv => ?_⟩
  · rcases rk.get (k := kk) with ⟨h1, h2⟩ | ⟨d', v', h1, h2, h3⟩
    · rw [h2] at hv; cases hv
    · cases h2.symm.trans hv
      rw [h1] at k
      obtain ⟨fp', g3, lift⟩ := wr _ rk.del
      exact k _ _ ⟨_, g3.put (lift _ _ h3)⟩
  · rcases rk.get (k := kk) with ⟨h1, h2⟩ | ⟨d', v', h1, h2, h3⟩
    · rw [h1] at k
      exact k _ H2 ⟨_, g0.put hz⟩
    · rw [h2] at hv; cases hv
end
end Tw
end
section
set_option maxRecDepth 100000
/-! layer 12: built-ins -/
namespace Tw
open PySem PySem.Spec PyProof.Rows L2

/-! ### sorted texts -/
def leS (x y : Str) : Bool := !ltCps y.cps.toList x.cps.toList
def insS (x : Str) : List Str → List Str
  | [] => [x]
  | y :: r => if leS x y = true then x :: y :: r else y :: insS x r
def sortS (xs : List Str) : List Str := xs.foldr insS []
theorem leS_iff {x y : Str} : leS x y = true ↔ x.cps.toList ≤ y.cps.toList := by
  unfold leS
  rw [ltCps_eq]
  simp [List.not_lt]
theorem leS_trans {x y z : Str} (h : leS x y = true) (k : leS y z = true) : leS x z = true := leS_iff.mpr (List.le_trans (leS_iff.mp h) (leS_iff.mp k))
theorem leS_anti {x y : Str} (h : leS x y = true) (k : leS y x = true) : x = y := by
  have e := List.le_antisymm (leS_iff.mp h) (leS_iff.mp k)
  cases x; cases y
  simp only [PySem.Str.mk.injEq]
  exact Array.toList_inj.mp e
theorem leS_total {x y : Str} (h : ¬ leS x y = true) : leS y x = true := leS_iff.mpr ((List.le_total x.cps.toList y.cps.toList).resolve_left fun w => h (leS_iff.mpr w))
theorem risingS_pw : ∀ {x : Str} {r : List Str}, risingS x r = true → (x :: r).Pairwise fun a b => leS a b = true
  | x, [], _ => List.pairwise_singleton ..
  | x, y :: r, h => by
    have h' : (!ltCps y.cps.toList x.cps.toList && risingS y r) = true := h
    rw [Bool.and_eq_true] at h'
    have t := risingS_pw h'.2
    refine List.pairwise_cons.mpr ⟨fun z hz => ?_, t⟩
    rcases List.mem_cons.mp hz with rfl | hz
    · exact h'.1
    · exact leS_trans h'.1 ((List.pairwise_cons.mp t).1 z hz)
theorem sortedS_pw {r : List Str} (h : sortedS r = true) : r.Pairwise fun a b => leS a b = true := by
  cases r with
  | nil => exact .nil
  | cons x r => exact risingS_pw h
theorem insS_perm (x : Str) : ∀ r : List Str, (insS x r).Perm (x :: r)
  | [] => .refl _
  | y :: r => by
    unfold insS
    split
    · exact .refl _
    · exact ((insS_perm x r).cons y).trans (.swap ..)
theorem insS_pw (x : Str) : ∀ {r : List Str}, (r.Pairwise fun a b => leS a b = true) → (insS x r).Pairwise fun a b => leS a b = true
  | [], _ => List.pairwise_singleton ..
  | y :: r, h => by
    unfold insS
    split
    · rename_i hxy
      refine List.pairwise_cons.mpr ⟨fun z hz => ?_, h⟩
      rcases List.mem_cons.mp hz with rfl | hz
      · exact hxy
      · exact leS_trans hxy ((List.pairwise_cons.mp h).1 z hz)
    · rename_i hxy
      refine List.pairwise_cons.mpr ⟨fun z hz => ?_, insS_pw x (List.pairwise_cons.mp h).2⟩
      rcases List.mem_cons.mp ((insS_perm x r).mem_iff.mp hz) with rfl | hz
      · exact leS_total hxy
      · exact (List.pairwise_cons.mp h).1 z hz
theorem sortS_perm : ∀ xs : List Str, (sortS xs).Perm xs
  | [] => .refl _
  | x :: r => (insS_perm x _).trans ((sortS_perm r).cons x)
theorem sortS_pw : ∀ xs : List Str, (sortS xs).Pairwise fun a b => leS a b = true
  | [] => .nil
  | x :: r => insS_pw x (sortS_pw r)
theorem pw_uniq : ∀ {xs ys : List Str}, xs.Perm ys → (xs.Pairwise fun a b => leS a b = true) → (ys.Pairwise fun a b => leS a b = true) → xs = ys
  | [], ys, h, _, _ => h.nil_eq
  | x :: xs, [], h, _, _ => absurd h.length_eq (by simp)
  | x :: xs, y :: ys, h, hx, hy => by
    have e : x = y := by
      have h1 : x ∈ y :: ys := h.mem_iff.mp List.mem_cons_self
      have h2 : y ∈ x :: xs := h.mem_iff.mpr List.mem_cons_self
      rcases List.mem_cons.mp h1 with e | h1
      · exact e
      · rcases List.mem_cons.mp h2 with e | h2
        · exact e.symm
        · exact leS_anti ((List.pairwise_cons.mp hx).1 y h2) ((List.pairwise_cons.mp hy).1 x h1)
    subst e
    rw [pw_uniq (List.perm_cons x |>.mp h) (List.pairwise_cons.mp hx).2 (List.pairwise_cons.mp hy).2]
theorem sortS_uniq {xs ys : List Str} (hp : ys.Perm xs) (hs : sortedS ys = true) : ys = sortS xs := pw_uniq (hp.trans (sortS_perm xs).symm) (sortedS_pw hs) (sortS_pw xs)

/-! ### lists of one kind -/
def mapO {α β : Type} (f : α → Option β) : List α → Option (List β)
  | [] => some []
  | a :: r => (f a).bind fun x => (mapO f r).map fun y => x :: y
def intD : D → Option Int
  | .int i => some i
  | _ => none
def strD : D → Option Str
  | .str i => some i
  | _ => none
def blD : D → Option Bool
  | .bl i => some i
  | _ => none
section
variable {mg : Str → Option Value} {Z : Addr → Prop} {H : Hp}
theorem reps_map {β : Type} {f : D → Option β} {g : β → V} (hf : ∀ d b v, f d = some b → Rep mg Z H d v → v = g b) : ∀ {xs : List D} {vs : List V} {bs : List β}, Reps mg Z H xs vs → mapO f xs = some bs → vs = bs.map g
  | [], vs, bs, r, e => by cases e; exact r
  | d :: t, vs, bs, ⟨v, w, e1, r, q⟩, e => by
    obtain ⟨b, e2, e3⟩ := bind_some.mp (show (f d).bind _ = _ from e)
    obtain ⟨bs', e4, e5⟩ := map_some.mp e3
    cases e5
    rw [e1, hf d b v e2 r, reps_map hf q e4]
    rfl
theorem intD_v (d : D) (b : Int) (v : V) (e : intD d = some b) (r : Rep mg Z H d v) : v = .int b := by
  cases d <;> cases e; exact r
theorem strD_v (d : D) (b : Str) (v : V) (e : strD d = some b) (r : Rep mg Z H d v) : v = .str b := by
  cases d <;> cases e; exact r
theorem blD_v (d : D) (b : Bool) (v : V) (e : blD d = some b) (r : Rep mg Z H d v) : v = .bl b := by
  cases d <;> cases e; exact r
theorem mapO_len {α β : Type} {f : α → Option β} : ∀ {xs : List α} {ys : List β}, mapO f xs = some ys → ys.length = xs.length
  | [], ys, e => by cases e; rfl
  | a :: r, ys, e => by
    obtain ⟨b, e2, e3⟩ := bind_some.mp (show (f a).bind _ = _ from e)
    obtain ⟨bs', e4, e5⟩ := map_some.mp e3
    cases e5
    rw [List.length_cons, List.length_cons, mapO_len e4]
theorem repK_len : ∀ {x : List (Key × D)} {v : List (Key × V)}, RepK mg Z H x v → x.length = v.length
  | [], v, r => by rw [show v = [] from r]; rfl
  | (k, d) :: t, v, ⟨u, w, e, r, q⟩ => by rw [e, List.length_cons, List.length_cons, repK_len q]
theorem arg1 {d : D} {xs : List V} (h : RepTs mg Z H [d] xs) : ∃ v, xs = [v] ∧ RepT mg Z H d v := by
  obtain ⟨v, w, e, r, q⟩ := h
  cases q
  exact ⟨v, e, r⟩
theorem arg2 {d d' : D} {xs : List V} (h : RepTs mg Z H [d, d'] xs) : ∃ v v', xs = [v, v'] ∧ RepT mg Z H d v ∧ RepT mg Z H d' v' := by
  obtain ⟨v, w, e, r, q⟩ := h
  obtain ⟨v', e', r'⟩ := arg1 q
  exact ⟨v, v', by rw [e, e'], r, r'⟩
/-- a list or a tuple that is looked at -/
theorem RepT.seq {b : D} {xs : List D} {y : V} {K : PySem.W.Frag} (rb : RepT mg Z H b y) (e : itemsOf b = some xs) : ∃ p vs, y = .ref p ∧ (SqL K H p vs ∨ SqT K H p vs) ∧ Reps mg Z H xs vs := by
  cases b with
  | lst ys => cases e; obtain ⟨p, vs, rfl, g, r⟩ := rb; exact ⟨p, vs, rfl, .inl (.inl g.l2), r⟩
  | tup ys => cases e; obtain ⟨p, vs, o, rfl, _, _, g, r⟩ := rb; exact ⟨p, vs, rfl, .inr (.inl g.frz2), r⟩
  | _ => cases e
end
def maxL : Int → List Int → Int
  | m, [] => m
  | m, x :: r => maxL (if x > m then x else m) r
theorem maxL_ge : ∀ (r : List Int) (m : Int), m ≤ maxL m r
  | [], m => Int.le_refl _
  | x :: r, m => by
    refine Int.le_trans ?_ (maxL_ge r (if x > m then x else m))
    split <;> omega
theorem maxL_mem : ∀ (r : List Int) (m : Int), maxL m r ∈ m :: r
  | [], m => List.mem_cons_self
  | x :: r, m => by
    have := maxL_mem r (if x > m then x else m)
    show maxL _ r ∈ _
    rcases List.mem_cons.mp this with e | h
    · rw [e]
      split
      · exact List.mem_cons_of_mem _ List.mem_cons_self
      · exact List.mem_cons_self
    · exact List.mem_cons_of_mem _ (List.mem_cons_of_mem _ h)
theorem maxL_all : ∀ (r : List Int) (m y : Int), y ∈ m :: r → y ≤ maxL m r
  | [], m, y, h => by rw [List.mem_singleton.mp h]; exact Int.le_refl _
  | x :: r, m, y, h => by
    show y ≤ maxL _ r
    rcases List.mem_cons.mp h with e | h
    · refine Int.le_trans ?_ (maxL_ge r (if x > m then x else m))
      split <;> omega
    · rcases List.mem_cons.mp h with e | h
      · refine Int.le_trans ?_ (maxL_ge r (if x > m then x else m))
        split <;> omega
      · exact maxL_all r _ y (List.mem_cons_of_mem _ h)

/-! ### the calls -/
def lenD : List D → Option A
  | [.lst xs] => some (.d (.int xs.length))
  | [.tup xs] => some (.d (.int xs.length))
  | [.dic xs] => some (.d (.int xs.length))
  | [.str x] => if x.length ≤ 16777216 then some (.d (.int x.length)) else none
  | _ => none
def absD : List D → Option A
  | [.int i] => some (.d (.int (if i < 0 then -i else i)))
  | _ => none
def intC : List D → Option A
  | [.int i] => some (.d (.int i))
  | [.bl b] => some (.d (.int (if b then 1 else 0)))
  | _ => none
def strC : List D → Option A
  | [.int i] => if i.natAbs.log2 < 1920 then some (.d (.str (Str.ofString (toString i)))) else none
  | _ => none
def sumD : List D → Option A
  | [.lst xs] => (mapO intD xs).map fun ns => .d (.int ns.sum)
  | _ => none
def maxD : List D → Option A
  | [.lst xs] => (mapO intD xs).bind fun ns => match ns with | [] => none | n :: r => some (.d (.int (maxL n r)))
  | [.int i, .int j] => some (.d (.int (if j > i then j else i)))
  | _ => none
def minD : List D → Option A
  | [.int i, .int j] => some (.d (.int (if j < i then j else i)))
  | _ => none
def allD : List D → Option A
  | [.lst xs] => (mapO blD xs).map fun bs => .d (.bl (bs.all id))
  | _ => none
def anyD : List D → Option A
  | [.lst xs] => (mapO blD xs).map fun bs => .d (.bl (bs.any id))
  | _ => none
def strK : Key → Option Str
  | .inr x => some x
  | _ => none
def sortD : List D → Option A
  | [.lst xs] => (mapO strD xs).bind fun ss => if ss.length < 64 then some (.l false ((sortS ss).map D.str)) else none
  | [.dic kvs] => (mapO (fun kv => strK kv.1) kvs).bind fun ss => if ss.length < 64 then some (.l false ((sortS ss).map D.str)) else none
  | _ => none
def listD : List D → Option A
  | [.lst xs] => some (.l false xs)
  | [.tup xs] => some (.l false xs)
  | [.dic kvs] => some (.l false (kvs.map fun kv => kD kv.1))
  | _ => none
def tupleD : List D → Option A
  | [.lst xs] => some (.d (.tup xs))
  | [.tup xs] => some (.d (.tup xs))
  | _ => none
def pairD : D → Option (Key × D)
  | .tup [k, x] => (toKey k).map fun q => (q, x)
  | _ => none
def dictD : List D → Option A
  | [.lst xs] => (mapO pairD xs).map fun kvs => .k false (mergeD [] kvs)
  | [.tup xs] => (mapO pairD xs).map fun kvs => .k false (mergeD [] kvs)
  | [.dic kvs] => some (.k false kvs)
  | _ => none
section
variable {X : Cx}
theorem cD_len : CallD X (.builtin "len") lenD := by
  intro pins s σ H xs us Q I r h
  obtain ⟨Z, ds, x, hz, ra, e, k⟩ := h
  unfold lenD at e
  split at e
  · rename_i ys
    cases e
    obtain ⟨v, rfl, p, vs, rfl, g, rr⟩ := arg1 ra
    exact call_len pins s σ H _ us Q I r ⟨_, vs.length, rfl, .inl ⟨vs, .inl g.l2, rfl⟩, by rw [← rr.length]; exact k.sc rfl⟩
  · rename_i ys
    cases e
    obtain ⟨v, rfl, p, vs, o, rfl, _, _, g, rr⟩ := arg1 ra
    exact call_len pins s σ H _ us Q I r ⟨_, vs.length, rfl, .inr ⟨vs, .inl g.frz2, rfl⟩, by rw [← rr.length]; exact k.sc rfl⟩
  · rename_i ys
    cases e
    obtain ⟨v, rfl, p, vs, rfl, g, rr⟩ := arg1 ra
    obtain ⟨u, rfl, ru⟩ := vals1 r
    cases ru
    exact d_len I g.l2 fun t s' I' => ⟨.int vs.length, H, I', ⟨t, rfl⟩, by rw [← repK_len rr]; exact k.sc rfl⟩
  · rename_i y
    split at e
    · rename_i hl
      cases e
      obtain ⟨v, rfl, rv⟩ := arg1 ra
      have rv : v = .str y := rv
      subst rv
      exact call_len pins s σ H _ us Q I r ⟨_, y.length, rfl, ⟨by rw [sizeLine_eq]; exact hl, rfl⟩, k.sc rfl⟩
    · cases e
  · cases e
theorem cD_abs : CallD X (.builtin "abs") absD := by
  intro pins s σ H xs us Q I r h
  obtain ⟨Z, ds, x, hz, ra, e, k⟩ := h
  unfold absD at e
  split at e
  · rename_i i
    cases e
    obtain ⟨v, rfl, rv⟩ := arg1 ra
    have rv : v = .int i := rv
    subst rv
    exact call_abs pins s σ H _ us Q I r ⟨i, rfl, k.sc rfl⟩
  · cases e
theorem cD_int : CallD X (.type "int") intC := by
  intro pins s σ H xs us Q I r h
  obtain ⟨Z, ds, x, hz, ra, e, k⟩ := h
  unfold intC at e
  split at e
  · rename_i i
    cases e
    obtain ⟨v, rfl, rv⟩ := arg1 ra
    have rv : v = .int i := rv
    subst rv
    exact call_int1 pins s σ H _ us Q I r (.inl ⟨i, rfl, k.sc rfl⟩)
  · rename_i i
    cases e
    obtain ⟨v, rfl, rv⟩ := arg1 ra
    have rv : v = .bl i := rv
    subst rv
    exact call_int1 pins s σ H _ us Q I r (.inr ⟨i, rfl, k.sc rfl⟩)
  · cases e
theorem cD_str : CallD X (.type "str") strC := by
  intro pins s σ H xs us Q I r h
  obtain ⟨Z, ds, x, hz, ra, e, k⟩ := h
  unfold strC at e
  split at e
  · rename_i i
    split at e
    · rename_i hl
      cases e
      obtain ⟨v, rfl, rv⟩ := arg1 ra
      have rv : v = .int i := rv
      subst rv
      exact call_str_int pins s σ H _ us Q I r ⟨i, rfl, hl, k.sc rfl⟩
    · cases e
  · cases e
theorem cD_sum (hc : X.calm = true) : CallD X (.builtin "sum") sumD := by
  intro pins s σ H xs us Q I r h
  obtain ⟨Z, ds, x, hz, ra, e, k⟩ := h
  unfold sumD at e
  split at e
  · obtain ⟨ns, e1, e2⟩ := map_some.mp e
    cases e2
    obtain ⟨v, rfl, p, vs, rfl, g, rr⟩ := arg1 ra
    rw [reps_map intD_v rr e1] at g
    exact cr_sum hc pins s σ H _ us Q I r ⟨p, ns, rfl, .inl g.l2, k.sc rfl⟩
  · cases e
theorem cD_max (hc : X.calm = true) : CallD X (.builtin "max") maxD := by
  intro pins s σ H xs us Q I r h
  obtain ⟨Z, ds, x, hz, ra, e, k⟩ := h
  unfold maxD at e
  split at e
  · obtain ⟨ns, e1, e2⟩ := bind_some.mp e
    obtain ⟨v, rfl, p, vs, rfl, g, rr⟩ := arg1 ra
    rw [reps_map intD_v rr e1] at g
    cases ns with
    | nil => cases e2
    | cons n t =>
      cases e2
      refine cr_max hc pins s σ H _ us Q I r ⟨p, n :: t, rfl, .inl g.l2, by simp, fun m hm hy => ?_⟩
      have : m = maxL n t := Int.le_antisymm (maxL_all t n m hm) (hy _ (maxL_mem t n))
      rw [this]
      exact k.sc rfl
  · rename_i i j
    cases e
    obtain ⟨v, v', rfl, r1, r2⟩ := arg2 ra
    have r1 : v = .int i := r1
    have r2 : v' = .int j := r2
    subst r1; subst r2
    exact call_max2 hc pins s σ H _ us Q I r ⟨i, j, rfl, k.sc rfl⟩
  · cases e
theorem cD_min (hc : X.calm = true) : CallD X (.builtin "min") minD := by
  intro pins s σ H xs us Q I r h
  obtain ⟨Z, ds, x, hz, ra, e, k⟩ := h
  unfold minD at e
  split at e
  · rename_i i j
    cases e
    obtain ⟨v, v', rfl, r1, r2⟩ := arg2 ra
    have r1 : v = .int i := r1
    have r2 : v' = .int j := r2
    subst r1; subst r2
    exact call_min2 hc pins s σ H _ us Q I r ⟨i, j, rfl, k.sc rfl⟩
  · cases e
theorem cD_all (hc : X.calm = true) : CallD X (.builtin "all") allD := by
  intro pins s σ H xs us Q I r h
  obtain ⟨Z, ds, x, hz, ra, e, k⟩ := h
  unfold allD at e
  split at e
  · obtain ⟨ns, e1, e2⟩ := map_some.mp e
    cases e2
    obtain ⟨v, rfl, p, vs, rfl, g, rr⟩ := arg1 ra
    rw [reps_map blD_v rr e1] at g
    exact cr_all hc pins s σ H _ us Q I r ⟨p, ns, rfl, .inl g.l2, k.sc rfl⟩
  · cases e
theorem cD_any (hc : X.calm = true) : CallD X (.builtin "any") anyD := by
  intro pins s σ H xs us Q I r h
  obtain ⟨Z, ds, x, hz, ra, e, k⟩ := h
  unfold anyD at e
  split at e
  · obtain ⟨ns, e1, e2⟩ := map_some.mp e
    cases e2
    obtain ⟨v, rfl, p, vs, rfl, g, rr⟩ := arg1 ra
    rw [reps_map blD_v rr e1] at g
    exact cr_any hc pins s σ H _ us Q I r ⟨p, ns, rfl, .inl g.l2, k.sc rfl⟩
  · cases e
theorem strs_rep {mg : Str → Option Value} {Z : Addr → Prop} {H : Hp} : ∀ xs : List Str, Reps mg Z H (xs.map D.str) (xs.map V.str)
  | [] => rfl
  | x :: r => ⟨_, _, rfl, rfl, strs_rep r⟩
theorem repK_strs {mg : Str → Option Value} {Z : Addr → Prop} {H : Hp} : ∀ {kvs : List (Key × D)} {vs : List (Key × V)} {ss : List Str}, RepK mg Z H kvs vs → mapO (fun kv : Key × D => strK kv.1) kvs = some ss → vs.map (·.1) = ss.map Sum.inr
  | [], vs, ss, r, e => by cases e; rw [show vs = [] from r]; rfl
  | (k, d) :: t, vs, ss, ⟨v, w, e1, r, q⟩, e => by
    obtain ⟨b, e2, e3⟩ := bind_some.mp (show (strK k).bind _ = _ from e)
    obtain ⟨bs', e4, e5⟩ := map_some.mp e3
    cases e5
    cases k with
    | inl i => cases e2
    | inr x =>
      cases e2
      rw [e1, List.map_cons, repK_strs q e4]
      rfl
theorem cD_sorted (hc : X.calm = true) : CallD X (.builtin "sorted") sortD := by
  intro pins s σ H xs us Q I r h
  obtain ⟨Z, ds, x, hz, ra, e, k⟩ := h
  unfold sortD at e
  split at e
  · obtain ⟨ns, e1, e2⟩ := bind_some.mp e
    split at e2
    · rename_i hl
      cases e2
      obtain ⟨v, rfl, p, vs, rfl, g, rr⟩ := arg1 ra
      rw [reps_map strD_v rr e1] at g
      refine cr_sortedS pins s σ H _ us Q I r ⟨p, ns, rfl, .inl g.l2, hl, fun ys q hp hs hn => ?_⟩
      rw [sortS_uniq hp hs]
      exact k.l (strs_rep _) hn
    · cases e2
  · obtain ⟨ns, e1, e2⟩ := bind_some.mp e
    split at e2
    · rename_i hl
      cases e2
      obtain ⟨v, rfl, p, vs, rfl, g, rr⟩ := arg1 ra
      refine call_sortedD hc pins s σ H _ us Q I r ⟨p, vs, ns, rfl, g.l2, repK_strs rr e1, hl, fun ys q hp hs hn => ?_⟩
      rw [sortS_uniq hp hs]
      exact k.l (strs_rep _) hn
    · cases e2
  · cases e
theorem repK_keys {mg : Str → Option Value} {Z : Addr → Prop} {H : Hp} : ∀ {kvs : List (Key × D)} {vs : List (Key × V)}, RepK mg Z H kvs vs → Reps mg Z H (kvs.map fun kv => kD kv.1) (vs.map fun kv => kV kv.1)
  | [], vs, r => by rw [show vs = [] from r]; rfl
  | (k, d) :: t, vs, ⟨v, w, e1, r, q⟩ => by
    rw [e1]
    exact ⟨_, _, rfl, kD_rep k, repK_keys q⟩
theorem cD_list (hc : X.calm = true) : CallD X (.type "list") listD := by
  intro pins s σ H xs us Q I r h
  obtain ⟨Z, ds, x, hz, ra, e, k⟩ := h
  unfold listD at e
  split at e
  · cases e
    obtain ⟨v, rfl, p, vs, rfl, g, rr⟩ := arg1 ra
    exact call_list_of pins s σ H _ us Q I r ⟨p, vs, rfl, .inl (.inl g.l2), fun l hn => k.l rr hn⟩
  · cases e
    obtain ⟨v, rfl, p, vs, o, rfl, _, _, g, rr⟩ := arg1 ra
    exact call_list_of pins s σ H _ us Q I r ⟨p, vs, rfl, .inr (.inl g.frz2), fun l hn => k.l rr hn⟩
  · cases e
    obtain ⟨v, rfl, p, vs, rfl, g, rr⟩ := arg1 ra
    exact call_listD hc pins s σ H _ us Q I r ⟨p, vs, rfl, g.l2, fun l hn => k.l (repK_keys rr) hn⟩
  · cases e
theorem cD_tuple : CallD X (.type "tuple") tupleD := by
  intro pins s σ H xs us Q I r h
  obtain ⟨Z, ds, x, hz, ra, e, k⟩ := h
  unfold tupleD at e
  split at e
  · cases e
    obtain ⟨v, rfl, p, vs, rfl, g, rr⟩ := arg1 ra
    exact call_tupleF pins s σ H _ us Q I r ⟨p, vs, rfl, .inl ⟨.inl g.l2, fun l o hn ho => k.t hz rr hn ho⟩⟩
  · rename_i ys
    cases e
    obtain ⟨v, rfl, rv⟩ := arg1 ra
    have rv' : Rep X.mg Z H (.tup ys) v := rv
    obtain ⟨p, vs, o, rfl, _, _, g, rr⟩ := rv
    exact call_tupleF pins s σ H _ us Q I r ⟨p, vs, rfl, .inr ⟨.inl g.frz2, k.sc rv'⟩⟩
  · cases e
/-- the pairs of a list or tuple -/
theorem pairs_rep {mg : Str → Option Value} {Z : Addr → Prop} {H : Hp} {K : PySem.W.Frag} : ∀ {xs : List D} {vs : List V} {kvs : List (Key × D)}, Reps mg Z H xs vs → mapO pairD xs = some kvs →
    ∃ (ps : List Addr) (ws : List (Key × V)), vs = ps.map V.ref ∧ RepK mg Z H kvs ws ∧ Paired (fun p kv => SqT K H p [kV kv.1, kv.2]) ps ws
  | [], vs, kvs, r, e => by cases e; exact ⟨[], [], r, rfl, .nil⟩
  | d :: t, vs, kvs, ⟨v, w, e1, r, q⟩, e => by
    obtain ⟨b, e2, e3⟩ := bind_some.mp (show (pairD d).bind _ = _ from e)
    obtain ⟨bs', e4, e5⟩ := map_some.mp e3
    cases e5
    obtain ⟨ps, ws, h1, h2, h3⟩ := pairs_rep (K := K) q e4
    unfold pairD at e2
    split at e2
    · rename_i kd x
      obtain ⟨kk, e6, e7⟩ := map_some.mp e2
      cases e7
      obtain ⟨p, us, o, rfl, _, _, g, rr⟩ := r
      obtain ⟨u1, us', rfl, rk, rr⟩ := rr
      obtain ⟨u2, us'', rfl, rx, rr⟩ := rr
      cases rr
      have hk : u1 = kV kk := by
        cases kd <;> cases e6 <;> exact rk
      subst hk
      exact ⟨p :: ps, (kk, u2) :: ws, by rw [e1, h1]; rfl, ⟨u2, ws, rfl, rx, h2⟩, .cons (.inl g.frz2) h3⟩
    · cases e2
theorem mergeD_nil {mg : Str → Option Value} {Z : Addr → Prop} {H : Hp} {kvs : List (Key × D)} {ws : List (Key × V)} (h : RepK mg Z H kvs ws) : RepK mg Z H (mergeD [] kvs) (mergeK [] ws) := h.merge rfl
/-- dict(t) of a tuple of pairs -/
theorem call_dictTup (hcalm : X.calm = true) : CallR X (.type "dict") (fun xs H Q => ∃ (a : Addr) (ps : List Addr) (kvs : List (Key × V)) (o : Obj), xs = [.ref a] ∧ o.dict = none ∧ H a = some (.frz o (.tup (ps.map V.ref))) ∧ Paired (fun p kv => SqT X.K H p [kV kv.1, kv.2]) ps kvs ∧
    ∀ p, H p = none → Q (.ref p) (upd H p (.dK (mergeK [] kvs)))) := by
  intro pins s σ H xs us Q I r q
  obtain ⟨a, ps, kvs, ob, ex, hod, hq, hp, q⟩ := q
  subst ex
  obtain ⟨u, eu, rx⟩ := vals1 r
  subst eu
  cases rx
  obtain ⟨ho, hz, its, rv, o', ho', hc, n, hdat⟩ := (show ObjOk X.prog X.w H s.heap a (.frz ob (.tup (ps.map V.ref))) from I.hok a _ hq)
  cases ho.symm.trans ho'
  have ei := refs_at rv
  subst ei
  rw [List.length_map] at hz
  obtain ⟨prs, rel, hl, hpr⟩ := pairs_of I hp
  have hsz : ∀ (j : Nat) (q : Key × Value), prs[j]? = some q → j < ps.length := fun j q e => by rw [← hl]; exact (List.getElem?_eq_some_iff.mp e).1
  -- the pairs as the kit's rule tells them
  let ky : Nat → Value := fun j => match ps[j]? with
    | some b => (match s.heap.get? b with
      | some o => (match o.data with | .seq it _ => it.getD 0 .none | _ => .none)
      | none => .none)
    | none => .none
  have hky : ∀ j (q : Key × Value) b u', prs[j]? = some q → ps[j]? = some b → IsTup s.heap b #[u', q.2] → ky j = u' := fun j q b u' e1 e2 e3 => by
    obtain ⟨o2, g1, g2, n2, g3⟩ := e3
    show (match ps[j]? with | some b => _ | none => _) = _
    rw [e2]
    show (match s.heap.get? b with | some o => _ | none => _) = _
    rw [g1]
    show (match o2.data with | .seq it _ => _ | _ => _) = _
    rw [g3]
    rfl
  let pp : List (Value × Value) := (List.range prs.length).map fun j => (ky j, (prs.getD j (.inl 0, .none)).2)
  have hpp : ∀ j k v, pp[j]? = some (k, v) → ∃ q : Key × Value, prs[j]? = some q ∧ k = ky j ∧ v = q.2 := fun j k v e => by
    rw [List.getElem?_map] at e
    obtain ⟨i, e1, e2⟩ := map_some.mp e
    obtain ⟨hi, e3⟩ := List.getElem?_eq_some_iff.mp e1
    rw [List.getElem_range] at e3
    subst e3
    cases e2
    rw [List.length_range] at hi
    exact ⟨prs[j], List.getElem?_eq_getElem hi, rfl, by rw [List.getD_eq_getElem?_getD, List.getElem?_eq_getElem hi]; rfl⟩
  have hlpp : pp.length = prs.length := by simp [pp]
  have items : PySem.PairItems s.heap (ps.map Value.ref).toArray (fun j => ps.getD j 0) pp := by
    refine ⟨by simp [hlpp, hl], fun j k v e => ?_⟩
    obtain ⟨q', e1, rfl, rfl⟩ := hpp j k v e
    obtain ⟨b, u', e2, e3, e4⟩ := hpr j q' e1
    have : ps.getD j 0 = b := by rw [List.getD_eq_getElem?_getD, e2]; rfl
    show _ = some (Value.ref (ps.getD j 0)) ∧ PySem.PairAt s.heap (ps.getD j 0) (ky j) q'.2
    rw [this, hky j q' b u' e1 e2 e3]
    exact ⟨by simp [e2], .inl e3⟩
  have pl : PySem.PlainSeq "tuple" s.heap a (ps.map Value.ref).toArray := ⟨ob, n, ho, hc, hod, hdat⟩
  refine PySem.call_dict_pairs (knd := mixKind X.prog X.w) (kvs := prs) (PySem.PairArg.tuple a _ _ pp) (I.ok.hd hcalm) ⟨pl, items⟩ ⟨hlpp.symm, fun i key v e => ?_⟩ (by rw [hlpp, hl]; exact hz) fun h' tk hd' k => ?_
  · obtain ⟨q', e1, rfl, rfl⟩ := hpp i key v e
    obtain ⟨b, u', e2, e3, e4⟩ := hpr i q' e1
    refine ⟨q'.1, e1, ?_⟩
    rw [hky i q' b u' e1 e2 e3]
    exact e4
  · have hm : (s.heap.objs.size == sysModules) = false := beq_eq_false_iff_ne.mpr (Nat.ne_of_gt I.big)
    have hlen : (mergeK [] kvs).length ≤ sizeLine := by
      have := length_mergeK kvs []
      rw [List.length_nil, Nat.zero_add, rel.length, hl] at this
      exact Nat.le_trans this hz
    refine ⟨.ref s.heap.objs.size, upd H s.heap.objs.size (.dK (mergeK [] kvs)), I.laid (t' := tk) (fun b o e => k b o (by simp) e) (Nat.le_refl _)
      (show ObjOk X.prog X.w _ _ _ (.dK (mergeK [] kvs)) from ⟨hlen, hm, merged [] prs, KV.merge rel .nil, hd'⟩), rfl, q _ (I.hok.fresh (Nat.le_refl _))⟩
theorem cD_dict (hc : X.calm = true) : CallD X (.type "dict") dictD := by
  intro pins s σ H xs us Q I r h
  obtain ⟨Z, ds, x, hz, ra, e, k⟩ := h
  unfold dictD at e
  split at e
  · obtain ⟨kvs, e1, e2⟩ := map_some.mp e
    cases e2
    obtain ⟨v, rfl, p, vs, rfl, g, rr⟩ := arg1 ra
    obtain ⟨ps, ws, rfl, h2, h3⟩ := pairs_rep (K := X.K) rr e1
    exact call_dictP hc pins s σ H _ us Q I r ⟨p, ps, ws, rfl, .inl g.l2, h3, fun l hn => k.k (mergeD_nil h2) hn⟩
  · obtain ⟨kvs, e1, e2⟩ := map_some.mp e
    cases e2
    obtain ⟨v, rfl, p, vs, o, rfl, _, ho, g, rr⟩ := arg1 ra
    obtain ⟨ps, ws, rfl, h2, h3⟩ := pairs_rep (K := X.K) rr e1
    exact call_dictTup hc pins s σ H _ us Q I r ⟨p, ps, ws, o, rfl, ho, g.frz, h3, fun l hn => k.k (mergeD_nil h2) hn⟩
  · cases e
    obtain ⟨v, rfl, p, vs, rfl, g, rr⟩ := arg1 ra
    exact call_dictD pins s σ H _ us Q I r ⟨p, vs, rfl, g.l2, fun l hn => k.k rr hn⟩
  · cases e
end
end Tw
end
section
set_option maxRecDepth 100000
/-! layer 13: methods and stores that change a slot's own object; isinstance -/
namespace Tw
open PySem PySem.Spec PyProof.Rows L2

theorem Good.writeL {mg : Str → Option Value} {c : Fx} {σ : Sg} {H : Hp} {ρ : Ro} {ts : List D} {tv : List V} {r : Option A} {v : V} {fp : Pl → List Addr} {i : Nat} {bb : Bool} {xs xs' : List D} (g : Good mg c σ H ρ ts tv r v fp) (hx : at_ ρ i = some (.l bb xs)) :
    ∃ a vs, atS σ i = some (.ref a) ∧ H a = some (.lst vs) ∧ Reps mg (Zof c fp) H xs vs ∧ ∀ vs', Reps mg (Zof c fp) H xs' vs' → ∃ fp', Good mg c σ (upd H a (.lst vs')) (ρ.set i (some (.l bb xs'))) ts tv r v fp' ∧ ∀ d u, Rep mg (Zof c fp) H d u → Rep mg (Zof c fp') (upd H a (.lst vs')) d u := by
  obtain ⟨u, hu, a, vs, rfl, hf, ho, rk⟩ := g.ent (some i) _ hx
  refine ⟨a, vs, hu, ho, rk, fun vs' rk' => ?_⟩
  have hz : ∀ b, Zof c (fpS fp i [a]) b ↔ Zof c fp b := fun b => by
    have : fpS fp i [a] = fp := by
      funext p
      by_cases hp : p = some i
      · subst hp; rw [fpS_self, hf]
      · exact fpS_ne hp
    rw [this]
  have lift : ∀ b w, ¬ Zof c fp b → Rd H b w → ¬ Zof c (fpS fp i [a]) b ∧ Rd (upd H a (.lst vs')) b w := fun b w z h => by
    refine ⟨fun q => z ((hz b).mp q), ?_⟩
    have hne : b ≠ a := fun e => z (.inr ⟨some i, by rw [hf, e]; exact List.mem_cons_self⟩)
    rcases h with h | ⟨q, h, l⟩
    · exact .inl (by rw [upd_ne hne]; exact h)
    · exact .inr ⟨q, by rw [upd_ne hne]; exact h, l⟩
  refine ⟨fpS fp i [a], g.write (x' := .l bb xs') (q := [a]) hx hu (fun b o e hb => ?_) (fun b hb => ?_) rfl (by simp) (fun b hb => .inl (by rw [hf]; exact hb)) ⟨a, vs', rfl, rfl, upd_same, rk'.mono lift⟩, fun d u r => r.mono lift⟩
  · have hne : b ≠ a := fun e => hb (by rw [hf, e]; exact List.mem_cons_self)
    rw [upd_ne hne]; exact e
  · by_cases e : b = a
    · subst e; rw [upd_same]; simp
    · rw [upd_ne e]; exact hb

def inlD : Sum D Nat → Option D
  | .inl d => some d
  | .inr _ => none
def lstA : Option A → Option (Bool × List D)
  | some (.l b xs) => some (b, xs)
  | _ => none
theorem lstA_some {x : Option A} {b : Bool} {xs : List D} : lstA x = some (b, xs) ↔ x = some (.l b xs) := by
  cases x with
  | none => simp [lstA]
  | some y => cases y <;> simp [lstA]
/-- x.append(e) -/
def appE (i : Nat) (p : Opd) : EF := fun ρ => (lstA (at_ ρ i)).bind fun _ => (ev1 p ρ).bind fun x => (inlD x.1).bind fun d => (lstA (at_ x.2 i)).bind fun y => if y.2.length < 16777216 then some (.d .non, x.2.set i (some (.l y.1 (y.2 ++ [d])))) else none
section
variable {X : Cx} {a b value : Expr} {o p : Opd} {f : EF} {pos : Pos}
theorem slot_list {mg : Str → Option Value} {c : Fx} {σ : Sg} {H : Hp} {ρ : Ro} {ts : List D} {tv : List V} {r : Option A} {v : V} {i : Nat} {y : Bool × List D} (s : SR mg c σ H ρ ts tv r v) (e : lstA (at_ ρ i) = some y) : ∃ a vs, atS σ i = some (.ref a) ∧ H a = some (.lst vs) := by
  obtain ⟨fp, g⟩ := s
  obtain ⟨u, hu, a, vs, rfl, hf, ho, rk⟩ := g.ent (some i) _ (lstA_some.mp e)
  exact ⟨a, vs, hu, ho⟩
theorem e_append (i : Nat) {x : Str} {px apos cpos : Pos} (hb : OI X a o) (hN : X.N[i]? = some x := by rfl) (hv : Vis X.env.scope x := by first | exact Or.inl rfl | exact Or.inr (Or.inl rfl) | exact Or.inr (Or.inr rfl)) (hdb : (x == ("__debug__" : Str)) = false := by decide)
    (hcd : (x == ("__classdict__" : Str)) = false := by decide) (hbase : attributeBase (.Name x px) "append" X.env (eval (.Name x px) X.env) = eval (.Name x px) X.env := by rfl)
    (hfew : ((backTo cpos (starEach [a] X.env)).all (fun x => !x.1) && (backToKw cpos (keywordEach [] X.env)).all (fun x => x.1.isSome)
      && decide (([a] : List Expr).length + ([] : List Keyword).length + (if ([] : List Keyword).isEmpty then 0 else 1) < 30)) = true := by rfl)
    (hline : (apos.endLine == cpos.line) = true := by rfl) (hs : starEach [a] X.env = (false, eval a X.env) :: starEach [] X.env := by rfl) : EI X (.Call (.Attribute (.Name x px) "append" apos) [a] [] cpos) (appE i o) :=
  (pe_bm PySem.F.plainAttrs_list PySem.F.slot_list_append PySem.F.type_list_append mt_append (pe_var hN hv hdb hcd) (pa_cons hb pa_nil hs) hbase hfew hline hs).imp fun σ H Q h => by
  obtain ⟨c, ρ, ts, tv, r, ρ', s, e, k⟩ := h
  obtain ⟨y0, e0, e⟩ := bind_some.mp (show (lstA (at_ ρ i)).bind _ = _ from e)
  obtain ⟨⟨x1, ρ1⟩, e1, e⟩ := bind_some.mp e
  obtain ⟨d, e2, e⟩ := bind_some.mp e
  obtain ⟨⟨bb, xs⟩, e3, e⟩ := bind_some.mp e
  split at e
  case isFalse => cases e
  rename_i hl
  cases e
  obtain ⟨p0, vs0, hu0, h0⟩ := slot_list s e0
  refine ⟨.ref p0, atS_of.mp hu0, .inl ⟨rfl, _, .inl (.inl h0)⟩, tO_go s e1 fun w H1 s1 hw => ?_⟩
  obtain ⟨fp, g1⟩ := s1
  obtain ⟨g0, ra⟩ := g1.pop1 hw
  cases x1 with
  | inr j => cases e2
  | inl d' =>
    cases e2
    obtain ⟨p1, vs, hu, ho, rk, wr⟩ := g0.writeL (xs' := xs ++ [d]) (lstA_some.mp e3)
    cases hu.symm.trans hu0
    obtain ⟨fp', g3, _⟩ := wr _ (rk.append ⟨w, [], rfl, ra, rfl⟩)
    exact ⟨_, vs, w, rfl, rfl, ho, by rw [← rk.length, sizeLine_eq]; exact hl, k _ _ ⟨_, g3.put (show Rep X.mg _ _ .non .non from rfl)⟩⟩
/-- x.pop() -/
def popL (i : Nat) : EF := fun ρ => (lstA (at_ ρ i)).bind fun y => (y.2[y.2.length - 1]?).map fun d => (.d d, ρ.set i (some (.l y.1 y.2.dropLast)))
theorem reps_dropLast {mg : Str → Option Value} {Z : Addr → Prop} {H : Hp} {x : List D} {v : List V} (h : Reps mg Z H x v) : Reps mg Z H x.dropLast v.dropLast := by
  rw [List.dropLast_eq_take, List.dropLast_eq_take, h.length]
  exact h.take _
theorem e_popL (i : Nat) {x : Str} {px apos cpos : Pos} (hN : X.N[i]? = some x := by rfl) (hv : Vis X.env.scope x := by first | exact Or.inl rfl | exact Or.inr (Or.inl rfl) | exact Or.inr (Or.inr rfl)) (hdb : (x == ("__debug__" : Str)) = false := by decide)
    (hcd : (x == ("__classdict__" : Str)) = false := by decide) (hbase : attributeBase (.Name x px) "pop" X.env (eval (.Name x px) X.env) = eval (.Name x px) X.env := by rfl)
    (hline : (apos.endLine == cpos.line) = true := by rfl) : EI X (.Call (.Attribute (.Name x px) "pop" apos) [] [] cpos) (popL i) :=
  (pe_bm0 PySem.F.plainAttrs_list PySem.F.slot_list_pop PySem.F.type_list_pop mt_pop (pe_var hN hv hdb hcd) hbase hline).imp fun σ H Q h => by
  obtain ⟨c, ρ, ts, tv, r, ρ', s, e, k⟩ := h
  obtain ⟨⟨bb, xs⟩, e0, e⟩ := bind_some.mp (show (lstA (at_ ρ i)).bind _ = _ from e)
  obtain ⟨d, e1, e⟩ := map_some.mp e
  cases e
  obtain ⟨fp, g⟩ := s
  obtain ⟨p1, vs, hu, ho, rk, wr⟩ := g.writeL (xs' := xs.dropLast) (lstA_some.mp e0)
  obtain ⟨u, hu2, rep⟩ := rk.get e1
  obtain ⟨fp', g3, lift⟩ := wr _ (reps_dropLast rk)
  exact ⟨.ref p1, atS_of.mp hu, .inl ⟨rfl, _, .inl (.inl ho)⟩, p1, vs, u, rfl, rfl, ho, by rw [← rk.length]; exact hu2, k _ _ ⟨_, g3.put (lift _ _ rep)⟩⟩
/-- x[j] = e, a list or a dict -/
def putA (x : Option A) (j v : D) : Option A := match x with
  | some (.l b xs) => (intD j).bind fun n => (ixN xs.length n).map fun k => .l b (xs.set k v)
  | some (.k b kvs) => (toKey j).bind fun k => if kvs.length < 16777216 then some (.k b (putD kvs k v)) else none
  | _ => none
def stS (i : Nat) (p : Opd) (f : EF) : SF := fun ρ => (dv f ρ).bind fun v => (at_ v.2 i).bind fun _ => (ev1 p v.2).bind fun j => (res j.2 j.1).bind fun jd => (putA (at_ j.2 i) jd v.1).map fun x => (.nx, j.2.set i (some x))
theorem s_store (i : Nat) {x : Str} {px pos' : Pos} (hu : X.A.units + 1 < cLine) (hv : EI X value f) (hi : OI X a o) (hN : X.N[i]? = some x := by rfl) (hvs : Vis X.env.scope x := by first | exact Or.inl rfl | exact Or.inr (Or.inl rfl) | exact Or.inr (Or.inr rfl)) (hdb : (x == ("__debug__" : Str)) = false := by decide)
    (hcd : (x == ("__classdict__" : Str)) = false := by decide) (h1 : swapsWith value (some (.Subscript (.Name x px) a pos')) pos.line X.env = pure false := by rfl)
    (h2 : swapsWithSole [.Subscript (.Name x px) a pos'] value pos.line X.env = pure false := by rfl) (h3 : swappedStores [.Subscript (.Name x px) a pos'] value X.env = pure none := by rfl)
    (h4 : (assignEach [.Subscript (.Name x px) a pos'] X.env).map (·.2) = [assign (.Subscript (.Name x px) a pos') X.env] := by rfl)
    (h5 : ∀ v, assign (.Subscript (.Name x px) a pos') X.env v = (do
      let ov ← holding [v] (eval (.Name x px) X.env)
      let iv ← holding [v, ov] (eval a X.env)
      standAt pos'
      holding [v, ov, iv] (setItem ov iv v)
      release [v, ov, iv] []) := by intro _; rfl) : SI X (.Assign [.Subscript (.Name x px) a pos'] value pos) (stS i o f) :=
  (PS.or (ps_asg hv (pg_sub (pe_var hN hvs hdb hcd) hi set_list h5) h2 h3 h4) (ps_dput hu (pe_var hN hvs hdb hcd) hi hv h1)).imp fun D σ H h => by
  obtain ⟨c, ρ, ts, tv, r, ρ', s, e, k⟩ := h
  obtain ⟨⟨d, ρ1⟩, e1, e⟩ := bind_some.mp (show (dv f ρ).bind _ = _ from e)
  obtain ⟨y0, e0, e⟩ := bind_some.mp e
  obtain ⟨⟨x2, ρ2⟩, e2, e⟩ := bind_some.mp e
  obtain ⟨jd, e3, e⟩ := bind_some.mp e
  obtain ⟨y, e4, e⟩ := map_some.mp e
  cases e
  have e4 : putA (at_ ρ2 i) jd d = some y := e4
  cases hat : at_ ρ2 i with
  | none => rw [hat] at e4; cases e4
  | some z =>
    rw [hat] at e4
    cases z with
    | d _ => cases e4
    | i _ _ _ => cases e4
    | t _ _ => cases e4
    | l bb xs =>
      left
      obtain ⟨n, e5, e6⟩ := bind_some.mp (show (intD jd).bind _ = _ from e4)
      obtain ⟨kk, e7, e8⟩ := map_some.mp e6
      cases e8
      refine tE_dv s e1 fun w H1 s1 => ?_
      obtain ⟨u, hu⟩ : ∃ u, atS σ i = some u := by
        obtain ⟨fp, g⟩ := id s1
        obtain ⟨u, hu, _⟩ := g.ent (some i) _ e0
        exact ⟨u, hu⟩
      refine ⟨u, atS_of.mp hu, tO_go s1 e2 fun w2 H2 s2 hw => ?_⟩
      obtain ⟨fp, g2⟩ := s2
      obtain ⟨g1, ra⟩ := g2.pop1 hw
      have rj := g1.res ra e3
      obtain ⟨w', tw', eq, rd, tt⟩ := g1.tmp
      cases eq
      have g0 := g1.pops (xs := [d]) (ys := [w]) rfl
      obtain ⟨p1, vs, hu1, ho, rk, wr⟩ := g0.writeL (xs' := xs.set kk d) hat
      cases hu.symm.trans hu1
      obtain ⟨fp', g3, _⟩ := wr _ (rk.set rd kk)
      have hj : w2 = .int n := by cases jd <;> cases e5; exact rj
      exact ⟨p1, vs, n, kk, rfl, hj, ho, by rw [← rk.length]; exact e7, k _ _ ⟨_, g3⟩⟩
    | k bb kvs =>
      right
      obtain ⟨n, e5, e6⟩ := bind_some.mp (show (toKey jd).bind _ = _ from e4)
      split at e6
      case isFalse => cases e6
      rename_i hl
      cases e6
      refine tE_dv s e1 fun w H1 s1 => ?_
      obtain ⟨u, hu⟩ : ∃ u, atS σ i = some u := by
        obtain ⟨fp, g⟩ := id s1
        obtain ⟨u, hu, _⟩ := g.ent (some i) _ e0
        exact ⟨u, hu⟩
      refine ⟨u, atS_of.mp hu, tO_go s1 e2 fun w2 H2 s2 hw => ?_⟩
      obtain ⟨fp, g2⟩ := s2
      obtain ⟨g1, ra⟩ := g2.pop1 hw
      have rj := g1.res ra e3
      obtain ⟨w', tw', eq, rd, tt⟩ := g1.tmp
      cases eq
      have g0 := g1.pops (xs := [d]) (ys := [w]) rfl
      obtain ⟨p1, vs, hu1, ho, rk, wr⟩ := g0.writeK (kvs' := putD kvs n d) hat
      cases hu.symm.trans hu1
      obtain ⟨fp', g3, _⟩ := wr _ (rk.put rd)
      have hj : w2 = kV n := by cases jd <;> cases e5 <;> exact rj
      subst hj
      exact ⟨p1, _, rfl, DPut.k ho (by rw [← repK_len rk, sizeLine_eq]; exact hl), k _ _ ⟨_, g3⟩⟩
/-- x, y = a, b -/
def parS (i j : Nat) (o p : Opd) : SF := fun ρ => (evs [o, p] ρ).bind fun x => (onlyD x.1).bind fun ds => match ds with
  | [d, d'] => if okOld x.2 i = true then (if okOld (x.2.set i (some (.d d))) j = true then some (.nx, (x.2.set i (some (.d d))).set j (some (.d d'))) else none) else none
  | _ => none
theorem s_par (i j : Nat) {x y : Str} {px py pt : Pos} {kt k2 pt2} (hc : X.calm = true) (hN : X.N.Nodup) (ha : AI X [a, b] [o, p]) (hi : X.N[i]? = some x := by rfl) (hj : X.N[j]? = some y := by rfl) (hij : i ≠ j := by decide)
    (hx : X.env.scope.names.lookup x = some .local := by rfl) (hy : X.env.scope.names.lookup y = some .local := by rfl)
    (hw : swappedStores [.Tuple [.Name x px, .Name y py] kt pt] (.Tuple [a, b] k2 pt2) X.env = pure (some [x, y]) := by rfl)
    (hs : swapsWithSole [.Tuple [.Name x px, .Name y py] kt pt] (.Tuple [a, b] k2 pt2) pos.line X.env = pure false := by rfl) : SI X (.Assign [.Tuple [.Name x px, .Name y py] kt pt] (.Tuple [a, b] k2 pt2) pos) (parS i j o p) :=
  (ps_par hc hN hi hj hij hx hy ha hw hs).imp fun D σ H h => by
  obtain ⟨c, ρ, ts, tv, r, ρ', s, e, k⟩ := h
  obtain ⟨⟨ss, ρ1⟩, e1, e⟩ := bind_some.mp (show (evs [o, p] ρ).bind _ = _ from e)
  obtain ⟨ds, e2, e⟩ := bind_some.mp e
  split at e
  case h_2 => cases e
  rename_i d d'
  by_cases h1 : okOld ρ1 i = true
  case neg => rw [if_neg h1] at e; cases e
  rw [if_pos h1] at e
  by_cases h2 : okOld (ρ1.set i (some (.d d))) j = true
  case neg => rw [if_neg h2] at e; cases e
  rw [if_pos h2] at e
  cases e
  refine ⟨c, ρ, ts, tv, ss, ρ1, s, e1, fun vs H' fp g ra => ?_⟩
  obtain ⟨v, w', rfl, r1, q⟩ := ra.only e2
  obtain ⟨w, w'', rfl, r2, q⟩ := q
  cases q
  have gA : Good X.mg c σ H' ρ1 (d' :: ts) (w :: tv) none .non fp := g.retmp ⟨w, tv, rfl, r2, g.tmp⟩
  have gB := gA.put r1
  have gC := gB.store (okOld_lt h1) (gA.old h1) .non
  obtain ⟨w', tv', eq, rw2, tt⟩ := gC.tmp
  cases eq
  have gD := gC.retmp tt
  have gE := gD.put rw2
  exact ⟨v, w, rfl, k _ _ ⟨_, gE.store (okOld_lt h2) (gD.old h2) .non⟩⟩
/-! ### isinstance -/
def tyD : D → Option String
  | .non => some "NoneType"
  | .bl _ => some "bool"
  | .int _ => some "int"
  | .str _ => some "str"
  | .lst _ => some "list"
  | .tup _ => some "tuple"
  | .dic _ => some "dict"
  | _ => none
def subT (a T : String) : Bool := a == T || (a == "bool" && T == "int")
theorem tyD_of {K : PySem.W.Frag} {mg : Str → Option Value} {Z : Addr → Prop} {H : Hp} {d : D} {v : V} {T : String} (h : RepT mg Z H d v) (e : tyD d = some T) : TyX K H v (.type T) := by
  cases d with
  | non => cases e; cases (show v = .non from h); exact .base .non
  | bl b => cases e; cases (show v = .bl b from h); exact .base (.bl b)
  | int b => cases e; cases (show v = .int b from h); exact .base (.int b)
  | str b => cases e; cases (show v = .str b from h); exact .base (.str b)
  | lst ds =>
    cases e
    obtain ⟨a, vs, rfl, g, _⟩ := h
    rcases g with g | ⟨o, g, _⟩
    · exact .base (.lst g)
    · exact .base (.frz g)
  | tup ds =>
    cases e
    obtain ⟨a, vs, o, rfl, _, _, g, _⟩ := h
    exact .fTuple g.frz
  | dic ds =>
    cases e
    obtain ⟨a, vs, rfl, g, _⟩ := h
    rcases g with g | ⟨o, g, _⟩
    · exact .base (.dK g)
    · exact .fDict g
  | _ => cases e
def isiE (o : Opd) (T : String) : EF := fun ρ => (ev1 o ρ).bind fun x => (res x.2 x.1).bind fun d => (tyD d).map fun t => (.d (.bl (subT t T)), x.2)
def kitAll (T : String) : Bool := ["NoneType", "bool", "int", "str", "list", "tuple", "dict"].all fun a => kitB a T == some (subT a T)
theorem kit_of_all {T a : String} (h : kitAll T = true) (ha : a ∈ ["NoneType", "bool", "int", "str", "list", "tuple", "dict"]) : kitB a T = some (subT a T) := eq_of_beq (List.all_eq_true.mp h a ha)
theorem tyD_mem {d : D} {T : String} (e : tyD d = some T) : T ∈ ["NoneType", "bool", "int", "str", "list", "tuple", "dict"] := by
  cases d <;> first | (cases e; done) | (cases e; simp)
theorem e_isi {T : String} {x : Str} {p1 p2 pos : Pos} (ha : OI X a o) (hk : kitAll T = true) (hm : X.mg "isinstance" = none) (hm2 : X.mg x = none) (hv2 : bootBuiltins x = some (.type T)) (hn : x ≠ "__name__" := by decide) (hg : Gl X "isinstance" := by rfl) (hg2 : Gl X x := by rfl)
    (hdb : (x == ("__debug__" : Str)) = false := by decide) (he1 : starEach [a, .Name x p2] X.env = (false, eval a X.env) :: starEach [.Name x p2] X.env := by rfl) (he2 : starEach [.Name x p2] X.env = (false, eval (.Name x p2) X.env) :: starEach [] X.env := by rfl)
    (hpl : (backTo pos (starEach [.Name x p2] X.env)).any (·.1) = false := by rfl) : EI X (.Call (.Name "isinstance" p1) [a, .Name x p2] [] pos) (isiE o T) :=
  (pe_callB call_isi hg hm PyProof.Rows.boot_isinstance (pa_cons ha (pa_cons (pe_bltn hg2 hm2 hv2 (v := .ty T) rfl hn hdb) pa_nil he2) he1) (by decide) (by decide) he1 hpl).imp fun σ H Q h => by
  obtain ⟨c, ρ, ts, tv, r, ρ', s, e, k⟩ := h
  obtain ⟨⟨x1, ρ1⟩, e1, e⟩ := bind_some.mp (show (ev1 o ρ).bind _ = _ from e)
  obtain ⟨d, e2, e⟩ := bind_some.mp e
  obtain ⟨t, e3, e⟩ := map_some.mp e
  cases e
  refine tO_go s e1 fun w H1 s1 hw => ?_
  obtain ⟨fp, g1⟩ := s1
  obtain ⟨g0, ra⟩ := g1.pop1 hw
  exact ⟨w, .ty T, .type t, .type T, subT t T, rfl, .ty T, tyD_of (g0.res ra e2) e3, kit_ty (kit_of_all hk (tyD_mem e3)), k _ _ ⟨_, g0.put (show Rep X.mg _ _ (.bl _) _ from rfl)⟩⟩
end
end Tw
end
section
set_option maxRecDepth 100000
/-! layer 14: instances -/
namespace Tw
open PySem PySem.Spec PyProof.Rows L2

/-- what is told of a class: its address -/
structure ClsF (X : Cx) (cn : Str) (C : Addr) : Prop where
  mg : X.mg cn = some (.ref C)
  cls : Cls X.K C
/-! ### fields -/
def insD : D → Option (Str × List (Str × D))
  | .ins c fs => some (c, fs)
  | _ => none
def fldE (cn f : Str) (o : Opd) : EF := fun ρ => (ev1 o ρ).bind fun x => (res x.2 x.1).bind fun d => (insD d).bind fun y => if y.1 = cn then (y.2.lookup f).map fun r => (.d r, x.2) else none
section
variable {mg : Str → Option Value} {Z : Addr → Prop} {H : Hp}
theorem repF_get {f : Str} {d : D} : ∀ {fs : List (Str × D)} {vs : List (Str × V)}, RepF mg Z H fs vs → fs.lookup f = some d → ∃ v, vs.lookup f = some v ∧ Rep mg Z H d v
  | [], vs, r, e => by cases e
  | (k, x) :: t, vs, ⟨v, w, e1, r, q⟩, e => by
    rw [e1]
    rw [List.lookup_cons] at e ⊢
    cases hk : f == k with
    | true => rw [hk] at e; cases e; exact ⟨v, rfl, r⟩
    | false => rw [hk] at e; exact repF_get q e
theorem repF_none {f : Str} : ∀ {fs : List (Str × D)} {vs : List (Str × V)}, RepF mg Z H fs vs → fs.lookup f = none → vs.lookup f = none
  | [], vs, r, e => by rw [show vs = [] from r]; rfl
  | (k, x) :: t, vs, ⟨v, w, e1, r, q⟩, e => by
    rw [e1]
    rw [List.lookup_cons] at e ⊢
    cases hk : f == k with
    | true => rw [hk] at e; cases e
    | false => rw [hk] at e; exact repF_none q e
theorem repF_len : ∀ {fs : List (Str × D)} {vs : List (Str × V)}, RepF mg Z H fs vs → fs.length = vs.length
  | [], vs, r => by rw [show vs = [] from r]; rfl
  | (k, x) :: t, vs, ⟨v, w, e1, r, q⟩ => by rw [e1, List.length_cons, List.length_cons, repF_len q]
end
section
variable {X : Cx} {a b value : Expr} {o p : Opd} {f : EF} {pos apos cpos : Pos} {cn fn : Str} {C : Addr}
theorem e_fld (hc : ClsF X cn C) (hn : NoAttr X.K C fn) (ha : OI X a o) (hb : attributeBase a fn X.env (eval a X.env) = eval a X.env := by rfl) : EI X (.Attribute a fn pos) (fldE cn fn o) := (pe_fld ha hb).imp fun σ H Q h => by
  obtain ⟨c, ρ, ts, tv, r, ρ', s, e, k⟩ := h
  obtain ⟨⟨x, ρ1⟩, e1, e⟩ := bind_some.mp (show (ev1 o ρ).bind _ = _ from e)
  obtain ⟨d, e2, e⟩ := bind_some.mp e
  obtain ⟨⟨c', fs⟩, e3, e⟩ := bind_some.mp e
  split at e
  case isFalse => cases e
  rename_i hcn
  obtain ⟨y, e4, e⟩ := map_some.mp e
  cases e
  have hcn : c' = cn := hcn
  subst hcn
  refine tO_go s e1 fun w H1 s1 hw => ?_
  obtain ⟨fp, g1⟩ := s1
  obtain ⟨g0, ra⟩ := g1.pop1 hw
  have rr := g0.res ra e2
  cases d <;> cases e3
  obtain ⟨a0, C', dx, vs, rfl, _, hm, g, rf⟩ := rr
  cases hm.symm.trans hc.mg
  obtain ⟨v, hv, rep⟩ := repF_get rf e4
  exact ⟨a0, C, dx, vs, v, rfl, g.ins, hc.cls, hn, hv, k _ _ ⟨_, g0.put rep⟩⟩

/-! ### methods that change nothing -/
def methE (cn m : Str) (f : EF) (os : List Opd) (F : F0) : EF := fun ρ => (dv f ρ).bind fun x => (insD x.1).bind fun y => if y.1 = cn ∧ y.2.lookup m = none then (evs os x.2).bind fun z => (onlyD z.1).bind fun ds => (F (x.1 :: ds)).map fun r => (r, z.2) else none
theorem meth_go {F : F0} {os : List Opd} {m : Str} {σ : Sg} {H : Hp} {Q : VK} (hc : ClsF X cn C) (h : tE X.mg (methE cn m f os F) σ H Q) : tMeth C m (sp0 X.mg F) [] E0 (tE X.mg f) (tAr X.mg os) σ H Q := by
  obtain ⟨c, ρ, ts, tv, r, ρ', s, e, k⟩ := h
  obtain ⟨⟨d, ρ1⟩, e1, e⟩ := bind_some.mp (show (dv f ρ).bind _ = _ from e)
  obtain ⟨⟨c', fs⟩, e2, e⟩ := bind_some.mp e
  split at e
  case isFalse => cases e
  rename_i hcn
  obtain ⟨hcn, hl⟩ := hcn
  obtain ⟨⟨ss, ρ2⟩, e3, e⟩ := bind_some.mp e
  obtain ⟨ds, e4, e⟩ := bind_some.mp e
  obtain ⟨y, e5, e⟩ := map_some.mp e
  cases e
  have hcn : c' = cn := hcn
  subst hcn
  refine tE_dv s e1 fun v H1 s1 => ?_
  obtain ⟨fp, g1⟩ := id s1
  obtain ⟨w', tw', eq, rep, tt⟩ := g1.tmp
  cases eq
  cases d <;> cases e2
  obtain ⟨a0, C', dx, vs, rfl, _, hm, g, rf⟩ := id rep
  cases hm.symm.trans hc.mg
  refine ⟨a0, dx, vs, rfl, g.ins, repF_none rf hl, c, ρ1, _, _, ss, ρ2, s1, e3, fun ws H2 fp2 g2 ra => ?_⟩
  show sp0 X.mg F (V.ref a0 :: (ws ++ [])) H2 Q E0
  rw [List.append_nil]
  obtain ⟨w2, tw2, eq, rep2, tt2⟩ := g2.tmp
  cases eq
  have g3 := g2.retmp tt2
  exact ⟨_, _, _, fun p h => g2.zal h, Reps.cons rep2 (ra.only e4), e5, SR.ret g3 k⟩
theorem e_meth {F : F0} {k : Nat} {g : Addr} {fd : FuncData} {ps : List Str} {m : Str} {e : Expr} {es : List Expr} {os : List Opd} (hc : ClsF X cn C) (hm : Meth X.K C m g) (G : FnOk X.prog X.w X.K X.mg X.base CX0 k g fd ps (sp0 X.mg F)) (hr : Room k X.A) (hb : Binds X.K fd ps []) (he : EI X a f) (ha : AI X (e :: es) os) {pl : Sem Bool}
    (hst : starEach (e :: es) X.env = (false, eval e X.env) :: starEach es X.env := by rfl) (hpl : (backTo pos (starEach es X.env)).any (·.1) = false := by rfl)
    (ht : eval (.Call (.Attribute a m apos) (e :: es) [] pos) X.env = (do
      let ov ← eval a X.env
      standAt apos.atName
      let (f, first) ← holding [ov] (getMethod ov m pl)
      callWith pos f first (backTo pos (starEach (e :: es) X.env)) (backToKw pos (keywordEach [] X.env))) := by rfl) : EI X (.Call (.Attribute a m apos) (e :: es) [] pos) (methE cn m f os F) :=
  (pe_meth he hc.cls hm G hr hb .nil pass0 ha hst hpl ht).imp fun σ H Q h => meth_go hc h
theorem e_meth0 {F : F0} {k : Nat} {g : Addr} {fd : FuncData} {ps : List Str} {m : Str} (hc : ClsF X cn C) (hm : Meth X.K C m g) (G : FnOk X.prog X.w X.K X.mg X.base CX0 k g fd ps (sp0 X.mg F)) (hr : Room k X.A) (hb : Binds X.K fd ps []) (he : EI X a f) {pl : Sem Bool}
    (ht : eval (.Call (.Attribute a m apos) [] [] pos) X.env = (do
      let ov ← eval a X.env
      standAt apos.atName
      let (f, first) ← holding [ov] (getMethod ov m pl)
      callWith pos f first (backTo pos (starEach [] X.env)) (backToKw pos (keywordEach [] X.env))) := by rfl) : EI X (.Call (.Attribute a m apos) [] [] pos) (methE cn m f [] F) :=
  (pe_meth0 he hc.cls hm G hr hb .nil pass0 ht).imp fun σ H Q h => by
    have := meth_go hc h
    refine (?_ : ∀ {ta : TE}, tMeth C m (sp0 X.mg F) [] E0 ta (tAr X.mg []) σ H Q → (∀ σ H Q Q', (∀ v H', Q v H' → Q' v H') → ta σ H Q → ta σ H Q') → tMeth C m (sp0 X.mg F) [] E0 ta tNil σ H Q) this ?_
    · intro ta h mono
      refine mono σ H _ _ (fun x H1 q => ?_) h
      obtain ⟨a, dx, fs, e1, e2, e3, c, ρ, ts, tv, ss, ρ', ⟨fp, g⟩, e4, k⟩ := q
      cases e4
      exact ⟨a, dx, fs, e1, e2, e3, k [] H1 fp g rfl⟩
    · intro σ H Q Q' hq ⟨c, ρ, ts, tv, r, ρ', s, e, k⟩
      exact ⟨c, ρ, ts, tv, r, ρ', s, e, fun v H' s' => hq _ _ (k v H' s')⟩

/-! ### making -/
def mkE (cn : Str) (os : List Opd) (F : F1) : EF := fun ρ => (evs os ρ).bind fun x => (onlyD x.1).bind fun ds => (F (.i true cn []) ds).bind fun y => match y with
  | (.d .non, .i true c fs) => if c = cn then some (.i false c fs, x.2) else none
  | _ => none
theorem make_go {F : F1} {os : List Opd} {σ : Sg} {H : Hp} {Q : VK} (hc : ClsF X cn C) (h : tE X.mg (mkE cn os F) σ H Q) : tMake C (sp1 X.mg F) [] E0 (tAr X.mg os) σ H Q := by
  obtain ⟨c, ρ, ts, tv, r, ρ', s, e, k⟩ := h
  obtain ⟨⟨ss, ρ1⟩, e1, e⟩ := bind_some.mp (show (evs os ρ).bind _ = _ from e)
  obtain ⟨ds, e2, e⟩ := bind_some.mp e
  obtain ⟨y, e3, e⟩ := bind_some.mp e
  split at e
  case h_2 => cases e
  rename_i c' fs
  split at e
  case isFalse => cases e
  rename_i hcn
  cases e
  subst hcn
  refine ⟨c, ρ, ts, tv, ss, ρ1, s, e1, fun vs H1 fp g ra x dx hx hd hne => ?_⟩
  rw [List.append_nil]
  have hr := ra.only e2
  have sm : Sm H1 (upd (upd H1 dx (.own x)) x (.ins C dx [])) := fun b u hb => by
    rw [upd_ne (ne_of_none hb hx), upd_ne (ne_of_none hb hd)]; exact hb
  refine ⟨fun b => Zof c fp b ∨ b = x, .i true c' [], .ref x, [x], ds, vs, .d .non, .i true c' fs, rfl, ⟨x, C, dx, [], [], rfl, rfl, hc.mg, upd_same, rfl, rfl⟩, rfl, by simp, fun a ha => .inr (List.mem_singleton.mp ha), fun p hp => ?_, hr.mono fun a u z w => ⟨?_, sm.rd w⟩, e3, ?_⟩
  · rcases hp with hp | hp
    · intro h0
      have h1 := g.zal hp
      cases h2 : H1 p with
      | none => exact h1 h2
      | some u => rw [sm _ _ h2] at h0; cases h0
    · rw [hp, upd_same]; simp
  · rintro (h | h)
    · exact z h
    · exact rd_some w (by rw [h]; exact hx)
  · intro v H' q fx' h1 h2 h3 h4 h5 h6 h7 h8 h9 h10 h11
    obtain ⟨rfl, hv⟩ := h9
    have hv : v = .non := hv
    refine ⟨hv, SR.ret g k (.ref x) H' fx' (fun b u hb => ?_) (fun a ha => ?_) h4 ?_ rfl⟩
    · exact h1 b u (sm _ _ hb) fun hm => by rw [List.mem_singleton.mp hm, hx] at hb; cases hb
    · rcases h3 a ha with h | h
      · rw [List.mem_singleton.mp h]; exact hx
      · cases h2 : H1 a with
        | none => rfl
        | some u => rw [sm _ _ h2] at h; cases h
    · exact (show Own X.mg _ H' (.i true c' fs) (.ref x) fx' from h8).mono (fun a u z w => ⟨fun w' => z (by
        rcases w' with w' | w'
        · exact .inl (.inl w')
        · exact .inr (.inl w')), w⟩) fun _ _ => rfl
theorem e_make {F : F1} {k : Nat} {g : Addr} {fd : FuncData} {ps : List Str} {p pos : Pos} {e : Expr} {es : List Expr} {os : List Opd} (hc : ClsF X cn C) (M : Mk X.K C g) (G : FnOk X.prog X.w X.K X.mg X.base CX0 k g fd ps (sp1 X.mg F)) (hr : Room (k + 1) X.A) (hb : Binds X.K fd ps [])
    (ha : AI X (e :: es) os) (hg : Gl X cn := by rfl) (hdb : (cn == ("__debug__" : Str)) = false := by decide) (he : starEach (e :: es) X.env = (false, eval e X.env) :: starEach es X.env := by rfl) (hpl : (backTo pos (starEach es X.env)).any (·.1) = false := by rfl) :
    EI X (.Call (.Name cn p) (e :: es) [] pos) (mkE cn os F) := (pe_make M G hr hg hc.mg hb .nil pass0 ha hdb he hpl).imp fun σ H Q h => make_go hc h
end
end Tw
end
section
set_option maxRecDepth 100000
/-! layer 15: stores into an instance; an own == -/
namespace Tw
open PySem PySem.Spec PyProof.Rows L2

def putAF (f : Str) (x : A) : List (Str × A) → List (Str × A)
  | [] => [(f, x)]
  | (g, y) :: r => if g = f then (g, x) :: r else (g, y) :: putAF f x r
theorem ownF_put {mg : Str → Option Value} {Z : Addr → Prop} {H : Hp} {f : Str} {d : D} {u : V} (hd : Rep mg Z H d u) : ∀ {fs : List (Str × A)} {vs : List (Str × V)} {q : List Addr}, OwnF mg Z H fs vs q → ∃ q', q'.Sublist q ∧ OwnF mg Z H (putAF f (.d d) fs) (putF f u vs) q'
  | [], vs, q, ⟨e1, e2⟩ => by
    subst e1; subst e2
    exact ⟨[], .slnil, u, [], [], [], rfl, rfl, ⟨rfl, hd⟩, rfl, rfl⟩
  | (g, y) :: r, vs, q, ⟨v, w, p, q2, e1, e2, h1, h2⟩ => by
    subst e1; subst e2
    unfold putAF
    show ∃ q', _ ∧ OwnF mg Z H _ (if g = f then (g, u) :: w else (g, v) :: putF f u w) q'
    by_cases hg : g = f
    · rw [if_pos hg, if_pos hg]
      exact ⟨q2, List.sublist_append_right _ _, u, w, [], q2, rfl, rfl, ⟨rfl, hd⟩, h2⟩
    · rw [if_neg hg, if_neg hg]
      obtain ⟨q', s, h3⟩ := ownF_put hd h2
      exact ⟨p ++ q', s.append_left p, v, _, p, q', rfl, rfl, h1, h3⟩
theorem ownF_len {mg : Str → Option Value} {Z : Addr → Prop} {H : Hp} : ∀ {fs : List (Str × A)} {vs : List (Str × V)} {q : List Addr}, OwnF mg Z H fs vs q → fs.length = vs.length
  | [], vs, q, ⟨e1, e2⟩ => by rw [e1]; rfl
  | (g, y) :: r, vs, q, ⟨v, w, p, q2, e1, e2, h1, h2⟩ => by rw [e1, List.length_cons, List.length_cons, ownF_len h2]
def insA : Option A → Option (Bool × Str × List (Str × A))
  | some (.i b c fs) => some (b, c, fs)
  | _ => none
theorem insA_some {x : Option A} {b : Bool} {c : Str} {fs : List (Str × A)} : insA x = some (b, c, fs) ↔ x = some (.i b c fs) := by
  cases x with
  | none => simp [insA]
  | some y => cases y <;> simp [insA]
/-- x.f = e -/
def fldS (i : Nat) (cn fn : Str) (f : EF) : SF := fun ρ => (dv f ρ).bind fun v => (insA (at_ v.2 i)).bind fun y => if y.2.1 = cn ∧ y.2.2.length < 1000 then some (.nx, v.2.set i (some (.i y.1 y.2.1 (putAF fn (.d v.1) y.2.2)))) else none
theorem Good.writeI {mg : Str → Option Value} {c : Fx} {σ : Sg} {H : Hp} {ρ : Ro} {ts : List D} {tv : List V} {r : Option A} {v : V} {fp : Pl → List Addr} {i : Nat} {bb : Bool} {cn f : Str} {fs : List (Str × A)} (g : Good mg c σ H ρ ts tv r v fp) (hx : at_ ρ i = some (.i bb cn fs)) :
    ∃ a C dx vs, atS σ i = some (.ref a) ∧ mg cn = some (.ref C) ∧ H a = some (.ins C dx vs) ∧ fs.length = vs.length ∧ ∀ d u, Rep mg (Zof c fp) H d u → ∃ fp', Good mg c σ (upd H a (.ins C dx (putF f u vs))) (ρ.set i (some (.i bb cn (putAF f (.d d) fs)))) ts tv r v fp' := by
  obtain ⟨w, hu, a, C, dx, vs, q, rfl, hf, hm, ho, of⟩ := g.ent (some i) _ hx
  refine ⟨a, C, dx, vs, hu, hm, ho, ownF_len of, fun d u rd => ?_⟩
  obtain ⟨q', sub, of'⟩ := ownF_put (f := f) rd of
  have nd := g.nd (some i)
  rw [hf] at nd
  obtain ⟨n1, n2⟩ := List.nodup_cons.mp nd
  have hz : ∀ b, Zof c (fpS fp i (a :: q')) b → Zof c fp b := fun b h => by
    rcases h with h | ⟨p, h⟩
    · exact .inl h
    · by_cases hp : p = some i
      · subst hp
        rw [fpS_self] at h
        refine .inr ⟨some i, ?_⟩
        rw [hf]
        rcases List.mem_cons.mp h with h | h
        · rw [h]; exact List.mem_cons_self
        · exact List.mem_cons_of_mem _ (sub.subset h)
      · rw [fpS_ne hp] at h
        exact .inr ⟨p, h⟩
  have lift : ∀ b w, ¬ Zof c fp b → Rd H b w → ¬ Zof c (fpS fp i (a :: q')) b ∧ Rd (upd H a (.ins C dx (putF f u vs))) b w := fun b w z h => by
    refine ⟨fun q => z (hz b q), ?_⟩
    have hne : b ≠ a := fun e => z (.inr ⟨some i, by rw [hf, e]; exact List.mem_cons_self⟩)
    rcases h with h | ⟨q, h, l⟩
    · exact .inl (by rw [upd_ne hne]; exact h)
    · exact .inr ⟨q, by rw [upd_ne hne]; exact h, l⟩
  refine ⟨fpS fp i (a :: q'), g.write (x' := .i bb cn (putAF f (.d d) fs)) (q := a :: q') hx hu (fun b o e hb => ?_) (fun b hb => ?_) rfl (List.nodup_cons.mpr ⟨fun h => n1 (sub.subset h), n2.sublist sub⟩) (fun b hb => .inl (by
    rw [hf]
    rcases List.mem_cons.mp hb with h | h
    · rw [h]; exact List.mem_cons_self
    · exact List.mem_cons_of_mem _ (sub.subset h))) ⟨a, C, dx, _, q', rfl, rfl, hm, upd_same, of'.mono lift fun b hb => upd_ne fun e => n1 (by rw [← e]; exact sub.subset hb)⟩⟩
  · have hne : b ≠ a := fun e => hb (by rw [hf, e]; exact List.mem_cons_self)
    rw [upd_ne hne]; exact e
  · by_cases e : b = a
    · subst e; rw [upd_same]; simp
    · rw [upd_ne e]; exact hb
section
variable {X : Cx} {a b value : Expr} {o p : Opd} {f : EF} {pos apos cpos : Pos} {cn fn : Str} {C : Addr}
theorem s_fld (i : Nat) {x : Str} {px pos' : Pos} (hc : ClsF X cn C) (hn : NoAttr X.K C fn) (hv : EI X value f) (hN : X.N[i]? = some x := by rfl) (hvs : Vis X.env.scope x := by first | exact Or.inl rfl | exact Or.inr (Or.inl rfl) | exact Or.inr (Or.inr rfl)) (hdb : (x == ("__debug__" : Str)) = false := by decide)
    (hcd : (x == ("__classdict__" : Str)) = false := by decide) (hs : swapsWith value (some (.Attribute (.Name x px) fn pos')) pos.line X.env = pure false := by rfl) : SI X (.Assign [.Attribute (.Name x px) fn pos'] value pos) (fldS i cn fn f) :=
  (ps_fld (pe_var hN hvs hdb hcd) hv hs).imp fun D σ H h => by
  obtain ⟨c, ρ, ts, tv, r, ρ', s, e, k⟩ := h
  obtain ⟨⟨d, ρ1⟩, e1, e⟩ := bind_some.mp (show (dv f ρ).bind _ = _ from e)
  obtain ⟨⟨bb, c', fs⟩, e2, e⟩ := bind_some.mp e
  split at e
  case isFalse => cases e
  rename_i hcn
  cases e
  obtain ⟨hcn, hl⟩ := hcn
  have hcn : c' = cn := hcn
  subst hcn
  refine tE_dv s e1 fun w H1 s1 => ?_
  obtain ⟨fp, g1⟩ := s1
  obtain ⟨w', tw', eq, rep, tt⟩ := g1.tmp
  cases eq
  have g0 := g1.retmp tt
  obtain ⟨a0, C', dx, vs, hu, hm, ho, hlen, wr⟩ := g0.writeI (f := fn) (insA_some.mp e2)
  cases hm.symm.trans hc.mg
  exact ⟨_, atS_of.mp hu, a0, C, dx, vs, rfl, ho, hc.cls, hn, by rw [← hlen]; exact hl, k _ _ (wr _ _ rep)⟩
end

/-! ### an own == and its != -/
def blA : A → Option Bool
  | .d (.bl b) => some b
  | _ => none
def eqI (cn : Str) (F : F0) (neg : Bool) : D → D → Option A := fun a b => (insD a).bind fun x => (insD b).bind fun y => if x.1 = cn ∧ y.1 = cn then (F [a, b]).bind fun r => (blA r).map fun q => .d (.bl (if neg = true then !q else q)) else none
structure EqF (X : Cx) (cn : Str) (C f : Addr) : Prop where
  c : ClsF X cn C
  eq : PySem.W.findIn X.K (.ref C) "__eq__" = some (some (.ref f))
  fn : PySem.W.isFn X.K (.ref f) = true
  ne : PySem.W.findIn X.K (.ref C) "__ne__" = some (some (.builtin "object.__ne__"))
  ob : PySem.W.mroIn X.K C (.type "object") = some true
section
variable {X : Cx} {k : Nat} {f C : Addr} {fd : FuncData} {ps : List Str} {cn : Str}
theorem run_eq {F : F0} (G : FnOk X.prog X.w X.K X.mg X.base CX0 k f fd ps (sp0 X.mg F)) (hb : Binds X.K fd ps []) {A : Around} (hA : A.frames = X.A.frames) (hr : Room k A) {pins : List (Addr × Obj)} {σ : Sg} {H : Hp} {s : Shared} {x y : V} {u v : Value} {Q : VK} {R : Value → Shared → Prop}
    (I : Inv X pins σ H s) (rx : RelV x u) (ry : RelV y v) (h : sp0 X.mg F [x, y] H Q E0) (hR : ∀ w s', EP X pins σ Q w s' → R w s') : wpAny (model X.prog X.w) A (call (.ref f) [u, v]) R X.xe s := by
  have e0 : Env0 X.prog X.w X.K X.mg X.base A X.stack s H := by
    have e := I.env0
    exact ⟨by rw [hA]; exact e.frames, e.mod, e.bs, e.bsz, e.funs, e.frf, e.hok, e.bare⟩
  have hl := G.len _ _ _ _ h
  have r2 : Vals [x, y] [u, v] := .cons rx (.cons ry .nil)
  refine wpAny_call (codeAny_mono (G.run A X.stack s H ⟨[u, v], []⟩ [u, v] [x, y] Q E0 hr e0 (by
    have := hb s [u, v] I.kIn (by simpa using hl)
    simpa using this) r2 h) fun r s' hq => ?_)
  cases r with
  | error e => exact pass0 pins σ H s e s' I hq
  | ok fl =>
    cases fl with
    | ret w => exact hR _ _ (I.after hq)
    | next => exact False.elim hq
    | brk => exact False.elim hq
    | cont => exact False.elim hq
/-- what the two operations need of the operands -/
theorem eqI_at {mg : Str → Option Value} {F : F0} {neg : Bool} {Z : Addr → Prop} {H : Hp} {a b : D} {x y : V} {r : A} {Q : VK} (hm : mg cn = some (.ref C)) (hz : ∀ p, Z p → H p ≠ none) (ra : RepT mg Z H a x) (rb : RepT mg Z H b y) (e : eqI cn F neg a b = some r) (k : Ret mg Z H r Q) :
    ∃ p q dx dy fs gs, x = .ref p ∧ y = .ref q ∧ H p = some (.ins C dx fs) ∧ H q = some (.ins C dy gs) ∧ sp0 mg F [x, y] H (fun v H' => ∃ c, v = .bl c ∧ Q (.bl (if neg = true then !c else c)) H') E0 := by
  obtain ⟨⟨c1, fs⟩, e1, e⟩ := bind_some.mp (show (insD a).bind _ = _ from e)
  obtain ⟨⟨c2, gs⟩, e2, e⟩ := bind_some.mp e
  split at e
  case isFalse => cases e
  rename_i hcn
  obtain ⟨z, e3, e⟩ := bind_some.mp e
  obtain ⟨q, e4, e⟩ := map_some.mp e
  cases e
  cases a <;> cases e1
  cases b <;> cases e2
  have ra' : Rep mg Z H (.ins c1 fs) x := ra
  have rb' : Rep mg Z H (.ins c2 gs) y := rb
  obtain ⟨p, C1, dx, vs, rfl, _, hm1, g1, _⟩ := ra
  obtain ⟨p2, C2, dy, ws, rfl, _, hm2, g2, _⟩ := rb
  have h1 : C1 = C := by
    have := hm1.symm.trans (show mg c1 = some (.ref C) by rw [show c1 = cn from hcn.1]; exact hm)
    cases this; rfl
  have h2 : C2 = C := by
    have := hm2.symm.trans (show mg c2 = some (.ref C) by rw [show c2 = cn from hcn.2]; exact hm)
    cases this; rfl
  subst h1
  subst h2
  refine ⟨p, p2, dx, dy, vs, ws, rfl, rfl, g1.ins, g2.ins, Z, _, z, hz, Reps.cons ra' (Reps.cons rb' Reps.nil), e3, ?_⟩
  intro v H' q' s hq nd hown hbor
  cases z with
  | d dd =>
    cases dd with
    | bl t =>
      cases e4
      obtain ⟨rfl, hv⟩ := hown
      exact ⟨q, hv, k _ H' [] s (fun _ h => by cases h) List.nodup_nil ⟨rfl, rfl⟩ rfl⟩
    | _ => cases e4
  | _ => cases e4
theorem o_eqI {F : F0} (hc : EqF X cn C f) (G : FnOk X.prog X.w X.K X.mg X.base CX0 k f fd ps (sp0 X.mg F)) (hb : Binds X.K fd ps []) (hr : Room k X.A) : OpD X (compareOp .Eq) (eqI cn F false) := by
  intro pins s σ H x y u v Q I rx ry h
  obtain ⟨Z, a, b, r, hz, ra, rb, e, kk⟩ := h
  obtain ⟨p, q, dx, dy, fs, gs, rfl, rfl, ha, hb', hs⟩ := eqI_at hc.c.mg hz ra rb e kk
  obtain ⟨mA, J, _⟩ := ins_get I.hok ha
  obtain ⟨mB, J', _⟩ := ins_get I.hok hb'
  obtain ⟨od, J, _⟩ := J.look
  obtain ⟨od', J', _⟩ := J'.look
  obtain ⟨m, hF⟩ := I.fr
  cases rx
  cases ry
  show wpAny (model X.prog X.w) X.A (richCompare .Eq _ _) (EP X pins σ Q) X.xe s
  refine PySem.W.cmp_K (op := .Eq) (tb := .ref C) hr.units0 hF I.ok.mod.kin J J'.type (by simp [PySem.W.notFirst]) hc.eq hc.fn ?_
  refine run_eq G hb rfl hr I (show RelV (.ref p) (.ref p) from rfl) (show RelV (.ref q) (.ref q) from rfl) hs fun w s' hw => ?_
  obtain ⟨v', H', I', rv, c, rfl, q⟩ := hw
  cases rv
  exact ⟨.bl c, H', I', rfl, q⟩
theorem ifBound_objNe {M : Model} {A : Around} {E : Value → Shared → Prop} {s : Shared} {K : PySem.W.Frag} {x C : Addr} {ox : Obj} {od : Option Obj} {args : List Value} {Q : Option Value → Shared → Prop} (X : K.In s.heap) (I : PySem.W.InstAt s.heap x ox C od) (hs : PySem.W.findIn K (.ref C) "__ne__" = some (some (.builtin "object.__ne__")))
    (h : wpAny M A (call (.builtin "object.__ne__") (.ref x :: args)) (fun v => Q (some v)) E s) : wpAny M A (callSpecialIfBound? (.ref x) "__ne__" args) Q E s := by
  simp only [callSpecialIfBound?, bindSpecialIfBound?]
  refine wpAny_holding (wpAny_bind (wpAny_bind (wpAny_bind (I.type.here ((PySem.W.looks_findIn X hs).here ?_)))))
  refine wpAny_bind (wpAny_askSetting (wpAny_ite ?_))
  have fin : wpAny M A (call (.builtin "object.__ne__") ([.ref x] ++ args) >>= fun v => pure (some v)) Q E s := wpAny_bind (wpAny_mono h (fun v s' h' => wpAny_pure h') fun _ _ h' => h')
  split
  · exact wpAny_bind (wpAny_of_eq (F.cmp_object.ne.bind _) (wpAny_pure (by exact fin)))
  · exact wpAny_tryCatch (wpAny_bind (wpAny_of_eq (F.cmp_object.ne.bind _) (wpAny_pure (by exact fin))))
theorem entry_ne {prog : Program} {w : World} {A : Around} {E : Value → Shared → Prop} {s : Shared} {K : PySem.W.Frag} {x C f : Addr} {y : Value} {ox : Obj} {od : Option Obj} {Q : Fin → Shared → Prop} (X : K.In s.heap) (I : PySem.W.InstAt s.heap x ox C od) (hu : A.units < cLine)
    (hs : PySem.W.findIn K (.ref C) "__eq__" = some (some (.ref f))) (hf : PySem.W.isFn K (.ref f) = true)
    (h : wpAny (model prog w) A (call (.ref f) [.ref x, y]) (fun v s' => ∃ b, v = .bool b ∧ Q (.done (.ret (.bool (!b)))) s') E s) :
    wpAny (model prog w) A (Builtin.«object.__ne__» ⟨[.ref x, y], []⟩) Q E s := by
  have X0 := X
  have I0 := I
  unfold Builtin.«object.__ne__»
  repeat (first
    | with_reducible refine wpAny_cRoomFor hu ?_
    | (refine wpAny_bind (m := callSpecialIfBound? (.ref x) (Str.ofString "__eq__") [y])
        (PySem.W.ifBound_K X0 I0 hs hf (wpAny_mono h (fun r s' hr => by
          obtain ⟨b, rfl, hq⟩ := hr
          repeat (first | exact hq | exact wpAny_pure hq | exact wpAny_truthy_bool hq | (refine wpAny_bind (m := truthy (.bool _)) (wpAny_truthy_bool ?_)) | wp_step)) fun _ _ e => e)))
    | wp_step)
theorem o_neI {F : F0} (hc : EqF X cn C f) (G : FnOk X.prog X.w X.K X.mg X.base CX0 k f fd ps (sp0 X.mg F)) (hb : Binds X.K fd ps []) (hr : Room (k + 1) X.A) : OpD X (compareOp .NotEq) (eqI cn F true) := by
  intro pins s σ H x y u v Q I rx ry h
  obtain ⟨Z, a, b, r, hz, ra, rb, e, kk⟩ := h
  obtain ⟨p, q, dx, dy, fs, gs, rfl, rfl, ha, hb', hs⟩ := eqI_at hc.c.mg hz ra rb e kk
  obtain ⟨mA, J, _⟩ := ins_get I.hok ha
  obtain ⟨mB, J', _⟩ := ins_get I.hok hb'
  obtain ⟨od, J, _⟩ := J.look
  obtain ⟨od', J', _⟩ := J'.look
  cases rx
  cases ry
  show wpAny (model X.prog X.w) X.A (richCompare .NotEq _ _) (EP X pins σ Q) X.xe s
  have one : wpAny (model X.prog X.w) X.A (tryCompare (.ref p) (Str.ofString "__ne__") (.ref q)) (fun r s' => ∃ w, r = some w ∧ EP X pins σ Q w s') X.xe s := by
    unfold tryCompare
    refine wpAny_bind (ifBound_objNe I.kIn J hc.ne (wpAny_call (codeAny_call_builtin PySem.F.cmp_object.ne.plain PySem.F.cmpEntry_ne (PySem.W.check_slot PySem.F.cmpKind_ne PySem.F.cmpSplit_ne (J.type.andThen (PySem.W.looks_mroIn I.kIn hc.ob)) (PySem.F.cmpArgs_ne _ _)
      (entry_ne I.kIn J (by have := hr.units0; have := hr.in1.units0; exact this) hc.eq hc.fn ?_)))))
    refine run_eq (A := X.A.in1) G hb (by first | rfl | simp [Around.in1]) hr.in1 I (show RelV (.ref p) (.ref p) from rfl) (show RelV (.ref q) (.ref q) from rfl) hs fun w s' hw => ?_
    obtain ⟨v', H', I', rv, c, rfl, q⟩ := hw
    cases rv
    exact ⟨c, rfl, wpAny_pure ⟨_, rfl, .bl (!c), H', I', rfl, q⟩⟩
  unfold richCompare
  simp only [oneThing_ref]
  refine wpAny_holding (wpAny_bind (wpAny_cRoomFor hr.units0 ?_))
  rw [cmpInfo_NotEq]
  dsimp only
  refine wpAny_bind (J.type.here (wpAny_bind (J'.type.here ?_)))
  rw [show (Value.ref C != Value.ref C) = false from by simp]
  simp only [Bool.false_eq_true, if_false]
  refine wpAny_bind (wpAny_pure ?_)
  simp only [Bool.false_eq_true, if_false]
  refine wpAny_bind (wpAny_mono one (fun r s' z => ?_) fun _ _ e => e)
  obtain ⟨w, rfl, hq⟩ := z
  first | exact wpAny_pure hq | exact wpAny_pure (wpAny_pure hq)
end
end Tw
end
section
set_option maxRecDepth 100000
/-! layer 19: a dict against what is none -/
namespace Tw
open PySem PySem.Spec PyProof.Rows L2
open PySem.SeqAt PySem.MeetsSeq PySem.MeetsSeq2 PySem.MeetsSeq3
open AutoSeq1 (wpAny_loadPart')
/-- an object that is a dict -/
def IsDic (h : Heap) (a : Addr) : Prop := ∃ dd es n sl, h.get? a = some { cls := .type "dict", dict := dd, data := .dict es n, slots := sl }
theorem IsDic.ty {s : Shared} {a : Addr} (h : IsDic s.heap a) : s.TypeIs (.ref a) "dict" := let ⟨_, _, _, _, e⟩ := h; ⟨_, e, rfl⟩
section
variable {prog : Program} {w : World} {A : Around} {E : Value → Shared → Prop} {s : Shared}

theorem dict_dec_eq {a : Addr} {x : Value} {T : String} {Q : Value → Shared → Prop} (da : s.TypeIs (.ref a) "dict") (hx : s.TypeIs x T) (hs : isSubtype (.type T) (.type "dict") = pure false) (h : Q .notImplemented s) :
    wpAny (model prog w) A (call (.builtin "dict.__eq__") [.ref a, x]) Q E s := by
  refine wpAny_call_entry PySem.F.slot_dict_eq da PySem.F.entry_dict_eq (b := Builtin.«dict.__eq__») (rest := [x]) ?_ (PySem.F.args_dict_eq_2 _ _)
  show wpAny _ _ (bind (Builtin.Dict.dictSlotArgs "__eq__" ⟨.ref a :: [x], []⟩) _) _ _ _
  unfold Builtin.Dict.dictSlotArgs
  refine wpAny_bind (wpAny_bind (wpAny_notOrdered_dict da (show wpAny _ _ (pure (Value.ref a, x)) _ _ _ from wpAny_pure ?_)))
  refine wpAny_bind (wpAny_isInstance hx hs ?_)
  rw [Bool.not_false, if_pos rfl]
  exact wpAny_bind (wpAny_rule (wpAny_pure ⟨_, rfl, h⟩))
theorem dict_dec_ne {a : Addr} {x : Value} {T : String} {Q : Value → Shared → Prop} (da : s.TypeIs (.ref a) "dict") (hx : s.TypeIs x T) (hs : isSubtype (.type T) (.type "dict") = pure false) (h : Q .notImplemented s) :
    wpAny (model prog w) A (call (.builtin "dict.__ne__") [.ref a, x]) Q E s := by
  refine wpAny_call_entry PySem.F.slot_dict_ne da PySem.F.entry_dict_ne (b := Builtin.«dict.__ne__») (rest := [x]) ?_ (PySem.F.args_dict_ne_2 _ _)
  show wpAny _ _ (bind (Builtin.Dict.dictSlotArgs "__ne__" ⟨.ref a :: [x], []⟩) _) _ _ _
  unfold Builtin.Dict.dictSlotArgs
  refine wpAny_bind (wpAny_bind (wpAny_notOrdered_dict da (show wpAny _ _ (pure (Value.ref a, x)) _ _ _ from wpAny_pure ?_)))
  refine wpAny_bind (wpAny_isInstance hx hs ?_)
  rw [Bool.not_false, if_pos rfl]
  exact wpAny_bind (wpAny_rule (wpAny_pure ⟨_, rfl, h⟩))
end
theorem bool_dec_eq (b : Bool) (l : Addr) (c : Value) (es : Array DictEntry) (n : Nat) (dd : Option Addr) (sl : Array (Option Value)) :
    Meets (Builtin.«int.__eq__» ⟨[.bool b, .ref l], []⟩) (fun _ R s => s.heap.get? l = some { cls := c, dict := dd, data := .dict es n, slots := sl } ∧ R (.ok (.ret .notImplemented)) s) :=
  .of_wp fun prog w A R s h => by
    obtain ⟨hp, g, d, tk, os⟩ := s
    obtain ⟨hl, h⟩ := h
    wp_walk using wpAny_loadPart' hl, wpAny_load hl
    exact ⟨_, rfl, h⟩
theorem int_dec_eq (b : Int) (u : Tok) (l : Addr) (c : Value) (es : Array DictEntry) (n : Nat) (dd : Option Addr) (sl : Array (Option Value)) :
    Meets (Builtin.«int.__eq__» ⟨[.int b u, .ref l], []⟩) (fun _ R s => s.heap.get? l = some { cls := c, dict := dd, data := .dict es n, slots := sl } ∧ R (.ok (.ret .notImplemented)) s) :=
  .of_wp fun prog w A R s h => by
    obtain ⟨hp, g, d, tk, os⟩ := s
    obtain ⟨hl, h⟩ := h
    wp_walk using wpAny_loadPart' hl, wpAny_load hl
    exact ⟨_, rfl, h⟩
theorem str_dec_eq (b : Str) (u : Tok) (l : Addr) (c : Value) (es : Array DictEntry) (n : Nat) (dd : Option Addr) (sl : Array (Option Value)) :
    Meets (Builtin.«str.__eq__» ⟨[.str b u, .ref l], []⟩) (fun _ R s => s.heap.get? l = some { cls := c, dict := dd, data := .dict es n, slots := sl } ∧ R (.ok (.ret .notImplemented)) s) :=
  .of_wp fun prog w A R s h => by
    obtain ⟨hp, g, d, tk, os⟩ := s
    obtain ⟨hl, h⟩ := h
    wp_walk using wpAny_loadPart' hl, wpAny_load hl
    exact ⟨_, rfl, h⟩
theorem list_dec_eq (l b : Addr) (items : Array Value) (es : Array DictEntry) (n n2 : Nat) (dd dd2 : Option Addr) (sl sl2 : Array (Option Value)) :
    Meets (Builtin.«list.__eq__» ⟨[.ref l, .ref b], []⟩) (fun _ R s => s.heap.get? l = some { cls := .type "list", dict := dd, data := .seq items n, slots := sl } ∧ s.heap.get? b = some { cls := .type "dict", dict := dd2, data := .dict es n2, slots := sl2 } ∧ R (.ok (.ret .notImplemented)) s) :=
  .of_wp fun prog w A R s h => by
    obtain ⟨hp, g, d, tk, os⟩ := s
    obtain ⟨hl, hb, h⟩ := h
    have f1 := F.sub_dict_list
    wp_walk using wpAny_loadPart' hl, wpAny_loadPart' hb
    exact ⟨_, rfl, h⟩
theorem tuple_dec_eq (l b : Addr) (items : Array Value) (es : Array DictEntry) (n n2 : Nat) (dd dd2 : Option Addr) (sl sl2 : Array (Option Value)) :
    Meets (Builtin.«tuple.__eq__» ⟨[.ref l, .ref b], []⟩) (fun _ R s => s.heap.get? l = some { cls := .type "tuple", dict := dd, data := .seq items n, slots := sl } ∧ s.heap.get? b = some { cls := .type "dict", dict := dd2, data := .dict es n2, slots := sl2 } ∧ R (.ok (.ret .notImplemented)) s) :=
  .of_wp fun prog w A R s h => by
    obtain ⟨hp, g, d, tk, os⟩ := s
    obtain ⟨hl, hb, h⟩ := h
    have f1 := F.sub_dict_tuple
    wp_walk using wpAny_loadPart' hl, wpAny_loadPart' hb
    exact ⟨_, rfl, h⟩
theorem bool_dec_ne (b : Bool) (l : Addr) (c : Value) (es : Array DictEntry) (n : Nat) (dd : Option Addr) (sl : Array (Option Value)) :
    Meets (Builtin.«int.__ne__» ⟨[.bool b, .ref l], []⟩) (fun _ R s => s.heap.get? l = some { cls := c, dict := dd, data := .dict es n, slots := sl } ∧ R (.ok (.ret .notImplemented)) s) :=
  .of_wp fun prog w A R s h => by
    obtain ⟨hp, g, d, tk, os⟩ := s
    obtain ⟨hl, h⟩ := h
    wp_walk using wpAny_loadPart' hl, wpAny_load hl
    exact ⟨_, rfl, h⟩
theorem int_dec_ne (b : Int) (u : Tok) (l : Addr) (c : Value) (es : Array DictEntry) (n : Nat) (dd : Option Addr) (sl : Array (Option Value)) :
    Meets (Builtin.«int.__ne__» ⟨[.int b u, .ref l], []⟩) (fun _ R s => s.heap.get? l = some { cls := c, dict := dd, data := .dict es n, slots := sl } ∧ R (.ok (.ret .notImplemented)) s) :=
  .of_wp fun prog w A R s h => by
    obtain ⟨hp, g, d, tk, os⟩ := s
    obtain ⟨hl, h⟩ := h
    wp_walk using wpAny_loadPart' hl, wpAny_load hl
    exact ⟨_, rfl, h⟩
theorem str_dec_ne (b : Str) (u : Tok) (l : Addr) (c : Value) (es : Array DictEntry) (n : Nat) (dd : Option Addr) (sl : Array (Option Value)) :
    Meets (Builtin.«str.__ne__» ⟨[.str b u, .ref l], []⟩) (fun _ R s => s.heap.get? l = some { cls := c, dict := dd, data := .dict es n, slots := sl } ∧ R (.ok (.ret .notImplemented)) s) :=
  .of_wp fun prog w A R s h => by
    obtain ⟨hp, g, d, tk, os⟩ := s
    obtain ⟨hl, h⟩ := h
    wp_walk using wpAny_loadPart' hl, wpAny_load hl
    exact ⟨_, rfl, h⟩
theorem list_dec_ne (l b : Addr) (items : Array Value) (es : Array DictEntry) (n n2 : Nat) (dd dd2 : Option Addr) (sl sl2 : Array (Option Value)) :
    Meets (Builtin.«list.__ne__» ⟨[.ref l, .ref b], []⟩) (fun _ R s => s.heap.get? l = some { cls := .type "list", dict := dd, data := .seq items n, slots := sl } ∧ s.heap.get? b = some { cls := .type "dict", dict := dd2, data := .dict es n2, slots := sl2 } ∧ R (.ok (.ret .notImplemented)) s) :=
  .of_wp fun prog w A R s h => by
    obtain ⟨hp, g, d, tk, os⟩ := s
    obtain ⟨hl, hb, h⟩ := h
    have f1 := F.sub_dict_list
    wp_walk using wpAny_loadPart' hl, wpAny_loadPart' hb
    exact ⟨_, rfl, h⟩
theorem tuple_dec_ne (l b : Addr) (items : Array Value) (es : Array DictEntry) (n n2 : Nat) (dd dd2 : Option Addr) (sl sl2 : Array (Option Value)) :
    Meets (Builtin.«tuple.__ne__» ⟨[.ref l, .ref b], []⟩) (fun _ R s => s.heap.get? l = some { cls := .type "tuple", dict := dd, data := .seq items n, slots := sl } ∧ s.heap.get? b = some { cls := .type "dict", dict := dd2, data := .dict es n2, slots := sl2 } ∧ R (.ok (.ret .notImplemented)) s) :=
  .of_wp fun prog w A R s h => by
    obtain ⟨hp, g, d, tk, os⟩ := s
    obtain ⟨hl, hb, h⟩ := h
    have f1 := F.sub_dict_tuple
    wp_walk using wpAny_loadPart' hl, wpAny_loadPart' hb
    exact ⟨_, rfl, h⟩
section
variable {A : Around} {s : Shared}
theorem RcAtD.dict_none {a : Addr} (hd : IsDic s.heap a) (hu : A.units < cLine) : RcAt A s (.ref a) .none false := fun prog w E Q h => by
  obtain ⟨dd, es, n, sl, ho⟩ := id hd
  exact rc_eq_decline_or (k := false) hd.ty rfl (by decide) F.sub_NoneType_dict F.slot_dict_eq F.slot_NoneType_eq_refl
    (fun _ hq => dict_dec_eq hd.ty rfl F.sub_NoneType_dict hq) (fun _ hq => call_gives F.slot_NoneType_eq_refl rfl F.entry_NoneType_eq (F.args_NoneType_eq_2 _ _) (NoneType___eq___none_ref_0 a) hq)
    (fun _ hq => wpAny_of_eq (rfl : isSame (.ref a) .none = pure false) hq) (.inr hu) h
theorem RcAtD.none_dict {a : Addr} (hd : IsDic s.heap a) (hu : A.units < cLine) : RcAt A s .none (.ref a) false := fun prog w E Q h => by
  obtain ⟨dd, es, n, sl, ho⟩ := id hd
  exact rc_eq_decline_or (k := false) rfl hd.ty (by decide) F.sub_dict_NoneType F.slot_NoneType_eq F.slot_dict_eq_refl
    (fun _ hq => call_gives F.slot_NoneType_eq rfl F.entry_NoneType_eq (F.args_NoneType_eq_2 _ _) (NoneType___eq___none_ref_0 a) hq) (fun _ hq => dict_dec_eq hd.ty rfl F.sub_NoneType_dict hq)
    (fun _ hq => wpAny_of_eq (rfl : isSame .none (.ref a) = pure false) hq) (.inr hu) h
theorem RcAtD.dict_bool {a : Addr} (b : Bool) (hd : IsDic s.heap a) (hu : A.units < cLine) : RcAt A s (.ref a) (.bool b) false := fun prog w E Q h => by
  obtain ⟨dd, es, n, sl, ho⟩ := id hd
  exact rc_eq_decline_or (k := false) hd.ty rfl (by decide) F.sub_bool_dict F.slot_dict_eq F.slot_bool_eq_refl
    (fun _ hq => dict_dec_eq hd.ty rfl F.sub_bool_dict hq) (fun _ hq => call_meets F.slot_bool_eq_refl rfl F.entry_int_eq (F.args_int_eq_2 _ _) (bool_dec_eq b a _ es n dd sl) ⟨ho, hq⟩)
    (fun _ hq => wpAny_of_eq (rfl : isSame (.ref a) (.bool b) = pure false) hq) (.inr hu) h
theorem RcAtD.bool_dict {a : Addr} (b : Bool) (hd : IsDic s.heap a) (hu : A.units < cLine) : RcAt A s (.bool b) (.ref a) false := fun prog w E Q h => by
  obtain ⟨dd, es, n, sl, ho⟩ := id hd
  exact rc_eq_decline_or (k := false) rfl hd.ty (by decide) F.sub_dict_bool F.slot_bool_eq F.slot_dict_eq_refl
    (fun _ hq => call_meets F.slot_bool_eq rfl F.entry_int_eq (F.args_int_eq_2 _ _) (bool_dec_eq b a _ es n dd sl) ⟨ho, hq⟩) (fun _ hq => dict_dec_eq hd.ty rfl F.sub_bool_dict hq)
    (fun _ hq => wpAny_of_eq (rfl : isSame (.bool b) (.ref a) = pure false) hq) (.inr hu) h
theorem RcAtD.dict_int {a : Addr} (b : Int) (u : Tok) (hd : IsDic s.heap a) (hu : A.units < cLine) : RcAt A s (.ref a) (.int b u) false := fun prog w E Q h => by
  obtain ⟨dd, es, n, sl, ho⟩ := id hd
  exact rc_eq_decline_or (k := false) hd.ty (typeIs_int s b u) (by decide) F.sub_int_dict F.slot_dict_eq F.slot_int_eq_refl
    (fun _ hq => dict_dec_eq hd.ty (typeIs_int s b u) F.sub_int_dict hq) (fun _ hq => call_meets F.slot_int_eq_refl (typeIs_int s b u) F.entry_int_eq (F.args_int_eq_2 _ _) (int_dec_eq b u a _ es n dd sl) ⟨ho, hq⟩)
    (fun _ hq => wpAny_of_eq (rfl : isSame (.ref a) (.int b u) = pure false) hq) (.inr hu) h
theorem RcAtD.int_dict {a : Addr} (b : Int) (u : Tok) (hd : IsDic s.heap a) (hu : A.units < cLine) : RcAt A s (.int b u) (.ref a) false := fun prog w E Q h => by
  obtain ⟨dd, es, n, sl, ho⟩ := id hd
  exact rc_eq_decline_or (k := false) (typeIs_int s b u) hd.ty (by decide) F.sub_dict_int F.slot_int_eq F.slot_dict_eq_refl
    (fun _ hq => call_meets F.slot_int_eq (typeIs_int s b u) F.entry_int_eq (F.args_int_eq_2 _ _) (int_dec_eq b u a _ es n dd sl) ⟨ho, hq⟩) (fun _ hq => dict_dec_eq hd.ty (typeIs_int s b u) F.sub_int_dict hq)
    (fun _ hq => wpAny_of_eq (rfl : isSame (.int b u) (.ref a) = pure false) hq) (.inr hu) h
theorem RcAtD.dict_str {a : Addr} (b : Str) (u : Tok) (hd : IsDic s.heap a) (hu : A.units < cLine) : RcAt A s (.ref a) (.str b u) false := fun prog w E Q h => by
  obtain ⟨dd, es, n, sl, ho⟩ := id hd
  exact rc_eq_decline_or (k := false) hd.ty (typeIs_str s b u) (by decide) F.sub_str_dict F.slot_dict_eq F.slot_str_eq_refl
    (fun _ hq => dict_dec_eq hd.ty (typeIs_str s b u) F.sub_str_dict hq) (fun _ hq => call_meets F.slot_str_eq_refl (typeIs_str s b u) F.entry_str_eq (F.args_str_eq_2 _ _) (str_dec_eq b u a _ es n dd sl) ⟨ho, hq⟩)
    (fun _ hq => wpAny_of_eq (rfl : isSame (.ref a) (.str b u) = pure false) hq) (.inr hu) h
theorem RcAtD.str_dict {a : Addr} (b : Str) (u : Tok) (hd : IsDic s.heap a) (hu : A.units < cLine) : RcAt A s (.str b u) (.ref a) false := fun prog w E Q h => by
  obtain ⟨dd, es, n, sl, ho⟩ := id hd
  exact rc_eq_decline_or (k := false) (typeIs_str s b u) hd.ty (by decide) F.sub_dict_str F.slot_str_eq F.slot_dict_eq_refl
    (fun _ hq => call_meets F.slot_str_eq (typeIs_str s b u) F.entry_str_eq (F.args_str_eq_2 _ _) (str_dec_eq b u a _ es n dd sl) ⟨ho, hq⟩) (fun _ hq => dict_dec_eq hd.ty (typeIs_str s b u) F.sub_str_dict hq)
    (fun _ hq => wpAny_of_eq (rfl : isSame (.str b u) (.ref a) = pure false) hq) (.inr hu) h
theorem RcAtD.dict_list {a l : Addr} {items : Array Value} (hd : IsDic s.heap a) (hl : s.heap.IsList l items) (hu : A.units < cLine) : RcAt A s (.ref a) (.ref l) false := fun prog w E Q h => by
  obtain ⟨dd, es, n, sl, ho⟩ := id hd
  obtain ⟨⟨c2, dd2, data2, sl2⟩, ho2, hc2, n2, hd2⟩ := id hl
  obtain rfl : c2 = _ := hc2
  obtain rfl : data2 = _ := hd2
  have hne : a ≠ l := fun e => by subst e; rw [ho] at ho2; simp at ho2
  exact rc_eq_decline_or (k := false) hd.ty ⟨_, ho2, rfl⟩ (by decide) F.sub_list_dict F.slot_dict_eq F.slot_list_eq_refl
    (fun _ hq => dict_dec_eq hd.ty ⟨_, ho2, rfl⟩ F.sub_list_dict hq) (fun _ hq => call_meets F.slot_list_eq_refl ⟨_, ho2, rfl⟩ F.entry_list_eq (F.args_list_eq_2 _ _) (list_dec_eq l a items es n2 n dd2 dd sl2 sl) ⟨ho2, ho, hq⟩)
    (fun _ hq => wpAny_isSame_ref_other hne ho ho2 (by simp) hq) (.inr hu) h
theorem RcAtD.list_dict {a l : Addr} {items : Array Value} (hd : IsDic s.heap a) (hl : s.heap.IsList l items) (hu : A.units < cLine) : RcAt A s (.ref l) (.ref a) false := fun prog w E Q h => by
  obtain ⟨dd, es, n, sl, ho⟩ := id hd
  obtain ⟨⟨c2, dd2, data2, sl2⟩, ho2, hc2, n2, hd2⟩ := id hl
  obtain rfl : c2 = _ := hc2
  obtain rfl : data2 = _ := hd2
  have hne : l ≠ a := fun e => by subst e; rw [ho] at ho2; simp at ho2
  exact rc_eq_decline_or (k := false) ⟨_, ho2, rfl⟩ hd.ty (by decide) F.sub_dict_list F.slot_list_eq F.slot_dict_eq_refl
    (fun _ hq => call_meets F.slot_list_eq ⟨_, ho2, rfl⟩ F.entry_list_eq (F.args_list_eq_2 _ _) (list_dec_eq l a items es n2 n dd2 dd sl2 sl) ⟨ho2, ho, hq⟩) (fun _ hq => dict_dec_eq hd.ty ⟨_, ho2, rfl⟩ F.sub_list_dict hq)
    (fun _ hq => wpAny_isSame_ref_other' hne ho2 ho (by simp) hq) (.inr hu) h
theorem RcAtD.dict_tuple {a l : Addr} {items : Array Value} (hd : IsDic s.heap a) (hl : s.heap.IsTuple l items) (hu : A.units < cLine) : RcAt A s (.ref a) (.ref l) false := fun prog w E Q h => by
  obtain ⟨dd, es, n, sl, ho⟩ := id hd
  obtain ⟨⟨c2, dd2, data2, sl2⟩, ho2, hc2, n2, hd2⟩ := id hl
  obtain rfl : c2 = _ := hc2
  obtain rfl : data2 = _ := hd2
  have hne : a ≠ l := fun e => by subst e; rw [ho] at ho2; simp at ho2
  exact rc_eq_decline_or (k := false) hd.ty ⟨_, ho2, rfl⟩ (by decide) F.sub_tuple_dict F.slot_dict_eq F.slot_tuple_eq_refl
    (fun _ hq => dict_dec_eq hd.ty ⟨_, ho2, rfl⟩ F.sub_tuple_dict hq) (fun _ hq => call_meets F.slot_tuple_eq_refl ⟨_, ho2, rfl⟩ F.entry_tuple_eq (F.args_tuple_eq_2 _ _) (tuple_dec_eq l a items es n2 n dd2 dd sl2 sl) ⟨ho2, ho, hq⟩)
    (fun _ hq => wpAny_isSame_ref_other hne ho ho2 (by simp) hq) (.inr hu) h
theorem RcAtD.tuple_dict {a l : Addr} {items : Array Value} (hd : IsDic s.heap a) (hl : s.heap.IsTuple l items) (hu : A.units < cLine) : RcAt A s (.ref l) (.ref a) false := fun prog w E Q h => by
  obtain ⟨dd, es, n, sl, ho⟩ := id hd
  obtain ⟨⟨c2, dd2, data2, sl2⟩, ho2, hc2, n2, hd2⟩ := id hl
  obtain rfl : c2 = _ := hc2
  obtain rfl : data2 = _ := hd2
  have hne : l ≠ a := fun e => by subst e; rw [ho] at ho2; simp at ho2
  exact rc_eq_decline_or (k := false) ⟨_, ho2, rfl⟩ hd.ty (by decide) F.sub_dict_tuple F.slot_tuple_eq F.slot_dict_eq_refl
    (fun _ hq => call_meets F.slot_tuple_eq ⟨_, ho2, rfl⟩ F.entry_tuple_eq (F.args_tuple_eq_2 _ _) (tuple_dec_eq l a items es n2 n dd2 dd sl2 sl) ⟨ho2, ho, hq⟩) (fun _ hq => dict_dec_eq hd.ty ⟨_, ho2, rfl⟩ F.sub_tuple_dict hq)
    (fun _ hq => wpAny_isSame_ref_other' hne ho2 ho (by simp) hq) (.inr hu) h
theorem RcNeAtD.dict_none {a : Addr} (hd : IsDic s.heap a) (hu : A.units < cLine) : RcNeAt A s (.ref a) .none true := fun prog w E Q h => by
  obtain ⟨dd, es, n, sl, ho⟩ := id hd
  exact rc_ne_decline_or (k := false) hd.ty rfl (by decide) F.sub_NoneType_dict F.slot_dict_ne F.slot_NoneType_ne_refl
    (fun _ hq => dict_dec_ne hd.ty rfl F.sub_NoneType_dict hq) (fun _ hq => call_gives F.slot_NoneType_ne_refl rfl F.entry_NoneType_ne (F.args_NoneType_ne_2 _ _) (NoneType___ne___none_ref_0 a) hq)
    (fun _ hq => wpAny_of_eq (rfl : isSame (.ref a) .none = pure false) hq) (.inr hu) h
theorem RcNeAtD.none_dict {a : Addr} (hd : IsDic s.heap a) (hu : A.units < cLine) : RcNeAt A s .none (.ref a) true := fun prog w E Q h => by
  obtain ⟨dd, es, n, sl, ho⟩ := id hd
  exact rc_ne_decline_or (k := false) rfl hd.ty (by decide) F.sub_dict_NoneType F.slot_NoneType_ne F.slot_dict_ne_refl
    (fun _ hq => call_gives F.slot_NoneType_ne rfl F.entry_NoneType_ne (F.args_NoneType_ne_2 _ _) (NoneType___ne___none_ref_0 a) hq) (fun _ hq => dict_dec_ne hd.ty rfl F.sub_NoneType_dict hq)
    (fun _ hq => wpAny_of_eq (rfl : isSame .none (.ref a) = pure false) hq) (.inr hu) h
theorem RcNeAtD.dict_bool {a : Addr} (b : Bool) (hd : IsDic s.heap a) (hu : A.units < cLine) : RcNeAt A s (.ref a) (.bool b) true := fun prog w E Q h => by
  obtain ⟨dd, es, n, sl, ho⟩ := id hd
  exact rc_ne_decline_or (k := false) hd.ty rfl (by decide) F.sub_bool_dict F.slot_dict_ne F.slot_bool_ne_refl
    (fun _ hq => dict_dec_ne hd.ty rfl F.sub_bool_dict hq) (fun _ hq => call_meets F.slot_bool_ne_refl rfl F.entry_int_ne (F.args_int_ne_2 _ _) (bool_dec_ne b a _ es n dd sl) ⟨ho, hq⟩)
    (fun _ hq => wpAny_of_eq (rfl : isSame (.ref a) (.bool b) = pure false) hq) (.inr hu) h
theorem RcNeAtD.bool_dict {a : Addr} (b : Bool) (hd : IsDic s.heap a) (hu : A.units < cLine) : RcNeAt A s (.bool b) (.ref a) true := fun prog w E Q h => by
  obtain ⟨dd, es, n, sl, ho⟩ := id hd
  exact rc_ne_decline_or (k := false) rfl hd.ty (by decide) F.sub_dict_bool F.slot_bool_ne F.slot_dict_ne_refl
    (fun _ hq => call_meets F.slot_bool_ne rfl F.entry_int_ne (F.args_int_ne_2 _ _) (bool_dec_ne b a _ es n dd sl) ⟨ho, hq⟩) (fun _ hq => dict_dec_ne hd.ty rfl F.sub_bool_dict hq)
    (fun _ hq => wpAny_of_eq (rfl : isSame (.bool b) (.ref a) = pure false) hq) (.inr hu) h
theorem RcNeAtD.dict_int {a : Addr} (b : Int) (u : Tok) (hd : IsDic s.heap a) (hu : A.units < cLine) : RcNeAt A s (.ref a) (.int b u) true := fun prog w E Q h => by
  obtain ⟨dd, es, n, sl, ho⟩ := id hd
  exact rc_ne_decline_or (k := false) hd.ty (typeIs_int s b u) (by decide) F.sub_int_dict F.slot_dict_ne F.slot_int_ne_refl
    (fun _ hq => dict_dec_ne hd.ty (typeIs_int s b u) F.sub_int_dict hq) (fun _ hq => call_meets F.slot_int_ne_refl (typeIs_int s b u) F.entry_int_ne (F.args_int_ne_2 _ _) (int_dec_ne b u a _ es n dd sl) ⟨ho, hq⟩)
    (fun _ hq => wpAny_of_eq (rfl : isSame (.ref a) (.int b u) = pure false) hq) (.inr hu) h
theorem RcNeAtD.int_dict {a : Addr} (b : Int) (u : Tok) (hd : IsDic s.heap a) (hu : A.units < cLine) : RcNeAt A s (.int b u) (.ref a) true := fun prog w E Q h => by
  obtain ⟨dd, es, n, sl, ho⟩ := id hd
  exact rc_ne_decline_or (k := false) (typeIs_int s b u) hd.ty (by decide) F.sub_dict_int F.slot_int_ne F.slot_dict_ne_refl
    (fun _ hq => call_meets F.slot_int_ne (typeIs_int s b u) F.entry_int_ne (F.args_int_ne_2 _ _) (int_dec_ne b u a _ es n dd sl) ⟨ho, hq⟩) (fun _ hq => dict_dec_ne hd.ty (typeIs_int s b u) F.sub_int_dict hq)
    (fun _ hq => wpAny_of_eq (rfl : isSame (.int b u) (.ref a) = pure false) hq) (.inr hu) h
theorem RcNeAtD.dict_str {a : Addr} (b : Str) (u : Tok) (hd : IsDic s.heap a) (hu : A.units < cLine) : RcNeAt A s (.ref a) (.str b u) true := fun prog w E Q h => by
  obtain ⟨dd, es, n, sl, ho⟩ := id hd
  exact rc_ne_decline_or (k := false) hd.ty (typeIs_str s b u) (by decide) F.sub_str_dict F.slot_dict_ne F.slot_str_ne_refl
    (fun _ hq => dict_dec_ne hd.ty (typeIs_str s b u) F.sub_str_dict hq) (fun _ hq => call_meets F.slot_str_ne_refl (typeIs_str s b u) F.entry_str_ne (F.args_str_ne_2 _ _) (str_dec_ne b u a _ es n dd sl) ⟨ho, hq⟩)
    (fun _ hq => wpAny_of_eq (rfl : isSame (.ref a) (.str b u) = pure false) hq) (.inr hu) h
theorem RcNeAtD.str_dict {a : Addr} (b : Str) (u : Tok) (hd : IsDic s.heap a) (hu : A.units < cLine) : RcNeAt A s (.str b u) (.ref a) true := fun prog w E Q h => by
  obtain ⟨dd, es, n, sl, ho⟩ := id hd
  exact rc_ne_decline_or (k := false) (typeIs_str s b u) hd.ty (by decide) F.sub_dict_str F.slot_str_ne F.slot_dict_ne_refl
    (fun _ hq => call_meets F.slot_str_ne (typeIs_str s b u) F.entry_str_ne (F.args_str_ne_2 _ _) (str_dec_ne b u a _ es n dd sl) ⟨ho, hq⟩) (fun _ hq => dict_dec_ne hd.ty (typeIs_str s b u) F.sub_str_dict hq)
    (fun _ hq => wpAny_of_eq (rfl : isSame (.str b u) (.ref a) = pure false) hq) (.inr hu) h
theorem RcNeAtD.dict_list {a l : Addr} {items : Array Value} (hd : IsDic s.heap a) (hl : s.heap.IsList l items) (hu : A.units < cLine) : RcNeAt A s (.ref a) (.ref l) true := fun prog w E Q h => by
  obtain ⟨dd, es, n, sl, ho⟩ := id hd
  obtain ⟨⟨c2, dd2, data2, sl2⟩, ho2, hc2, n2, hd2⟩ := id hl
  obtain rfl : c2 = _ := hc2
  obtain rfl : data2 = _ := hd2
  have hne : a ≠ l := fun e => by subst e; rw [ho] at ho2; simp at ho2
  exact rc_ne_decline_or (k := false) hd.ty ⟨_, ho2, rfl⟩ (by decide) F.sub_list_dict F.slot_dict_ne F.slot_list_ne_refl
    (fun _ hq => dict_dec_ne hd.ty ⟨_, ho2, rfl⟩ F.sub_list_dict hq) (fun _ hq => call_meets F.slot_list_ne_refl ⟨_, ho2, rfl⟩ F.entry_list_ne (F.args_list_ne_2 _ _) (list_dec_ne l a items es n2 n dd2 dd sl2 sl) ⟨ho2, ho, hq⟩)
    (fun _ hq => wpAny_isSame_ref_other hne ho ho2 (by simp) hq) (.inr hu) h
theorem RcNeAtD.list_dict {a l : Addr} {items : Array Value} (hd : IsDic s.heap a) (hl : s.heap.IsList l items) (hu : A.units < cLine) : RcNeAt A s (.ref l) (.ref a) true := fun prog w E Q h => by
  obtain ⟨dd, es, n, sl, ho⟩ := id hd
  obtain ⟨⟨c2, dd2, data2, sl2⟩, ho2, hc2, n2, hd2⟩ := id hl
  obtain rfl : c2 = _ := hc2
  obtain rfl : data2 = _ := hd2
  have hne : l ≠ a := fun e => by subst e; rw [ho] at ho2; simp at ho2
  exact rc_ne_decline_or (k := false) ⟨_, ho2, rfl⟩ hd.ty (by decide) F.sub_dict_list F.slot_list_ne F.slot_dict_ne_refl
    (fun _ hq => call_meets F.slot_list_ne ⟨_, ho2, rfl⟩ F.entry_list_ne (F.args_list_ne_2 _ _) (list_dec_ne l a items es n2 n dd2 dd sl2 sl) ⟨ho2, ho, hq⟩) (fun _ hq => dict_dec_ne hd.ty ⟨_, ho2, rfl⟩ F.sub_list_dict hq)
    (fun _ hq => wpAny_isSame_ref_other' hne ho2 ho (by simp) hq) (.inr hu) h
theorem RcNeAtD.dict_tuple {a l : Addr} {items : Array Value} (hd : IsDic s.heap a) (hl : s.heap.IsTuple l items) (hu : A.units < cLine) : RcNeAt A s (.ref a) (.ref l) true := fun prog w E Q h => by
  obtain ⟨dd, es, n, sl, ho⟩ := id hd
  obtain ⟨⟨c2, dd2, data2, sl2⟩, ho2, hc2, n2, hd2⟩ := id hl
  obtain rfl : c2 = _ := hc2
  obtain rfl : data2 = _ := hd2
  have hne : a ≠ l := fun e => by subst e; rw [ho] at ho2; simp at ho2
  exact rc_ne_decline_or (k := false) hd.ty ⟨_, ho2, rfl⟩ (by decide) F.sub_tuple_dict F.slot_dict_ne F.slot_tuple_ne_refl
    (fun _ hq => dict_dec_ne hd.ty ⟨_, ho2, rfl⟩ F.sub_tuple_dict hq) (fun _ hq => call_meets F.slot_tuple_ne_refl ⟨_, ho2, rfl⟩ F.entry_tuple_ne (F.args_tuple_ne_2 _ _) (tuple_dec_ne l a items es n2 n dd2 dd sl2 sl) ⟨ho2, ho, hq⟩)
    (fun _ hq => wpAny_isSame_ref_other hne ho ho2 (by simp) hq) (.inr hu) h
theorem RcNeAtD.tuple_dict {a l : Addr} {items : Array Value} (hd : IsDic s.heap a) (hl : s.heap.IsTuple l items) (hu : A.units < cLine) : RcNeAt A s (.ref l) (.ref a) true := fun prog w E Q h => by
  obtain ⟨dd, es, n, sl, ho⟩ := id hd
  obtain ⟨⟨c2, dd2, data2, sl2⟩, ho2, hc2, n2, hd2⟩ := id hl
  obtain rfl : c2 = _ := hc2
  obtain rfl : data2 = _ := hd2
  have hne : l ≠ a := fun e => by subst e; rw [ho] at ho2; simp at ho2
  exact rc_ne_decline_or (k := false) ⟨_, ho2, rfl⟩ hd.ty (by decide) F.sub_dict_tuple F.slot_tuple_ne F.slot_dict_ne_refl
    (fun _ hq => call_meets F.slot_tuple_ne ⟨_, ho2, rfl⟩ F.entry_tuple_ne (F.args_tuple_ne_2 _ _) (tuple_dec_ne l a items es n2 n dd2 dd sl2 sl) ⟨ho2, ho, hq⟩) (fun _ hq => dict_dec_ne hd.ty ⟨_, ho2, rfl⟩ F.sub_tuple_dict hq)
    (fun _ hq => wpAny_isSame_ref_other' hne ho2 ho (by simp) hq) (.inr hu) h
theorem EqAtD.dict_none {a : Addr} (hd : IsDic s.heap a) (hu : A.units < cLine) : EqAt A s (.ref a) .none false := fun prog w E Q h => by
  unfold eqBool
  exact wpAny_holding (wpAny_ite_split (fun hab => absurd (eq_of_beq hab) nofun) fun _ => wpAny_bind (RcAtD.dict_none hd hu prog w E _ (wpAny_truthy_bool h)))
theorem EqAtD.none_dict {a : Addr} (hd : IsDic s.heap a) (hu : A.units < cLine) : EqAt A s .none (.ref a) false := fun prog w E Q h => by
  unfold eqBool
  exact wpAny_holding (wpAny_ite_split (fun hab => absurd (eq_of_beq hab) nofun) fun _ => wpAny_bind (RcAtD.none_dict hd hu prog w E _ (wpAny_truthy_bool h)))
theorem EqAtD.dict_bool {a : Addr} (b : Bool) (hd : IsDic s.heap a) (hu : A.units < cLine) : EqAt A s (.ref a) (.bool b) false := fun prog w E Q h => by
  unfold eqBool
  exact wpAny_holding (wpAny_ite_split (fun hab => absurd (eq_of_beq hab) nofun) fun _ => wpAny_bind (RcAtD.dict_bool b hd hu prog w E _ (wpAny_truthy_bool h)))
theorem EqAtD.bool_dict {a : Addr} (b : Bool) (hd : IsDic s.heap a) (hu : A.units < cLine) : EqAt A s (.bool b) (.ref a) false := fun prog w E Q h => by
  unfold eqBool
  exact wpAny_holding (wpAny_ite_split (fun hab => absurd (eq_of_beq hab) nofun) fun _ => wpAny_bind (RcAtD.bool_dict b hd hu prog w E _ (wpAny_truthy_bool h)))
theorem EqAtD.dict_int {a : Addr} (b : Int) (u : Tok) (hd : IsDic s.heap a) (hu : A.units < cLine) : EqAt A s (.ref a) (.int b u) false := fun prog w E Q h => by
  unfold eqBool
  exact wpAny_holding (wpAny_ite_split (fun hab => absurd (eq_of_beq hab) nofun) fun _ => wpAny_bind (RcAtD.dict_int b u hd hu prog w E _ (wpAny_truthy_bool h)))
theorem EqAtD.int_dict {a : Addr} (b : Int) (u : Tok) (hd : IsDic s.heap a) (hu : A.units < cLine) : EqAt A s (.int b u) (.ref a) false := fun prog w E Q h => by
  unfold eqBool
  exact wpAny_holding (wpAny_ite_split (fun hab => absurd (eq_of_beq hab) nofun) fun _ => wpAny_bind (RcAtD.int_dict b u hd hu prog w E _ (wpAny_truthy_bool h)))
theorem EqAtD.dict_str {a : Addr} (b : Str) (u : Tok) (hd : IsDic s.heap a) (hu : A.units < cLine) : EqAt A s (.ref a) (.str b u) false := fun prog w E Q h => by
  unfold eqBool
  exact wpAny_holding (wpAny_ite_split (fun hab => absurd (eq_of_beq hab) nofun) fun _ => wpAny_bind (RcAtD.dict_str b u hd hu prog w E _ (wpAny_truthy_bool h)))
theorem EqAtD.str_dict {a : Addr} (b : Str) (u : Tok) (hd : IsDic s.heap a) (hu : A.units < cLine) : EqAt A s (.str b u) (.ref a) false := fun prog w E Q h => by
  unfold eqBool
  exact wpAny_holding (wpAny_ite_split (fun hab => absurd (eq_of_beq hab) nofun) fun _ => wpAny_bind (RcAtD.str_dict b u hd hu prog w E _ (wpAny_truthy_bool h)))
theorem IsDic.ne_list {a l : Addr} {items : Array Value} (hd : IsDic s.heap a) (hl : s.heap.IsList l items) : a ≠ l := fun e => by
  obtain ⟨dd, es, n, sl, ho⟩ := hd
  obtain ⟨⟨c2, dd2, data2, sl2⟩, ho2, hc2, n2, hd2⟩ := hl
  obtain rfl : data2 = _ := hd2
  subst e
  rw [ho] at ho2
  simp at ho2
theorem EqAtD.dict_list {a l : Addr} {items : Array Value} (hd : IsDic s.heap a) (hl : s.heap.IsList l items) (hu : A.units < cLine) : EqAt A s (.ref a) (.ref l) false := .of_refs (hd.ne_list hl) (RcAtD.dict_list hd hl hu)
theorem EqAtD.list_dict {a l : Addr} {items : Array Value} (hd : IsDic s.heap a) (hl : s.heap.IsList l items) (hu : A.units < cLine) : EqAt A s (.ref l) (.ref a) false := .of_refs (hd.ne_list hl).symm (RcAtD.list_dict hd hl hu)
theorem IsDic.ne_tuple {a l : Addr} {items : Array Value} (hd : IsDic s.heap a) (hl : s.heap.IsTuple l items) : a ≠ l := fun e => by
  obtain ⟨dd, es, n, sl, ho⟩ := hd
  obtain ⟨⟨c2, dd2, data2, sl2⟩, ho2, hc2, n2, hd2⟩ := hl
  obtain rfl : data2 = _ := hd2
  subst e
  rw [ho] at ho2
  simp at ho2
theorem EqAtD.dict_tuple {a l : Addr} {items : Array Value} (hd : IsDic s.heap a) (hl : s.heap.IsTuple l items) (hu : A.units < cLine) : EqAt A s (.ref a) (.ref l) false := .of_refs (hd.ne_tuple hl) (RcAtD.dict_tuple hd hl hu)
theorem EqAtD.tuple_dict {a l : Addr} {items : Array Value} (hd : IsDic s.heap a) (hl : s.heap.IsTuple l items) (hu : A.units < cLine) : EqAt A s (.ref l) (.ref a) false := .of_refs (hd.ne_tuple hl).symm (RcAtD.tuple_dict hd hl hu)
end
end Tw
end
section
set_option maxRecDepth 100000
/-! layer 20: != of lists, tuples and dicts whose items are compared in one program -/
namespace Tw
open PySem PySem.Spec PyProof.Rows L2
open PySem.SeqAt PySem.MeetsSeq PySem.MeetsSeq2 PySem.MeetsSeq3
open AutoSeq1 (wpAny_loadPart')
/-- the object of a list, of a tuple -/
abbrev seqOb (T : String) (d : Option Addr) (xs : Array Value) (m : Nat) (z : Array (Option Value)) : Obj := { cls := .type T, dict := d, data := .seq xs m, slots := z }
section
variable {prog : Program} {w : World}
theorem neLoop (p q : Addr) (xs ys : Array Value) (m m2 : Nat) (d1 d2 : Option Addr) (z1 z2 : Array (Option Value)) (hz : xs.size = ys.size) (f : Nat → Bool) (k : Nat) :
    ∀ i : Nat, xs.size - i = k → MeetsIn prog w (Builtin.«list.__eq__.loop» ⟨[.ref p, .ref q, rawInt i, rawInt 3], []⟩)
      (fun A R s => s.heap.get? p = some (seqOb "list" d1 xs m z1) ∧ s.heap.get? q = some (seqOb "list" d2 ys m2 z2) ∧
        (∀ j (h1 : j < xs.size) (h2 : j < ys.size), EqIn prog w A.in1 s xs[j] ys[j] (f j)) ∧ R (.ok (.ret (.bool (!((List.range xs.size).drop i).all f)))) s) := by
  induction k with
  | zero =>
    intro i hk A R s ⟨gp, gq, _, hR⟩
    obtain ⟨hp, g, d, tk, os⟩ := s
    have n1 : xs[((i : Nat) : Int).toNat]? = none := by rw [Array.getElem?_eq_none]; simp; omega
    have n2 : ys[((i : Nat) : Int).toNat]? = none := by rw [Array.getElem?_eq_none]; simp; omega
    rw [List.drop_of_length_le (by simp; omega)] at hR
    wp_walk using wpAny_loadPart' gp, wpAny_loadPart' gq
    rw [n1, n2]
    wp_walk using wpAny_loadPart' gp, wpAny_loadPart' gq
    show R (.ok (.ret (.bool (xs.size != ys.size)))) _
    rw [hz, bne_self_eq_false]
    exact hR
  | succ k ih =>
    intro i hk A R s ⟨gp, gq, he, hR⟩
    obtain ⟨hp, g, d, tk, os⟩ := s
    have l1 : i < xs.size := by omega
    have l2 : i < ys.size := by omega
    have n1 : xs[((i : Nat) : Int).toNat]? = some xs[i] := by rw [Int.toNat_natCast, Array.getElem?_eq_getElem l1]
    have n2 : ys[((i : Nat) : Int).toNat]? = some ys[i] := by rw [Int.toNat_natCast, Array.getElem?_eq_getElem l2]
    have dr : (List.range xs.size).drop i = i :: (List.range xs.size).drop (i + 1) := by rw [List.drop_eq_getElem_cons (by simpa using l1), List.getElem_range]
    have ci : ((i : Int) + 1) = ((i + 1 : Nat) : Int) := by omega
    rw [dr, List.all_cons] at hR
    wp_walk using wpAny_loadPart' gp, wpAny_loadPart' gq
    rw [n1, n2]
    refine wpAny_bind (he i l1 l2 _ _ ?_)
    cases hf : f i with
    | true =>
      rw [hf, Bool.true_and] at hR
      wp_walk
      rw [ci]
      exact ⟨plainId_quiet plain_eq_loop _, codeAny_builtin entry_eq_loop (by
        rw [Around.under_plainId plain_eq_loop _]
        exact ih (i + 1) (by omega) A R _ ⟨gp, gq, he, hR⟩)⟩
    | false =>
      rw [hf, Bool.false_and] at hR
      wp_walk using wpAny_loadPart' gp, wpAny_loadPart' gq
      rw [n1, n2]
      wp_walk
      exact hR
theorem neLists (p q : Addr) (xs ys : Array Value) (m m2 : Nat) (d1 d2 : Option Addr) (z1 z2 : Array (Option Value)) (hz : xs.size = ys.size) (f : Nat → Bool) :
    MeetsIn prog w (Builtin.«list.__ne__» ⟨[.ref p, .ref q], []⟩)
      (fun A R s => s.heap.get? p = some (seqOb "list" d1 xs m z1) ∧ s.heap.get? q = some (seqOb "list" d2 ys m2 z2) ∧
        (∀ j (h1 : j < xs.size) (h2 : j < ys.size), EqIn prog w A.in1 s xs[j] ys[j] (f j)) ∧ R (.ok (.ret (.bool (!(List.range xs.size).all f)))) s) := by
  intro A R s ⟨gp, gq, he, hR⟩
  obtain ⟨hp, g, d, tk, os⟩ := s
  have f3 := AutoSeq1.sub_list_list
  have hn : ¬ (xs.size != ys.size) = true := by rw [hz]; simp
  wp_walk using wpAny_loadPart' gp, wpAny_loadPart' gq
  exact ⟨plainId_quiet plain_eq_loop _, codeAny_builtin entry_eq_loop (by
    rw [Around.under_plainId plain_eq_loop _]
    exact neLoop p q xs ys m m2 d1 d2 z1 z2 hz f _ 0 rfl A R _ ⟨gp, gq, he, hR⟩)⟩
theorem neTuples (p q : Addr) (xs ys : Array Value) (m m2 : Nat) (d1 d2 : Option Addr) (z1 z2 : Array (Option Value)) (f : Nat → Bool) :
    MeetsIn prog w (Builtin.«tuple.__ne__» ⟨[.ref p, .ref q], []⟩)
      (fun A R s => s.heap.get? p = some (seqOb "tuple" d1 xs m z1) ∧ s.heap.get? q = some (seqOb "tuple" d2 ys m2 z2) ∧
        (∀ j (h1 : j < xs.size) (h2 : j < ys.size), EqIn prog w A.in1 s xs[j] ys[j] (f j)) ∧ R (.ok (.ret (.bool (!((List.range (min xs.size ys.size)).all f && xs.size == ys.size))))) s) := by
  intro A R s ⟨gp, gq, he, hR⟩
  obtain ⟨hp, g, d, tk, os⟩ := s
  have f2 := AutoSeq1.sub_tuple_tuple
  have hZ : (xs.toList.zip ys.toList).length = min xs.size ys.size := by simp
  wp_walk using wpAny_loadPart' gp, wpAny_loadPart' gq, wpAny_forIn_list _ (fun rest b s' => b.1 = none ∧ s' = ⟨hp, g, d, tk, os⟩ ∧ ∃ i, rest = (xs.toList.zip ys.toList).drop i ∧
    R (.ok (.ret (.bool (!(((List.range (min xs.size ys.size)).drop i).all f && xs.size == ys.size))))) ⟨hp, g, d, tk, os⟩) _
  case turn =>
    rintro ⟨y, x⟩ rest b s' ⟨hb', rfl, i, hz, hr⟩
    have hl : i < (xs.toList.zip ys.toList).length := by
      refine Nat.lt_of_not_le fun h' => ?_
      rw [List.drop_of_length_le h'] at hz
      cases hz
    have hm : i < min xs.size ys.size := hZ ▸ hl
    have h1 : i < xs.size := by omega
    have h2 : i < ys.size := by omega
    rw [List.drop_eq_getElem_cons hl] at hz
    injection hz with hyx hrest
    have ey : y = xs[i] := by simpa using congrArg Prod.fst hyx
    have ex : x = ys[i] := by simpa using congrArg Prod.snd hyx
    subst ey ex
    have dr : (List.range (min xs.size ys.size)).drop i = i :: (List.range (min xs.size ys.size)).drop (i + 1) := by rw [List.drop_eq_getElem_cons (by simpa using hm), List.getElem_range]
    rw [dr, List.all_cons] at hr
    refine wpAny_bind (he i h1 h2 _ _ ?_)
    cases hy : f i with
    | true =>
      rw [hy, Bool.true_and] at hr
      wp_walk
      exact ⟨rfl, rfl, i + 1, hrest, hr⟩
    | false =>
      rw [hy, Bool.false_and, Bool.false_and] at hr
      wp_walk
      exact hr
  case fin =>
    rintro ⟨b1, b2⟩ s' ⟨hb', rfl, i, hz, hr⟩
    obtain rfl : b1 = none := hb'
    have hge : min xs.size ys.size ≤ i := by
      refine Nat.le_of_not_lt fun h' => ?_
      rw [List.drop_eq_getElem_cons (by rw [hZ]; exact h')] at hz
      cases hz
    rw [List.drop_of_length_le (by simpa using hge)] at hr
    wp_walk
    simpa [Builtin.Tuple.tupleCompareSizes, bne] using hr
  case h =>
    exact ⟨rfl, rfl, 0, rfl, hR⟩
variable {A : Around} {E : Value → Shared → Prop} {s : Shared}
theorem notNI {b : Bool} {Q : Value → Shared → Prop} (h : Q (.bool b) s) : Value.bool b ≠ .notImplemented ∧ Q (.bool b) s := ⟨nofun, h⟩
theorem rcNe_lists {p q : Addr} {xs ys : Array Value} {f : Nat → Bool} {Q : Value → Shared → Prop} (hp : s.heap.IsList p xs) (hq : s.heap.IsList q ys) (hz : xs.size = ys.size) (hu : A.units < cLine)
    (he : ∀ j (h1 : j < xs.size) (h2 : j < ys.size), EqIn prog w A.in1 s xs[j] ys[j] (f j)) (h : Q (.bool (!(List.range xs.size).all f)) s) : wpAny (model prog w) A (richCompare .NotEq (.ref p) (.ref q)) Q E s := by
  obtain ⟨⟨c1, d1, t1, z1⟩, gp, e1, m, f1⟩ := id hp
  obtain ⟨⟨c2, d2, t2, z2⟩, gq, e2, m2, f2⟩ := id hq
  obtain rfl : c1 = _ := e1
  obtain rfl : t1 = _ := f1
  obtain rfl : c2 = _ := e2
  obtain rfl : t2 = _ := f2
  exact wpAny_richCompare_same_room (T := "list") (op := .NotEq) ⟨_, gp, rfl⟩ ⟨_, gq, rfl⟩ F.slot_list_ne (call_meetsIn F.slot_list_ne ⟨_, gp, rfl⟩ F.entry_list_ne (F.args_list_ne_2 _ _) (neLists p q xs ys m m2 d1 d2 z1 z2 hz f)
    ⟨gp, gq, he, notNI h⟩) hu
theorem rcNe_tuples {p q : Addr} {xs ys : Array Value} {f : Nat → Bool} {Q : Value → Shared → Prop} (hp : s.heap.IsTuple p xs) (hq : s.heap.IsTuple q ys) (hu : A.units < cLine)
    (he : ∀ j (h1 : j < xs.size) (h2 : j < ys.size), EqIn prog w A.in1 s xs[j] ys[j] (f j)) (h : Q (.bool (!((List.range (min xs.size ys.size)).all f && xs.size == ys.size))) s) : wpAny (model prog w) A (richCompare .NotEq (.ref p) (.ref q)) Q E s := by
  obtain ⟨⟨c1, d1, t1, z1⟩, gp, e1, m, f1⟩ := id hp
  obtain ⟨⟨c2, d2, t2, z2⟩, gq, e2, m2, f2⟩ := id hq
  obtain rfl : c1 = _ := e1
  obtain rfl : t1 = _ := f1
  obtain rfl : c2 = _ := e2
  obtain rfl : t2 = _ := f2
  exact wpAny_richCompare_same_room (T := "tuple") (op := .NotEq) ⟨_, gp, rfl⟩ ⟨_, gq, rfl⟩ F.slot_tuple_ne (call_meetsIn F.slot_tuple_ne ⟨_, gp, rfl⟩ F.entry_tuple_ne (F.args_tuple_ne_2 _ _) (neTuples p q xs ys m m2 d1 d2 z1 z2 f)
    ⟨gp, gq, he, notNI h⟩) hu
theorem rcNe_dicts {K : Type} [DecidableEq K] {knd : KeyKind prog w K} {a b : Addr} {ka kb : List (K × Value)} {r : Bool} {Q : Value → Shared → Prop} (ha : (a == sysModules) = false) (hb : (b == sysModules) = false)
    (da : s.heap.DictOf knd a ka) (db : s.heap.DictOf knd b kb) (hu : A.units < cLine) (hits : ka.length = kb.length → PySem.W.KeqHitsIn prog w A.in1 s kb ka r) (h : Q (.bool (!(ka.length == kb.length && r))) s) :
    wpAny (model prog w) A (compareOp .NotEq (.ref a) (.ref b)) Q E s := by
  refine wpAny_richCompare_same_room (op := .NotEq) da.typeIs db.typeIs F.slot_dict_ne (wpAny_call_entry F.slot_dict_ne da.typeIs F.entry_dict_ne (b := Builtin.«dict.__ne__») (rest := [.ref b]) ?_ (F.args_dict_ne_2 _ _)) hu
  show wpAny _ _ (bind (Builtin.Dict.dictSlotArgs "__ne__" ⟨.ref a :: [.ref b], []⟩) _) _ _ _
  unfold Builtin.Dict.dictSlotArgs
  refine wpAny_bind (wpAny_bind (wpAny_notOrdered_dict da.typeIs (show wpAny _ _ (pure (Value.ref a, Value.ref b)) _ _ _ from wpAny_pure ?_)))
  refine wpAny_bind (wpAny_isInstance (T := "dict") db.typeIs F.sub_dict_dict ?_)
  rw [Bool.not_true, if_neg (by simp)]
  refine wpAny_bind (wpAny_pure (wpAny_bind (wpAny_pure (wpAny_bind (PySem.W.keq_samePairsIn ha hb da db hits (wpAny_pure ⟨_, rfl, (fun x => nomatch x), ?_⟩))))))
  simpa using h
end
end Tw
end
section
set_option maxRecDepth 100000
/-! layer 16: equality of data -/
namespace Tw
open PySem PySem.Spec PyProof.Rows L2

mutual
def hgt : D → Nat
  | .lst xs => hgts xs + 1
  | .tup xs => hgts xs + 1
  | .dic xs => hgtk xs + 1
  | _ => 0
def hgts : List D → Nat
  | [] => 0
  | d :: r => max (hgt d) (hgts r)
def hgtk : List (Key × D) → Nat
  | [] => 0
  | (_, d) :: r => max (hgt d) (hgtk r)
end
/-- the kind of a tree: scalar, list, tuple, dict, other -/
def kn : D → Nat
  | .non => 0
  | .bl _ => 0
  | .int _ => 0
  | .str _ => 0
  | .lst _ => 1
  | .tup _ => 2
  | .dic _ => 3
  | _ => 4
def eqB : D → D → Bool
  | .non, .non => true
  | .bl a, .bl b => a == b
  | .int a, .int b => a == b
  | .str a, .str b => a == b
  | .bl a, .int b => (if a then 1 else 0) == b
  | .int a, .bl b => a == (if b then 1 else 0)
  | _, _ => false
mutual
def eqO : D → D → Option Bool
  | .lst xs, b => match b with
    | .lst ys => if xs.length = ys.length then eqOs xs ys else some false
    | b => if kn b ≤ 3 then some false else none
  | .tup xs, b => match b with
    | .tup ys => (eqOs xs ys).map fun r => r && decide (xs.length = ys.length)
    | b => if kn b ≤ 3 then some false else none
  | .dic xs, b => match b with
    | .dic ys => (eqOk xs ys).map fun r => decide (xs.length = ys.length) && r
    | b => if kn b ≤ 3 then some false else none
  | a, b => if kn a = 0 ∧ kn b ≤ 3 then some (eqB a b) else none
def eqOs : List D → List D → Option Bool
  | [], _ => some true
  | x :: r, ys => match ys with
    | [] => some true
    | y :: t => (eqO x y).bind fun b => (eqOs r t).map fun c => b && c
def eqOk : List (Key × D) → List (Key × D) → Option Bool
  | [], _ => some true
  | (k, x) :: r, ys => match getD ys k with
    | some y => (eqO x y).bind fun b => (eqOk r ys).map fun c => b && c
    | none => (eqOk r ys).map fun _ => false
end
/-- how a value stands for the leaves -/
def VS (s : Shared) : D → Value → Prop
  | .non, u => u = .none
  | .bl b, u => u = .bool b
  | .int i, u => ∃ t, u = .int i t
  | .str x, u => ∃ t, u = .str x t
  | .lst _, u => ∃ l items, u = .ref l ∧ s.heap.IsList l items
  | .tup _, u => ∃ l items, u = .ref l ∧ s.heap.IsTuple l items
  | .dic _, u => ∃ l, u = .ref l ∧ IsDic s.heap l
  | _, _ => True
section
variable {X : Cx} {pins : List (Addr × Obj)} {σ : Sg} {H : Hp} {s : Shared} {mg : Str → Option Value}
theorem vs_of (I : Inv X pins σ H s) {a : D} {v : V} {u : Value} {Z : Addr → Prop} (ra : RepT mg Z H a v) (ru : RelV v u) : VS s a u := by
  cases a with
  | non => cases (show v = .non from ra); exact ru
  | bl b => cases (show v = .bl b from ra); exact ru
  | int b => cases (show v = .int b from ra); exact ru
  | str b => cases (show v = .str b from ra); exact ru
  | lst ds =>
    obtain ⟨p, vs, rfl, g, _⟩ := ra
    cases ru
    obtain ⟨its, rv, pl, hz⟩ := I.list (.inl g.l2)
    exact ⟨_, _, rfl, pl.isList⟩
  | tup ds =>
    obtain ⟨p, vs, o, rfl, _, _, g, _⟩ := ra
    cases ru
    obtain ⟨its, rv, pl, hz⟩ := I.tuple (.inl g.frz2)
    exact ⟨_, _, rfl, pl⟩
  | dic ds =>
    obtain ⟨p, vs, rfl, g, _⟩ := ra
    cases ru
    obtain ⟨_, _, _, _, o, es, ep, h1, h2, h3, _⟩ := dk_rd I.hok g.l2
    obtain ⟨c, d, dt, sl⟩ := o
    obtain ⟨e1, _, _⟩ := h2
    obtain rfl : c = _ := e1
    obtain rfl : dt = _ := h3
    exact ⟨_, rfl, _, _, _, _, h1⟩
  | _ => trivial
theorem leafEq {A : Around} (hA : A.units < cLine) : ∀ (a b : D) {u v : Value}, VS s a u → VS s b v → kn a ≤ 3 → kn b ≤ 3 → (kn a ≠ kn b ∨ kn a = 0) → SeqAt.EqAt A s u v (eqB a b)
  | .non, .non, _, _, h, k, _, _, _ => by rw [show _ = _ from h, show _ = _ from k]; exact .same _
  | .bl a, .bl b, _, _, h, k, _, _, _ => by rw [show _ = _ from h, show _ = _ from k]; exact .bool_bool a b
  | .int a, .int b, _, _, ⟨t, h⟩, ⟨t', k⟩, _, _, _ => by rw [h, k]; exact .int_int a t b t'
  | .str a, .str b, _, _, ⟨t, h⟩, ⟨t', k⟩, _, _, _ => by rw [h, k]; exact .str_str a t b t'
  | .bl a, .int b, _, _, h, ⟨t', k⟩, _, _, _ => by rw [show _ = _ from h, k]; exact .bool_int a b t'
  | .int a, .bl b, _, _, ⟨t, h⟩, k, _, _, _ => by rw [h, show _ = _ from k]; exact .int_bool a t b
  | .non, .bl b, _, _, h, k, _, _, _ => by rw [show _ = _ from h, show _ = _ from k]; exact .none_bool b
  | .non, .int b, _, _, h, ⟨t', k⟩, _, _, _ => by rw [show _ = _ from h, k]; exact .none_int b t'
  | .non, .str b, _, _, h, ⟨t', k⟩, _, _, _ => by rw [show _ = _ from h, k]; exact .none_str b t'
  | .bl a, .non, _, _, h, k, _, _, _ => by rw [show _ = _ from h, show _ = _ from k]; exact .bool_none a
  | .bl a, .str b, _, _, h, ⟨t', k⟩, _, _, _ => by rw [show _ = _ from h, k]; exact .bool_str a b t'
  | .int a, .non, _, _, ⟨t, h⟩, k, _, _, _ => by rw [h, show _ = _ from k]; exact .int_none a t
  | .int a, .str b, _, _, ⟨t, h⟩, ⟨t', k⟩, _, _, _ => by rw [h, k]; exact .int_str a t b t'
  | .str a, .non, _, _, ⟨t, h⟩, k, _, _, _ => by rw [h, show _ = _ from k]; exact .str_none a t
  | .str a, .bl b, _, _, ⟨t, h⟩, k, _, _, _ => by rw [h, show _ = _ from k]; exact .str_bool a t b
  | .str a, .int b, _, _, ⟨t, h⟩, ⟨t', k⟩, _, _, _ => by rw [h, k]; exact .str_int a t b t'
  | .non, .lst _, _, _, h, ⟨l, its, k, kl⟩, _, _, _ => by rw [show _ = _ from h, k]; exact .none_list kl hA
  | .bl a, .lst _, _, _, h, ⟨l, its, k, kl⟩, _, _, _ => by rw [show _ = _ from h, k]; exact .bool_list a kl hA
  | .int a, .lst _, _, _, ⟨t, h⟩, ⟨l, its, k, kl⟩, _, _, _ => by rw [h, k]; exact .int_list a t kl hA
  | .str a, .lst _, _, _, ⟨t, h⟩, ⟨l, its, k, kl⟩, _, _, _ => by rw [h, k]; exact .str_list a t kl hA
  | .non, .tup _, _, _, h, ⟨l, its, k, kl⟩, _, _, _ => by rw [show _ = _ from h, k]; exact .none_tuple kl hA
  | .bl a, .tup _, _, _, h, ⟨l, its, k, kl⟩, _, _, _ => by rw [show _ = _ from h, k]; exact .bool_tuple a kl hA
  | .int a, .tup _, _, _, ⟨t, h⟩, ⟨l, its, k, kl⟩, _, _, _ => by rw [h, k]; exact .int_tuple a t kl hA
  | .str a, .tup _, _, _, ⟨t, h⟩, ⟨l, its, k, kl⟩, _, _, _ => by rw [h, k]; exact .str_tuple a t kl hA
  | .lst _, .non, _, _, ⟨l, its, k, kl⟩, h, _, _, _ => by rw [show _ = _ from h, k]; exact .list_none kl hA
  | .lst _, .bl a, _, _, ⟨l, its, k, kl⟩, h, _, _, _ => by rw [show _ = _ from h, k]; exact .list_bool a kl hA
  | .lst _, .int a, _, _, ⟨l, its, k, kl⟩, ⟨t, h⟩, _, _, _ => by rw [h, k]; exact .list_int a t kl hA
  | .lst _, .str a, _, _, ⟨l, its, k, kl⟩, ⟨t, h⟩, _, _, _ => by rw [h, k]; exact .list_str a t kl hA
  | .tup _, .non, _, _, ⟨l, its, k, kl⟩, h, _, _, _ => by rw [show _ = _ from h, k]; exact .tuple_none kl hA
  | .tup _, .bl a, _, _, ⟨l, its, k, kl⟩, h, _, _, _ => by rw [show _ = _ from h, k]; exact .tuple_bool a kl hA
  | .tup _, .int a, _, _, ⟨l, its, k, kl⟩, ⟨t, h⟩, _, _, _ => by rw [h, k]; exact .tuple_int a t kl hA
  | .tup _, .str a, _, _, ⟨l, its, k, kl⟩, ⟨t, h⟩, _, _, _ => by rw [h, k]; exact .tuple_str a t kl hA
  | .lst _, .tup _, _, _, ⟨l, its, k, kl⟩, ⟨l', its', h, kl'⟩, _, _, _ => by rw [h, k]; exact .list_tuple kl kl' hA
  | .tup _, .lst _, _, _, ⟨l, its, k, kl⟩, ⟨l', its', h, kl'⟩, _, _, _ => by rw [h, k]; exact .tuple_list kl kl' hA
  | .lst _, .lst _, _, _, _, _, _, _, h => by rcases h with h | h <;> simp [kn] at h
  | .tup _, .tup _, _, _, _, _, _, _, h => by rcases h with h | h <;> simp [kn] at h
  | .non, .dic _, _, _, h, ⟨l, k, kl⟩, _, _, _ => by rw [show _ = _ from h, k]; exact EqAtD.none_dict  kl hA
  | .dic _, .non, _, _, ⟨l, k, kl⟩, h, _, _, _ => by rw [show _ = _ from h, k]; exact EqAtD.dict_none  kl hA
  | .bl a, .dic _, _, _, h, ⟨l, k, kl⟩, _, _, _ => by rw [show _ = _ from h, k]; exact EqAtD.bool_dict a kl hA
  | .dic _, .bl a, _, _, ⟨l, k, kl⟩, h, _, _, _ => by rw [show _ = _ from h, k]; exact EqAtD.dict_bool a kl hA
  | .int a, .dic _, _, _, ⟨t, h⟩, ⟨l, k, kl⟩, _, _, _ => by rw [h, k]; exact EqAtD.int_dict a t kl hA
  | .dic _, .int a, _, _, ⟨l, k, kl⟩, ⟨t, h⟩, _, _, _ => by rw [h, k]; exact EqAtD.dict_int a t kl hA
  | .str a, .dic _, _, _, ⟨t, h⟩, ⟨l, k, kl⟩, _, _, _ => by rw [h, k]; exact EqAtD.str_dict a t kl hA
  | .dic _, .str a, _, _, ⟨l, k, kl⟩, ⟨t, h⟩, _, _, _ => by rw [h, k]; exact EqAtD.dict_str a t kl hA
  | .lst _, .dic _, _, _, ⟨l', its, h, hl⟩, ⟨l, k, kl⟩, _, _, _ => by rw [h, k]; exact EqAtD.list_dict kl hl hA
  | .dic _, .lst _, _, _, ⟨l, k, kl⟩, ⟨l', its, h, hl⟩, _, _, _ => by rw [h, k]; exact EqAtD.dict_list kl hl hA
  | .tup _, .dic _, _, _, ⟨l', its, h, hl⟩, ⟨l, k, kl⟩, _, _, _ => by rw [h, k]; exact EqAtD.tuple_dict kl hl hA
  | .dic _, .tup _, _, _, ⟨l, k, kl⟩, ⟨l', its, h, hl⟩, _, _, _ => by rw [h, k]; exact EqAtD.dict_tuple kl hl hA
  | .dic _, .dic _, _, _, _, _, _, _, h => by rcases h with h | h <;> simp [kn] at h
  | .pr _, _, _, _, _, _, h, _, _ => by simp [kn] at h
  | .ins _ _, _, _, _, _, _, h, _, _ => by simp [kn] at h
  | _, .pr _, _, _, _, _, _, h, _ => by simp [kn] at h
  | _, .ins _ _, _, _, _, _, _, h, _ => by simp [kn] at h
theorem eqB_seq : ∀ {a b : D}, kn b ≤ 3 → (kn a = 1 ∨ kn a = 2 ∨ kn a = 3) → eqB a b = false
  | .lst _, b, _, _ => by cases b <;> rfl
  | .tup _, b, _, _ => by cases b <;> rfl
  | .non, b, _, h => by rcases h with h | h | h <;> cases h
  | .bl _, b, _, h => by rcases h with h | h | h <;> cases h
  | .int _, b, _, h => by rcases h with h | h | h <;> cases h
  | .str _, b, _, h => by rcases h with h | h | h <;> cases h
  | .dic _, b, _, _ => by cases b <;> rfl
  | .pr _, b, _, h => by rcases h with h | h | h <;> cases h
  | .ins _ _, b, _, h => by rcases h with h | h | h <;> cases h
theorem rd_one {a : Addr} {u u' : HO} (h : Rd H a u) (k : Rd H a u') (n : ∀ o v, u ≠ .frz o v) (n' : ∀ o v, u' ≠ .frz o v) : u = u' := by
  rcases h with h | ⟨o, h, _⟩ <;> rcases k with k | ⟨o', k, _⟩
  · exact Option.some.inj (h.symm.trans k)
  · exact absurd (Option.some.inj (h.symm.trans k)) (n _ _)
  · exact absurd (Option.some.inj (k.symm.trans h)) (n' _ _)
  · have := Option.some.inj (h.symm.trans k); cases this; rfl
theorem nodup_val {kvs : List (Key × V)} (hn : (kvs.map (·.1)).Nodup) {p : Key × V} (hp : p ∈ kvs) : valV kvs p.1 = some p.2 := by
  induction kvs with
  | nil => cases hp
  | cons q r ih =>
    rw [List.map_cons] at hn
    obtain ⟨h1, h2⟩ := List.nodup_cons.mp hn
    unfold valV
    rw [List.find?_cons]
    rcases List.mem_cons.mp hp with rfl | hp
    · simp
    · have hne : ¬ q.1 = p.1 := fun e => h1 (by rw [e]; exact List.mem_map.mpr ⟨p, hp, rfl⟩)
      rw [show decide (q.1 = p.1) = false from decide_eq_false hne]
      exact ih h2 hp
theorem keys_nodup (I : Inv X pins σ H s) {a : Addr} {kvs : List (Key × V)} (h : Rd H a (.dK kvs)) : (kvs.map (·.1)).Nodup := by
  obtain ⟨_, _, vs, rel, o, es, ep, _, _, _, _, _, nd⟩ := dk_rd I.hok h.l2
  rw [show kvs.map (·.1) = vs.map (·.1) from rel.keys]
  exact nd
mutual
theorem same_val (I : Inv X pins σ H s) {Z Z' : Addr → Prop} : ∀ (a b : D) {v : V} {r : Bool}, Rep mg Z H a v → Rep mg Z' H b v → eqO a b = some r → r = true
  | .lst xs, b, v, r, ra, rb, e => by
    cases b with
    | lst ys =>
      obtain ⟨p, vs, rfl, _, g, rr⟩ := ra
      obtain ⟨p', ws, e', _, g', rr'⟩ := rb
      cases e'
      have := rd_one g g' (fun _ _ => nofun) (fun _ _ => nofun)
      cases this
      unfold eqO at e
      simp only at e
      rw [if_pos (rr.length.trans rr'.length.symm)] at e
      exact same_vals I xs ys rr rr' e
    | non => obtain ⟨p, vs, rfl, _⟩ := ra; cases rb
    | bl _ => obtain ⟨p, vs, rfl, _⟩ := ra; cases rb
    | int _ => obtain ⟨p, vs, rfl, _⟩ := ra; cases rb
    | str _ => obtain ⟨p, vs, rfl, _⟩ := ra; cases rb
    | tup ys =>
      obtain ⟨p, vs, rfl, _, g, rr⟩ := ra
      obtain ⟨p', ws, o, e', _, _, g', rr'⟩ := rb
      cases e'
      rcases g with g | ⟨q, g, _⟩
      · cases g.symm.trans g'.frz
      · cases g.symm.trans g'.frz
    | dic ys =>
      obtain ⟨p, vs, rfl, _, g, rr⟩ := ra
      obtain ⟨p', ws, e', _, g', rr'⟩ := rb
      cases e'
      cases rd_one g g' (fun _ _ => nofun) (fun _ _ => nofun)
    | _ => unfold eqO at e; simp [kn] at e
  | .tup xs, b, v, r, ra, rb, e => by
    cases b with
    | tup ys =>
      obtain ⟨p, vs, o, rfl, _, _, g, rr⟩ := ra
      obtain ⟨p', ws, o', e', _, _, g', rr'⟩ := rb
      cases e'
      have := Option.some.inj (g.frz.symm.trans g'.frz)
      cases this
      unfold eqO at e
      simp only at e
      obtain ⟨c, e1, e2⟩ := map_some.mp e
      rw [same_vals I xs ys rr rr' e1, decide_eq_true (rr.length.trans rr'.length.symm)] at e2
      exact e2.symm
    | non => obtain ⟨p, vs, o, rfl, _⟩ := ra; cases rb
    | bl _ => obtain ⟨p, vs, o, rfl, _⟩ := ra; cases rb
    | int _ => obtain ⟨p, vs, o, rfl, _⟩ := ra; cases rb
    | str _ => obtain ⟨p, vs, o, rfl, _⟩ := ra; cases rb
    | lst ys =>
      obtain ⟨p', vs, o, rfl, _, _, g', rr⟩ := ra
      obtain ⟨p, ws, e', _, g, rr'⟩ := rb
      cases e'
      rcases g with g | ⟨q, g, _⟩
      · cases g.symm.trans g'.frz
      · cases g.symm.trans g'.frz
    | dic ys =>
      obtain ⟨p', vs, o, rfl, _, _, g', rr⟩ := ra
      obtain ⟨p, ws, e', _, g, rr'⟩ := rb
      cases e'
      rcases g with g | ⟨q, g, _⟩
      · cases g.symm.trans g'.frz
      · cases g.symm.trans g'.frz
    | _ => unfold eqO at e; simp [kn] at e
  | .dic xs, b, v, r, ra, rb, e => by
    cases b with
    | dic ys =>
      obtain ⟨p, vs, rfl, _, g, rr⟩ := ra
      obtain ⟨p', ws, e', _, g', rr'⟩ := rb
      cases e'
      have := rd_one g g' (fun _ _ => nofun) (fun _ _ => nofun)
      cases this
      unfold eqO at e
      simp only at e
      obtain ⟨c, e1, e2⟩ := map_some.mp e
      rw [same_valk I xs ys rr (fun q hq => nodup_val (keys_nodup I g) hq) rr' e1, decide_eq_true ((repK_len rr).trans (repK_len rr').symm)] at e2
      exact e2.symm
    | lst ys =>
      obtain ⟨p, vs, rfl, _, g, rr⟩ := ra
      obtain ⟨p', ws, e', _, g', rr'⟩ := rb
      cases e'
      cases rd_one g g' (fun _ _ => nofun) (fun _ _ => nofun)
    | tup ys =>
      obtain ⟨p, vs, rfl, _, g, rr⟩ := ra
      obtain ⟨p', ws, o, e', _, _, g', rr'⟩ := rb
      cases e'
      rcases g with g | ⟨q, g, _⟩
      · cases g.symm.trans g'.frz
      · cases g.symm.trans g'.frz
    | non => obtain ⟨p, vs, rfl, _⟩ := ra; cases rb
    | bl _ => obtain ⟨p, vs, rfl, _⟩ := ra; cases rb
    | int _ => obtain ⟨p, vs, rfl, _⟩ := ra; cases rb
    | str _ => obtain ⟨p, vs, rfl, _⟩ := ra; cases rb
    | _ => unfold eqO at e; simp [kn] at e
  | .non, b, v, r, ra, rb, e => by
    cases (show v = .non from ra)
    cases b with
    | non => cases e; rfl
    | bl _ => cases rb
    | int _ => cases rb
    | str _ => cases rb
    | lst _ => obtain ⟨p, vs, h, _⟩ := rb; cases h
    | tup _ => obtain ⟨p, vs, o, h, _⟩ := rb; cases h
    | dic _ => obtain ⟨p, vs, h, _⟩ := rb; cases h
    | _ => simp [eqO, kn] at e
  | .bl x, b, v, r, ra, rb, e => by
    cases (show v = .bl x from ra)
    cases b with
    | bl y => cases rb; cases e; simp [eqB]
    | non => cases rb
    | int _ => cases rb
    | str _ => cases rb
    | lst _ => obtain ⟨p, vs, h, _⟩ := rb; cases h
    | tup _ => obtain ⟨p, vs, o, h, _⟩ := rb; cases h
    | dic _ => obtain ⟨p, vs, h, _⟩ := rb; cases h
    | _ => simp [eqO, kn] at e
  | .int x, b, v, r, ra, rb, e => by
    cases (show v = .int x from ra)
    cases b with
    | int y => cases rb; cases e; simp [eqB]
    | non => cases rb
    | bl _ => cases rb
    | str _ => cases rb
    | lst _ => obtain ⟨p, vs, h, _⟩ := rb; cases h
    | tup _ => obtain ⟨p, vs, o, h, _⟩ := rb; cases h
    | dic _ => obtain ⟨p, vs, h, _⟩ := rb; cases h
    | _ => simp [eqO, kn] at e
  | .str x, b, v, r, ra, rb, e => by
    cases (show v = .str x from ra)
    cases b with
    | str y => cases rb; cases e; simp [eqB]
    | non => cases rb
    | bl _ => cases rb
    | int _ => cases rb
    | lst _ => obtain ⟨p, vs, h, _⟩ := rb; cases h
    | tup _ => obtain ⟨p, vs, o, h, _⟩ := rb; cases h
    | dic _ => obtain ⟨p, vs, h, _⟩ := rb; cases h
    | _ => simp [eqO, kn] at e
  | .pr x, b, v, r, ra, rb, e => by simp [eqO, kn] at e
  | .ins c x, b, v, r, ra, rb, e => by simp [eqO, kn] at e
theorem same_vals (I : Inv X pins σ H s) {Z Z' : Addr → Prop} : ∀ (xs ys : List D) {v : List V} {r : Bool}, Reps mg Z H xs v → Reps mg Z' H ys v → eqOs xs ys = some r → r = true
  | [], ys, v, r, ra, rb, e => by unfold eqOs at e; cases e; rfl
  | x :: t, [], v, r, ra, rb, e => by unfold eqOs at e; cases e; rfl
  | x :: t, y :: t', v, r, ⟨u, w, e1, r1, q1⟩, ⟨u', w', e2, r2, q2⟩, e => by
    subst e1
    cases e2
    unfold eqOs at e
    simp only at e
    obtain ⟨b, e3, e4⟩ := bind_some.mp e
    obtain ⟨c, e5, e6⟩ := map_some.mp e4
    rw [same_val I x y r1 r2 e3, same_vals I t t' q1 q2 e5] at e6
    exact e6.symm
theorem same_valk (I : Inv X pins σ H s) {Z Z' : Addr → Prop} : ∀ (xs ys : List (Key × D)) {us vs : List (Key × V)} {r : Bool}, RepK mg Z H xs us → (∀ p ∈ us, valV vs p.1 = some p.2) → RepK mg Z' H ys vs → eqOk xs ys = some r → r = true
  | [], ys, us, vs, r, ra, hv, rb, e => by unfold eqOk at e; cases e; rfl
  | (k, x) :: t, ys, us, vs, r, ⟨u, w, e1, r1, q1⟩, hv, rb, e => by
    subst e1
    unfold eqOk at e
    have h0 := hv (k, u) List.mem_cons_self
    rcases rb.get (k := k) with ⟨h1, h2⟩ | ⟨d', v', h1, h2, h3⟩
    · cases h2.symm.trans h0
    · cases h2.symm.trans h0
      rw [h1] at e
      simp only at e
      obtain ⟨b, e3, e4⟩ := bind_some.mp e
      obtain ⟨c, e5, e6⟩ := map_some.mp e4
      rw [same_val I x d' r1 h3 e3, same_valk I t ys q1 (fun p hp => hv p (List.mem_cons_of_mem _ hp)) rb e5] at e6
      exact e6.symm
end
end
end Tw
end
section
set_option maxRecDepth 100000
/-! layer 17: equality of data, the walk -/
namespace Tw
open PySem PySem.Spec PyProof.Rows L2

theorem all_same {α : Type} {f g : α → Bool} : ∀ {l : List α}, (∀ p ∈ l, f p = g p) → l.all f = l.all g
  | [], _ => rfl
  | a :: r, h => by rw [List.all_cons, List.all_cons, h a List.mem_cons_self, all_same fun p hp => h p (List.mem_cons_of_mem _ hp)]
theorem all_range_succ (e : Nat → Bool) (n : Nat) : (List.range (n + 1)).all e = (e 0 && (List.range n).all fun j => e (j + 1)) := by
  rw [List.range_succ_eq_map, List.all_cons, List.all_map]
  rfl
section
variable {X : Cx} {pins : List (Addr × Obj)} {σ : Sg} {H : Hp} {s : Shared} {mg : Str → Option Value}
theorem leafTree (I : Inv X pins σ H s) {Z Z' : Addr → Prop} {a b : D} {v w : V} {u1 u2 : Value} {n : Nat} (ra : RepT mg Z H a v) (rb : RepT mg Z' H b w) (r1 : RelV v u1) (r2 : RelV w u2) (ha : kn a ≤ 3) (hb : kn b ≤ 3) (hn : kn a ≠ kn b ∨ kn a = 0) : PySem.W.EqTree X.prog X.w s n u1 u2 (eqB a b) :=
  .leaf fun A hA => leafEq (by omega) a b (vs_of I ra r1) (vs_of I rb r2) ha hb hn
mutual
theorem eqO_tree (I : Inv X pins σ H s) {Z Z' : Addr → Prop} : ∀ (a b : D) {v w : V} {u1 u2 : Value} {r : Bool} {n : Nat}, Rep mg Z H a v → Rep mg Z' H b w → RelV v u1 → RelV w u2 → eqO a b = some r → hgt a ≤ n → PySem.W.EqTree X.prog X.w s n u1 u2 r
  | .lst xs, b, v, w, u1, u2, r, n, ra, rb, r1, r2, e, hn => by
    by_cases hb : ∃ ys, b = .lst ys
    · obtain ⟨ys, rfl⟩ := hb
      have ra' := ra
      have rb' := rb
      obtain ⟨p, vs, rfl, _, g, rr⟩ := ra
      obtain ⟨p', ws, rfl, _, g', rr'⟩ := rb
      cases r1
      cases r2
      by_cases hp : p = p'
      · subst hp
        rw [same_val I _ _ ra' rb' e]
        exact .same
      · obtain ⟨i1, w1, l1, _⟩ := I.list (.inl g.l2)
        obtain ⟨i2, w2, l2, _⟩ := I.list (.inl g'.l2)
        unfold hgt at hn
        obtain ⟨m, rfl⟩ : ∃ m, n = m + 1 := ⟨n - 1, by omega⟩
        unfold eqO at e
        simp only at e
        by_cases hl : xs.length = ys.length
        · rw [if_pos hl] at e
          obtain ⟨f, hf, rfl⟩ := eqOs_tree I xs ys rr rr' w1 w2 e (n := m) (by omega)
          have hsz : i1.length = i2.length := by rw [← w1.length, ← w2.length, ← rr.length, ← rr'.length]; exact hl
          have q := PySem.W.EqTree.lists (e := f) hp l1.isList l2.isList (by simpa using hsz) (fun j h1 h2 => by simpa using hf j (by simpa using h1) (by simpa using h2))
          rw [List.size_toArray] at q
          rw [← hsz, Nat.min_self]
          exact q
        · rw [if_neg hl] at e
          cases e
          refine PySem.W.EqTree.listsLen hp l1.isList l2.isList ?_
          have hsz : i1.length ≠ i2.length := by rw [← w1.length, ← w2.length, ← rr.length, ← rr'.length]; exact hl
          simpa using hsz
    · unfold eqO at e
      have e' : kn b ≤ 3 ∧ r = false := by
        cases b with
        | lst ys => exact absurd ⟨ys, rfl⟩ hb
        | _ => first | (simp [kn] at e; done) | (simp only [kn] at e; exact ⟨by simp [kn], by simpa using e.symm⟩)
      obtain ⟨hk, rfl⟩ := e'
      rw [← eqB_seq (a := .lst xs) hk (.inl rfl)]
      exact leafTree I ra.t rb.t r1 r2 (by simp [kn]) hk (.inl fun h => hb (by
        cases b <;> first | exact ⟨_, rfl⟩ | cases h))
  | .tup xs, b, v, w, u1, u2, r, n, ra, rb, r1, r2, e, hn => by
    by_cases hb : ∃ ys, b = .tup ys
    · obtain ⟨ys, rfl⟩ := hb
      have ra' := ra
      have rb' := rb
      obtain ⟨p, vs, o, rfl, _, _, g, rr⟩ := ra
      obtain ⟨p', ws, o', rfl, _, _, g', rr'⟩ := rb
      cases r1
      cases r2
      by_cases hp : p = p'
      · subst hp
        rw [same_val I _ _ ra' rb' e]
        exact .same
      · obtain ⟨i1, w1, l1, _⟩ := I.tuple (.inl g.frz2)
        obtain ⟨i2, w2, l2, _⟩ := I.tuple (.inl g'.frz2)
        unfold hgt at hn
        obtain ⟨m, rfl⟩ : ∃ m, n = m + 1 := ⟨n - 1, by omega⟩
        unfold eqO at e
        simp only at e
        obtain ⟨c, e1, e2⟩ := map_some.mp e
        obtain ⟨f, hf, rfl⟩ := eqOs_tree I xs ys rr rr' w1 w2 e1 (n := m) (by omega)
        have q := PySem.W.EqTree.tuples (e := f) hp l1 l2 (fun j h1 h2 => by simpa using hf j (by simpa using h1) (by simpa using h2))
        rw [← e2]
        have hd : decide (xs.length = ys.length) = (i1.toArray.size == i2.toArray.size) := by
          rw [List.size_toArray, List.size_toArray, ← w1.length, ← w2.length, ← rr.length, ← rr'.length]
          by_cases h : xs.length = ys.length
          · simp [h]
          · simp [h]
        rw [hd]
        simpa using q
    · unfold eqO at e
      have e' : kn b ≤ 3 ∧ r = false := by
        cases b with
        | tup ys => exact absurd ⟨ys, rfl⟩ hb
        | _ => first | (simp [kn] at e; done) | (simp only [kn] at e; exact ⟨by simp [kn], by simpa using e.symm⟩)
      obtain ⟨hk, rfl⟩ := e'
      rw [← eqB_seq (a := .tup xs) hk (.inr (.inl rfl))]
      exact leafTree I ra.t rb.t r1 r2 (by simp [kn]) hk (.inl fun h => hb (by
        cases b <;> first | exact ⟨_, rfl⟩ | cases h))
  | .dic xs, b, v, w, u1, u2, r, n, ra, rb, r1, r2, e, hn => by
    cases b with
    | dic ys =>
      have ra' := ra
      have rb' := rb
      obtain ⟨p, vs, rfl, _, g, rr⟩ := ra
      obtain ⟨p', ws, rfl, _, g', rr'⟩ := rb
      cases r1
      cases r2
      by_cases hp : p = p'
      · subst hp
        rw [same_val I _ _ ra' rb' e]
        exact .same
      · obtain ⟨_, n1, k1, rel1, d1⟩ := dk_rd I.hok g.l2
        obtain ⟨_, n2, k2, rel2, d2⟩ := dk_rd I.hok g'.l2
        unfold hgt at hn
        obtain ⟨m, rfl⟩ : ∃ m, n = m + 1 := ⟨n - 1, by omega⟩
        unfold eqO at e
        simp only at e
        obtain ⟨c, e1, e2⟩ := map_some.mp e
        obtain ⟨f, hf, rfl⟩ := eqOk_tree I xs ys rr rel1 (keys_nodup I g) rr' rel2 e1 (n := m) (by omega)
        rw [← e2]
        have q := PySem.W.EqTree.dicts (e := f) hp n1 n2 d1 d2 hf
        have hd : decide (xs.length = ys.length) = (k1.length == k2.length) := by
          rw [← rel1.length, ← rel2.length, ← repK_len rr, ← repK_len rr']
          by_cases h : xs.length = ys.length
          · simp [h]
          · simp [h]
        rw [hd]
        exact q
    | _ =>
      unfold eqO at e
      first
        | (simp [kn] at e; done)
        | (have e' : r = false := by simpa [kn] using e.symm
           subst e'
           exact leafTree I ra.t rb.t r1 r2 (by simp [kn]) (by simp [kn]) (.inl (by simp [kn])))
  | .non, b, v, w, u1, u2, r, n, ra, rb, r1, r2, e, hn => by
    have e' : kn b ≤ 3 ∧ eqB .non b = r := by simpa [eqO, kn] using e
    rw [← e'.2]
    exact leafTree I ra.t rb.t r1 r2 (by decide) e'.1 (.inr rfl)
  | .bl x, b, v, w, u1, u2, r, n, ra, rb, r1, r2, e, hn => by
    have e' : kn b ≤ 3 ∧ eqB (.bl x) b = r := by simpa [eqO, kn] using e
    rw [← e'.2]
    exact leafTree I ra.t rb.t r1 r2 (by decide : (0 : Nat) ≤ 3) e'.1 (.inr rfl)
  | .int x, b, v, w, u1, u2, r, n, ra, rb, r1, r2, e, hn => by
    have e' : kn b ≤ 3 ∧ eqB (.int x) b = r := by simpa [eqO, kn] using e
    rw [← e'.2]
    exact leafTree I ra.t rb.t r1 r2 (by decide : (0 : Nat) ≤ 3) e'.1 (.inr rfl)
  | .str x, b, v, w, u1, u2, r, n, ra, rb, r1, r2, e, hn => by
    have e' : kn b ≤ 3 ∧ eqB (.str x) b = r := by simpa [eqO, kn] using e
    rw [← e'.2]
    exact leafTree I ra.t rb.t r1 r2 (by decide : (0 : Nat) ≤ 3) e'.1 (.inr rfl)
  | .pr x, b, v, w, u1, u2, r, n, ra, rb, r1, r2, e, hn => by simp [eqO, kn] at e
  | .ins c x, b, v, w, u1, u2, r, n, ra, rb, r1, r2, e, hn => by simp [eqO, kn] at e
theorem eqOs_tree (I : Inv X pins σ H s) {Z Z' : Addr → Prop} : ∀ (xs ys : List D) {vs ws : List V} {us1 us2 : List Value} {r : Bool} {n : Nat}, Reps mg Z H xs vs → Reps mg Z' H ys ws → Vals vs us1 → Vals ws us2 → eqOs xs ys = some r → hgts xs ≤ n →
    ∃ f : Nat → Bool, (∀ j (h1 : j < us1.length) (h2 : j < us2.length), PySem.W.EqTree X.prog X.w s n us1[j] us2[j] (f j)) ∧ (List.range (min us1.length us2.length)).all f = r
  | [], ys, vs, ws, us1, us2, r, n, ra, rb, w1, w2, e, hn => by
    unfold eqOs at e
    cases e
    rw [show vs = [] from ra] at w1
    cases w1
    exact ⟨fun _ => true, fun j h1 => absurd h1 (by simp), by simp⟩
  | x :: t, [], vs, ws, us1, us2, r, n, ra, rb, w1, w2, e, hn => by
    unfold eqOs at e
    cases e
    rw [show ws = [] from rb] at w2
    cases w2
    exact ⟨fun _ => true, fun j _ h2 => absurd h2 (by simp), by simp⟩
  | x :: t, y :: t', vs, ws, us1, us2, r, n, ⟨v, vs', e1, q1, q2⟩, ⟨w, ws', e2, q3, q4⟩, w1, w2, e, hn => by
    subst e1
    subst e2
    cases w1 with
    | @cons _ a1 _ l1 h1 t1 =>
      cases w2 with
      | @cons _ a2 _ l2 h2 t2 =>
        unfold eqOs at e
        simp only at e
        obtain ⟨b, e3, e4⟩ := bind_some.mp e
        obtain ⟨c, e5, e6⟩ := map_some.mp e4
        unfold hgts at hn
        have T := eqO_tree I x y q1 q3 h1 h2 e3 (n := n) (by omega)
        obtain ⟨f, hf, rfl⟩ := eqOs_tree I t t' q2 q4 t1 t2 e5 (n := n) (by omega)
        refine ⟨fun j => match j with | 0 => b | j + 1 => f j, fun j g1 g2 => ?_, ?_⟩
        · cases j with
          | zero => exact T
          | succ j => exact hf j (by simpa using g1) (by simpa using g2)
        · rw [← e6]
          rw [List.length_cons, List.length_cons, show min (l1.length + 1) (l2.length + 1) = min l1.length l2.length + 1 by omega, all_range_succ]
theorem eqOk_tree (I : Inv X pins σ H s) {Z Z' : Addr → Prop} : ∀ (xs ys : List (Key × D)) {us ws : List (Key × V)} {ks kb : List (Key × Value)} {r : Bool} {n : Nat}, RepK mg Z H xs us → KV us ks → (us.map (·.1)).Nodup → RepK mg Z' H ys ws → KV ws kb → eqOk xs ys = some r → hgtk xs ≤ n →
    ∃ f : Key → Bool, (∀ k v y, (k, v) ∈ ks → valueAt kb k = some y → PySem.W.EqTree X.prog X.w s n v y (f k)) ∧ (ks.all fun p => (valueAt kb p.1).isSome && f p.1) = r
  | [], ys, us, ws, ks, kb, r, n, ra, rel, nd, rb, relb, e, hn => by
    unfold eqOk at e
    cases e
    rw [show us = [] from ra] at rel
    cases rel
    exact ⟨fun _ => true, fun k v y h => absurd h (by simp), rfl⟩
  | (k, x) :: t, ys, us, ws, ks, kb, r, n, ⟨u, us', e1, q1, q2⟩, rel, nd, rb, relb, e, hn => by
    subst e1
    cases rel with
    | @cons _ p2 _ ks' h1 t1 =>
      obtain ⟨k2, val⟩ := p2
      obtain ⟨hk, hv⟩ := h1
      have hk : k = k2 := hk
      subst hk
      unfold hgtk at hn
      rw [List.map_cons] at nd
      obtain ⟨nd1, nd2⟩ := List.nodup_cons.mp nd
      have nk : ∀ p ∈ ks', p.1 ≠ k := fun p hp e => nd1 (by
        rw [show us'.map (·.1) = ks'.map (·.1) from KV.keys t1]
        exact List.mem_map.mpr ⟨p, hp, e⟩)
      unfold eqOk at e
      rcases rb.get (k := k) with ⟨g1, g2⟩ | ⟨d', v', g1, g2, g3⟩
      · rw [g1] at e
        simp only at e
        obtain ⟨c, e5, e6⟩ := map_some.mp e
        obtain ⟨f, hf, _⟩ := eqOk_tree I t ys q2 t1 nd2 rb relb e5 (n := n) (by omega)
        have hn' : valueAt kb k = none := RelO.none_of (by rw [← g2]; exact relb.val k)
        refine ⟨f, fun k' v y h hy => ?_, ?_⟩
        · rcases List.mem_cons.mp h with h | h
          · cases h
            rw [hn'] at hy
            cases hy
          · exact hf k' v y h hy
        · rw [List.all_cons, hn', ← e6]
          rfl
      · rw [g1] at e
        simp only at e
        obtain ⟨b, e3, e4⟩ := bind_some.mp e
        obtain ⟨c, e5, e6⟩ := map_some.mp e4
        obtain ⟨y0, hy0, ry0⟩ := RelO.some_of (v := v') (o := valueAt kb k) (by rw [← g2]; exact relb.val k)
        have T := eqO_tree I x d' q1 g3 hv ry0 e3 (n := n) (by omega)
        obtain ⟨f, hf, rfl⟩ := eqOk_tree I t ys q2 t1 nd2 rb relb e5 (n := n) (by omega)
        refine ⟨fun k' => if k' = k then b else f k', fun k' v y h hy => ?_, ?_⟩
        · rcases List.mem_cons.mp h with h | h
          · cases h
            rw [hy0] at hy
            cases hy
            simp only [if_true]
            exact T
          · have := nk _ h
            show PySem.W.EqTree X.prog X.w s n v y (if k' = k then b else f k')
            rw [if_neg this]
            exact hf k' v y h hy
        · rw [List.all_cons, hy0, ← e6]
          simp only [if_true, Option.isSome_some, Bool.true_and]
          congr 1
          exact all_same fun p hp => by rw [if_neg (nk p hp)]
end
theorem leafRc {A : Around} (hA : A.units < cLine) : ∀ (a b : D) {u v : Value}, VS s a u → VS s b v → kn a ≤ 3 → kn b ≤ 3 → (kn a ≠ kn b ∨ kn a = 0) → SeqAt.RcAt A s u v (eqB a b)
  | .non, .non, _, _, h, k, _, _, _ => by rw [show _ = _ from h, show _ = _ from k]; exact .none_none
  | .bl a, .bl b, _, _, h, k, _, _, _ => by rw [show _ = _ from h, show _ = _ from k]; exact .bool_bool a b
  | .int a, .int b, _, _, ⟨t, h⟩, ⟨t', k⟩, _, _, _ => by rw [h, k]; exact .int_int a t b t'
  | .str a, .str b, _, _, ⟨t, h⟩, ⟨t', k⟩, _, _, _ => by rw [h, k]; exact .str_str a t b t'
  | .bl a, .int b, _, _, h, ⟨t', k⟩, _, _, _ => by rw [show _ = _ from h, k]; exact .bool_int a b t'
  | .int a, .bl b, _, _, ⟨t, h⟩, k, _, _, _ => by rw [h, show _ = _ from k]; exact .int_bool a t b
  | .non, .bl b, _, _, h, k, _, _, _ => by rw [show _ = _ from h, show _ = _ from k]; exact .none_bool b
  | .non, .int b, _, _, h, ⟨t', k⟩, _, _, _ => by rw [show _ = _ from h, k]; exact .none_int b t'
  | .non, .str b, _, _, h, ⟨t', k⟩, _, _, _ => by rw [show _ = _ from h, k]; exact .none_str b t'
  | .bl a, .non, _, _, h, k, _, _, _ => by rw [show _ = _ from h, show _ = _ from k]; exact .bool_none a
  | .bl a, .str b, _, _, h, ⟨t', k⟩, _, _, _ => by rw [show _ = _ from h, k]; exact .bool_str a b t'
  | .int a, .non, _, _, ⟨t, h⟩, k, _, _, _ => by rw [h, show _ = _ from k]; exact .int_none a t
  | .int a, .str b, _, _, ⟨t, h⟩, ⟨t', k⟩, _, _, _ => by rw [h, k]; exact .int_str a t b t'
  | .str a, .non, _, _, ⟨t, h⟩, k, _, _, _ => by rw [h, show _ = _ from k]; exact .str_none a t
  | .str a, .bl b, _, _, ⟨t, h⟩, k, _, _, _ => by rw [h, show _ = _ from k]; exact .str_bool a t b
  | .str a, .int b, _, _, ⟨t, h⟩, ⟨t', k⟩, _, _, _ => by rw [h, k]; exact .str_int a t b t'
  | .non, .lst _, _, _, h, ⟨l, its, k, kl⟩, _, _, _ => by rw [show _ = _ from h, k]; exact .none_list kl hA
  | .bl a, .lst _, _, _, h, ⟨l, its, k, kl⟩, _, _, _ => by rw [show _ = _ from h, k]; exact .bool_list a kl hA
  | .int a, .lst _, _, _, ⟨t, h⟩, ⟨l, its, k, kl⟩, _, _, _ => by rw [h, k]; exact .int_list a t kl hA
  | .str a, .lst _, _, _, ⟨t, h⟩, ⟨l, its, k, kl⟩, _, _, _ => by rw [h, k]; exact .str_list a t kl hA
  | .non, .tup _, _, _, h, ⟨l, its, k, kl⟩, _, _, _ => by rw [show _ = _ from h, k]; exact .none_tuple kl hA
  | .bl a, .tup _, _, _, h, ⟨l, its, k, kl⟩, _, _, _ => by rw [show _ = _ from h, k]; exact .bool_tuple a kl hA
  | .int a, .tup _, _, _, ⟨t, h⟩, ⟨l, its, k, kl⟩, _, _, _ => by rw [h, k]; exact .int_tuple a t kl hA
  | .str a, .tup _, _, _, ⟨t, h⟩, ⟨l, its, k, kl⟩, _, _, _ => by rw [h, k]; exact .str_tuple a t kl hA
  | .lst _, .non, _, _, ⟨l, its, k, kl⟩, h, _, _, _ => by rw [show _ = _ from h, k]; exact .list_none kl hA
  | .lst _, .bl a, _, _, ⟨l, its, k, kl⟩, h, _, _, _ => by rw [show _ = _ from h, k]; exact .list_bool a kl hA
  | .lst _, .int a, _, _, ⟨l, its, k, kl⟩, ⟨t, h⟩, _, _, _ => by rw [h, k]; exact .list_int a t kl hA
  | .lst _, .str a, _, _, ⟨l, its, k, kl⟩, ⟨t, h⟩, _, _, _ => by rw [h, k]; exact .list_str a t kl hA
  | .tup _, .non, _, _, ⟨l, its, k, kl⟩, h, _, _, _ => by rw [show _ = _ from h, k]; exact .tuple_none kl hA
  | .tup _, .bl a, _, _, ⟨l, its, k, kl⟩, h, _, _, _ => by rw [show _ = _ from h, k]; exact .tuple_bool a kl hA
  | .tup _, .int a, _, _, ⟨l, its, k, kl⟩, ⟨t, h⟩, _, _, _ => by rw [h, k]; exact .tuple_int a t kl hA
  | .tup _, .str a, _, _, ⟨l, its, k, kl⟩, ⟨t, h⟩, _, _, _ => by rw [h, k]; exact .tuple_str a t kl hA
  | .lst _, .tup _, _, _, ⟨l, its, k, kl⟩, ⟨l', its', h, kl'⟩, _, _, _ => by rw [h, k]; exact .list_tuple kl kl' hA
  | .tup _, .lst _, _, _, ⟨l, its, k, kl⟩, ⟨l', its', h, kl'⟩, _, _, _ => by rw [h, k]; exact .tuple_list kl kl' hA
  | .lst _, .lst _, _, _, _, _, _, _, h => by rcases h with h | h <;> simp [kn] at h
  | .tup _, .tup _, _, _, _, _, _, _, h => by rcases h with h | h <;> simp [kn] at h
  | .non, .dic _, _, _, h, ⟨l, k, kl⟩, _, _, _ => by rw [show _ = _ from h, k]; exact RcAtD.none_dict  kl hA
  | .dic _, .non, _, _, ⟨l, k, kl⟩, h, _, _, _ => by rw [show _ = _ from h, k]; exact RcAtD.dict_none  kl hA
  | .bl a, .dic _, _, _, h, ⟨l, k, kl⟩, _, _, _ => by rw [show _ = _ from h, k]; exact RcAtD.bool_dict a kl hA
  | .dic _, .bl a, _, _, ⟨l, k, kl⟩, h, _, _, _ => by rw [show _ = _ from h, k]; exact RcAtD.dict_bool a kl hA
  | .int a, .dic _, _, _, ⟨t, h⟩, ⟨l, k, kl⟩, _, _, _ => by rw [h, k]; exact RcAtD.int_dict a t kl hA
  | .dic _, .int a, _, _, ⟨l, k, kl⟩, ⟨t, h⟩, _, _, _ => by rw [h, k]; exact RcAtD.dict_int a t kl hA
  | .str a, .dic _, _, _, ⟨t, h⟩, ⟨l, k, kl⟩, _, _, _ => by rw [h, k]; exact RcAtD.str_dict a t kl hA
  | .dic _, .str a, _, _, ⟨l, k, kl⟩, ⟨t, h⟩, _, _, _ => by rw [h, k]; exact RcAtD.dict_str a t kl hA
  | .lst _, .dic _, _, _, ⟨l', its, h, hl⟩, ⟨l, k, kl⟩, _, _, _ => by rw [h, k]; exact RcAtD.list_dict kl hl hA
  | .dic _, .lst _, _, _, ⟨l, k, kl⟩, ⟨l', its, h, hl⟩, _, _, _ => by rw [h, k]; exact RcAtD.dict_list kl hl hA
  | .tup _, .dic _, _, _, ⟨l', its, h, hl⟩, ⟨l, k, kl⟩, _, _, _ => by rw [h, k]; exact RcAtD.tuple_dict kl hl hA
  | .dic _, .tup _, _, _, ⟨l, k, kl⟩, ⟨l', its, h, hl⟩, _, _, _ => by rw [h, k]; exact RcAtD.dict_tuple kl hl hA
  | .dic _, .dic _, _, _, _, _, _, _, h => by rcases h with h | h <;> simp [kn] at h
  | .pr _, _, _, _, _, _, h, _, _ => by simp [kn] at h
  | .ins _ _, _, _, _, _, _, h, _, _ => by simp [kn] at h
  | _, .pr _, _, _, _, _, _, h, _ => by simp [kn] at h
  | _, .ins _ _, _, _, _, _, _, h, _ => by simp [kn] at h
theorem leafNe {A : Around} (hA : A.units < cLine) : ∀ (a b : D) {u v : Value}, VS s a u → VS s b v → kn a ≤ 3 → kn b ≤ 3 → (kn a ≠ kn b ∨ kn a = 0) → SeqAt.RcNeAt A s u v (!eqB a b)
  | .non, .non, _, _, h, k, _, _, _ => by rw [show _ = _ from h, show _ = _ from k]; exact .none_none
  | .bl a, .bl b, _, _, h, k, _, _, _ => by rw [show _ = _ from h, show _ = _ from k]; exact .bool_bool a b
  | .int a, .int b, _, _, ⟨t, h⟩, ⟨t', k⟩, _, _, _ => by rw [h, k]; exact .int_int a t b t'
  | .str a, .str b, _, _, ⟨t, h⟩, ⟨t', k⟩, _, _, _ => by rw [h, k]; exact .str_str a t b t'
  | .bl a, .int b, _, _, h, ⟨t', k⟩, _, _, _ => by rw [show _ = _ from h, k]; exact .bool_int a b t'
  | .int a, .bl b, _, _, ⟨t, h⟩, k, _, _, _ => by rw [h, show _ = _ from k]; exact .int_bool a t b
  | .non, .bl b, _, _, h, k, _, _, _ => by rw [show _ = _ from h, show _ = _ from k]; exact .none_bool b
  | .non, .int b, _, _, h, ⟨t', k⟩, _, _, _ => by rw [show _ = _ from h, k]; exact .none_int b t'
  | .non, .str b, _, _, h, ⟨t', k⟩, _, _, _ => by rw [show _ = _ from h, k]; exact .none_str b t'
  | .bl a, .non, _, _, h, k, _, _, _ => by rw [show _ = _ from h, show _ = _ from k]; exact .bool_none a
  | .bl a, .str b, _, _, h, ⟨t', k⟩, _, _, _ => by rw [show _ = _ from h, k]; exact .bool_str a b t'
  | .int a, .non, _, _, ⟨t, h⟩, k, _, _, _ => by rw [h, show _ = _ from k]; exact .int_none a t
  | .int a, .str b, _, _, ⟨t, h⟩, ⟨t', k⟩, _, _, _ => by rw [h, k]; exact .int_str a t b t'
  | .str a, .non, _, _, ⟨t, h⟩, k, _, _, _ => by rw [h, show _ = _ from k]; exact .str_none a t
  | .str a, .bl b, _, _, ⟨t, h⟩, k, _, _, _ => by rw [h, show _ = _ from k]; exact .str_bool a t b
  | .str a, .int b, _, _, ⟨t, h⟩, ⟨t', k⟩, _, _, _ => by rw [h, k]; exact .str_int a t b t'
  | .non, .lst _, _, _, h, ⟨l, its, k, kl⟩, _, _, _ => by rw [show _ = _ from h, k]; exact .none_list kl hA
  | .bl a, .lst _, _, _, h, ⟨l, its, k, kl⟩, _, _, _ => by rw [show _ = _ from h, k]; exact .bool_list a kl hA
  | .int a, .lst _, _, _, ⟨t, h⟩, ⟨l, its, k, kl⟩, _, _, _ => by rw [h, k]; exact .int_list a t kl hA
  | .str a, .lst _, _, _, ⟨t, h⟩, ⟨l, its, k, kl⟩, _, _, _ => by rw [h, k]; exact .str_list a t kl hA
  | .non, .tup _, _, _, h, ⟨l, its, k, kl⟩, _, _, _ => by rw [show _ = _ from h, k]; exact .none_tuple kl hA
  | .bl a, .tup _, _, _, h, ⟨l, its, k, kl⟩, _, _, _ => by rw [show _ = _ from h, k]; exact .bool_tuple a kl hA
  | .int a, .tup _, _, _, ⟨t, h⟩, ⟨l, its, k, kl⟩, _, _, _ => by rw [h, k]; exact .int_tuple a t kl hA
  | .str a, .tup _, _, _, ⟨t, h⟩, ⟨l, its, k, kl⟩, _, _, _ => by rw [h, k]; exact .str_tuple a t kl hA
  | .lst _, .non, _, _, ⟨l, its, k, kl⟩, h, _, _, _ => by rw [show _ = _ from h, k]; exact .list_none kl hA
  | .lst _, .bl a, _, _, ⟨l, its, k, kl⟩, h, _, _, _ => by rw [show _ = _ from h, k]; exact .list_bool a kl hA
  | .lst _, .int a, _, _, ⟨l, its, k, kl⟩, ⟨t, h⟩, _, _, _ => by rw [h, k]; exact .list_int a t kl hA
  | .lst _, .str a, _, _, ⟨l, its, k, kl⟩, ⟨t, h⟩, _, _, _ => by rw [h, k]; exact .list_str a t kl hA
  | .tup _, .non, _, _, ⟨l, its, k, kl⟩, h, _, _, _ => by rw [show _ = _ from h, k]; exact .tuple_none kl hA
  | .tup _, .bl a, _, _, ⟨l, its, k, kl⟩, h, _, _, _ => by rw [show _ = _ from h, k]; exact .tuple_bool a kl hA
  | .tup _, .int a, _, _, ⟨l, its, k, kl⟩, ⟨t, h⟩, _, _, _ => by rw [h, k]; exact .tuple_int a t kl hA
  | .tup _, .str a, _, _, ⟨l, its, k, kl⟩, ⟨t, h⟩, _, _, _ => by rw [h, k]; exact .tuple_str a t kl hA
  | .lst _, .tup _, _, _, ⟨l, its, k, kl⟩, ⟨l', its', h, kl'⟩, _, _, _ => by rw [h, k]; exact .list_tuple kl kl' hA
  | .tup _, .lst _, _, _, ⟨l, its, k, kl⟩, ⟨l', its', h, kl'⟩, _, _, _ => by rw [h, k]; exact .tuple_list kl kl' hA
  | .lst _, .lst _, _, _, _, _, _, _, h => by rcases h with h | h <;> simp [kn] at h
  | .tup _, .tup _, _, _, _, _, _, _, h => by rcases h with h | h <;> simp [kn] at h
  | .non, .dic _, _, _, h, ⟨l, k, kl⟩, _, _, _ => by rw [show _ = _ from h, k]; exact RcNeAtD.none_dict  kl hA
  | .dic _, .non, _, _, ⟨l, k, kl⟩, h, _, _, _ => by rw [show _ = _ from h, k]; exact RcNeAtD.dict_none  kl hA
  | .bl a, .dic _, _, _, h, ⟨l, k, kl⟩, _, _, _ => by rw [show _ = _ from h, k]; exact RcNeAtD.bool_dict a kl hA
  | .dic _, .bl a, _, _, ⟨l, k, kl⟩, h, _, _, _ => by rw [show _ = _ from h, k]; exact RcNeAtD.dict_bool a kl hA
  | .int a, .dic _, _, _, ⟨t, h⟩, ⟨l, k, kl⟩, _, _, _ => by rw [h, k]; exact RcNeAtD.int_dict a t kl hA
  | .dic _, .int a, _, _, ⟨l, k, kl⟩, ⟨t, h⟩, _, _, _ => by rw [h, k]; exact RcNeAtD.dict_int a t kl hA
  | .str a, .dic _, _, _, ⟨t, h⟩, ⟨l, k, kl⟩, _, _, _ => by rw [h, k]; exact RcNeAtD.str_dict a t kl hA
  | .dic _, .str a, _, _, ⟨l, k, kl⟩, ⟨t, h⟩, _, _, _ => by rw [h, k]; exact RcNeAtD.dict_str a t kl hA
  | .lst _, .dic _, _, _, ⟨l', its, h, hl⟩, ⟨l, k, kl⟩, _, _, _ => by rw [h, k]; exact RcNeAtD.list_dict kl hl hA
  | .dic _, .lst _, _, _, ⟨l, k, kl⟩, ⟨l', its, h, hl⟩, _, _, _ => by rw [h, k]; exact RcNeAtD.dict_list kl hl hA
  | .tup _, .dic _, _, _, ⟨l', its, h, hl⟩, ⟨l, k, kl⟩, _, _, _ => by rw [h, k]; exact RcNeAtD.tuple_dict kl hl hA
  | .dic _, .tup _, _, _, ⟨l, k, kl⟩, ⟨l', its, h, hl⟩, _, _, _ => by rw [h, k]; exact RcNeAtD.dict_tuple kl hl hA
  | .dic _, .dic _, _, _, _, _, _, _, h => by rcases h with h | h <;> simp [kn] at h
  | .pr _, _, _, _, _, _, h, _, _ => by simp [kn] at h
  | .ins _ _, _, _, _, _, _, h, _, _ => by simp [kn] at h
  | _, .pr _, _, _, _, _, _, h, _ => by simp [kn] at h
  | _, .ins _ _, _, _, _, _, _, h, _ => by simp [kn] at h
/-- == over data -/
def eqG : D → D → Option A := fun a b => if hgt a ≤ 100 then (eqO a b).map fun r => .d (.bl r) else none
def seqy : D → Bool
  | .lst _ => true
  | .dic _ => true
  | _ => false
/-- x == y: one of two lists or dicts at the top may be one that is written -/
theorem o_eqG (hu : X.A.units + 101 < cLine) : OpD X (compareOp .Eq) eqG := by
  intro pins s σ H x y v u Q I rx ry h
  obtain ⟨Z, a, b, r, hz, ra, rb, e, k⟩ := h
  unfold eqG at e
  split at e
  case isFalse => cases e
  rename_i hh
  obtain ⟨c, e1, e2⟩ := map_some.mp e
  cases e2
  have fin : EP X pins σ Q (.bool c) s := ⟨.bl c, H, I, rfl, k.sc rfl⟩
  have leaf : kn a ≤ 3 → kn b ≤ 3 → (kn a ≠ kn b ∨ kn a = 0) → eqB a b = c → wpAny (model X.prog X.w) X.A (compareOp .Eq v u) (EP X pins σ Q) X.xe s := fun h1 h2 h3 h4 =>
    leafRc (by omega) a b (vs_of I ra rx) (vs_of I rb ry) h1 h2 h3 X.prog X.w X.xe _ (by rw [h4]; exact fin)
  by_cases hl : ∃ xs, a = .lst xs
  · obtain ⟨xs, rfl⟩ := hl
    by_cases hb : ∃ ys, b = .lst ys
    · obtain ⟨ys, rfl⟩ := hb
      obtain ⟨p, vs, rfl, g, rr⟩ := ra
      obtain ⟨p', ws, rfl, g', rr'⟩ := rb
      cases rx
      cases ry
      obtain ⟨i1, w1, l1, _⟩ := I.list (.inl g.l2)
      obtain ⟨i2, w2, l2, _⟩ := I.list (.inl g'.l2)
      unfold hgt at hh
      unfold eqO at e1
      simp only at e1
      by_cases hl : xs.length = ys.length
      · rw [if_pos hl] at e1
        obtain ⟨f, hf, rfl⟩ := eqOs_tree I xs ys rr rr' w1 w2 e1 (n := 99) (by omega)
        have hsz : i1.length = i2.length := by rw [← w1.length, ← w2.length, ← rr.length, ← rr'.length]; exact hl
        refine PySem.W.eq_listsT (e := f) (n := 99) l1.isList l2.isList (by simpa using hsz) (fun j h1 h2 => by simpa using hf j (by simpa using h1) (by simpa using h2)) (by omega) ?_
        rw [List.size_toArray]
        rw [← hsz, Nat.min_self] at fin
        exact fin
      · rw [if_neg hl] at e1
        cases e1
        refine SeqAt.RcAt.lists_lengths l1.isList l2.isList ?_ (by omega) X.prog X.w X.xe _ fin
        have hsz : i1.length ≠ i2.length := by rw [← w1.length, ← w2.length, ← rr.length, ← rr'.length]; exact hl
        simpa using hsz
    · unfold eqO at e1
      have e' : kn b ≤ 3 ∧ c = false := by
        cases b with
        | lst ys => exact absurd ⟨ys, rfl⟩ hb
        | _ => first | (simp [kn] at e1; done) | (simp only [kn] at e1; exact ⟨by simp [kn], by simpa using e1.symm⟩)
      obtain ⟨hk, rfl⟩ := e'
      exact leaf (by simp [kn]) hk (.inl fun h => hb (by
        cases b <;> first | exact ⟨_, rfl⟩ | cases h)) (eqB_seq hk (.inl rfl))
  by_cases ht : ∃ xs, a = .tup xs
  · obtain ⟨xs, rfl⟩ := ht
    by_cases hb : ∃ ys, b = .tup ys
    · obtain ⟨ys, rfl⟩ := hb
      obtain ⟨p, vs, o, rfl, _, _, g, rr⟩ := ra
      obtain ⟨p', ws, o', rfl, _, _, g', rr'⟩ := rb
      cases rx
      cases ry
      obtain ⟨i1, w1, l1, _⟩ := I.tuple (.inl g.frz2)
      obtain ⟨i2, w2, l2, _⟩ := I.tuple (.inl g'.frz2)
      unfold hgt at hh
      unfold eqO at e1
      simp only at e1
      obtain ⟨d, e3, e4⟩ := map_some.mp e1
      obtain ⟨f, hf, rfl⟩ := eqOs_tree I xs ys rr rr' w1 w2 e3 (n := 99) (by omega)
      refine PySem.W.eq_tuplesT (e := f) (n := 99) l1 l2 (fun j h1 h2 => by simpa using hf j (by simpa using h1) (by simpa using h2)) (by omega) ?_
      have hd : decide (xs.length = ys.length) = (i1.toArray.size == i2.toArray.size) := by
        rw [List.size_toArray, List.size_toArray, ← w1.length, ← w2.length, ← rr.length, ← rr'.length]
        by_cases h : xs.length = ys.length
        · simp [h]
        · simp [h]
      rw [← e4, hd] at fin
      simpa using fin
    · unfold eqO at e1
      have e' : kn b ≤ 3 ∧ c = false := by
        cases b with
        | tup ys => exact absurd ⟨ys, rfl⟩ hb
        | _ => first | (simp [kn] at e1; done) | (simp only [kn] at e1; exact ⟨by simp [kn], by simpa using e1.symm⟩)
      obtain ⟨hk, rfl⟩ := e'
      exact leaf (by simp [kn]) hk (.inl fun h => hb (by
        cases b <;> first | exact ⟨_, rfl⟩ | cases h)) (eqB_seq hk (.inr (.inl rfl)))
  by_cases hd : ∃ xs, a = .dic xs
  · obtain ⟨xs, rfl⟩ := hd
    cases b with
    | dic ys =>
      obtain ⟨p, vs, rfl, g, rr⟩ := ra
      obtain ⟨p', ws, rfl, g', rr'⟩ := rb
      cases rx
      cases ry
      obtain ⟨_, n1, k1, rel1, d1⟩ := dk_rd I.hok g.l2
      obtain ⟨_, n2, k2, rel2, d2⟩ := dk_rd I.hok g'.l2
      unfold hgt at hh
      unfold eqO at e1
      simp only at e1
      obtain ⟨d, e3, e4⟩ := map_some.mp e1
      obtain ⟨f, hf, rfl⟩ := eqOk_tree I xs ys rr rel1 (keys_nodup I g) rr' rel2 e3 (n := 99) (by omega)
      refine PySem.W.eq_dictsT (e := f) (n := 99) n1 n2 d1 d2 hf (by omega) ?_
      have hd : decide (xs.length = ys.length) = (k1.length == k2.length) := by
        rw [← rel1.length, ← rel2.length, ← repK_len rr, ← repK_len rr']
        by_cases h : xs.length = ys.length
        · simp [h]
        · simp [h]
      rw [← e4, hd] at fin
      exact fin
    | _ =>
      unfold eqO at e1
      first
        | (simp [kn] at e1; done)
        | (have e' : c = false := by simpa [kn] using e1.symm
           subst e'
           exact leaf (by simp [kn]) (by simp [kn]) (.inl (by simp [kn])) (eqB_seq (by simp [kn]) (.inr (.inr rfl))))
  have h0 : kn a = 0 ∧ kn b ≤ 3 ∧ eqB a b = c := by
    cases a with
    | lst xs => exact absurd ⟨xs, rfl⟩ hl
    | tup xs => exact absurd ⟨xs, rfl⟩ ht
    | dic xs => exact absurd ⟨xs, rfl⟩ hd
    | _ => simp [eqO, kn] at e1 <;> exact ⟨rfl, e1⟩
  exact leaf (by omega) h0.2.1 (.inr h0.1) h0.2.2
/-- != over data -/
def neG : D → D → Option A := fun a b => if hgt a ≤ 100 then (eqO a b).map fun r => .d (.bl (!r)) else none
theorem o_neG (hu : X.A.units + 101 < cLine) : OpD X (compareOp .NotEq) neG := by
  intro pins s σ H x y v u Q I rx ry h
  obtain ⟨Z, a, b, r, hz, ra, rb, e, k⟩ := h
  unfold neG at e
  split at e
  case isFalse => cases e
  rename_i hh
  obtain ⟨c, e1, e2⟩ := map_some.mp e
  cases e2
  have fin : EP X pins σ Q (.bool (!c)) s := ⟨.bl (!c), H, I, rfl, k.sc rfl⟩
  have leaf : kn a ≤ 3 → kn b ≤ 3 → (kn a ≠ kn b ∨ kn a = 0) → eqB a b = c → wpAny (model X.prog X.w) X.A (compareOp .NotEq v u) (EP X pins σ Q) X.xe s := fun h1 h2 h3 h4 =>
    leafNe (by omega) a b (vs_of I ra rx) (vs_of I rb ry) h1 h2 h3 X.prog X.w X.xe _ (by rw [h4]; exact fin)
  by_cases hl : ∃ xs, a = .lst xs
  · obtain ⟨xs, rfl⟩ := hl
    by_cases hb : ∃ ys, b = .lst ys
    · obtain ⟨ys, rfl⟩ := hb
      obtain ⟨p, vs, rfl, g, rr⟩ := ra
      obtain ⟨p', ws, rfl, g', rr'⟩ := rb
      cases rx
      cases ry
      obtain ⟨i1, w1, l1, _⟩ := I.list (.inl g.l2)
      obtain ⟨i2, w2, l2, _⟩ := I.list (.inl g'.l2)
      unfold hgt at hh
      unfold eqO at e1
      simp only at e1
      by_cases hl : xs.length = ys.length
      · rw [if_pos hl] at e1
        obtain ⟨f, hf, rfl⟩ := eqOs_tree I xs ys rr rr' w1 w2 e1 (n := 99) (by omega)
        have hsz : i1.length = i2.length := by rw [← w1.length, ← w2.length, ← rr.length, ← rr'.length]; exact hl
        refine rcNe_lists (f := f) l1.isList l2.isList (by simpa using hsz) (by omega) (fun j h1 h2 => (show PySem.W.EqTree X.prog X.w s 99 _ _ (f j) by simpa using hf j (by simpa using h1) (by simpa using h2)).at X.A.in1 (by show X.A.units + 1 + _ < cLine; omega)) ?_
        rw [List.size_toArray]
        rw [← hsz, Nat.min_self] at fin
        exact fin
      · rw [if_neg hl] at e1
        cases e1
        refine SeqAt.RcNeAt.lists_lengths l1.isList l2.isList ?_ (by omega) X.prog X.w X.xe _ fin
        have hsz : i1.length ≠ i2.length := by rw [← w1.length, ← w2.length, ← rr.length, ← rr'.length]; exact hl
        simpa using hsz
    · unfold eqO at e1
      have e' : kn b ≤ 3 ∧ c = false := by
        cases b with
        | lst ys => exact absurd ⟨ys, rfl⟩ hb
        | _ => first | (simp [kn] at e1; done) | (simp only [kn] at e1; exact ⟨by simp [kn], by simpa using e1.symm⟩)
      obtain ⟨hk, rfl⟩ := e'
      exact leaf (by simp [kn]) hk (.inl fun h => hb (by
        cases b <;> first | exact ⟨_, rfl⟩ | cases h)) (eqB_seq hk (.inl rfl))
  by_cases ht : ∃ xs, a = .tup xs
  · obtain ⟨xs, rfl⟩ := ht
    by_cases hb : ∃ ys, b = .tup ys
    · obtain ⟨ys, rfl⟩ := hb
      obtain ⟨p, vs, o, rfl, _, _, g, rr⟩ := ra
      obtain ⟨p', ws, o', rfl, _, _, g', rr'⟩ := rb
      cases rx
      cases ry
      obtain ⟨i1, w1, l1, _⟩ := I.tuple (.inl g.frz2)
      obtain ⟨i2, w2, l2, _⟩ := I.tuple (.inl g'.frz2)
      unfold hgt at hh
      unfold eqO at e1
      simp only at e1
      obtain ⟨d, e3, e4⟩ := map_some.mp e1
      obtain ⟨f, hf, rfl⟩ := eqOs_tree I xs ys rr rr' w1 w2 e3 (n := 99) (by omega)
      refine rcNe_tuples (f := f) l1 l2 (by omega) (fun j h1 h2 => (show PySem.W.EqTree X.prog X.w s 99 _ _ (f j) by simpa using hf j (by simpa using h1) (by simpa using h2)).at X.A.in1 (by show X.A.units + 1 + _ < cLine; omega)) ?_
      have hd : decide (xs.length = ys.length) = (i1.toArray.size == i2.toArray.size) := by
        rw [List.size_toArray, List.size_toArray, ← w1.length, ← w2.length, ← rr.length, ← rr'.length]
        by_cases h : xs.length = ys.length
        · simp [h]
        · simp [h]
      rw [← e4, hd] at fin
      simpa using fin
    · unfold eqO at e1
      have e' : kn b ≤ 3 ∧ c = false := by
        cases b with
        | tup ys => exact absurd ⟨ys, rfl⟩ hb
        | _ => first | (simp [kn] at e1; done) | (simp only [kn] at e1; exact ⟨by simp [kn], by simpa using e1.symm⟩)
      obtain ⟨hk, rfl⟩ := e'
      exact leaf (by simp [kn]) hk (.inl fun h => hb (by
        cases b <;> first | exact ⟨_, rfl⟩ | cases h)) (eqB_seq hk (.inr (.inl rfl)))
  by_cases hd : ∃ xs, a = .dic xs
  · obtain ⟨xs, rfl⟩ := hd
    cases b with
    | dic ys =>
      obtain ⟨p, vs, rfl, g, rr⟩ := ra
      obtain ⟨p', ws, rfl, g', rr'⟩ := rb
      cases rx
      cases ry
      obtain ⟨_, n1, k1, rel1, d1⟩ := dk_rd I.hok g.l2
      obtain ⟨_, n2, k2, rel2, d2⟩ := dk_rd I.hok g'.l2
      unfold hgt at hh
      unfold eqO at e1
      simp only at e1
      obtain ⟨d, e3, e4⟩ := map_some.mp e1
      obtain ⟨f, hf, rfl⟩ := eqOk_tree I xs ys rr rel1 (keys_nodup I g) rr' rel2 e3 (n := 99) (by omega)
      refine rcNe_dicts n1 n2 d1 d2 (by omega) (fun _ => PySem.W.KeqHitsIn.of (e := f) _ fun k' v y hm hv => (hf k' v y hm hv).at X.A.in1 (by show X.A.units + 1 + _ < cLine; omega)) ?_
      have hd : decide (xs.length = ys.length) = (k1.length == k2.length) := by
        rw [← rel1.length, ← rel2.length, ← repK_len rr, ← repK_len rr']
        by_cases h : xs.length = ys.length
        · simp [h]
        · simp [h]
      rw [← e4, hd] at fin
      exact fin
    | _ =>
      unfold eqO at e1
      first
        | (simp [kn] at e1; done)
        | (have e' : c = false := by simpa [kn] using e1.symm
           subst e'
           exact leaf (by simp [kn]) (by simp [kn]) (.inl (by simp [kn])) (eqB_seq (by simp [kn]) (.inr (.inr rfl))))
  have h0 : kn a = 0 ∧ kn b ≤ 3 ∧ eqB a b = c := by
    cases a with
    | lst xs => exact absurd ⟨xs, rfl⟩ hl
    | tup xs => exact absurd ⟨xs, rfl⟩ ht
    | dic xs => exact absurd ⟨xs, rfl⟩ hd
    | _ => simp [eqO, kn] at e1 <;> exact ⟨rfl, e1⟩
  exact leaf (by omega) h0.2.1 (.inr h0.1) h0.2.2
end
end Tw
end
section
set_option maxRecDepth 100000
/-! layer 18: the program's defs and classes as they are told -/
namespace Tw
open PySem PySem.Spec PyProof.Rows L2

/-- a def of the top -/
def DefT (K : PySem.W.Frag) (mg : Str → Option Value) (nm : Str) (st : Stmt) (ps : List Str) : Prop := ∃ f fd, mg nm = some (.ref f) ∧ Fun K nm nm st f fd ∧ Binds K fd ps []
/-- a method of a class -/
def MetT (K : PySem.W.Frag) (mg : Str → Option Value) (cn nm qual : Str) (st : Stmt) (ps : List Str) : Prop := ∃ C f fd, mg cn = some (.ref C) ∧ Cls K C ∧ Meth K C nm f ∧ Fun K nm qual st f fd ∧ Binds K fd ps []
/-- a class -/
def ClsT (K : PySem.W.Frag) (mg : Str → Option Value) (cn : Str) : Prop := ∃ C, mg cn = some (.ref C) ∧ Cls K C
def FldT (K : PySem.W.Frag) (mg : Str → Option Value) (cn fn : Str) : Prop := ∃ C, mg cn = some (.ref C) ∧ Cls K C ∧ NoAttr K C fn
section
variable (P : Program) (w : World) (K : PySem.W.Frag) (mg : Str → Option Value) (base : Heap)
/-- a def that keeps its promise with k calls below it -/
def Cal (nm : Str) (ps : List Str) (k : Nat) (F : F0) : Prop := ∃ f fd, mg nm = some (.ref f) ∧ PySem.W.keepIn K (.ref f) = true ∧ Binds K fd ps [] ∧ FnOk P w K mg base CX0 k f fd ps (sp0 mg F)
def Cal1 (nm : Str) (ps : List Str) (k : Nat) (F : F1) : Prop := ∃ f fd, mg nm = some (.ref f) ∧ PySem.W.keepIn K (.ref f) = true ∧ Binds K fd ps [] ∧ FnOk P w K mg base CX0 k f fd ps (sp1 mg F)
def CalM (cn nm : Str) (ps : List Str) (k : Nat) (F : F0) : Prop := ∃ C f fd, mg cn = some (.ref C) ∧ Cls K C ∧ Meth K C nm f ∧ Binds K fd ps [] ∧ FnOk P w K mg base CX0 k f fd ps (sp0 mg F)
def CalI (cn : Str) (ps : List Str) (k : Nat) (F : F1) : Prop := ∃ C f fd, mg cn = some (.ref C) ∧ Cls K C ∧ Mk K C f ∧ Binds K fd ps [] ∧ FnOk P w K mg base CX0 k f fd ps (sp1 mg F)
def CalE (cn : Str) (ps : List Str) (k : Nat) (F : F0) : Prop := ∃ C f fd, mg cn = some (.ref C) ∧ Cls K C ∧ PySem.W.findIn K (.ref C) "__eq__" = some (some (.ref f)) ∧ PySem.W.isFn K (.ref f) = true ∧ PySem.W.findIn K (.ref C) "__ne__" = some (some (.builtin "object.__ne__")) ∧
  PySem.W.mroIn K C (.type "object") = some true ∧ Binds K fd ps [] ∧ FnOk P w K mg base CX0 k f fd ps (sp0 mg F)
end
theorem no0 {P : Program} {w : World} {K : PySem.W.Frag} {mg : Str → Option Value} {base : Heap} {k : Nat} {f : Addr} {fd : FuncData} {ps : List Str} : FnOk P w K mg base CX0 k f fd ps (sp0 mg fun _ => none) := by
  have no : ∀ vs H Q E, ¬ sp0 mg (fun _ => none) vs H Q E := fun vs H Q E ⟨_, _, _, _, _, e, _⟩ => by cases e
  exact ⟨fun vs H Q E h => absurd h (no vs H Q E), fun A outer s H args us vs Q E _ _ _ _ h => absurd h (no vs H Q E)⟩
theorem no1 {P : Program} {w : World} {K : PySem.W.Frag} {mg : Str → Option Value} {base : Heap} {k : Nat} {f : Addr} {fd : FuncData} {ps : List Str} : FnOk P w K mg base CX0 k f fd ps (sp1 mg fun _ _ => none) := by
  have no : ∀ vs H Q E, ¬ sp1 mg (fun _ _ => none) vs H Q E := fun vs H Q E ⟨_, _, _, _, _, _, _, _, _, _, _, _, _, _, _, e, _⟩ => by cases e
  exact ⟨fun vs H Q E h => absurd h (no vs H Q E), fun A outer s H args us vs Q E _ _ _ _ h => absurd h (no vs H Q E)⟩
section
variable {P : Program} {w : World} {K : PySem.W.Frag} {mg : Str → Option Value} {base : Heap} {nm cn qual : Str} {st : Stmt} {ps N : List Str} {k : Nat} {b : SF} {F : F0} {G : F1}
theorem Cal1.none (T : DefT K mg nm st ps) : Cal1 P w K mg base nm ps k fun _ _ => none := let ⟨f, fd, m, F, bi⟩ := T; ⟨f, fd, m, F.kp, bi, no1⟩
theorem Cal.none (T : DefT K mg nm st ps) : Cal P w K mg base nm ps k fun _ => none := let ⟨f, fd, m, F, bi⟩ := T; ⟨f, fd, m, F.kp, bi, no0⟩
theorem CalM.none (T : MetT K mg cn nm qual st ps) : CalM P w K mg base cn nm ps k fun _ => none := let ⟨C, f, fd, m, c, me, F, bi⟩ := T; ⟨C, f, fd, m, c, me, bi, no0⟩
abbrev BodyOk (P : Program) (w : World) (K : PySem.W.Frag) (mg : Str → Option Value) (base : Heap) (qual : Str) (st : Stmt) (N : List Str) (k : Nat) (b : SF) : Prop :=
  ∀ (f : Addr) (cdv : Value) (A : Around) (outer : List Env) (s : Shared) (H : Hp) (E : XK), Room k (A.deeper (envOfC qual (defScope st) s.heap.objs.size f cdv)) → BI (cxOf CX0 P w K mg base N qual (defScope st) f cdv A outer s H E).nox (defBody st) b
theorem Cal.mk {k' : Nat} (T : DefT K mg nm st ps) (S : FnScope N ps (defScope st)) (hb : BodyOk P w K mg base nm st N k b) (hnp : ps.length ≤ N.length := by decide) (hk : k + 1 ≤ k' := by omega) : Cal P w K mg base nm ps k' (run0 N.length ps.length b) :=
  let ⟨f, fd, m, F, bi⟩ := T; ⟨f, fd, m, F.kp, bi, (ok0 F S hnp fun cdv A outer s H E hr => hb f cdv A outer s H E hr).mono hk⟩
theorem Cal1.mk {k' : Nat} (T : DefT K mg nm st ps) (S : FnScope N ps (defScope st)) (hb : BodyOk P w K mg base nm st N k b) (hnp : ps.length ≤ N.length := by decide) (hk : k + 1 ≤ k' := by omega) : Cal1 P w K mg base nm ps k' (run1 N.length ps.length b) :=
  let ⟨f, fd, m, F, bi⟩ := T; ⟨f, fd, m, F.kp, bi, (ok1 F S hnp fun cdv A outer s H E hr => hb f cdv A outer s H E hr).mono hk⟩
theorem CalM.mk {k' : Nat} (T : MetT K mg cn nm qual st ps) (S : FnScope N ps (defScope st)) (hb : BodyOk P w K mg base qual st N k b) (hnp : ps.length ≤ N.length := by decide) (hk : k + 1 ≤ k' := by omega) : CalM P w K mg base cn nm ps k' (run0 N.length ps.length b) :=
  let ⟨C, f, fd, m, c, me, F, bi⟩ := T; ⟨C, f, fd, m, c, me, bi, (ok0 F S hnp fun cdv A outer s H E hr => hb f cdv A outer s H E hr).mono hk⟩
theorem CalI.mk {k' : Nat} (T : MetT K mg cn "__init__" qual st ps) (hM : ∀ C, mg cn = some (.ref C) → PySem.W.makesIn K C = true ∧ PySem.W.keepIn K (.ref C) = true) (S : FnScope N ps (defScope st)) (hb : BodyOk P w K mg base qual st N k b) (hnp : ps.length ≤ N.length := by decide) (hk : k + 1 ≤ k' := by omega) :
    CalI P w K mg base cn ps k' (run1 N.length ps.length b) :=
  let ⟨C, f, fd, m, c, me, F, bi⟩ := T; ⟨C, f, fd, m, c, ⟨(hM C m).1, me.at_, me.fn, (hM C m).2⟩, bi, (ok1 F S hnp fun cdv A outer s H E hr => hb f cdv A outer s H E hr).mono hk⟩
theorem CalE.mk (c : CalM P w K mg base cn "__eq__" ps k F) (hne : ∀ C, mg cn = some (.ref C) → PySem.W.findIn K (.ref C) "__ne__" = some (some (.builtin "object.__ne__")) ∧ PySem.W.mroIn K C (.type "object") = some true) : CalE P w K mg base cn ps k F :=
  let ⟨C, f, fd, m, c, me, bi, G⟩ := c; ⟨C, f, fd, m, c, me.at_, me.fn, (hne C m).1, (hne C m).2, bi, G⟩
end
section
variable {X : Cx} {k k' : Nat} {ps : List Str} {x cn fn : Str} {p pos apos cpos : Pos} {e a b value : Expr} {es : List Expr} {os : List Opd} {o q : Opd} {f g : EF} {F : F0} {G : F1}
theorem e_callC (c : Cal X.prog X.w X.K X.mg X.base x ps k F) (hr : Room k' X.A) (ha : AI X (e :: es) os) (hk : k ≤ k' := by omega) (hg : Gl X x := by rfl) (hdb : (x == ("__debug__" : Str)) = false := by decide)
    (he : starEach (e :: es) X.env = (false, eval e X.env) :: starEach es X.env := by rfl) (hpl : (backTo pos (starEach es X.env)).any (·.1) = false := by rfl) : EI X (.Call (.Name x p) (e :: es) [] pos) (cal0 os F) :=
  let ⟨_, _, m, kp, bi, G⟩ := c; e_call G (hr.mono hk) m kp bi ha hg hdb he hpl
theorem e_call0C (c : Cal X.prog X.w X.K X.mg X.base x ps k F) (hr : Room k' X.A) (hk : k ≤ k' := by omega) (hg : Gl X x := by rfl) (hdb : (x == ("__debug__" : Str)) = false := by decide) : EI X (.Call (.Name x p) [] [] pos) (cal0 [] F) :=
  let ⟨_, _, m, kp, bi, G⟩ := c; e_call00 G (hr.mono hk) m kp bi hg hdb
theorem e_call1C (i : Nat) {y : Str} {py : Pos} (c : Cal1 X.prog X.w X.K X.mg X.base x ps k G) (hr : Room k' X.A) (ha : AI X es os) (hk : k ≤ k' := by omega) (hN : X.N[i]? = some y := by rfl) (hv : Vis X.env.scope y := by first | exact Or.inl rfl | exact Or.inr (Or.inl rfl) | exact Or.inr (Or.inr rfl))
    (hd : (y == ("__debug__" : Str)) = false := by decide) (hcd : (y == ("__classdict__" : Str)) = false := by decide) (hg : Gl X x := by rfl) (hs1 : starEach (.Name y py :: es) X.env = (false, eval (.Name y py) X.env) :: starEach es X.env := by rfl)
    (hdb : (x == ("__debug__" : Str)) = false := by decide) (hpl : (backTo pos (starEach es X.env)).any (·.1) = false := by rfl) : EI X (.Call (.Name x p) (.Name y py :: es) [] pos) (cal1 i os G) :=
  let ⟨_, _, m, kp, bi, G⟩ := c; e_call1 i G (hr.mono hk) m kp bi ha hN hv hd hcd hg hs1 hdb hpl
theorem e_makeC (c : CalI X.prog X.w X.K X.mg X.base cn ps k G) (hr : Room k' X.A) (ha : AI X (e :: es) os) (hk : k + 1 ≤ k' := by omega) (hg : Gl X cn := by rfl) (hdb : (cn == ("__debug__" : Str)) = false := by decide)
    (he : starEach (e :: es) X.env = (false, eval e X.env) :: starEach es X.env := by rfl) (hpl : (backTo pos (starEach es X.env)).any (·.1) = false := by rfl) : EI X (.Call (.Name cn p) (e :: es) [] pos) (mkE cn os G) :=
  let ⟨_, _, _, m, cl, M, bi, G⟩ := c; e_make ⟨m, cl⟩ M G (hr.mono hk) bi ha hg hdb he hpl
theorem e_methC {m : Str} (c : CalM X.prog X.w X.K X.mg X.base cn m ps k F) (hr : Room k' X.A) (he : EI X a f) (ha : AI X (e :: es) os) (hk : k ≤ k' := by omega) {pl : Sem Bool}
    (hst : starEach (e :: es) X.env = (false, eval e X.env) :: starEach es X.env := by rfl) (hpl : (backTo pos (starEach es X.env)).any (·.1) = false := by rfl)
    (ht : eval (.Call (.Attribute a m apos) (e :: es) [] pos) X.env = (do
      let ov ← eval a X.env
      standAt apos.atName
      let (f, first) ← holding [ov] (getMethod ov m pl)
      callWith pos f first (backTo pos (starEach (e :: es) X.env)) (backToKw pos (keywordEach [] X.env))) := by rfl) : EI X (.Call (.Attribute a m apos) (e :: es) [] pos) (methE cn m f os F) :=
  let ⟨_, _, _, mm, cl, me, bi, G⟩ := c; e_meth ⟨mm, cl⟩ me G (hr.mono hk) bi he ha hst hpl ht
theorem e_meth0C {m : Str} (c : CalM X.prog X.w X.K X.mg X.base cn m ps k F) (hr : Room k' X.A) (he : EI X a f) (hk : k ≤ k' := by omega) {pl : Sem Bool}
    (ht : eval (.Call (.Attribute a m apos) [] [] pos) X.env = (do
      let ov ← eval a X.env
      standAt apos.atName
      let (f, first) ← holding [ov] (getMethod ov m pl)
      callWith pos f first (backTo pos (starEach [] X.env)) (backToKw pos (keywordEach [] X.env))) := by rfl) : EI X (.Call (.Attribute a m apos) [] [] pos) (methE cn m f [] F) :=
  let ⟨_, _, _, mm, cl, me, bi, G⟩ := c; e_meth0 ⟨mm, cl⟩ me G (hr.mono hk) bi he ht
theorem e_fldC (c : FldT X.K X.mg cn fn) (ha : OI X a o) (hb : attributeBase a fn X.env (eval a X.env) = eval a X.env := by rfl) : EI X (.Attribute a fn pos) (fldE cn fn o) :=
  let ⟨_, m, cl, na⟩ := c; e_fld ⟨m, cl⟩ na ha hb
theorem s_fldC (i : Nat) {x : Str} {px pos' : Pos} (c : FldT X.K X.mg cn fn) (hv : EI X value f) (hN : X.N[i]? = some x := by rfl) (hvs : Vis X.env.scope x := by first | exact Or.inl rfl | exact Or.inr (Or.inl rfl) | exact Or.inr (Or.inr rfl)) (hdb : (x == ("__debug__" : Str)) = false := by decide)
    (hcd : (x == ("__classdict__" : Str)) = false := by decide) (hs : swapsWith value (some (.Attribute (.Name x px) fn pos')) pos.line X.env = pure false := by rfl) : SI X (.Assign [.Attribute (.Name x px) fn pos'] value pos) (fldS i cn fn f) :=
  let ⟨_, m, cl, na⟩ := c; s_fld i ⟨m, cl⟩ na hv hN hvs hdb hcd hs
theorem o_eqIC (c : CalE X.prog X.w X.K X.mg X.base cn ps k F) (hr : Room k' X.A) (hk : k ≤ k' := by omega) : OpD X (compareOp .Eq) (eqI cn F false) :=
  let ⟨_, _, _, m, cl, eq, fn, ne, ob, bi, G⟩ := c; o_eqI ⟨⟨m, cl⟩, eq, fn, ne, ob⟩ G bi (hr.mono hk)
theorem o_neIC (c : CalE X.prog X.w X.K X.mg X.base cn ps k F) (hr : Room k' X.A) (hk : k + 1 ≤ k' := by omega) : OpD X (compareOp .NotEq) (eqI cn F true) :=
  let ⟨_, _, _, m, cl, eq, fn, ne, ob, bi, G⟩ := c; o_neI ⟨⟨m, cl⟩, eq, fn, ne, ob⟩ G bi (hr.mono hk)
theorem e_gintC {x : Str} {i : Int} {pos : Pos} (c : ∃ t, X.mg x = some (.int i t)) (hg : Gl X x := by rfl) (hd : (x == ("__debug__" : Str)) = false := by decide) : EI X (.Name x pos) (cst (.int i)) := let ⟨_, m⟩ := c; e_gint hg m hd
def get2E (o p q : Opd) : EF := fun ρ => (ev1 o ρ).bind fun x => (res x.2 x.1).bind fun d0 => if isDic d0 = true then (ev1 p x.2).bind fun y => (ev1 q y.2).bind fun z => (inlD z.1).bind fun dd => (res z.2 x.1).bind fun d => (dicD d).bind fun kvs => (res z.2 y.1).bind fun kd => (toKey kd).map fun k => (.d ((Tw.getD kvs k).getD dd), z.2) else none
theorem e_get2 {q : Opd} {c : Expr} {p' : Opd} (hu : X.A.units + 1 < cLine) (ha : OI X a o) (hb : OI X b p') (hd : OI X c q) (m : M2 X a "get" apos b c cpos := by exact ⟨rfl, rfl, rfl, rfl⟩) : EI X (.Call (.Attribute a "get" apos) [b, c] [] cpos) (get2E o p' q) := (pe_dget2 hu ha hb hd m).imp fun σ H Q h => by
  obtain ⟨c, ρ, ts, tv, r, ρ', s, e, k⟩ := h
  obtain ⟨⟨x, ρ1⟩, e1, e⟩ := bind_some.mp (show (ev1 o ρ).bind _ = _ from e)
  obtain ⟨d0, e2, e⟩ := bind_some.mp e
  split at e
  case isFalse => cases e
  rename_i hd
  obtain ⟨⟨y, ρ2⟩, e3, e⟩ := bind_some.mp e
  obtain ⟨⟨z, ρ3⟩, e4, e⟩ := bind_some.mp e
  obtain ⟨dd, e5, e⟩ := bind_some.mp e
  obtain ⟨d, e6, e⟩ := bind_some.mp e
  obtain ⟨kvs, e7, e⟩ := bind_some.mp e
  obtain ⟨kd, e8, e⟩ := bind_some.mp e
  obtain ⟨kk, e9, e⟩ := map_some.mp e
  cases e
  refine tO_go s e1 fun u H1 s1 hu => ?_
  obtain ⟨fp1, g1⟩ := id s1
  obtain ⟨g1', ra1⟩ := g1.pop1 hu
  obtain ⟨a, rfl, isd⟩ := isD_of (g1'.res ra1 e2) hd
  refine ⟨a, rfl, isd, tO_go s1 e3 fun w H2 s2 hw => tO_go s2 e4 fun w3 H3 s3 hw3 => ?_⟩
  obtain ⟨fp, g3⟩ := s3
  obtain ⟨g2, rc⟩ := g3.pop1 hw3
  obtain ⟨g1, rb⟩ := g2.pop1 hw
  obtain ⟨g0, ra⟩ := g1.pop1 hu
  obtain ⟨hy, vs, gd, rk⟩ := dget_of (g0.res ra e6) e7 (g0.res rb e8) e9 rfl
  refine ⟨valV vs kk, .inl ⟨vs, kk, gd.l2, hy, rfl⟩, ?_⟩
  rcases rk.get (k := kk) with ⟨h1, h2⟩ | ⟨d', v, h1, h2, h3⟩
  · rw [h1] at k; rw [h2]
    cases z with
    | inr j => cases e5
    | inl z0 => cases e5; exact k _ H3 ⟨_, g0.put rc⟩
  · rw [h1] at k; rw [h2]; exact k _ H3 ⟨_, g0.put h3⟩
/-! ### two ways -/
theorem EI.or {e : Expr} (h : EI X e f) (k : EI X e g) : EI X e (fun ρ => (f ρ).or (g ρ)) := (PE.or h k).imp fun σ H Q w => by
  obtain ⟨c, ρ, ts, tv, r, ρ', s, e, kk⟩ := w
  cases e1 : f ρ with
  | some y =>
    have e : (f ρ).or (g ρ) = some (r, ρ') := e
    rw [e1] at e
    cases e
    exact .inl ⟨c, ρ, ts, tv, r, ρ', s, e1, kk⟩
  | none =>
    have e : (f ρ).or (g ρ) = some (r, ρ') := e
    rw [e1] at e
    exact .inr ⟨c, ρ, ts, tv, r, ρ', s, e, kk⟩
theorem SI.or {st : Stmt} {f g : SF} (h : SI X st f) (k : SI X st g) : SI X st (fun ρ => (f ρ).or (g ρ)) := (PS.or h k).imp fun D σ H w => by
  obtain ⟨c, ρ, ts, tv, o, ρ', s, e, kk⟩ := w
  cases e1 : f ρ with
  | some y =>
    have e : (f ρ).or (g ρ) = some (o, ρ') := e
    rw [e1] at e
    cases e
    exact .inl ⟨c, ρ, ts, tv, o, ρ', s, e1, kk⟩
  | none =>
    have e : (f ρ).or (g ρ) = some (o, ρ') := e
    rw [e1] at e
    exact .inr ⟨c, ρ, ts, tv, o, ρ', s, e, kk⟩
theorem TI.or {e : Expr} {f g : TF} (h : TI X e f) (k : TI X e g) : TI X e (fun ρ => (f ρ).or (g ρ)) := (show PT X e fun σ H Q => tTst X.mg f σ H Q ∨ tTst X.mg g σ H Q from ⟨fun pins s σ H D I w => by
  rcases w with w | w
  · exact PT.run h pins s σ H D I w
  · exact PT.run k pins s σ H D I w⟩).imp fun σ H Q w => by
  obtain ⟨c, ρ, ts, tv, r, ρ', s, e, kk⟩ := w
  cases e1 : f ρ with
  | some y =>
    have e : (f ρ).or (g ρ) = some (r, ρ') := e
    rw [e1] at e
    cases e
    exact .inl ⟨c, ρ, ts, tv, r, ρ', s, e1, kk⟩
  | none =>
    have e : (f ρ).or (g ρ) = some (r, ρ') := e
    rw [e1] at e
    exact .inr ⟨c, ρ, ts, tv, r, ρ', s, e, kk⟩
/-- isinstance(x, C) for an own class -/
def IsiT (K : PySem.W.Frag) (mg : Str → Option Value) (cn : Str) : Prop := ∃ C, mg cn = some (.ref C) ∧ Cls K C ∧ PySem.W.findIn K (.ref C) "__class__" = some (some (.builtin "object.__class__")) ∧
  PySem.W.specialIn K (.builtin "object.__class__") "__get__" = some (some (.builtin "getset_descriptor.__get__")) ∧ PySem.W.takesIn K (.builtin "object.__class__") = some true ∧
  PySem.W.mroIn K C (.type "object") = some true ∧ PySem.W.kitOne K (.ref C) (.ref C) = some true
def isiI (cn : Str) (o : Opd) : EF := fun ρ => (ev1 o ρ).bind fun x => (res x.2 x.1).bind fun d => (insD d).bind fun y => if y.1 = cn then some (.d (.bl true), x.2) else none
theorem e_isiC {p1 p2 pos : Pos} (c : IsiT X.K X.mg cn) (ha : OI X a o) (hm : X.mg "isinstance" = none) (hg : Gl X "isinstance" := by rfl) (hg2 : Gl X cn := by rfl)
    (hdb : (cn == ("__debug__" : Str)) = false := by decide) (he1 : starEach [a, .Name cn p2] X.env = (false, eval a X.env) :: starEach [.Name cn p2] X.env := by rfl) (he2 : starEach [.Name cn p2] X.env = (false, eval (.Name cn p2) X.env) :: starEach [] X.env := by rfl)
    (hpl : (backTo pos (starEach [.Name cn p2] X.env)).any (·.1) = false := by rfl) : EI X (.Call (.Name "isinstance" p1) [a, .Name cn p2] [] pos) (isiI cn o) := by
  obtain ⟨C, mC, cl, h1, h2, h3, h4, h5⟩ := c
  exact (pe_callB call_isi hg hm PyProof.Rows.boot_isinstance (pa_cons ha (pa_cons (pe_glob (v := .ref C) hg2 mC rfl hdb) pa_nil he2) he1) (by decide) (by decide) he1 hpl).imp fun σ H Q h => by
    obtain ⟨c, ρ, ts, tv, r, ρ', s, e, k⟩ := h
    obtain ⟨⟨x1, ρ1⟩, e1, e⟩ := bind_some.mp (show (ev1 o ρ).bind _ = _ from e)
    obtain ⟨d, e2, e⟩ := bind_some.mp e
    obtain ⟨⟨c', fs⟩, e3, e⟩ := bind_some.mp e
    split at e
    case isFalse => cases e
    rename_i hcn
    cases e
    have hcn : c' = cn := hcn
    subst hcn
    refine tO_go s e1 fun w H1 s1 hw => ?_
    obtain ⟨fp, g1⟩ := s1
    obtain ⟨g0, ra⟩ := g1.pop1 hw
    have rr := g0.res ra e2
    cases d <;> cases e3
    obtain ⟨a0, C', dx, vs, rfl, _, hm, g, rf⟩ := rr
    cases hm.symm.trans mC
    exact ⟨.ref a0, .ref C, .ref C, .ref C, true, rfl, .own C, .base (.ins g.ins cl h1 h2 h3 h4), h5, k _ _ ⟨_, g0.put (show Rep X.mg _ _ (.bl _) _ from rfl)⟩⟩
end
end Tw
end
section
set_option maxRecDepth 100000
/-! layer 21: slices of tuples -/
namespace Tw
open PySem PySem.Spec PyProof.Rows L2

section
variable {X : Cx}
/-- t[lo:hi]: the whole of it is t itself; what is new is told with its object -/
def rSlF (K : PySem.W.Frag) : V → Option Int → Option Int → Hp → VK → Prop := fun x lo hi H Q => ∃ a xs, x = .ref a ∧ SqT K H a xs ∧
  (HT.sIx xs.length 0 lo = 0 ∧ HT.sIx xs.length xs.length hi = xs.length → Q (.ref a) H) ∧
  (¬ (HT.sIx xs.length 0 lo = 0 ∧ HT.sIx xs.length xs.length hi = xs.length) → ∀ p o, H p = none → o.dict = none → Q (.ref p) (upd H p (.frz o (.tup (cutV xs lo hi)))))
theorem sl_tupF : SlR X (rSlF X.K) := by
  intro pins s σ H x v vl vu lo hi sl Q I rx hs pl pu ⟨a, xs, ex, hx, q1, q2⟩
  subst ex
  obtain rfl : v = Value.ref a := rx
  obtain ⟨its, r, ht, hz⟩ := I.tuple hx
  have hn : its.toArray.size = xs.length := by rw [List.size_toArray, r.length]
  refine ⟨"tuple", _, PyProof.Rows.slot_tuple_getitem.lookup, ht.typeIs, ?_⟩
  by_cases hw : HT.sIx xs.length 0 lo = 0 ∧ HT.sIx xs.length xs.length hi = xs.length
  · exact getItem_tuple_whole ht hs pl pu (hn.symm ▸ hw) ⟨.ref a, H, I, rfl, q1 hw⟩
  · refine HT.getItem_tuple_cut ht hs pl pu (hn.symm ▸ hw) ?_ (hn.symm ▸ hz)
    rw [hn]
    refine ⟨.ref s.heap.objs.size, _, I.laid (t' := s.toks) (o := .frz { cls := .type "tuple", data := .seq ((its.drop (HT.sIx xs.length 0 lo)).take (HT.sIx xs.length xs.length hi - HT.sIx xs.length 0 lo)).toArray } (.tup (cutV xs lo hi))) (fun b ob q => Heap.get?_push_of_some _ q) (Nat.le_refl _)
      ⟨Heap.get?_push_size _ rfl, ?_⟩, rfl, q2 hw _ _ (I.hok.fresh (Nat.le_refl _)) rfl⟩
    exact ⟨Nat.le_trans (cutV_length xs lo hi) hz, _, (r.drop _).take _, IsTup.new _ _⟩
variable {a : Expr} {o : Opd} {pos : Pos}
def tupDO : D → Option (List D)
  | .tup xs => some xs
  | _ => none
/-- t[lo:hi] of a tuple -/
def slT (o : Opd) (l h : Part) : EF := fun ρ => (ev1 o ρ).bind fun x => (part l x.2).bind fun i => (part h i.2).bind fun j => (res j.2 x.1).bind fun d => (tupDO d).map fun xs => (.d (.tup (cutD xs i.1 j.1)), j.2)
theorem e_slT {lo hi : Option Expr} {q r : Part} {p2 : Pos} (ha : OI X a o) (hl : QI X lo q) (hh : QI X hi r) : EI X (.Subscript a (.Slice lo hi none p2) pos) (slT o q r) := (pe_slice sl_tupF ha hl hh).imp fun σ H Q h => by
  obtain ⟨c, ρ, ts, tv, rr, ρ', s, e, k⟩ := h
  obtain ⟨⟨x, ρ1⟩, e1, e⟩ := bind_some.mp (show (ev1 o ρ).bind _ = _ from e)
  obtain ⟨⟨i, ρ2⟩, e2, e⟩ := bind_some.mp e
  obtain ⟨⟨j, ρ3⟩, e3, e⟩ := bind_some.mp e
  obtain ⟨d, e4, e⟩ := bind_some.mp e
  cases d with
  | tup xs =>
    cases e
    refine tO_go s e1 fun u H1 s1 hu => tPt_go s1 e2 fun H2 s2 => tPt_go s2 e3 fun H3 ⟨fp, g⟩ => ?_
    obtain ⟨g0, ra⟩ := g.pop1 hu
    have rt := g0.res ra e4
    have rt' : Rep X.mg (Zof c fp) H3 (.tup xs) _ := rt
    obtain ⟨p, vs, ob, ev, hz, hn, gd, hr⟩ := rt
    have RT := SR.ret (x := .d (.tup (cutD xs i j))) g0 k
    refine ⟨p, vs, ev, .inl gd.frz2, fun hw => ?_, fun hw l o' hl' ho' => ?_⟩
    · have : cutD xs i j = xs := by
        unfold cutD
        rw [hr.length, hw.1, hw.2, List.drop_zero, Nat.sub_zero, ← hr.length, List.take_length]
      rw [this] at RT
      have := RT.sc rt'
      rw [ev] at this
      exact this
    · refine RT.t (fun b hb => g0.zal hb) ?_ hl' ho'
      unfold cutD cutV
      rw [hr.length]
      exact (hr.drop _).take _
  | _ => cases e
/-- of a list or of a tuple -/
def slA (o : Opd) (l h : Part) : EF := fun ρ => (slL o l h ρ).or (slT o l h ρ)
theorem e_slA {lo hi : Option Expr} {q r : Part} {p2 : Pos} (ha : OI X a o) (hl : QI X lo q) (hh : QI X hi r) : EI X (.Subscript a (.Slice lo hi none p2) pos) (slA o q r) := EI.or (e_slL ha hl hh) (e_slT ha hl hh)
end
end Tw
end
section
set_option maxRecDepth 100000
/-! layer 22: a list times an int -/
namespace Tw
open PySem PySem.Spec PyProof.Rows L2

def mulL : D → D → Option A
  | .lst xs, .int k => if (-(2 ^ 63) ≤ k ∧ k < 2 ^ 63) ∧ xs.length * k.toNat ≤ 16777216 then some (.l false (List.replicate k.toNat xs).flatten) else none
  | _, _ => none
theorem Reps.rep {mg : Str → Option Value} {Z : Addr → Prop} {H : Hp} {xs : List D} {vs : List V} (h : Reps mg Z H xs vs) : ∀ n : Nat, Reps mg Z H (List.replicate n xs).flatten (List.replicate n vs).flatten
  | 0 => rfl
  | n + 1 => by
    rw [List.replicate_succ, List.replicate_succ, List.flatten_cons, List.flatten_cons]
    exact h.append (h.rep n)
variable {X : Cx}
theorem o_mulL : OpD X (binaryOp .Mult) mulL := by
  intro pins s σ H x y v u Q I rx ry w
  obtain ⟨Z, a, b, r, hz, ra, rb, e, k⟩ := w
  unfold mulL at e
  split at e
  case h_2 => cases e
  rename_i xs j
  split at e
  case isFalse => cases e
  rename_i h
  obtain ⟨⟨h1, h2⟩, h3⟩ := h
  cases e
  obtain ⟨p, vs, rfl, g1, r1⟩ := ra
  obtain rfl : y = .int j := rb
  obtain rfl : v = Value.ref p := rx
  obtain ⟨t, rfl⟩ := ry
  obtain ⟨z1, its, n1, w1, e1⟩ := g1.l2.ok I.hok
  have sz : its.toArray.size = xs.length := by rw [List.size_toArray, ← w1.length, r1.length]
  have room : its.toArray.size * j.toNat ≤ sizeLine := by rw [sz, sizeLine_eq]; exact h3
  have cap : ¬ (2 ^ 63 - 1) / 8 < its.toArray.size * j.toNat := by
    have h8 : (sizeLine : Nat) ≤ (2 ^ 63 - 1) / 8 := by decide
    omega
  have fit : ¬ (!Builtin.List.listFitsIndex j) = true := fun e => by rw [fitsIndex_both h1 h2] at e; cases e
  have long : ¬ Builtin.List.listTooLong (its.toArray.size * j.toNat) = true := fun e => by rw [notLongL room] at e; cases e
  have new : List.foldl (fun x1 x2 => x1 ++ x2) #[] (List.replicate (if its.toArray.isEmpty = true then 0 else j.toNat) its.toArray) = (List.replicate j.toNat its).flatten.toArray := by
    have all : ∀ m : Nat, List.foldl (fun x1 x2 => x1 ++ x2) #[] (List.replicate m its.toArray) = (List.replicate m its).flatten.toArray := fun m => by simpa using foldl_rep its m []
    rw [all]
    cases its with
    | nil => simp
    | cons c d => simp
  refine wpAny_binaryOp_repeat_ref (T := "list") (U := "int") (by decide) ⟨_, e1, rfl⟩ (fun q => typeIs_int q j t) noFill_list_mul F.fills_int_mul F.slot_int_rmul repeat_list F.slot_int_index.lookup
    (call_meets F.slot_int_rmul (typeIs_int s j t) F.entry_int_rmul (F.args_int_rmul_2 _ _) (int___rmul___int_list j t p its.toArray n1)
      ⟨e1, rfl, ⟨_, e1, rfl⟩, call_meets F.slot_list_mul ⟨_, e1, rfl⟩ F.entry_list_mul (F.args_list_mul_2 _ _) (AutoListH.list___mul___list_int_3 p its.toArray n1 j t fit cap long) ⟨e1, ?_⟩⟩)
  rw [new]
  exact ⟨.ref _, _, I.lnew (t' := s.toks) (w1.rep j.toNat) (by rw [PyProof.Rows.lm_len_rep_flat, Nat.mul_comm, w1.length, ← List.size_toArray]; exact room), rfl, k.l (r1.rep j.toNat) I.fresh⟩
/-- products of ints, repeated lists -/
abbrev mulX := orD mulI mulL
theorem o_mulX : OpD X (binaryOp .Mult) mulX := o_mulI.or o_mulL
end Tw
end
section
set_option maxRecDepth 100000
set_option maxHeartbeats 4000000
namespace Tw
open PySem PySem.Spec PyProof.Rows L2
def S_EffectU_initU  : SF := (seqS (fldS 0 "Effect" "kind" (var 1)) (seqS (fldS 0 "Effect" "atom" (ifE (asB (isiE (.pk 2) "list")) (app [(.pk 2)] tupleD) (var 2))) (seqS (setS 4 (app [(.ev (lcE (seqW (var 3)) (tupG 2 (consG (nameG 5) (consG (nameG 6) nilG))) tstY (tupE [(.ev (var 5)), (.ev (var 6))]) [5, 6]))] dictD)) (fldS 0 "Effect" "members" (app [(.ev (lcE (seqW (app [(.pk 4)] sortD)) (nameG 5) tstY (tupE [(.ev (var 5)), (.ev (bin (.pk 4) (.pk 5) ixX))]) [5]))] tupleD)))))
def G_EffectU_initU (n : Nat) : F1 := run1 7 4 (S_EffectU_initU )
def S_drop (F_EffectU_initU : F1) : SF := (retS (mkE "Effect" [(.ev (cst (.str "drop"))), (.ev (cst .non)), (.ev (lstE []))] (F_EffectU_initU)))
def G_drop (n : Nat) : F0 := run0 0 0 (S_drop (G_EffectU_initU n))
def S_of_patch (F_EffectU_initU : F1) (F_drop : F0) (F_of_patch : F0) : SF := (seqS (ifS (asB (isiE (.pk 0) "dict")) (retS (mkE "Effect" [(.ev (cst (.str "merge"))), (.ev (cst .non)), (.ev (lcD 0 mItems (tupG 2 (consG (nameG 2) (consG (nameG 3) nilG))) tstY (tupE [(.ev (var 2)), (.ev (cal0 [(.ev (var 3)), (.ev (cst (.bl true)))] (F_of_patch)))]) [2, 3]))] (F_EffectU_initU))) nxS) (seqS (ifS (andT (asB (bin (.pk 0) (.ev (cst .non)) isN)) (asB (var 1))) (retS (cal0 [] (F_drop))) nxS) (retS (mkE "Effect" [(.ev (cst (.str "set"))), (.ev (var 0)), (.ev (lstE []))] (F_EffectU_initU)))))
def G_of_patch : Nat → F0
  | 0 => fun _ => none
  | n + 1 => run0 4 2 (S_of_patch (G_EffectU_initU n) (G_drop n) (G_of_patch n))
def S_keep (F_EffectU_initU : F1) : SF := (retS (mkE "Effect" [(.ev (cst (.str "keep"))), (.ev (cst .non)), (.ev (lstE []))] (F_EffectU_initU)))
def G_keep (n : Nat) : F0 := run0 0 0 (S_keep (G_EffectU_initU n))
def S_built (F_EffectU_initU : F1) (F_built : F0) : SF := (seqS (ifS (asB (bin (.ev (fldE "Effect" "kind" (.pk 0))) (.ev (tupE [(.ev (cst (.str "keep"))), (.ev (cst (.str "drop")))])) (inL false))) (retS (cst .non)) nxS) (seqS (ifS (asB (bin (.ev (fldE "Effect" "kind" (.pk 0))) (.ev (cst (.str "merge"))) neS)) (retV 0) nxS) (seqS (setS 1 (lcE (seqW (fldE "Effect" "members" (.pk 0))) (tupG 2 (consG (nameG 2) (consG (nameG 3) nilG))) tstY (tupE [(.ev (var 2)), (.ev (cal0 [(.ev (var 3))] (F_built)))]) [2, 3])) (retS (mkE "Effect" [(.ev (cst (.str "build"))), (.ev (cst .non)), (.ev (lcE (seqW (var 1)) (tupG 2 (consG (nameG 2) (consG (nameG 3) nilG))) (asB (bin (.pk 3) (.ev (cst .non)) notN)) (tupE [(.ev (var 2)), (.ev (var 3))]) [2, 3]))] (F_EffectU_initU))))))
def G_built : Nat → F0
  | 0 => fun _ => none
  | n + 1 => run0 4 1 (S_built (G_EffectU_initU n) (G_built n))
def S_joined (F_EffectU_initU : F1) (F_joined : F0) (F_keep : F0) (F_drop : F0) (F_built : F0) : SF := (seqS (ifS (asB (bin (.ev (fldE "Effect" "kind" (.pk 1))) (.ev (cst (.str "keep"))) eqS)) (retV 0) nxS) (seqS (ifS (orT (asB (bin (.ev (fldE "Effect" "kind" (.pk 1))) (.ev (cst (.str "merge"))) neS)) (asB (bin (.ev (fldE "Effect" "kind" (.pk 0))) (.ev (cst (.str "keep"))) eqS))) (retV 1) nxS) (seqS (ifS (asB (bin (.ev (fldE "Effect" "kind" (.pk 0))) (.ev (tupE [(.ev (cst (.str "set"))), (.ev (cst (.str "drop")))])) (inL false))) (retS (cal0 [(.ev (var 1))] (F_built))) nxS) (seqS (setS 2 (ifE (asB (bin (.ev (fldE "Effect" "kind" (.pk 0))) (.ev (cst (.str "merge"))) eqS)) (cal0 [] (F_keep)) (cal0 [] (F_drop)))) (seqS (asgS (tupE [(.ev (app [(.ev (fldE "Effect" "members" (.pk 0)))] dictD)), (.ev (app [(.ev (fldE "Effect" "members" (.pk 1)))] dictD))]) (tupG 2 (consG (nameG 3) (consG (nameG 4) nilG)))) (seqS (setS 5 (lcD 4 mKeys (nameG 6) tstY (tupE [(.ev (var 6)), (.ev (cal0 [(.ev (get2E (.pk 3) (.pk 6) (.ev (var 2)))), (.ev (bin (.pk 4) (.pk 6) ixX))] (F_joined)))]) [6])) (seqS (setS 5 (bin (.pk 5) (.ev (lcE (seqW (fldE "Effect" "members" (.pk 0))) (tupG 2 (consG (nameG 6) (consG (nameG 7) nilG))) (asB (bin (.pk 6) (.pk 4) (inK true))) (tupE [(.ev (var 6)), (.ev (var 7))]) [6, 7])) addX)) (seqS (ifS (asB (bin (.ev (fldE "Effect" "kind" (.pk 0))) (.ev (cst (.str "build"))) eqS)) (setS 5 (lcE (seqW (var 5)) (tupG 2 (consG (nameG 6) (consG (nameG 7) nilG))) (asB (bin (.ev (fldE "Effect" "kind" (.pk 7))) (.ev (cst (.str "drop"))) neS)) (tupE [(.ev (var 6)), (.ev (var 7))]) [6, 7])) nxS) (retS (mkE "Effect" [(.ev (fldE "Effect" "kind" (.pk 0))), (.ev (cst .non)), (.ev (var 5))] (F_EffectU_initU)))))))))))
def G_joined : Nat → F0
  | 0 => fun _ => none
  | n + 1 => run0 8 2 (S_joined (G_EffectU_initU n) (G_joined n) (G_keep n) (G_drop n) (G_built n))
def S_whole (F_of_patch : F0) (F_joined : F0) (F_keep : F0) : SF := (seqS (setS 1 (cal0 [] (F_keep))) (seqS (forS (seqW (var 0)) (nameG 2) (setS 1 (cal0 [(.ev (var 1)), (.ev (cal0 [(.ev (var 2)), (.ev (cst (.bl false)))] (F_of_patch)))] (F_joined))) [2]) (retV 1)))
def G_whole (n : Nat) : F0 := run0 3 1 (S_whole (G_of_patch n) (G_joined n) (G_keep n))
def S_parts_of (F_parts_of : F0) : SF := (seqS (ifS (notT (asB (isiE (.pk 0) "dict"))) (retS (cst (.int 1))) nxS) (retS (bin (.ev (cst (.int 1))) (.ev (app [(.ev (lcD 0 mVals (nameG 1) tstY (cal0 [(.ev (var 1))] (F_parts_of)) [1]))] sumD)) addX)))
def G_parts_of : Nat → F0
  | 0 => fun _ => none
  | n + 1 => run0 2 1 (S_parts_of (G_parts_of n))
def S_depth_of (F_depth_of : F0) : SF := (seqS (ifS (notT (asB (isiE (.pk 0) "dict"))) (retS (cst (.int 0))) nxS) (retS (bin (.ev (cst (.int 1))) (.ev (app [(.ev (bin (.ev (lstE [(.ev (cst (.int 0)))])) (.ev (lcD 0 mVals (nameG 1) tstY (cal0 [(.ev (var 1))] (F_depth_of)) [1])) addX))] maxD)) addX)))
def G_depth_of : Nat → F0
  | 0 => fun _ => none
  | n + 1 => run0 2 1 (S_depth_of (G_depth_of n))
def S_is_plain  : SF := (seqS (ifS (orT (asB (bin (.pk 0) (.ev (cst .non)) isN)) (asB (isiE (.pk 0) "str"))) (retS (cst (.bl true))) nxS) (retS (andV (isiE (.pk 0) "int") (toV (notT (asB (isiE (.pk 0) "bool")))))))
def G_is_plain (n : Nat) : F0 := run0 1 1 (S_is_plain )
def S_is_atom (F_is_plain : F0) : SF := (seqS (ifS (asB (isiE (.pk 0) "list")) (retS (app [(.ev (lcE (seqW (var 0)) (nameG 1) tstY (cal0 [(.ev (var 1))] (F_is_plain)) [1]))] allD)) nxS) (retS (cal0 [(.ev (var 0))] (F_is_plain))))
def G_is_atom (n : Nat) : F0 := run0 2 1 (S_is_atom (G_is_plain n))
def S_wrong_path (F_wrong_path : F0) (F_is_atom : F0) : SF := (seqS (ifS (asB (cal0 [(.ev (var 0))] (F_is_atom))) (retS (cst .non)) nxS) (seqS (ifS (orT (notT (asB (isiE (.pk 0) "dict"))) (notT (asB (app [(.ev (lcD 0 mKeys (nameG 2) tstY (isiE (.pk 2) "str") [2]))] allD)))) (retV 1) nxS) (seqS (forS (seqW (app [(.pk 0)] sortD)) (nameG 2) (seqS (setS 3 (cal0 [(.ev (bin (.pk 0) (.pk 2) ixX)), (.ev (bin (.pk 1) (.ev (tupE [(.ev (var 2))])) addX))] (F_wrong_path))) (ifS (asB (bin (.pk 3) (.ev (cst .non)) notN)) (retV 3) nxS)) [3]) (retS (cst .non)))))
def G_wrong_path : Nat → F0
  | 0 => fun _ => none
  | n + 1 => run0 4 2 (S_wrong_path (G_wrong_path n) (G_is_atom n))
def S_check (F_parts_of : F0) (F_depth_of : F0) (F_wrong_path : F0) : SF := (seqS (setS 1 (cal0 [(.ev (var 0)), (.ev (tupE []))] (F_wrong_path))) (seqS (ifS (asB (bin (.pk 1) (.ev (cst .non)) notN)) (fun _ => none) nxS) (seqS (ifS (asB (bin (.ev (cal0 [(.ev (var 0))] (F_depth_of))) (.ev (cst (.int 8))) gtI)) (fun _ => none) nxS) (ifS (asB (bin (.ev (cal0 [(.ev (var 0))] (F_parts_of))) (.ev (cst (.int 200))) gtI)) (fun _ => none) nxS))))
def G_check (n : Nat) : F0 := run0 2 1 (S_check (G_parts_of n) (G_depth_of n) (G_wrong_path n))
def S_check_row (F_parts_of : F0) (F_check : F0) : SF := (seqS (forS (seqW (var 0)) (nameG 1) (exprS (cal0 [(.ev (var 1))] (F_check))) []) (ifS (asB (bin (.ev (app [(.ev (lcE (seqW (var 0)) (nameG 1) tstY (cal0 [(.ev (var 1))] (F_parts_of)) [1]))] sumD)) (.ev (cst (.int 200))) gtI)) (fun _ => none) nxS))
def G_check_row (n : Nat) : F0 := run0 2 1 (S_check_row (G_parts_of n) (G_check n))
def S_effect (F_whole : F0) (F_check_row : F0) : SF := (seqS (exprS (cal0 [(.ev (var 0))] (F_check_row))) (retS (cal0 [(.ev (var 0))] (F_whole))))
def G_effect (n : Nat) : F0 := run0 1 1 (S_effect (G_whole n) (G_check_row n))
def S_Effect_facts (F_Effect_facts : F0) : SF := (retS (tupE [(.ev (fldE "Effect" "kind" (.pk 0))), (.ev (fldE "Effect" "atom" (.pk 0))), (.ev (app [(.ev (lcE (seqW (fldE "Effect" "members" (.pk 0))) (tupG 2 (consG (nameG 1) (consG (nameG 2) nilG))) tstY (tupE [(.ev (var 1)), (.ev (methE "Effect" "facts" (var 2) [] (F_Effect_facts)))]) [1, 2]))] tupleD))]))
def G_Effect_facts : Nat → F0
  | 0 => fun _ => none
  | n + 1 => run0 3 1 (S_Effect_facts (G_Effect_facts n))
def S_EffectU_eqU (F_Effect_facts : F0) : SF := (retS (andV (isiI "Effect" (.pk 1)) (bin (.ev (methE "Effect" "facts" (var 0) [] (F_Effect_facts))) (.ev (methE "Effect" "facts" (var 1) [] (F_Effect_facts))) eqG)))
def G_EffectU_eqU (n : Nat) : F0 := run0 2 2 (S_EffectU_eqU (G_Effect_facts n))
def S_copied (F_copied : F0) : SF := (seqS (ifS (asB (isiE (.pk 0) "dict")) (retS (dcD 0 mItems (tupG 2 (consG (nameG 1) (consG (nameG 2) nilG))) tstY (var 1) (cal0 [(.ev (var 2))] (F_copied)) [1, 2])) nxS) (retS (ifE (asB (isiE (.pk 0) "list")) (app [(.pk 0)] listD) (var 0))))
def G_copied : Nat → F0
  | 0 => fun _ => none
  | n + 1 => run0 3 1 (S_copied (G_copied n))
def S_merged (F_merged : F0) (F_copied : F0) : SF := (seqS (ifS (notT (asB (isiE (.pk 1) "dict"))) (retS (cal0 [(.ev (var 1))] (F_copied))) nxS) (seqS (setS 2 (ifE (asB (isiE (.pk 0) "dict")) (cal0 [(.ev (var 0))] (F_copied)) dic0)) (seqS (forD 1 mItems (tupG 2 (consG (nameG 3) (consG (nameG 4) nilG))) (ifS (asB (bin (.pk 4) (.ev (cst .non)) isN)) (exprS (popE 2 (.pk 3) (.ev (cst .non)))) (stS 2 (.pk 3) (cal0 [(.ev (getE (.pk 2) (.pk 3))), (.ev (var 4))] (F_merged)))) [3, 4]) (retV 2))))
def G_merged : Nat → F0
  | 0 => fun _ => none
  | n + 1 => run0 5 2 (S_merged (G_merged n) (G_copied n))
def S_after_all (F_merged : F0) (F_copied : F0) : SF := (seqS (setS 2 (cal0 [(.ev (var 0))] (F_copied))) (seqS (forS (seqW (var 1)) (nameG 3) (setS 2 (cal0 [(.ev (var 2)), (.ev (var 3))] (F_merged))) [3]) (retV 2)))
def G_after_all (n : Nat) : F0 := run0 4 2 (S_after_all (G_merged n) (G_copied n))
def S_run (F_after_all : F0) (F_check_row : F0) (F_check : F0) : SF := (seqS (exprS (cal0 [(.ev (var 0))] (F_check))) (seqS (exprS (cal0 [(.ev (var 1))] (F_check_row))) (retS (cal0 [(.ev (var 0)), (.ev (var 1))] (F_after_all)))))
def G_run (n : Nat) : F0 := run0 2 2 (S_run (G_after_all n) (G_check_row n) (G_check n))
def S_applied (F_merged : F0) (F_check : F0) : SF := (seqS (exprS (cal0 [(.ev (var 0))] (F_check))) (seqS (exprS (cal0 [(.ev (var 1))] (F_check))) (retS (cal0 [(.ev (var 0)), (.ev (var 1))] (F_merged)))))
def G_applied (n : Nat) : F0 := run0 2 2 (S_applied (G_merged n) (G_check n))
def S_acted (F_acted : F0) (F_copied : F0) : SF := (seqS (ifS (asB (bin (.ev (fldE "Effect" "kind" (.pk 0))) (.ev (cst (.str "keep"))) eqS)) (retS (cal0 [(.ev (var 1))] (F_copied))) nxS) (seqS (ifS (asB (bin (.ev (fldE "Effect" "kind" (.pk 0))) (.ev (cst (.str "set"))) eqS)) (retS (ifE (asB (isiE (.ev (fldE "Effect" "atom" (.pk 0))) "tuple")) (app [(.ev (fldE "Effect" "atom" (.pk 0)))] listD) (fldE "Effect" "atom" (.pk 0)))) nxS) (seqS (setS 2 (ifE (andT (asB (bin (.ev (fldE "Effect" "kind" (.pk 0))) (.ev (cst (.str "merge"))) eqS)) (asB (isiE (.pk 1) "dict"))) (cal0 [(.ev (var 1))] (F_copied)) dic0)) (seqS (forS (seqW (fldE "Effect" "members" (.pk 0))) (tupG 2 (consG (nameG 3) (consG (nameG 4) nilG))) (ifS (asB (bin (.ev (fldE "Effect" "kind" (.pk 4))) (.ev (cst (.str "drop"))) eqS)) (exprS (popE 2 (.pk 3) (.ev (cst .non)))) (stS 2 (.pk 3) (cal0 [(.ev (var 4)), (.ev (getE (.pk 2) (.pk 3)))] (F_acted)))) [3, 4]) (retV 2)))))
def G_acted : Nat → F0
  | 0 => fun _ => none
  | n + 1 => run0 5 2 (S_acted (G_acted n) (G_copied n))
end Tw
end
section
set_option maxRecDepth 100000
set_option maxHeartbeats 4000000
namespace Tw
open PySem PySem.Spec PyProof.Rows L2

/-! ### comprehensions whose turns leave the frame as it is -/
theorem lcL_map {g : GF} {t : TF} {f : EF} {own : List Nat} {ρ : Ro} {h : D → D} : ∀ {ds acc : List D}, (∀ d ∈ ds, ∃ ρ1 ρ2 ρ3, g d ρ = some ρ1 ∧ t ρ1 = some (true, ρ2) ∧ dv f ρ2 = some (h d, ρ3) ∧ forget own ρ3 = some ρ) →
    acc.length + ds.length ≤ 16777216 → lcL g t f own ds acc ρ = some (acc ++ ds.map h, ρ)
  | [], acc, _, _ => by simp [lcL]
  | d :: r, acc, H, hl => by
    obtain ⟨ρ1, ρ2, ρ3, e1, e2, e3, e4⟩ := H d List.mem_cons_self
    unfold lcL
    rw [e1, Option.bind_some, e2, Option.bind_some]
    simp only [if_true]
    rw [e3, Option.bind_some]
    simp only
    rw [e4, Option.bind_some, if_pos (by simp at hl; omega), lcL_map (fun x hx => H x (List.mem_cons_of_mem _ hx)) (by simp at hl ⊢; omega)]
    simp
/-- with a test -/
theorem lcL_filter {g : GF} {t : TF} {f : EF} {own : List Nat} {ρ : Ro} {h : D → D} {p : D → Bool} : ∀ {ds acc : List D}, (∀ d ∈ ds, ∃ ρ1 ρ2, g d ρ = some ρ1 ∧ t ρ1 = some (p d, ρ2) ∧ (p d = true → ∃ ρ3, dv f ρ2 = some (h d, ρ3) ∧ forget own ρ3 = some ρ) ∧ (p d = false → forget own ρ2 = some ρ)) →
    acc.length + ds.length ≤ 16777216 → lcL g t f own ds acc ρ = some (acc ++ (ds.filter p).map h, ρ)
  | [], acc, _, _ => by simp [lcL]
  | d :: r, acc, H, hl => by
    obtain ⟨ρ1, ρ2, e1, e2, e3, e4⟩ := H d List.mem_cons_self
    unfold lcL
    rw [e1, Option.bind_some, e2, Option.bind_some]
    cases hp : p d with
    | true =>
      obtain ⟨ρ3, e5, e6⟩ := e3 hp
      simp only [if_true]
      rw [e5, Option.bind_some]
      simp only
      rw [e6, Option.bind_some, if_pos (by simp at hl; omega), lcL_filter (fun x hx => H x (List.mem_cons_of_mem _ hx)) (by simp at hl ⊢; omega)]
      simp [hp]
    | false =>
      simp only [Bool.false_eq_true, if_false]
      rw [e4 hp, Option.bind_some, lcL_filter (fun x hx => H x (List.mem_cons_of_mem _ hx)) (by simp at hl ⊢; omega)]
      simp [hp]
/-! ### effects as trees -/
def frA : D → D
  | .lst xs => .tup xs
  | d => d
def pairE (p : Str × D) : D := .tup [.str p.1, p.2]
def dctE (ms : List (Str × D)) : List (Key × D) := ms.map fun p => (Sum.inr p.1, p.2)
def lkE (ms : List (Str × D)) (k : Str) : Option D := (ms.find? fun p => decide (p.1 = k)).map (·.2)
def memE (ms : List (Str × D)) : List (Str × D) := (sortS (ms.map (·.1))).map fun k => (k, (lkE ms k).getD .non)
def ND (ms : List (Str × D)) : Prop := (ms.map (·.1)).Nodup
theorem putD_new {acc : List (Key × D)} {k : Key} {v : D} (h : k ∉ acc.map (·.1)) : putD acc k v = acc ++ [(k, v)] := by
  unfold putD
  rw [if_neg]
  intro h1
  obtain ⟨p, hp, e⟩ := List.any_eq_true.mp h1
  exact h (List.mem_map.mpr ⟨p, hp, of_decide_eq_true e⟩)
theorem mergeD_nodup : ∀ {more acc : List (Key × D)}, ((acc ++ more).map (·.1)).Nodup → mergeD acc more = acc ++ more
  | [], acc, _ => by simp [mergeD]
  | p :: r, acc, h => by
    show mergeD (putD acc p.1 p.2) r = _
    rw [putD_new, mergeD_nodup]
    · simp
    · simpa using h
    · intro hm
      rw [List.map_append, List.map_cons] at h
      have := (List.nodup_append.mp h).2.2 _ hm p.1 List.mem_cons_self
      exact this rfl
theorem inr_nodup {ms : List (Str × D)} (h : ND ms) : ((dctE ms).map (·.1)).Nodup := by
  unfold dctE
  rw [List.map_map]
  have : ((fun x : Key × D => x.1) ∘ fun p : Str × D => ((Sum.inr p.1 : Key), p.2)) = (fun s : Str => (Sum.inr s : Key)) ∘ fun p => p.1 := rfl
  rw [this, ← List.map_map]
  exact List.Pairwise.map _ (fun a b hab e => hab (Sum.inr.inj e)) h
theorem getD_dct (k : Str) : ∀ ms : List (Str × D), getD (dctE ms) (.inr k) = lkE ms k
  | [] => rfl
  | p :: r => by
    have ih := getD_dct k r
    unfold getD dctE lkE at *
    rw [List.map_cons, List.find?_cons, List.find?_cons]
    by_cases h : p.1 = k
    · simp [h]
    · simp only [h, Sum.inr.injEq, decide_false]
      exact ih
theorem lkE_some {ms : List (Str × D)} {k : Str} (h : k ∈ ms.map (·.1)) : ∃ d, lkE ms k = some d := by
  obtain ⟨p, hp, rfl⟩ := List.mem_map.mp h
  unfold lkE
  cases hf : ms.find? (fun q => decide (q.1 = p.1)) with
  | none => exact absurd (List.find?_eq_none.mp hf p hp) (by simp)
  | some q => exact ⟨q.2, rfl⟩
theorem mapO_keys : ∀ ms : List (Str × D), mapO (fun kv : Key × D => strK kv.1) (dctE ms) = some (ms.map (·.1))
  | [] => rfl
  | p :: r => by
    show (some p.1).bind _ = _
    rw [Option.bind_some]
    rw [show mapO (fun kv : Key × D => strK kv.1) (List.map _ r) = _ from mapO_keys r]
    rfl
def effD (k : Str) (a : D) (ms : List (Str × D)) : D := .ins "Effect" [("kind", .str k), ("atom", a), ("members", .tup (ms.map pairE))]
def effA (k : Str) (a : D) (ms : List (Str × D)) : A := .i false "Effect" [("kind", .d (.str k)), ("atom", .d a), ("members", .d (.tup (ms.map pairE)))]
theorem kind_ne_atom : ¬ (("kind" : Str) = "atom") := by decide +kernel
theorem kind_ne_mem : ¬ (("kind" : Str) = "members") := by decide +kernel
theorem atom_ne_mem : ¬ (("atom" : Str) = "members") := by decide +kernel
theorem mapO_pairs : ∀ ms : List (Str × D), mapO pairD (ms.map pairE) = some (ms.map fun p => (Sum.inr p.1, p.2))
  | [] => rfl
  | p :: r => by
    simp only [List.map_cons, mapO]
    rw [show pairD (pairE p) = some (Sum.inr p.1, p.2) from rfl, Option.bind_some, mapO_pairs r]
    rfl
theorem sortD_dct {ms : List (Str × D)} (h64 : ms.length < 64) : sortD [.dic (dctE ms)] = some (.l false ((sortS (ms.map (·.1))).map D.str)) := by
  unfold sortD
  simp only
  rw [mapO_keys, Option.bind_some, if_pos (by simpa using h64)]
theorem dictD_lst {ms : List (Str × D)} (h : ND ms) : dictD [.lst (ms.map pairE)] = some (.k false (dctE ms)) := by
  unfold dictD
  simp only
  rw [mapO_pairs, Option.map_some]
  have := mergeD_nodup (acc := []) (more := dctE ms) (by simpa using inr_nodup h)
  rw [show (ms.map fun p => (Sum.inr p.1, p.2)) = dctE ms from rfl, this]
  rfl
theorem dictD_tup {ms : List (Str × D)} (h : ND ms) : dictD [.tup (ms.map pairE)] = some (.k false (dctE ms)) := by
  unfold dictD
  simp only
  rw [mapO_pairs, Option.map_some]
  have := mergeD_nodup (acc := []) (more := dctE ms) (by simpa using inr_nodup h)
  rw [show (ms.map fun p => (Sum.inr p.1, p.2)) = dctE ms from rfl, this]
  rfl
theorem init_spec {n : Nat} {k : Str} {a : D} {ms : List (Str × D)} (h64 : ms.length < 64) (ha : (tyD a).isSome = true) (nd : ND ms) :
    G_EffectU_initU n (.i true "Effect" []) [.str k, a, .lst (ms.map pairE)] = some (.d .non, .i true "Effect" [("kind", .d (.str k)), ("atom", .d (frA a)), ("members", .d (.tup ((memE ms).map pairE)))]) := by
  unfold G_EffectU_initU run1
  rw [if_pos (by rfl)]
  have e0 : ro1 7 (.i true "Effect" []) [.str k, a, .lst (ms.map pairE)] = [some (.i true "Effect" []), some (.d (.str k)), some (.d a), some (.d (.lst (ms.map pairE))), none, none, none] := rfl
  rw [e0]
  unfold S_EffectU_initU
  have e1 : fldS 0 "Effect" "kind" (var 1) [some (.i true "Effect" []), some (.d (.str k)), some (.d a), some (.d (.lst (ms.map pairE))), none, none, none] = some (.nx, [some (.i true "Effect" [("kind", .d (.str k))]), some (.d (.str k)), some (.d a), some (.d (.lst (ms.map pairE))), none, none, none]) := by
    simp [fldS, dv, var, at_, insA, A.toD, putAF]
  have e2 : fldS 0 "Effect" "atom" (ifE (asB (isiE (.pk 2) "list")) (app [(.pk 2)] tupleD) (var 2)) [some (.i true "Effect" [("kind", .d (.str k))]), some (.d (.str k)), some (.d a), some (.d (.lst (ms.map pairE))), none, none, none] =
      some (.nx, [some (.i true "Effect" [("kind", .d (.str k)), ("atom", .d (frA a))]), some (.d (.str k)), some (.d a), some (.d (.lst (ms.map pairE))), none, none, none]) := by
    cases a <;> first | (cases ha; done) | simp [fldS, dv, var, at_, insA, A.toD, putAF, ifE, asB, isiE, ev1, res, peek, A.toP, tyD, subT, app, evs, ress, tupleD, frA, kind_ne_atom]
  have e3 : lcE (seqW (var 3)) (tupG 2 (consG (nameG 5) (consG (nameG 6) nilG))) tstY (tupE [(.ev (var 5)), (.ev (var 6))]) [5, 6] [some (.i true "Effect" [("kind", .d (.str k)), ("atom", .d (frA a))]), some (.d (.str k)), some (.d a), some (.d (.lst (ms.map pairE))), none, none, none] =
      some (.l false (ms.map pairE), [some (.i true "Effect" [("kind", .d (.str k)), ("atom", .d (frA a))]), some (.d (.str k)), some (.d a), some (.d (.lst (ms.map pairE))), none, none, none]) := by
    unfold lcE
    rw [show seqW (var 3) [some (.i true "Effect" [("kind", .d (.str k)), ("atom", .d (frA a))]), some (.d (.str k)), some (.d a), some (.d (.lst (ms.map pairE))), none, none, none] = some (ms.map pairE, [some (.i true "Effect" [("kind", .d (.str k)), ("atom", .d (frA a))]), some (.d (.str k)), some (.d a), some (.d (.lst (ms.map pairE))), none, none, none]) by simp [seqW, dv, var, at_, A.toD, itemsOf]]
    simp only [Option.bind_some]
    rw [show forget [5, 6] [some (.i true "Effect" [("kind", .d (.str k)), ("atom", .d (frA a))]), some (.d (.str k)), some (.d a), some (.d (.lst (ms.map pairE))), none, none, none] = some [some (.i true "Effect" [("kind", .d (.str k)), ("atom", .d (frA a))]), some (.d (.str k)), some (.d a), some (.d (.lst (ms.map pairE))), none, none, none] by simp [forget, okOld, at_]]
    rw [Option.bind_some, lcL_map (h := id) (fun d hd => ?_) (by simp; omega)]
    · simp
    · obtain ⟨p, hp, rfl⟩ := List.mem_map.mp hd
      refine ⟨_, _, _, by simp [tupG, pairE, consG, nameG, okOld, at_, nilG]; rfl, rfl, by simp [dv, tupE, evs, ev1, var, at_, A.toD, onlyD]; exact ⟨rfl, rfl⟩, by simp [forget, okOld, at_, A.bor]⟩
  have e4 : setS 4 (app [(.ev (lcE (seqW (var 3)) (tupG 2 (consG (nameG 5) (consG (nameG 6) nilG))) tstY (tupE [(.ev (var 5)), (.ev (var 6))]) [5, 6]))] dictD) [some (.i true "Effect" [("kind", .d (.str k)), ("atom", .d (frA a))]), some (.d (.str k)), some (.d a), some (.d (.lst (ms.map pairE))), none, none, none] =
      some (.nx, [some (.i true "Effect" [("kind", .d (.str k)), ("atom", .d (frA a))]), some (.d (.str k)), some (.d a), some (.d (.lst (ms.map pairE))), some (.k false (dctE ms)), none, none]) := by
    simp [setS, app, evs, ev1, dv, e3, A.toD, ress, res, dictD_lst nd, okOld, at_]
  have e5 : lcE (seqW (app [(.pk 4)] sortD)) (nameG 5) tstY (tupE [(.ev (var 5)), (.ev (bin (.pk 4) (.pk 5) ixX))]) [5] [some (.i true "Effect" [("kind", .d (.str k)), ("atom", .d (frA a))]), some (.d (.str k)), some (.d a), some (.d (.lst (ms.map pairE))), some (.k false (dctE ms)), none, none] =
      some (.l false ((memE ms).map pairE), [some (.i true "Effect" [("kind", .d (.str k)), ("atom", .d (frA a))]), some (.d (.str k)), some (.d a), some (.d (.lst (ms.map pairE))), some (.k false (dctE ms)), none, none]) := by
    unfold lcE
    rw [show seqW (app [(.pk 4)] sortD) [some (.i true "Effect" [("kind", .d (.str k)), ("atom", .d (frA a))]), some (.d (.str k)), some (.d a), some (.d (.lst (ms.map pairE))), some (.k false (dctE ms)), none, none] = some ((sortS (ms.map (·.1))).map D.str, [some (.i true "Effect" [("kind", .d (.str k)), ("atom", .d (frA a))]), some (.d (.str k)), some (.d a), some (.d (.lst (ms.map pairE))), some (.k false (dctE ms)), none, none]) by
      simp [seqW, dv, app, evs, ev1, ress, res, peek, at_, A.toP, sortD_dct h64, A.toD, itemsOf]]
    simp only [Option.bind_some]
    rw [show forget [5] [some (.i true "Effect" [("kind", .d (.str k)), ("atom", .d (frA a))]), some (.d (.str k)), some (.d a), some (.d (.lst (ms.map pairE))), some (.k false (dctE ms)), none, none] = some [some (.i true "Effect" [("kind", .d (.str k)), ("atom", .d (frA a))]), some (.d (.str k)), some (.d a), some (.d (.lst (ms.map pairE))), some (.k false (dctE ms)), none, none] by simp [forget, okOld, at_]]
    rw [Option.bind_some, lcL_map (h := fun d => match d with | .str k => pairE (k, (lkE ms k).getD .non) | _ => .non) (fun d hd => ?_) (by
      have := (sortS_perm (ms.map (·.1))).length_eq
      simp at this ⊢; omega)]
    · simp [memE]
    · obtain ⟨q, hq, rfl⟩ := List.mem_map.mp hd
      obtain ⟨v, hv⟩ := lkE_some ((sortS_perm (ms.map (·.1))).mem_iff.mp hq)
      refine ⟨_, _, [some (.i true "Effect" [("kind", .d (.str k)), ("atom", .d (frA a))]), some (.d (.str k)), some (.d a), some (.d (.lst (ms.map pairE))), some (.k false (dctE ms)), some (.d (.str q)), none], by simp [nameG, okOld, at_]; rfl, rfl, ?_, ?_⟩
      · simp [dv, tupE, evs, ev1, var, at_, A.toD, onlyD, bin, res, peek, A.toP, ixX, orD, ixK, toKey, getD_dct, hv, pairE]
      · simp [forget, okOld, at_, A.bor]
  have e6 : fldS 0 "Effect" "members" (app [(.ev (lcE (seqW (app [(.pk 4)] sortD)) (nameG 5) tstY (tupE [(.ev (var 5)), (.ev (bin (.pk 4) (.pk 5) ixX))]) [5]))] tupleD) [some (.i true "Effect" [("kind", .d (.str k)), ("atom", .d (frA a))]), some (.d (.str k)), some (.d a), some (.d (.lst (ms.map pairE))), some (.k false (dctE ms)), none, none] =
      some (.nx, [some (.i true "Effect" [("kind", .d (.str k)), ("atom", .d (frA a)), ("members", .d (.tup ((memE ms).map pairE)))]), some (.d (.str k)), some (.d a), some (.d (.lst (ms.map pairE))), some (.k false (dctE ms)), none, none]) := by
    simp [fldS, dv, app, evs, ev1, e5, A.toD, ress, res, tupleD, insA, at_, putAF, kind_ne_mem, atom_ne_mem]
  simp [seqS, e1, e2, e4, e6, at_, A.bor]
end Tw
end
section
set_option maxRecDepth 100000
set_option maxHeartbeats 4000000
namespace Tw
open PySem PySem.Spec PyProof.Rows L2

theorem toD_d (x : D) : (A.d x).toD = some x := rfl
theorem toD_l (x : List D) : (A.l false x).toD = some (.lst x) := rfl
theorem toD_k (x : List (Key × D)) : (A.k false x).toD = some (.dic x) := rfl
theorem effA_toD (k : Str) (a : D) (ms : List (Str × D)) : (effA k a ms).toD = some (effD k a ms) := rfl
theorem mk_eff {n : Nat} {os : List Opd} {ρ ρ' : Ro} {k : Str} {a : D} {ms : List (Str × D)} (e : evs os ρ = some ([.inl (.str k), .inl a, .inl (.lst (ms.map pairE))], ρ')) (h64 : ms.length < 64) (ha : (tyD a).isSome = true) (nd : ND ms) :
    mkE "Effect" os (G_EffectU_initU n) ρ = some (effA k (frA a) (memE ms), ρ') := by
  unfold mkE
  rw [e, Option.bind_some]
  simp only [onlyD, Option.map_some, Option.bind_some]
  rw [init_spec h64 ha nd, Option.bind_some]
  simp [effA]
theorem nd_nil : ND [] := List.nodup_nil
theorem memE_nil : memE [] = [] := rfl
theorem keep_spec (n : Nat) : G_keep n [] = some (effA "keep" .non []) := by
  unfold G_keep run0
  rw [if_pos (by rfl)]
  unfold S_keep retS
  rw [mk_eff (k := "keep") (a := .non) (ms := []) (ρ' := ro0 0 []) (by simp [evs, ev1, dv, cst, toD_d, toD_l, toD_k, effA_toD, lstE, onlyD]) (by simp) rfl nd_nil]
  rfl
theorem drop_spec (n : Nat) : G_drop n [] = some (effA "drop" .non []) := by
  unfold G_drop run0
  rw [if_pos (by rfl)]
  unfold S_drop retS
  rw [mk_eff (k := "drop") (a := .non) (ms := []) (ρ' := ro0 0 []) (by simp [evs, ev1, dv, cst, toD_d, toD_l, toD_k, effA_toD, lstE, onlyD]) (by simp) rfl nd_nil]
  rfl
theorem of_none (n : Nat) : G_of_patch (n + 1) [.non, .bl true] = some (effA "drop" .non []) := by
  show run0 4 2 _ _ = _
  unfold run0
  rw [if_pos (by rfl), show ro0 4 [.non, .bl true] = [some (.d .non), some (.d (.bl true)), none, none] from rfl]
  simp [S_of_patch, seqS, ifS, asB, isiE, ev1, at_, res, peek, A.toP, tyD, subT, nxS, andT, bin, dv, cst, toD_d, toD_l, toD_k, effA_toD, isN, nonD, var, retS, cal0, evs, onlyD, drop_spec]
theorem of_set (n : Nat) {v : D} {b : Bool} (hv : v ≠ .non ∨ b = false) (hd : ∀ kvs, v ≠ .dic kvs) (hp : (tyD v).isSome = true) : G_of_patch (n + 1) [v, .bl b] = some (effA "set" (frA v) []) := by
  show run0 4 2 _ _ = _
  unfold run0
  rw [if_pos (by rfl), show ro0 4 [v, .bl b] = [some (.d v), some (.d (.bl b)), none, none] from rfl]
  have mk := mk_eff (n := n) (os := [(.ev (cst (.str "set"))), (.ev (var 0)), (.ev (lstE []))]) (ρ := [some (.d v), some (.d (.bl b)), none, none]) (ρ' := [some (.d v), some (.d (.bl b)), none, none]) (k := "set") (a := v) (ms := []) (by simp [evs, ev1, dv, cst, toD_d, toD_l, toD_k, effA_toD, lstE, onlyD, var, at_]) (by simp) hp nd_nil
  cases v with
  | dic kvs => exact absurd rfl (hd kvs)
  | pr _ => cases hp
  | ins _ _ => cases hp
  | non =>
    have hb : b = false := by rcases hv with h | h; exact absurd rfl h; exact h
    subst hb
    simp [S_of_patch, seqS, ifS, asB, isiE, ev1, at_, res, peek, A.toP, tyD, subT, nxS, andT, bin, dv, cst, toD_d, toD_l, toD_k, effA_toD, isN, nonD, var, retS, mk, memE_nil]
  | bl _ => simp [S_of_patch, seqS, ifS, asB, isiE, ev1, at_, res, peek, A.toP, tyD, subT, nxS, andT, bin, dv, cst, toD_d, toD_l, toD_k, effA_toD, isN, nonD, var, retS, mk, memE_nil]
  | int _ => simp [S_of_patch, seqS, ifS, asB, isiE, ev1, at_, res, peek, A.toP, tyD, subT, nxS, andT, bin, dv, cst, toD_d, toD_l, toD_k, effA_toD, isN, nonD, var, retS, mk, memE_nil]
  | str _ => simp [S_of_patch, seqS, ifS, asB, isiE, ev1, at_, res, peek, A.toP, tyD, subT, nxS, andT, bin, dv, cst, toD_d, toD_l, toD_k, effA_toD, isN, nonD, var, retS, mk, memE_nil]
  | lst _ => simp [S_of_patch, seqS, ifS, asB, isiE, ev1, at_, res, peek, A.toP, tyD, subT, nxS, andT, bin, dv, cst, toD_d, toD_l, toD_k, effA_toD, isN, nonD, var, retS, mk, memE_nil]
  | tup _ => simp [S_of_patch, seqS, ifS, asB, isiE, ev1, at_, res, peek, A.toP, tyD, subT, nxS, andT, bin, dv, cst, toD_d, toD_l, toD_k, effA_toD, isN, nonD, var, retS, mk, memE_nil]
def mapV (h : Str × D → D) (ms : List (Str × D)) : List (Str × D) := ms.map fun p => (p.1, h p)
theorem nd_mapV {h : Str × D → D} {ms : List (Str × D)} (nd : ND ms) : ND (mapV h ms) := by
  unfold ND mapV at *
  rw [List.map_map]
  exact nd
theorem of_dict (n : Nat) {ms : List (Str × D)} {b : Bool} (h64 : ms.length < 64) (nd : ND ms) {h : Str × D → D} (hh : ∀ p ∈ ms, ∃ r, G_of_patch n [p.2, .bl true] = some r ∧ r.toD = some (h p)) :
    G_of_patch (n + 1) [.dic (dctE ms), .bl b] = some (effA "merge" .non (memE (mapV h ms))) := by
  show run0 4 2 _ _ = _
  unfold run0
  rw [if_pos (by rfl), show ro0 4 [.dic (dctE ms), .bl b] = [some (.d (.dic (dctE ms))), some (.d (.bl b)), none, none] from rfl]
  have e1 : lcD 0 mItems (tupG 2 (consG (nameG 2) (consG (nameG 3) nilG))) tstY (tupE [(.ev (var 2)), (.ev (cal0 [(.ev (var 3)), (.ev (cst (.bl true)))] (G_of_patch n)))]) [2, 3] [some (.d (.dic (dctE ms))), some (.d (.bl b)), none, none] =
      some (.l false ((mapV h ms).map pairE), [some (.d (.dic (dctE ms))), some (.d (.bl b)), none, none]) := by
    unfold lcD
    rw [show dv (var 0) [some (.d (.dic (dctE ms))), some (.d (.bl b)), none, none] = some (.dic (dctE ms), [some (.d (.dic (dctE ms))), some (.d (.bl b)), none, none]) by simp [dv, var, at_, toD_d, toD_l, toD_k, effA_toD]]
    simp only [Option.bind_some]
    rw [show forget [2, 3] [some (.d (.dic (dctE ms))), some (.d (.bl b)), none, none] = some [some (.d (.dic (dctE ms))), some (.d (.bl b)), none, none] by simp [forget, okOld, at_]]
    rw [Option.bind_some, lcL_map (h := fun d => match d with | .pr [.str k, v] => pairE (k, h (k, v)) | _ => .non) (fun d hd => ?_) (by simp [mItems, dctE]; omega)]
    · simp [mItems, dctE, mapV, kD, List.map_map, Function.comp_def, pairE]
    · obtain ⟨q, hq, rfl⟩ := List.mem_map.mp hd
      obtain ⟨p, hp, rfl⟩ := List.mem_map.mp hq
      obtain ⟨r, hr1, hr2⟩ := hh p hp
      refine ⟨[some (.d (.dic (dctE ms))), some (.d (.bl b)), some (.d (.str p.1)), some (.d p.2)], _, [some (.d (.dic (dctE ms))), some (.d (.bl b)), some (.d (.str p.1)), some (.d p.2)], ?_, rfl, ?_, ?_⟩
      · simp [tupG, consG, nameG, okOld, at_, nilG, kD, A.bor]
      · simp [dv, tupE, evs, ev1, var, at_, toD_d, toD_l, toD_k, effA_toD, onlyD, cal0, cst, hr1, hr2, pairE, kD]
      · simp [forget, okOld, at_, A.bor]
  have mk := mk_eff (n := n) (os := [(.ev (cst (.str "merge"))), (.ev (cst .non)), (.ev (lcD 0 mItems (tupG 2 (consG (nameG 2) (consG (nameG 3) nilG))) tstY (tupE [(.ev (var 2)), (.ev (cal0 [(.ev (var 3)), (.ev (cst (.bl true)))] (G_of_patch n)))]) [2, 3]))]) (ρ := [some (.d (.dic (dctE ms))), some (.d (.bl b)), none, none])
    (ρ' := [some (.d (.dic (dctE ms))), some (.d (.bl b)), none, none]) (k := "merge") (a := .non) (ms := mapV h ms) (by simp [evs, ev1, dv, cst, toD_d, toD_l, toD_k, effA_toD, e1]) (by simpa [mapV] using h64) rfl (nd_mapV nd)
  simp [S_of_patch, seqS, ifS, asB, isiE, ev1, at_, res, peek, A.toP, tyD, subT, retS, mk, frA]
end Tw
end
section
set_option maxRecDepth 100000
set_option maxHeartbeats 4000000
namespace Tw
open PySem PySem.Spec PyProof.Rows L2

/-! ### kinds -/
theorem eqS_keep_keep : eqS (.str "keep") (.str "keep") = some (.d (.bl true)) := by kernel_rfl
theorem neS_keep_keep : neS (.str "keep") (.str "keep") = some (.d (.bl false)) := by kernel_rfl
theorem eqS_keep_merge : eqS (.str "keep") (.str "merge") = some (.d (.bl false)) := by kernel_rfl
theorem neS_keep_merge : neS (.str "keep") (.str "merge") = some (.d (.bl true)) := by kernel_rfl
theorem eqS_keep_build : eqS (.str "keep") (.str "build") = some (.d (.bl false)) := by kernel_rfl
theorem neS_keep_build : neS (.str "keep") (.str "build") = some (.d (.bl true)) := by kernel_rfl
theorem eqS_keep_drop : eqS (.str "keep") (.str "drop") = some (.d (.bl false)) := by kernel_rfl
theorem neS_keep_drop : neS (.str "keep") (.str "drop") = some (.d (.bl true)) := by kernel_rfl
theorem in_keep_kd : inL false (.str "keep") (.tup [.str "keep", .str "drop"]) = some (.d (.bl true)) := by kernel_rfl
theorem in_keep_sd : inL false (.str "keep") (.tup [.str "set", .str "drop"]) = some (.d (.bl false)) := by kernel_rfl
theorem eqS_drop_keep : eqS (.str "drop") (.str "keep") = some (.d (.bl false)) := by kernel_rfl
theorem neS_drop_keep : neS (.str "drop") (.str "keep") = some (.d (.bl true)) := by kernel_rfl
theorem eqS_drop_merge : eqS (.str "drop") (.str "merge") = some (.d (.bl false)) := by kernel_rfl
theorem neS_drop_merge : neS (.str "drop") (.str "merge") = some (.d (.bl true)) := by kernel_rfl
theorem eqS_drop_build : eqS (.str "drop") (.str "build") = some (.d (.bl false)) := by kernel_rfl
theorem neS_drop_build : neS (.str "drop") (.str "build") = some (.d (.bl true)) := by kernel_rfl
theorem eqS_drop_drop : eqS (.str "drop") (.str "drop") = some (.d (.bl true)) := by kernel_rfl
theorem neS_drop_drop : neS (.str "drop") (.str "drop") = some (.d (.bl false)) := by kernel_rfl
theorem in_drop_kd : inL false (.str "drop") (.tup [.str "keep", .str "drop"]) = some (.d (.bl true)) := by kernel_rfl
theorem in_drop_sd : inL false (.str "drop") (.tup [.str "set", .str "drop"]) = some (.d (.bl true)) := by kernel_rfl
theorem eqS_set_keep : eqS (.str "set") (.str "keep") = some (.d (.bl false)) := by kernel_rfl
theorem neS_set_keep : neS (.str "set") (.str "keep") = some (.d (.bl true)) := by kernel_rfl
theorem eqS_set_merge : eqS (.str "set") (.str "merge") = some (.d (.bl false)) := by kernel_rfl
theorem neS_set_merge : neS (.str "set") (.str "merge") = some (.d (.bl true)) := by kernel_rfl
theorem eqS_set_build : eqS (.str "set") (.str "build") = some (.d (.bl false)) := by kernel_rfl
theorem neS_set_build : neS (.str "set") (.str "build") = some (.d (.bl true)) := by kernel_rfl
theorem eqS_set_drop : eqS (.str "set") (.str "drop") = some (.d (.bl false)) := by kernel_rfl
theorem neS_set_drop : neS (.str "set") (.str "drop") = some (.d (.bl true)) := by kernel_rfl
theorem in_set_kd : inL false (.str "set") (.tup [.str "keep", .str "drop"]) = some (.d (.bl false)) := by kernel_rfl
theorem in_set_sd : inL false (.str "set") (.tup [.str "set", .str "drop"]) = some (.d (.bl true)) := by kernel_rfl
theorem eqS_merge_keep : eqS (.str "merge") (.str "keep") = some (.d (.bl false)) := by kernel_rfl
theorem neS_merge_keep : neS (.str "merge") (.str "keep") = some (.d (.bl true)) := by kernel_rfl
theorem eqS_merge_merge : eqS (.str "merge") (.str "merge") = some (.d (.bl true)) := by kernel_rfl
theorem neS_merge_merge : neS (.str "merge") (.str "merge") = some (.d (.bl false)) := by kernel_rfl
theorem eqS_merge_build : eqS (.str "merge") (.str "build") = some (.d (.bl false)) := by kernel_rfl
theorem neS_merge_build : neS (.str "merge") (.str "build") = some (.d (.bl true)) := by kernel_rfl
theorem eqS_merge_drop : eqS (.str "merge") (.str "drop") = some (.d (.bl false)) := by kernel_rfl
theorem neS_merge_drop : neS (.str "merge") (.str "drop") = some (.d (.bl true)) := by kernel_rfl
theorem in_merge_kd : inL false (.str "merge") (.tup [.str "keep", .str "drop"]) = some (.d (.bl false)) := by kernel_rfl
theorem in_merge_sd : inL false (.str "merge") (.tup [.str "set", .str "drop"]) = some (.d (.bl false)) := by kernel_rfl
theorem eqS_build_keep : eqS (.str "build") (.str "keep") = some (.d (.bl false)) := by kernel_rfl
theorem neS_build_keep : neS (.str "build") (.str "keep") = some (.d (.bl true)) := by kernel_rfl
theorem eqS_build_merge : eqS (.str "build") (.str "merge") = some (.d (.bl false)) := by kernel_rfl
theorem neS_build_merge : neS (.str "build") (.str "merge") = some (.d (.bl true)) := by kernel_rfl
theorem eqS_build_build : eqS (.str "build") (.str "build") = some (.d (.bl true)) := by kernel_rfl
theorem neS_build_build : neS (.str "build") (.str "build") = some (.d (.bl false)) := by kernel_rfl
theorem eqS_build_drop : eqS (.str "build") (.str "drop") = some (.d (.bl false)) := by kernel_rfl
theorem neS_build_drop : neS (.str "build") (.str "drop") = some (.d (.bl true)) := by kernel_rfl
theorem in_build_kd : inL false (.str "build") (.tup [.str "keep", .str "drop"]) = some (.d (.bl false)) := by kernel_rfl
theorem in_build_sd : inL false (.str "build") (.tup [.str "set", .str "drop"]) = some (.d (.bl false)) := by kernel_rfl
theorem lk_kind {x y z : D} : List.lookup ("kind" : Str) [(("kind" : Str), x), ("atom", y), ("members", z)] = some x := by simp [List.lookup]
theorem lk_mem {x y z : D} : List.lookup ("members" : Str) [(("kind" : Str), x), ("atom", y), ("members", z)] = some z := by
  simp [List.lookup, show (("members" : Str) == "kind") = false by decide +kernel, show (("members" : Str) == "atom") = false by decide +kernel]
theorem fld_kind {o : Opd} {ρ ρ' : Ro} {s : Sum D Nat} {k : Str} {a : D} {ms : List (Str × D)} (h : ev1 o ρ = some (s, ρ')) (h2 : res ρ' s = some (effD k a ms)) : fldE "Effect" "kind" o ρ = some (.d (.str k), ρ') := by
  simp [fldE, h, h2, effD, insD, lk_kind]
theorem fld_mem {o : Opd} {ρ ρ' : Ro} {s : Sum D Nat} {k : Str} {a : D} {ms : List (Str × D)} (h : ev1 o ρ = some (s, ρ')) (h2 : res ρ' s = some (effD k a ms)) : fldE "Effect" "members" o ρ = some (.d (.tup (ms.map pairE)), ρ') := by
  simp [fldE, h, h2, effD, insD, lk_mem]
/-! ### built -/
def nonB : D → Bool
  | .non => true
  | _ => false
theorem built_none (n : Nat) {k : Str} {a : D} {ms : List (Str × D)} (hk : k = "keep" ∨ k = "drop") : G_built (n + 1) [effD k a ms] = some (.d .non) := by
  show run0 4 1 _ _ = _
  unfold run0
  rw [if_pos (by rfl), show ro0 4 [effD k a ms] = [some (.d (effD k a ms)), none, none, none] from rfl]
  have f1 : fldE "Effect" "kind" (.pk 0) [some (.d (effD k a ms)), none, none, none] = some (.d (.str k), [some (.d (effD k a ms)), none, none, none]) := fld_kind (s := .inr 0) rfl rfl
  rcases hk with rfl | rfl
  · simp [S_built, seqS, ifS, asB, bin, ev1, dv, f1, toD_d, tupE, evs, cst, onlyD, res, in_keep_kd, retS]
  · simp [S_built, seqS, ifS, asB, bin, ev1, dv, f1, toD_d, tupE, evs, cst, onlyD, res, in_drop_kd, retS]
theorem built_same (n : Nat) {k : Str} {a : D} {ms : List (Str × D)} (hk : k = "set" ∨ k = "build") : G_built (n + 1) [effD k a ms] = some (.d (effD k a ms)) := by
  show run0 4 1 _ _ = _
  unfold run0
  rw [if_pos (by rfl), show ro0 4 [effD k a ms] = [some (.d (effD k a ms)), none, none, none] from rfl]
  have f1 : fldE "Effect" "kind" (.pk 0) [some (.d (effD k a ms)), none, none, none] = some (.d (.str k), [some (.d (effD k a ms)), none, none, none]) := fld_kind (s := .inr 0) rfl rfl
  rcases hk with rfl | rfl
  · simp [S_built, seqS, ifS, asB, bin, ev1, dv, f1, toD_d, tupE, evs, cst, onlyD, res, in_set_kd, neS_set_merge, nxS, retV, at_, A.bor]
  · simp [S_built, seqS, ifS, asB, bin, ev1, dv, f1, toD_d, tupE, evs, cst, onlyD, res, in_build_kd, neS_build_merge, nxS, retV, at_, A.bor]
theorem nd_filter {p : Str × D → Bool} {ms : List (Str × D)} (nd : ND ms) : ND (ms.filter p) := List.Pairwise.sublist (List.filter_sublist.map _) nd
theorem built_merge (n : Nat) {a : D} {ms : List (Str × D)} (h64 : ms.length < 64) (nd : ND ms) {h : Str × D → D} (hh : ∀ p ∈ ms, ∃ r, G_built n [p.2] = some r ∧ r.toD = some (h p)) :
    G_built (n + 1) [effD "merge" a ms] = some (effA "build" .non (memE ((mapV h ms).filter fun p => !nonB p.2))) := by
  show run0 4 1 _ _ = _
  unfold run0
  rw [if_pos (by rfl), show ro0 4 [effD "merge" a ms] = [some (.d (effD "merge" a ms)), none, none, none] from rfl]
  have f1 : fldE "Effect" "kind" (.pk 0) [some (.d (effD "merge" a ms)), none, none, none] = some (.d (.str "merge"), [some (.d (effD "merge" a ms)), none, none, none]) := fld_kind (s := .inr 0) rfl rfl
  have f2 : fldE "Effect" "members" (.pk 0) [some (.d (effD "merge" a ms)), none, none, none] = some (.d (.tup (ms.map pairE)), [some (.d (effD "merge" a ms)), none, none, none]) := fld_mem (s := .inr 0) rfl rfl
  have e1 : lcE (seqW (fldE "Effect" "members" (.pk 0))) (tupG 2 (consG (nameG 2) (consG (nameG 3) nilG))) tstY (tupE [(.ev (var 2)), (.ev (cal0 [(.ev (var 3))] (G_built n)))]) [2, 3] [some (.d (effD "merge" a ms)), none, none, none] =
      some (.l false ((mapV h ms).map pairE), [some (.d (effD "merge" a ms)), none, none, none]) := by
    unfold lcE
    rw [show seqW (fldE "Effect" "members" (.pk 0)) [some (.d (effD "merge" a ms)), none, none, none] = some (ms.map pairE, [some (.d (effD "merge" a ms)), none, none, none]) by simp [seqW, dv, f2, toD_d, itemsOf]]
    simp only [Option.bind_some]
    rw [show forget [2, 3] [some (.d (effD "merge" a ms)), none, none, none] = some [some (.d (effD "merge" a ms)), none, none, none] by simp [forget, okOld, at_]]
    rw [Option.bind_some, lcL_map (h := fun d => match d with | .tup [.str k, v] => pairE (k, h (k, v)) | _ => .non) (fun d hd => ?_) (by simp; omega)]
    · simp [mapV, List.map_map, Function.comp_def, pairE]
    · obtain ⟨p, hp, rfl⟩ := List.mem_map.mp hd
      obtain ⟨r, hr1, hr2⟩ := hh p hp
      refine ⟨[some (.d (effD "merge" a ms)), none, some (.d (.str p.1)), some (.d p.2)], _, [some (.d (effD "merge" a ms)), none, some (.d (.str p.1)), some (.d p.2)], ?_, rfl, ?_, ?_⟩
      · simp [tupG, pairE, consG, nameG, okOld, at_, nilG, A.bor]
      · simp [dv, tupE, evs, ev1, var, at_, toD_d, onlyD, cal0, hr1, hr2, pairE]
      · simp [forget, okOld, at_, A.bor]
  have e2 : lcE (seqW (var 1)) (tupG 2 (consG (nameG 2) (consG (nameG 3) nilG))) (asB (bin (.pk 3) (.ev (cst .non)) notN)) (tupE [(.ev (var 2)), (.ev (var 3))]) [2, 3] [some (.d (effD "merge" a ms)), some (.l false ((mapV h ms).map pairE)), none, none] =
      some (.l false (((mapV h ms).filter fun p => !nonB p.2).map pairE), [some (.d (effD "merge" a ms)), some (.d (.lst ((mapV h ms).map pairE))), none, none]) := by
    unfold lcE
    rw [show seqW (var 1) [some (.d (effD "merge" a ms)), some (.l false ((mapV h ms).map pairE)), none, none] = some ((mapV h ms).map pairE, [some (.d (effD "merge" a ms)), some (.d (.lst ((mapV h ms).map pairE))), none, none]) by simp [seqW, dv, var, at_, toD_l, toD_d, itemsOf]]
    simp only [Option.bind_some]
    rw [show forget [2, 3] [some (.d (effD "merge" a ms)), some (.d (.lst ((mapV h ms).map pairE))), none, none] = some [some (.d (effD "merge" a ms)), some (.d (.lst ((mapV h ms).map pairE))), none, none] by simp [forget, okOld, at_]]
    rw [Option.bind_some, lcL_filter (h := id) (p := fun d => match d with | .tup [_, v] => !nonB v | _ => false) (fun d hd => ?_) (by simp [mapV]; omega)]
    · simp only [List.map_id, List.nil_append, Option.map_some, List.filter_map]
      rfl
    · obtain ⟨p, hp, rfl⟩ := List.mem_map.mp hd
      refine ⟨[some (.d (effD "merge" a ms)), some (.d (.lst ((mapV h ms).map pairE))), some (.d (.str p.1)), some (.d p.2)], [some (.d (effD "merge" a ms)), some (.d (.lst ((mapV h ms).map pairE))), some (.d (.str p.1)), some (.d p.2)], ?_, ?_, fun _ => ⟨[some (.d (effD "merge" a ms)), some (.d (.lst ((mapV h ms).map pairE))), some (.d (.str p.1)), some (.d p.2)], ?_, ?_⟩, fun _ => ?_⟩
      · simp [tupG, pairE, consG, nameG, okOld, at_, nilG, A.bor]
      · cases hv : p.2 <;> simp [asB, bin, ev1, at_, dv, cst, toD_d, res, peek, A.toP, notN, nonD, pairE, nonB, hv]
      · simp [dv, tupE, evs, ev1, var, at_, toD_d, onlyD, pairE]
      · simp [forget, okOld, at_, A.bor]
      · simp [forget, okOld, at_, A.bor]
  have mk := mk_eff (n := n) (os := [(.ev (cst (.str "build"))), (.ev (cst .non)), (.ev (lcE (seqW (var 1)) (tupG 2 (consG (nameG 2) (consG (nameG 3) nilG))) (asB (bin (.pk 3) (.ev (cst .non)) notN)) (tupE [(.ev (var 2)), (.ev (var 3))]) [2, 3]))]) (ρ := [some (.d (effD "merge" a ms)), some (.l false ((mapV h ms).map pairE)), none, none])
    (ρ' := [some (.d (effD "merge" a ms)), some (.d (.lst ((mapV h ms).map pairE))), none, none]) (k := "build") (a := .non) (ms := (mapV h ms).filter fun p => !nonB p.2) (by simp [evs, ev1, dv, cst, toD_d, toD_l, e2])
    (Nat.lt_of_le_of_lt (List.length_filter_le _ _) (by simpa [mapV] using h64)) rfl (nd_filter (nd_mapV nd))
  simp [S_built, seqS, ifS, asB, bin, ev1, dv, f1, toD_d, tupE, evs, cst, onlyD, res, in_merge_kd, neS_merge_merge, nxS, setS, e1, okOld, at_, retS, mk, frA]
end Tw
end
section
set_option maxRecDepth 100000
set_option maxHeartbeats 4000000
namespace Tw
open PySem PySem.Spec PyProof.Rows L2

theorem ifS_no {t : TF} {f : SF} {ρ ρ' : Ro} (h : t ρ = some (false, ρ')) : ifS t f nxS ρ = some (.nx, ρ') := by simp [ifS, h, nxS]
theorem ifS_yes {t : TF} {f g : SF} {ρ ρ' : Ro} (h : t ρ = some (true, ρ')) : ifS t f g ρ = f ρ' := by simp [ifS, h]
theorem joined_keep (n : Nat) {x a : D} {ms : List (Str × D)} : G_joined (n + 1) [x, effD "keep" a ms] = some (.d x) := by
  show run0 8 2 _ _ = _
  unfold run0
  rw [if_pos (by rfl), show ro0 8 [x, effD "keep" a ms] = [some (.d x), some (.d (effD "keep" a ms)), none, none, none, none, none, none] from rfl]
  have f1 : fldE "Effect" "kind" (.pk 1) [some (.d x), some (.d (effD "keep" a ms)), none, none, none, none, none, none] = some (.d (.str "keep"), [some (.d x), some (.d (effD "keep" a ms)), none, none, none, none, none, none]) := fld_kind (s := .inr 1) rfl rfl
  simp [S_joined, seqS, ifS, asB, bin, ev1, dv, f1, toD_d, cst, res, eqS_keep_keep, retV, at_, A.bor]
theorem joined_over (n : Nat) {x a : D} {k : Str} {ms : List (Str × D)} (hk : k = "set" ∨ k = "drop" ∨ k = "build") : G_joined (n + 1) [x, effD k a ms] = some (.d (effD k a ms)) := by
  show run0 8 2 _ _ = _
  unfold run0
  rw [if_pos (by rfl), show ro0 8 [x, effD k a ms] = [some (.d x), some (.d (effD k a ms)), none, none, none, none, none, none] from rfl]
  have f1 : fldE "Effect" "kind" (.pk 1) [some (.d x), some (.d (effD k a ms)), none, none, none, none, none, none] = some (.d (.str k), [some (.d x), some (.d (effD k a ms)), none, none, none, none, none, none]) := fld_kind (s := .inr 1) rfl rfl
  rcases hk with rfl | rfl | rfl
  · simp [S_joined, seqS, ifS, asB, bin, ev1, dv, f1, toD_d, cst, res, eqS_set_keep, neS_set_merge, orT, nxS, retV, at_, A.bor]
  · simp [S_joined, seqS, ifS, asB, bin, ev1, dv, f1, toD_d, cst, res, eqS_drop_keep, neS_drop_merge, orT, nxS, retV, at_, A.bor]
  · simp [S_joined, seqS, ifS, asB, bin, ev1, dv, f1, toD_d, cst, res, eqS_build_keep, neS_build_merge, orT, nxS, retV, at_, A.bor]
theorem joined_first (n : Nat) {a1 a : D} {m1 ms : List (Str × D)} : G_joined (n + 1) [effD "keep" a1 m1, effD "merge" a ms] = some (.d (effD "merge" a ms)) := by
  show run0 8 2 _ _ = _
  unfold run0
  rw [if_pos (by rfl), show ro0 8 [effD "keep" a1 m1, effD "merge" a ms] = [some (.d (effD "keep" a1 m1)), some (.d (effD "merge" a ms)), none, none, none, none, none, none] from rfl]
  have f1 : fldE "Effect" "kind" (.pk 1) [some (.d (effD "keep" a1 m1)), some (.d (effD "merge" a ms)), none, none, none, none, none, none] = some (.d (.str "merge"), [some (.d (effD "keep" a1 m1)), some (.d (effD "merge" a ms)), none, none, none, none, none, none]) := fld_kind (s := .inr 1) rfl rfl
  have f0 : fldE "Effect" "kind" (.pk 0) [some (.d (effD "keep" a1 m1)), some (.d (effD "merge" a ms)), none, none, none, none, none, none] = some (.d (.str "keep"), [some (.d (effD "keep" a1 m1)), some (.d (effD "merge" a ms)), none, none, none, none, none, none]) := fld_kind (s := .inr 0) rfl rfl
  simp [S_joined, seqS, ifS, asB, bin, ev1, dv, f1, f0, toD_d, cst, res, eqS_merge_keep, neS_merge_merge, eqS_keep_keep, orT, nxS, retV, at_, A.bor]
theorem joined_gone (n : Nat) {k1 : Str} {a1 a : D} {m1 ms : List (Str × D)} {r : A} (hk : k1 = "set" ∨ k1 = "drop") (hb : G_built n [effD "merge" a ms] = some r) : G_joined (n + 1) [effD k1 a1 m1, effD "merge" a ms] = some r := by
  show run0 8 2 _ _ = _
  unfold run0
  rw [if_pos (by rfl), show ro0 8 [effD k1 a1 m1, effD "merge" a ms] = [some (.d (effD k1 a1 m1)), some (.d (effD "merge" a ms)), none, none, none, none, none, none] from rfl]
  have f1 : fldE "Effect" "kind" (.pk 1) [some (.d (effD k1 a1 m1)), some (.d (effD "merge" a ms)), none, none, none, none, none, none] = some (.d (.str "merge"), [some (.d (effD k1 a1 m1)), some (.d (effD "merge" a ms)), none, none, none, none, none, none]) := fld_kind (s := .inr 1) rfl rfl
  have f0 : fldE "Effect" "kind" (.pk 0) [some (.d (effD k1 a1 m1)), some (.d (effD "merge" a ms)), none, none, none, none, none, none] = some (.d (.str k1), [some (.d (effD k1 a1 m1)), some (.d (effD "merge" a ms)), none, none, none, none, none, none]) := fld_kind (s := .inr 0) rfl rfl
  rcases hk with rfl | rfl
  · simp [S_joined, seqS, ifS, asB, bin, ev1, dv, f1, f0, toD_d, cst, res, eqS_merge_keep, neS_merge_merge, eqS_set_keep, in_set_sd, orT, nxS, retS, tupE, evs, onlyD, cal0, var, at_, hb]
  · simp [S_joined, seqS, ifS, asB, bin, ev1, dv, f1, f0, toD_d, cst, res, eqS_merge_keep, neS_merge_merge, eqS_drop_keep, in_drop_sd, orT, nxS, retS, tupE, evs, onlyD, cal0, var, at_, hb]

/-! ### merging into what merges or is built -/
/-- a comprehension whose turns keep a word of the frame -/
theorem lcL_inv {g : GF} {t : TF} {f : EF} {own : List Nat} {Iv : Ro → Prop} {h : D → D} : ∀ {ds acc : List D} {ρ : Ro}, Iv ρ → (∀ d ∈ ds, ∀ ρ, Iv ρ → ∃ ρ1 ρ2 ρ3 ρ4, g d ρ = some ρ1 ∧ t ρ1 = some (true, ρ2) ∧ dv f ρ2 = some (h d, ρ3) ∧ forget own ρ3 = some ρ4 ∧ Iv ρ4) →
    acc.length + ds.length ≤ 16777216 → ∃ ρ', Iv ρ' ∧ lcL g t f own ds acc ρ = some (acc ++ ds.map h, ρ')
  | [], acc, ρ, hi, _, _ => ⟨ρ, hi, by simp [lcL]⟩
  | d :: r, acc, ρ, hi, H, hl => by
    obtain ⟨ρ1, ρ2, ρ3, ρ4, e1, e2, e3, e4, hi4⟩ := H d List.mem_cons_self ρ hi
    obtain ⟨ρ', hi', e'⟩ := lcL_inv (ds := r) (acc := acc ++ [h d]) hi4 (fun x hx => H x (List.mem_cons_of_mem _ hx)) (by simp at hl ⊢; omega)
    refine ⟨ρ', hi', ?_⟩
    unfold lcL
    rw [e1, Option.bind_some, e2, Option.bind_some]
    simp only [if_true]
    rw [e3, Option.bind_some]
    simp only
    rw [e4, Option.bind_some, if_pos (by simp at hl; omega), e']
    simp
def misD (k1 : Str) : D := if k1 = "merge" then effD "keep" .non [] else effD "drop" .non []
def curD (k1 : Str) (m1 : List (Str × D)) (p : Str × D) : D := (lkE m1 p.1).getD (misD k1)
def isDropD : D → Bool
  | .ins _ ((_, .str k) :: _) => decide (k = "drop")
  | _ => false
def outE (m2 : List (Str × D)) (p : Str × D) : Bool := (lkE m2 p.1).isNone
/-- the members of a sum, before they are ordered -/
def sumE (k1 : Str) (m1 m2 : List (Str × D)) (J : D → D → D) : List (Str × D) :=
  let ms := mapV (fun p => J (curD k1 m1 p) p.2) m2 ++ m1.filter (outE m2)
  if k1 = "build" then ms.filter fun p => !isDropD p.2 else ms
theorem lkE_find {ms : List (Str × D)} (nd : ND ms) {p : Str × D} (hp : p ∈ ms) : lkE ms p.1 = some p.2 := by
  unfold lkE
  induction ms with
  | nil => cases hp
  | cons q r ih =>
    unfold ND at nd
    rw [List.map_cons] at nd
    obtain ⟨h1, h2⟩ := List.nodup_cons.mp nd
    rw [List.find?_cons]
    rcases List.mem_cons.mp hp with rfl | hp
    · simp
    · have : q.1 ≠ p.1 := fun e => h1 (by rw [e]; exact List.mem_map.mpr ⟨p, hp, rfl⟩)
      simp only [this, decide_false]
      exact ih h2 hp
theorem joined_into (n : Nat) {k1 : Str} {a1 a : D} {m1 m2 : List (Str × D)} (hk : k1 = "merge" ∨ k1 = "build") (nd1 : ND m1) (nd2 : ND m2) (h64 : m1.length + m2.length < 64) {J : D → D → D}
    (hj : ∀ p ∈ m2, ∃ r, G_joined n [curD k1 m1 p, p.2] = some r ∧ r.toD = some (J (curD k1 m1 p) p.2))
    (hb : k1 = "build" → ∀ p ∈ mapV (fun p => J (curD k1 m1 p) p.2) m2 ++ m1.filter (outE m2), ∃ k a ms, p.2 = effD k a ms)
    (hnd : ND (sumE k1 m1 m2 J)) : G_joined (n + 1) [effD k1 a1 m1, effD "merge" a m2] = some (effA k1 .non (memE (sumE k1 m1 m2 J))) := by
  show run0 8 2 _ _ = _
  obtain ⟨bm, em, eb, es, ek, h1, h2⟩ : ∃ bm : Bool, eqS (.str k1) (.str "merge") = some (.d (.bl bm)) ∧ eqS (.str k1) (.str "build") = some (.d (.bl (!bm))) ∧ inL false (.str k1) (.tup [.str "set", .str "drop"]) = some (.d (.bl false)) ∧ eqS (.str k1) (.str "keep") = some (.d (.bl false)) ∧ (bm = true → k1 = "merge") ∧ (bm = false → k1 = "build") := by
    rcases hk with rfl | rfl
    · exact ⟨true, eqS_merge_merge, eqS_merge_build, in_merge_sd, eqS_merge_keep, fun _ => rfl, nofun⟩
    · exact ⟨false, eqS_build_merge, eqS_build_build, in_build_sd, eqS_build_keep, nofun, fun _ => rfl⟩
  have hmis : ∃ x : A, x.toD = some (misD k1) ∧ x.bor = false ∧ (if bm = true then some (effA "keep" .non []) else some (effA "drop" .non [])) = some x := by
    cases bm with
    | true => rw [h1 rfl]; exact ⟨effA "keep" .non [], by simp [misD, effA_toD], rfl, rfl⟩
    | false =>
      rw [h2 rfl]
      refine ⟨effA "drop" .non [], ?_, rfl, rfl⟩
      rw [effA_toD]
      unfold misD
      rw [if_neg (by decide +kernel)]
  obtain ⟨x, hx, hxb, hxe⟩ := hmis
  let R : A → Ro := fun y => [some (.d (effD k1 a1 m1)), some (.d (effD "merge" a m2)), some y, some (.d (.dic (dctE m1))), some (.d (.dic (dctE m2))), none, none, none]
  let R5 : A → List D → Ro := fun y zs => [some (.d (effD k1 a1 m1)), some (.d (effD "merge" a m2)), some y, some (.d (.dic (dctE m1))), some (.d (.dic (dctE m2))), some (.l false zs), none, none]
  let xs : List (Str × D) := mapV (fun p => J (curD k1 m1 p) p.2) m2
  -- the sums of what both have, and of what is new
  have e6 : ∃ y : A, lcD 4 mKeys (nameG 6) tstY (tupE [(.ev (var 6)), (.ev (cal0 [(.ev (get2E (.pk 3) (.pk 6) (.ev (var 2)))), (.ev (bin (.pk 4) (.pk 6) ixX))] (G_joined n)))]) [6] (R x) = some (.l false (xs.map pairE), R y) := by
    unfold lcD
    rw [show dv (var 4) (R x) = some (.dic (dctE m2), R x) by simp [dv, var, at_, toD_d, R]]
    simp only [Option.bind_some]
    rw [show forget [6] (R x) = some (R x) by simp [forget, okOld, at_, R]]
    obtain ⟨ρ', ⟨y, hy1, hy2, rfl⟩, e'⟩ := lcL_inv (g := nameG 6) (t := tstY) (f := tupE [(.ev (var 6)), (.ev (cal0 [(.ev (get2E (.pk 3) (.pk 6) (.ev (var 2)))), (.ev (bin (.pk 4) (.pk 6) ixX))] (G_joined n)))]) (own := [6])
      (Iv := fun ρ => ∃ y : A, y.toD = some (misD k1) ∧ y.bor = false ∧ ρ = R y) (h := fun d => match d with | .str k => pairE (k, J (curD k1 m1 (k, .non)) ((lkE m2 k).getD .non)) | _ => .non) (ds := mKeys (dctE m2)) (acc := []) (ρ := R x) ⟨x, hx, hxb, rfl⟩ (fun d hd ρ ⟨y, hy1, hy2, hρ⟩ => by
        subst hρ
        obtain ⟨q, hq, rfl⟩ := List.mem_map.mp hd
        obtain ⟨p, hp, rfl⟩ := List.mem_map.mp hq
        obtain ⟨r, hr1, hr2⟩ := hj p hp
        have hl := lkE_find nd2 hp
        have hc : curD k1 m1 (p.1, .non) = curD k1 m1 p := rfl
        refine ⟨(R y).set 6 (some (.d (.str p.1))), (R y).set 6 (some (.d (.str p.1))), (R (.d (misD k1))).set 6 (some (.d (.str p.1))), R (.d (misD k1)), ?_, rfl, ?_, ?_, .d (misD k1), rfl, rfl, rfl⟩
        · simp [nameG, okOld, at_, kD, R]
        · have hr1' : G_joined n [(lkE m1 p.1).getD (misD k1), p.2] = some r := hr1
          simp [dv, tupE, evs, ev1, var, at_, toD_d, onlyD, cal0, get2E, inlD, res, peek, A.toP, isDic, dicD, toKey, getD_dct, hy1, bin, ixX, orD, ixK, hl, hr1', hr2, pairE, kD, R, hc]
        · simp [forget, okOld, at_, A.bor, R]) (by simp [mKeys, dctE]; omega)
    refine ⟨y, ?_⟩
    rw [Option.bind_some, e']
    simp only [Option.map_some, List.nil_append]
    congr 3
    simp only [mKeys, dctE, List.map_map, xs, mapV]
    refine List.map_congr_left fun p hp => ?_
    have hl := lkE_find nd2 hp
    simp [kD, pairE, hl, curD]
  obtain ⟨y, e6⟩ := e6
  have e7 : lcE (seqW (fldE "Effect" "members" (.pk 0))) (tupG 2 (consG (nameG 6) (consG (nameG 7) nilG))) (asB (bin (.pk 6) (.pk 4) (inK true))) (tupE [(.ev (var 6)), (.ev (var 7))]) [6, 7] (R5 y (xs.map pairE)) = some (.l false ((m1.filter (outE m2)).map pairE), R5 y (xs.map pairE)) := by
    have f2 : fldE "Effect" "members" (.pk 0) (R5 y (xs.map pairE)) = some (.d (.tup (m1.map pairE)), R5 y (xs.map pairE)) := fld_mem (s := .inr 0) rfl rfl
    unfold lcE
    rw [show seqW (fldE "Effect" "members" (.pk 0)) (R5 y (xs.map pairE)) = some (m1.map pairE, R5 y (xs.map pairE)) by simp [seqW, dv, f2, toD_d, itemsOf]]
    simp only [Option.bind_some]
    rw [show forget [6, 7] (R5 y (xs.map pairE)) = some (R5 y (xs.map pairE)) by simp [forget, okOld, at_, R5]]
    rw [Option.bind_some, lcL_filter (h := id) (p := fun d => match d with | .tup [.str k, _] => (lkE m2 k).isNone | _ => false) (fun d hd => ?_) (by simp; omega)]
    · simp only [List.map_id, List.nil_append, Option.map_some, List.filter_map]
      rfl
    · obtain ⟨p, hp, rfl⟩ := List.mem_map.mp hd
      refine ⟨((R5 y (xs.map pairE)).set 6 (some (.d (.str p.1)))).set 7 (some (.d p.2)), ((R5 y (xs.map pairE)).set 6 (some (.d (.str p.1)))).set 7 (some (.d p.2)), ?_, ?_, fun _ => ⟨((R5 y (xs.map pairE)).set 6 (some (.d (.str p.1)))).set 7 (some (.d p.2)), ?_, ?_⟩, fun _ => ?_⟩
      · simp [tupG, pairE, consG, nameG, okOld, at_, nilG, A.bor, R5]
      · cases hv : lkE m2 p.1 <;> simp [asB, bin, ev1, at_, res, peek, A.toP, inK, toKey, getD_dct, pairE, hv, R5]
      · simp [dv, tupE, evs, ev1, var, at_, toD_d, onlyD, pairE, R5]
      · simp [forget, okOld, at_, A.bor, R5]
      · simp [forget, okOld, at_, A.bor, R5]
  let ms : List (Str × D) := xs ++ m1.filter (outE m2)
  have hms : ms.length < 64 := by
    have := List.length_filter_le (outE m2) m1
    simp [ms, xs, mapV]
    omega
  have e8 : setS 5 (bin (.pk 5) (.ev (lcE (seqW (fldE "Effect" "members" (.pk 0))) (tupG 2 (consG (nameG 6) (consG (nameG 7) nilG))) (asB (bin (.pk 6) (.pk 4) (inK true))) (tupE [(.ev (var 6)), (.ev (var 7))]) [6, 7])) addX) (R5 y (xs.map pairE)) = some (.nx, R5 y (ms.map pairE)) := by
    have hl : (xs.map pairE).length + ((m1.filter (outE m2)).map pairE).length ≤ 16777216 := by simp [ms] at hms ⊢; omega
    have p5 : at_ (R5 y (xs.map pairE)) 5 = some (.l false (xs.map pairE)) := by simp [at_, R5]
    have ha : addX (.lst (xs.map pairE)) (.lst ((m1.filter (outE m2)).map pairE)) = some (.l false (ms.map pairE)) := by
      have h1 : addL (.lst (xs.map pairE)) (.lst ((m1.filter (outE m2)).map pairE)) = some (.l false (ms.map pairE)) := by
        unfold addL
        simp only
        rw [if_pos hl]
        simp [ms]
      have h2 : addI (.lst (xs.map pairE)) (.lst ((m1.filter (outE m2)).map pairE)) = none := rfl
      have h3 : addS (.lst (xs.map pairE)) (.lst ((m1.filter (outE m2)).map pairE)) = none := rfl
      simp [addX, orD, h1, h2, h3]
    simp only [setS, bin, ev1, p5, Option.isSome_some, if_true, Option.bind_some, dv, e7, toD_l, Option.map_some, res, peek, A.toP, ha]
    simp [okOld, at_, A.bor, R5]
  have kk : fldE "Effect" "kind" (.pk 0) (R5 y (ms.map pairE)) = some (.d (.str k1), R5 y (ms.map pairE)) := fld_kind (s := .inr 0) rfl rfl
  let fs : List (Str × D) := sumE k1 m1 m2 J
  have e9 : ifS (asB (bin (.ev (fldE "Effect" "kind" (.pk 0))) (.ev (cst (.str "build"))) eqS)) (setS 5 (lcE (seqW (var 5)) (tupG 2 (consG (nameG 6) (consG (nameG 7) nilG))) (asB (bin (.ev (fldE "Effect" "kind" (.pk 7))) (.ev (cst (.str "drop"))) neS)) (tupE [(.ev (var 6)), (.ev (var 7))]) [6, 7])) nxS (R5 y (ms.map pairE)) = some (.nx, R5 y (fs.map pairE)) := by
    have ht : asB (bin (.ev (fldE "Effect" "kind" (.pk 0))) (.ev (cst (.str "build"))) eqS) (R5 y (ms.map pairE)) = some (!bm, R5 y (ms.map pairE)) := by simp [asB, bin, ev1, dv, kk, toD_d, cst, res, eb]
    unfold ifS
    rw [ht, Option.bind_some]
    cases bm with
    | true =>
      have hf : fs = ms := by
        simp only [fs, sumE]
        rw [h1 rfl, if_neg (by decide +kernel)]
        simp only [ms, xs, h1 rfl]
      rw [hf]
      rfl
    | false =>
      have hk1 := h2 rfl
      have hf : fs = ms.filter fun p => !isDropD p.2 := by
        simp only [fs, sumE]
        rw [if_pos hk1]
      have hall : ∀ p ∈ ms, ∃ k a ms, p.2 = effD k a ms := hb hk1
      simp only [Bool.not_false, if_true]
      have e10 : lcE (seqW (var 5)) (tupG 2 (consG (nameG 6) (consG (nameG 7) nilG))) (asB (bin (.ev (fldE "Effect" "kind" (.pk 7))) (.ev (cst (.str "drop"))) neS)) (tupE [(.ev (var 6)), (.ev (var 7))]) [6, 7] (R5 y (ms.map pairE)) =
          some (.l false (fs.map pairE), (R5 y (ms.map pairE)).set 5 (some (.d (.lst (ms.map pairE))))) := by
        unfold lcE
        rw [show seqW (var 5) (R5 y (ms.map pairE)) = some (ms.map pairE, (R5 y (ms.map pairE)).set 5 (some (.d (.lst (ms.map pairE))))) by simp [seqW, dv, var, at_, toD_l, toD_d, itemsOf, R5]]
        simp only [Option.bind_some]
        rw [show forget [6, 7] ((R5 y (ms.map pairE)).set 5 (some (.d (.lst (ms.map pairE))))) = some ((R5 y (ms.map pairE)).set 5 (some (.d (.lst (ms.map pairE))))) by simp [forget, okOld, at_, R5]]
        rw [Option.bind_some, lcL_filter (h := id) (p := fun d => match d with | .tup [_, v] => !isDropD v | _ => false) (fun d hd => ?_) (by simp; omega)]
        · rw [hf]
          simp only [List.map_id, List.nil_append, Option.map_some, List.filter_map]
          rfl
        · obtain ⟨p, hp, rfl⟩ := List.mem_map.mp hd
          obtain ⟨k, a', ms', hv⟩ := hall p hp
          have f7 : fldE "Effect" "kind" (.pk 7) ((((R5 y (ms.map pairE)).set 5 (some (.d (.lst (ms.map pairE))))).set 6 (some (.d (.str p.1)))).set 7 (some (.d p.2))) = some (.d (.str k), (((R5 y (ms.map pairE)).set 5 (some (.d (.lst (ms.map pairE))))).set 6 (some (.d (.str p.1)))).set 7 (some (.d p.2))) :=
            fld_kind (s := .inr 7) (k := k) (a := a') (ms := ms') rfl (by rw [hv]; rfl)
          refine ⟨(((R5 y (ms.map pairE)).set 5 (some (.d (.lst (ms.map pairE))))).set 6 (some (.d (.str p.1)))).set 7 (some (.d p.2)), (((R5 y (ms.map pairE)).set 5 (some (.d (.lst (ms.map pairE))))).set 6 (some (.d (.str p.1)))).set 7 (some (.d p.2)), ?_, ?_, fun _ => ⟨(((R5 y (ms.map pairE)).set 5 (some (.d (.lst (ms.map pairE))))).set 6 (some (.d (.str p.1)))).set 7 (some (.d p.2)), ?_, ?_⟩, fun _ => ?_⟩
          · simp [tupG, pairE, consG, nameG, okOld, at_, nilG, A.bor, R5]
          · simp only [asB, bin, ev1, dv, f7, Option.bind_some, toD_d, Option.map_some, cst, res, neS, scD, pairE]
            rw [hv]
            rfl
          · simp [dv, tupE, evs, ev1, var, at_, toD_d, onlyD, pairE, R5]
          · simp [forget, okOld, at_, A.bor, R5]
          · simp [forget, okOld, at_, A.bor, R5]
      simp only [setS, e10, Option.bind_some]
      simp [okOld, at_, A.bor, R5]
  have hfs : fs.length < 64 := by
    have h1 : fs.length ≤ ms.length := by
      simp only [fs, sumE, ms, xs]
      split
      · exact List.length_filter_le _ _
      · exact Nat.le_refl _
    omega
  have kk2 : fldE "Effect" "kind" (.pk 0) (R5 y (fs.map pairE)) = some (.d (.str k1), R5 y (fs.map pairE)) := fld_kind (s := .inr 0) rfl rfl
  have mk := mk_eff (n := n) (os := [(.ev (fldE "Effect" "kind" (.pk 0))), (.ev (cst .non)), (.ev (var 5))]) (ρ := R5 y (fs.map pairE)) (ρ' := (R5 y (fs.map pairE)).set 5 (some (.d (.lst (fs.map pairE))))) (k := k1) (a := .non) (ms := fs)
    (by simp [evs, ev1, dv, kk2, toD_d, toD_l, cst, var, at_, R5]) hfs rfl hnd
  unfold run0
  let R0 : Ro := [some (.d (effD k1 a1 m1)), some (.d (effD "merge" a m2)), none, none, none, none, none, none]
  rw [if_pos (by rfl), show ro0 8 [effD k1 a1 m1, effD "merge" a m2] = R0 from rfl]
  have f1 : fldE "Effect" "kind" (.pk 1) R0 = some (.d (.str "merge"), R0) := fld_kind (s := .inr 1) rfl rfl
  have f0 : fldE "Effect" "kind" (.pk 0) R0 = some (.d (.str k1), R0) := fld_kind (s := .inr 0) rfl rfl
  have s1 : asB (bin (.ev (fldE "Effect" "kind" (.pk 1))) (.ev (cst (.str "keep"))) eqS) R0 = some (false, R0) := by simp [asB, bin, ev1, dv, f1, toD_d, cst, res, eqS_merge_keep]
  have s2 : orT (asB (bin (.ev (fldE "Effect" "kind" (.pk 1))) (.ev (cst (.str "merge"))) neS)) (asB (bin (.ev (fldE "Effect" "kind" (.pk 0))) (.ev (cst (.str "keep"))) eqS)) R0 = some (false, R0) := by
    simp [orT, asB, bin, ev1, dv, f1, f0, toD_d, cst, res, neS_merge_merge, ek]
  have s3 : asB (bin (.ev (fldE "Effect" "kind" (.pk 0))) (.ev (tupE [(.ev (cst (.str "set"))), (.ev (cst (.str "drop")))])) (inL false)) R0 = some (false, R0) := by
    simp [asB, bin, ev1, dv, f0, toD_d, cst, res, tupE, evs, onlyD, es]
  have s4 : setS 2 (ifE (asB (bin (.ev (fldE "Effect" "kind" (.pk 0))) (.ev (cst (.str "merge"))) eqS)) (cal0 [] (G_keep n)) (cal0 [] (G_drop n))) R0 = some (.nx, R0.set 2 (some x)) := by
    have t4 : asB (bin (.ev (fldE "Effect" "kind" (.pk 0))) (.ev (cst (.str "merge"))) eqS) R0 = some (bm, R0) := by simp [asB, bin, ev1, dv, f0, toD_d, cst, res, em]
    unfold setS ifE
    rw [t4, Option.bind_some]
    cases bm with
    | true =>
      have hxe : some (effA "keep" .non []) = some x := hxe
      simp [cal0, evs, onlyD, keep_spec, hxe, okOld, at_, R0]
    | false =>
      have hxe : some (effA "drop" .non []) = some x := hxe
      simp [cal0, evs, onlyD, drop_spec, hxe, okOld, at_, R0]
  have s5 : asgS (tupE [(.ev (app [(.ev (fldE "Effect" "members" (.pk 0)))] dictD)), (.ev (app [(.ev (fldE "Effect" "members" (.pk 1)))] dictD))]) (tupG 2 (consG (nameG 3) (consG (nameG 4) nilG))) (R0.set 2 (some x)) = some (.nx, R x) := by
    have g0 : fldE "Effect" "members" (.pk 0) (R0.set 2 (some x)) = some (.d (.tup (m1.map pairE)), R0.set 2 (some x)) := fld_mem (s := .inr 0) rfl rfl
    have g1 : fldE "Effect" "members" (.pk 1) (R0.set 2 (some x)) = some (.d (.tup (m2.map pairE)), R0.set 2 (some x)) := fld_mem (s := .inr 1) rfl rfl
    simp only [asgS, dv, tupE, evs, ev1, app, g0, g1, Option.bind_some, toD_d, toD_k, Option.map_some, ress, res, dictD_tup nd1, dictD_tup nd2, onlyD]
    simp [tupG, consG, nameG, okOld, at_, nilG, R0, R, toD_d]
  have s6 : setS 5 (lcD 4 mKeys (nameG 6) tstY (tupE [(.ev (var 6)), (.ev (cal0 [(.ev (get2E (.pk 3) (.pk 6) (.ev (var 2)))), (.ev (bin (.pk 4) (.pk 6) ixX))] (G_joined n)))]) [6]) (R x) = some (.nx, R5 y (xs.map pairE)) := by
    simp only [setS, e6, Option.bind_some]
    simp [okOld, at_, R, R5]
  simp only [S_joined, seqS, ifS_no s1, ifS_no s2, ifS_no s3, Option.bind_some, s4, s5, s6, e8, e9]
  simp [retS, mk, frA, fs]
end Tw
end
section
set_option maxRecDepth 100000
set_option maxHeartbeats 4000000
namespace Tw
open PySem PySem.Spec PyProof.Rows L2

theorem loopS_nx {g : GF} {b : SF} {fg : List Nat} {ρ : Ro} : ∀ {ds : List D}, (∀ d ∈ ds, ∃ ρ1 ρ2, g d ρ = some ρ1 ∧ b ρ1 = some (.nx, ρ2) ∧ forget fg ρ2 = some ρ) → loopS g b fg ds ρ = some (.nx, ρ)
  | [], _ => rfl
  | d :: r, H => by
    obtain ⟨ρ1, ρ2, e1, e2, e3⟩ := H d List.mem_cons_self
    unfold loopS
    rw [e1, Option.bind_some, e2, Option.bind_some]
    simp only
    rw [e3, Option.bind_some]
    exact loopS_nx fun x hx => H x (List.mem_cons_of_mem _ hx)
theorem loopS_inv {g : GF} {b : SF} {fg : List Nat} {Iv : Ro → Prop} : ∀ {ds : List D} {ρ : Ro}, Iv ρ → (∀ d ∈ ds, ∀ ρ, Iv ρ → ∃ ρ1 ρ2 ρ3, g d ρ = some ρ1 ∧ b ρ1 = some (.nx, ρ2) ∧ forget fg ρ2 = some ρ3 ∧ Iv ρ3) → ∃ ρ', Iv ρ' ∧ loopS g b fg ds ρ = some (.nx, ρ')
  | [], ρ, hi, _ => ⟨ρ, hi, rfl⟩
  | d :: r, ρ, hi, H => by
    obtain ⟨ρ1, ρ2, ρ3, e1, e2, e3, h3⟩ := H d List.mem_cons_self ρ hi
    obtain ⟨ρ', h', e'⟩ := loopS_inv h3 fun x hx => H x (List.mem_cons_of_mem _ hx)
    refine ⟨ρ', h', ?_⟩
    unfold loopS
    rw [e1, Option.bind_some, e2, Option.bind_some]
    simp only
    rw [e3, Option.bind_some]
    exact e'
/-! ### documents -/
def plainB : D → Bool
  | .non => true
  | .int _ => true
  | .str _ => true
  | _ => false
def atomB : D → Bool
  | .lst xs => xs.all plainB && decide (xs.length < 1000)
  | .non => true
  | .int _ => true
  | .str _ => true
  | _ => false
inductive Doc : Nat → D → Prop
  | atom {n : Nat} {d : D} (h : atomB d = true) : Doc n d
  | dic {n : Nat} {ms : List (Str × D)} (h64 : ms.length < 64) (nd : ND ms) (hm : ∀ p ∈ ms, Doc n p.2) : Doc (n + 1) (.dic (dctE ms))
mutual
def prtD : D → Nat
  | .dic kvs => 1 + prtK kvs
  | _ => 1
def prtK : List (Key × D) → Nat
  | [] => 0
  | (_, d) :: r => prtD d + prtK r
end
theorem plain_spec (n : Nat) {d : D} (h : plainB d = true) : G_is_plain n [d] = some (.d (.bl true)) := by
  unfold G_is_plain run0
  rw [if_pos (by rfl), show ro0 1 [d] = [some (.d d)] from rfl]
  cases d <;> first | (cases h; done) | simp [S_is_plain, seqS, ifS, orT, asB, bin, ev1, at_, res, peek, A.toP, dv, cst, toD_d, isN, nonD, isiE, tyD, subT, retS, nxS, andV, toV, notT]
theorem plain_no (n : Nat) {kvs : List (Key × D)} : G_is_plain n [.dic kvs] = some (.d (.bl false)) := by
  unfold G_is_plain run0
  rw [if_pos (by rfl), show ro0 1 [.dic kvs] = [some (.d (.dic kvs))] from rfl]
  simp [S_is_plain, seqS, ifS, orT, asB, bin, ev1, at_, res, peek, A.toP, dv, cst, toD_d, isN, nonD, isiE, tyD, subT, retS, nxS, andV, toV, notT]
theorem mapO_bl (bs : List Bool) : mapO blD (bs.map D.bl) = some bs := by
  induction bs with
  | nil => rfl
  | cons b r ih =>
    rw [List.map_cons]
    unfold mapO
    rw [ih]
    rfl
theorem atom_spec (n : Nat) {d : D} (h : atomB d = true) : G_is_atom n [d] = some (.d (.bl true)) := by
  unfold G_is_atom run0
  have hx : ∃ N, (2 : Nat) = N := ⟨2, rfl⟩
  cases d with
  | lst xs =>
    unfold atomB at h
    rw [Bool.and_eq_true] at h
    have hl : xs.length < 1000 := of_decide_eq_true h.2
    rw [if_pos (by rfl), show ro0 2 [.lst xs] = [some (.d (.lst xs)), none] from rfl]
    have e1 : lcE (seqW (var 0)) (nameG 1) tstY (cal0 [(.ev (var 1))] (G_is_plain n)) [1] [some (.d (.lst xs)), none] = some (.l false (xs.map fun _ => .bl true), [some (.d (.lst xs)), none]) := by
      unfold lcE
      rw [show seqW (var 0) [some (.d (.lst xs)), none] = some (xs, [some (.d (.lst xs)), none]) by simp [seqW, dv, var, at_, toD_d, itemsOf]]
      simp only [Option.bind_some]
      rw [show forget [1] [some (.d (.lst xs)), none] = some [some (.d (.lst xs)), none] by simp [forget, okOld, at_]]
      rw [Option.bind_some, lcL_map (h := fun _ => .bl true) (fun d hd => ?_) (by simp; omega)]
      · simp
      · have hp := plain_spec n (List.all_eq_true.mp h.1 d hd)
        refine ⟨[some (.d (.lst xs)), some (.d d)], _, [some (.d (.lst xs)), some (.d d)], ?_, rfl, ?_, ?_⟩
        · simp [nameG, okOld, at_]
        · simp [dv, cal0, evs, ev1, var, at_, toD_d, onlyD, hp]
        · simp [forget, okOld, at_, A.bor]
    have e2 : mapO blD (xs.map fun _ => D.bl true) = some (xs.map fun _ => true) := by
      have := mapO_bl (xs.map fun _ => true)
      rwa [List.map_map] at this
    simp [S_is_atom, seqS, ifS, asB, isiE, ev1, at_, res, peek, A.toP, tyD, subT, retS, app, evs, dv, e1, toD_l, ress, allD, e2]
  | non =>
    rw [if_pos (by rfl), show ro0 2 [.non] = [some (.d .non), none] from rfl]
    simp [S_is_atom, seqS, ifS, asB, isiE, ev1, at_, res, peek, A.toP, tyD, subT, nxS, retS, cal0, evs, dv, var, toD_d, onlyD, plain_spec n (d := .non) rfl]
  | int i =>
    rw [if_pos (by rfl), show ro0 2 [.int i] = [some (.d (.int i)), none] from rfl]
    simp [S_is_atom, seqS, ifS, asB, isiE, ev1, at_, res, peek, A.toP, tyD, subT, nxS, retS, cal0, evs, dv, var, toD_d, onlyD, plain_spec n (d := .int i) rfl]
  | str i =>
    rw [if_pos (by rfl), show ro0 2 [.str i] = [some (.d (.str i)), none] from rfl]
    simp [S_is_atom, seqS, ifS, asB, isiE, ev1, at_, res, peek, A.toP, tyD, subT, nxS, retS, cal0, evs, dv, var, toD_d, onlyD, plain_spec n (d := .str i) rfl]
  | _ => cases h
theorem atom_no (n : Nat) {kvs : List (Key × D)} : G_is_atom n [.dic kvs] = some (.d (.bl false)) := by
  unfold G_is_atom run0
  rw [if_pos (by rfl), show ro0 2 [.dic kvs] = [some (.d (.dic kvs)), none] from rfl]
  simp [S_is_atom, seqS, ifS, asB, isiE, ev1, at_, res, peek, A.toP, tyD, subT, nxS, retS, cal0, evs, dv, var, toD_d, onlyD, plain_no]
theorem atomB_nodic {d : D} (h : atomB d = true) : isDic d = false := by cases d <;> first | rfl | cases h
theorem atomB_ty {d : D} (h : atomB d = true) : ∃ t, tyD d = some t ∧ subT t "dict" = false := by
  cases d <;> first | (cases h; done) | exact ⟨_, rfl, by decide⟩
theorem wrong_spec : ∀ {m n : Nat} {d : D} {ps : List D}, Doc n d → n < m → ps.length + n < 1000 → G_wrong_path m [d, .tup ps] = some (.d .non)
  | 0, n, d, ps, _, h, _ => absurd h (Nat.not_lt_zero _)
  | m + 1, n, d, ps, hd, hm, hp => by
    show run0 4 2 _ _ = _
    unfold run0
    rw [if_pos (by rfl), show ro0 4 [d, .tup ps] = [some (.d d), some (.d (.tup ps)), none, none] from rfl]
    cases hd with
    | atom h => simp [S_wrong_path, seqS, ifS, asB, cal0, evs, ev1, dv, var, at_, toD_d, onlyD, atom_spec m h, retS, cst]
    | @dic n' ms h64 nd hmm =>
      let R : Ro := [some (.d (.dic (dctE ms))), some (.d (.tup ps)), none, none]
      have e1 : lcD 0 mKeys (nameG 2) tstY (isiE (.pk 2) "str") [2] R = some (.l false (ms.map fun _ => .bl true), R) := by
        unfold lcD
        rw [show dv (var 0) R = some (.dic (dctE ms), R) by simp [dv, var, at_, toD_d, R]]
        simp only [Option.bind_some]
        rw [show forget [2] R = some R by simp [forget, okOld, at_, R]]
        rw [Option.bind_some, lcL_map (h := fun _ => .bl true) (fun d hd => ?_) (by simp [mKeys, dctE]; omega)]
        · simp [mKeys, dctE, List.map_map, Function.comp_def]
        · obtain ⟨q, hq, rfl⟩ := List.mem_map.mp hd
          obtain ⟨p, hp, rfl⟩ := List.mem_map.mp hq
          refine ⟨R.set 2 (some (.d (.str p.1))), _, R.set 2 (some (.d (.str p.1))), ?_, rfl, ?_, ?_⟩
          · simp [nameG, okOld, at_, kD, R]
          · simp [dv, isiE, ev1, at_, res, peek, A.toP, tyD, subT, toD_d, R]
          · simp [forget, okOld, at_, A.bor, R]
      have e2 : mapO blD (ms.map fun _ => D.bl true) = some (ms.map fun _ => true) := by
        have := mapO_bl (ms.map fun _ => true)
        rwa [List.map_map] at this
      have s1 : asB (cal0 [(.ev (var 0))] (G_is_atom m)) R = some (false, R) := by simp [asB, cal0, evs, ev1, dv, var, at_, toD_d, onlyD, atom_no, R]
      have s2 : orT (notT (asB (isiE (.pk 0) "dict"))) (notT (asB (app [(.ev (lcD 0 mKeys (nameG 2) tstY (isiE (.pk 2) "str") [2]))] allD))) R = some (false, R) := by
        have t1 : asB (isiE (.pk 0) "dict") R = some (true, R) := by simp [asB, isiE, ev1, at_, res, peek, A.toP, tyD, subT, R]
        have t2 : asB (app [(.ev (lcD 0 mKeys (nameG 2) tstY (isiE (.pk 2) "str") [2]))] allD) R = some (true, R) := by simp [asB, app, evs, ev1, dv, e1, toD_l, ress, res, allD, e2]
        simp [orT, notT, t1, t2]
      have e3 : seqW (app [(.pk 0)] sortD) R = some ((sortS (ms.map (·.1))).map D.str, R) := by simp [seqW, dv, app, evs, ev1, ress, res, peek, at_, A.toP, sortD_dct h64, toD_l, itemsOf, R]
      have s3 : ∃ ρ', forS (seqW (app [(.pk 0)] sortD)) (nameG 2) (seqS (setS 3 (cal0 [(.ev (bin (.pk 0) (.pk 2) ixX)), (.ev (bin (.pk 1) (.ev (tupE [(.ev (var 2))])) addX))] (G_wrong_path m))) (ifS (asB (bin (.pk 3) (.ev (cst .non)) notN)) (retV 3) nxS)) [3] R = some (.nx, ρ') := by
        unfold forS
        rw [e3, Option.bind_some]
        simp only
        rw [show forget [3] R = some R by simp [forget, okOld, at_, R], Option.bind_some]
        obtain ⟨ρ', _, e'⟩ := loopS_inv (g := nameG 2) (b := seqS (setS 3 (cal0 [(.ev (bin (.pk 0) (.pk 2) ixX)), (.ev (bin (.pk 1) (.ev (tupE [(.ev (var 2))])) addX))] (G_wrong_path m))) (ifS (asB (bin (.pk 3) (.ev (cst .non)) notN)) (retV 3) nxS)) (fg := [3])
          (Iv := fun ρ => ∃ o : Option D, ρ = [some (.d (.dic (dctE ms))), some (.d (.tup ps)), o.map A.d, none]) (ds := (sortS (ms.map (·.1))).map D.str) (ρ := R) ⟨none, rfl⟩ (fun d hd ρ ⟨o, hρ⟩ => by
            subst hρ
            obtain ⟨q, hq, rfl⟩ := List.mem_map.mp hd
            have hq' := (sortS_perm (ms.map (·.1))).mem_iff.mp hq
            obtain ⟨p, hpm, rfl⟩ := List.mem_map.mp hq'
            have hl := lkE_find nd hpm
            have ih := wrong_spec (m := m) (n := n') (d := p.2) (ps := ps ++ [.str p.1]) (hmm p hpm) (by omega) (by simp; omega)
            have h1 : addT (.tup ps) (.tup [.str p.1]) = some (.d (.tup (ps ++ [.str p.1]))) := by
              unfold addT
              simp only
              rw [if_pos (by simp; omega)]
            have h2 : addI (.tup ps) (.tup [.str p.1]) = none := rfl
            have h3 : addS (.tup ps) (.tup [.str p.1]) = none := rfl
            have h4 : addL (.tup ps) (.tup [.str p.1]) = none := rfl
            let T : Ro := [some (.d (.dic (dctE ms))), some (.d (.tup ps)), some (.d (.str p.1)), none]
            refine ⟨T, T.set 3 (some (.d .non)), T, ?_, ?_, ?_, some (.str p.1), rfl⟩
            · cases o <;> simp [nameG, okOld, at_, A.bor, T]
            · have c1 : setS 3 (cal0 [(.ev (bin (.pk 0) (.pk 2) ixX)), (.ev (bin (.pk 1) (.ev (tupE [(.ev (var 2))])) addX))] (G_wrong_path m)) T = some (.nx, T.set 3 (some (.d .non))) := by
                simp [setS, cal0, evs, ev1, dv, bin, at_, res, peek, A.toP, ixX, orD, ixK, toKey, getD_dct, hl, toD_d, tupE, var, onlyD, h1, h2, h3, h4, ih, okOld, T]
              have c2 : asB (bin (.pk 3) (.ev (cst .non)) notN) (T.set 3 (some (.d .non))) = some (false, T.set 3 (some (.d .non))) := by
                simp [asB, bin, ev1, at_, dv, cst, toD_d, res, peek, A.toP, notN, nonD, T]
              simp only [seqS, c1, Option.bind_some, ifS_no c2]
            · simp [forget, okOld, at_, A.bor, T])
        exact ⟨ρ', e'⟩
      obtain ⟨ρ', s3⟩ := s3
      simp only [S_wrong_path, seqS, show ([some (.d (.dic (dctE ms))), some (.d (.tup ps)), none, none] : Ro) = R from rfl, ifS_no s1, ifS_no s2, s3, Option.bind_some]
      rfl
/-! ### depth and parts -/
mutual
def depD : D → Nat
  | .dic kvs => 1 + depK kvs
  | _ => 0
def depK : List (Key × D) → Nat
  | [] => 0
  | (_, d) :: r => max (depD d) (depK r)
end
theorem maxL_nat : ∀ (l : List Nat) (m : Nat), maxL (m : Int) (l.map fun x : Nat => (x : Int)) = ((l.foldl max m : Nat) : Int)
  | [], m => rfl
  | x :: r, m => by
    show maxL (if (x : Int) > (m : Int) then (x : Int) else (m : Int)) _ = _
    rw [List.foldl_cons, ← maxL_nat r (max m x)]
    congr 1
    split <;> omega
theorem foldl_max : ∀ (l : List Nat) (m : Nat), l.foldl max m = max m (l.foldl max 0)
  | [], m => by simp
  | x :: r, m => by
    rw [List.foldl_cons, List.foldl_cons, foldl_max r (max m x), foldl_max r (max 0 x)]
    omega
theorem depK_fold (ms : List (Str × D)) : (ms.map fun p => depD p.2).foldl max 0 = depK (dctE ms) := by
  induction ms with
  | nil => rfl
  | cons p r ih =>
    rw [List.map_cons, List.foldl_cons, foldl_max, ih]
    show max (max 0 (depD p.2)) (depK (dctE r)) = max (depD p.2) (depK (dctE r))
    omega
theorem mapO_int (l : List Nat) : mapO intD (l.map fun x : Nat => D.int (x : Int)) = some (l.map fun x : Nat => (x : Int)) := by
  induction l with
  | nil => rfl
  | cons b r ih =>
    rw [List.map_cons]
    unfold mapO
    rw [ih]
    rfl
theorem sum_nat (l : List Nat) : (l.map fun x : Nat => (x : Int)).sum = ((l.sum : Nat) : Int) := by
  induction l with
  | nil => rfl
  | cons b r ih =>
    rw [List.map_cons, List.sum_cons, ih, List.sum_cons]
    omega
theorem prtK_sum (ms : List (Str × D)) : (ms.map fun p => prtD p.2).sum = prtK (dctE ms) := by
  induction ms with
  | nil => rfl
  | cons p r ih =>
    rw [List.map_cons, List.sum_cons, ih]
    rfl
theorem Doc.dep : ∀ {n : Nat} {d : D}, Doc n d → depD d ≤ n := by
  intro n d h
  induction h with
  | @atom n d h => cases d <;> first | (cases h; done) | exact Nat.zero_le _
  | @dic n ms h64 nd hm ih =>
    show 1 + depK (dctE ms) ≤ n + 1
    have : depK (dctE ms) ≤ n := by
      rw [← depK_fold]
      clear h64 nd hm
      induction ms with
      | nil => exact Nat.zero_le _
      | cons p r ih2 =>
        rw [List.map_cons, List.foldl_cons, foldl_max]
        have h1 := ih p List.mem_cons_self
        have h2 := ih2 fun q hq => ih q (List.mem_cons_of_mem _ hq)
        omega
    omega
/-- the values of a dict, each by a def -/
theorem vals_by {f : F0} {h : D → D} {ms : List (Str × D)} {R : Ro} (hR : R = [some (.d (.dic (dctE ms))), none]) (h64 : ms.length < 64) (hh : ∀ p ∈ ms, f [p.2] = some (.d (h p.2))) :
    lcD 0 mVals (nameG 1) tstY (cal0 [(.ev (var 1))] f) [1] R = some (.l false (ms.map fun p => h p.2), R) := by
  unfold lcD
  rw [show dv (var 0) R = some (.dic (dctE ms), R) by simp [dv, var, at_, toD_d, hR]]
  simp only [Option.bind_some]
  rw [show forget [1] R = some R by simp [forget, okOld, at_, hR]]
  rw [Option.bind_some, lcL_map (h := h) (fun d hd => ?_) (by simp [mVals, dctE]; omega)]
  · simp [mVals, dctE, List.map_map, Function.comp_def]
  · obtain ⟨q, hq, rfl⟩ := List.mem_map.mp hd
    obtain ⟨p, hp, rfl⟩ := List.mem_map.mp hq
    have h1 := hh p hp
    refine ⟨R.set 1 (some (.d p.2)), _, R.set 1 (some (.d p.2)), ?_, rfl, ?_, ?_⟩
    · simp [nameG, okOld, at_, hR]
    · simp [dv, cal0, evs, ev1, var, at_, toD_d, onlyD, h1, hR]
    · simp [forget, okOld, at_, A.bor, hR]
theorem depth_spec : ∀ {m n : Nat} {d : D}, Doc n d → n < m → G_depth_of m [d] = some (.d (.int (depD d)))
  | 0, n, d, _, h => absurd h (Nat.not_lt_zero _)
  | m + 1, n, d, hd, hm => by
    show run0 2 1 _ _ = _
    unfold run0
    rw [if_pos (by rfl), show ro0 2 [d] = [some (.d d), none] from rfl]
    cases hd with
    | atom h =>
      obtain ⟨t, h1, h2⟩ := atomB_ty h
      have p0 : peek [some (.d d), none] 0 = some d := rfl
      have hd0 : depD d = 0 := by cases d <;> first | rfl | cases h
      have hs : (at_ [some (.d d), none] 0).isSome = true := rfl
      simp [S_depth_of, seqS, ifS, notT, asB, isiE, ev1, hs, res, p0, h1, h2, retS, cst, hd0]
    | @dic n' ms h64 nd hmm =>
      have e1 := vals_by (f := G_depth_of m) (h := fun d => .int (depD d)) (R := [some (.d (.dic (dctE ms))), none]) rfl h64 fun p hp => depth_spec (hmm p hp) (by omega)
      have e2 : maxD [.lst (D.int 0 :: ms.map fun p => D.int (depD p.2))] = some (.d (.int (depK (dctE ms)))) := by
        have := mapO_int (0 :: ms.map fun p => depD p.2)
        rw [List.map_cons, List.map_map] at this
        unfold maxD
        simp only
        rw [show (D.int 0 :: ms.map fun p => D.int (depD p.2)) = (D.int ((0 : Nat) : Int) :: List.map ((fun x : Nat => D.int (x : Int)) ∘ fun p => depD p.2) ms) from rfl, this, Option.bind_some]
        rw [List.map_cons]
        simp only
        have h2 := maxL_nat (ms.map fun p => depD p.2) 0
        rw [depK_fold] at h2
        rw [h2]
      have h1 : addL (.lst [.int 0]) (.lst (ms.map fun p => D.int (depD p.2))) = some (.l false (D.int 0 :: ms.map fun p => D.int (depD p.2))) := by
        unfold addL
        simp only
        rw [if_pos (by simp; omega)]
        rfl
      have h2 : addI (.lst [.int 0]) (.lst (ms.map fun p => D.int (depD p.2))) = none := rfl
      have h3 : addS (.lst [.int 0]) (.lst (ms.map fun p => D.int (depD p.2))) = none := rfl
      have e3 : addI (.int 1) (.int (depK (dctE ms))) = some (.d (.int (1 + depK (dctE ms)))) := rfl
      have hdd : depD (.dic (dctE ms)) = 1 + depK (dctE ms) := rfl
      simp [S_depth_of, seqS, ifS, notT, asB, isiE, ev1, at_, res, peek, A.toP, tyD, subT, nxS, retS, bin, dv, cst, toD_d, app, evs, lstE, onlyD, e1, toD_l, orD, h1, h2, h3, ress, e2, e3, hdd]
theorem parts_spec : ∀ {m n : Nat} {d : D}, Doc n d → n < m → G_parts_of m [d] = some (.d (.int (prtD d)))
  | 0, n, d, _, h => absurd h (Nat.not_lt_zero _)
  | m + 1, n, d, hd, hm => by
    show run0 2 1 _ _ = _
    unfold run0
    rw [if_pos (by rfl), show ro0 2 [d] = [some (.d d), none] from rfl]
    cases hd with
    | atom h =>
      obtain ⟨t, h1, h2⟩ := atomB_ty h
      have p0 : peek [some (.d d), none] 0 = some d := rfl
      have hd0 : prtD d = 1 := by cases d <;> first | rfl | cases h
      have hs : (at_ [some (.d d), none] 0).isSome = true := rfl
      simp [S_parts_of, seqS, ifS, notT, asB, isiE, ev1, hs, res, p0, h1, h2, retS, cst, hd0]
    | @dic n' ms h64 nd hmm =>
      have e1 := vals_by (f := G_parts_of m) (h := fun d => .int (prtD d)) (R := [some (.d (.dic (dctE ms))), none]) rfl h64 fun p hp => parts_spec (hmm p hp) (by omega)
      have e2 : sumD [.lst (ms.map fun p => D.int (prtD p.2))] = some (.d (.int (prtK (dctE ms)))) := by
        have := mapO_int (ms.map fun p => prtD p.2)
        rw [List.map_map] at this
        unfold sumD
        simp only
        rw [show (ms.map fun p => D.int (prtD p.2)) = List.map ((fun x : Nat => D.int (x : Int)) ∘ fun p => prtD p.2) ms from rfl, this, Option.map_some, sum_nat, prtK_sum]
      have e3 : addI (.int 1) (.int (prtK (dctE ms))) = some (.d (.int (1 + prtK (dctE ms)))) := rfl
      have hdd : prtD (.dic (dctE ms)) = 1 + prtK (dctE ms) := rfl
      simp [S_parts_of, seqS, ifS, notT, asB, isiE, ev1, at_, res, peek, A.toP, tyD, subT, nxS, retS, bin, dv, cst, toD_d, app, evs, e1, toD_l, orD, ress, e2, e3, hdd]
end Tw
end
section
set_option maxRecDepth 100000
set_option maxHeartbeats 4000000
namespace Tw
open PySem PySem.Spec PyProof.Rows L2

theorem check_spec {m n : Nat} {d : D} (hd : Doc n d) (hn : n ≤ 8) (hm : 8 < m) (hp : prtD d ≤ 200) : G_check m [d] = some (.d .non) := by
  unfold G_check run0
  let R : Ro := [some (.d d), none]
  rw [if_pos (by rfl), show ro0 2 [d] = R from rfl]
  have w := wrong_spec (m := m) (ps := []) hd (by omega) (by simp; omega)
  have dp := depth_spec (m := m) hd (by omega)
  have pr := parts_spec (m := m) hd (by omega)
  have hdep := hd.dep
  have s1 : setS 1 (cal0 [(.ev (var 0)), (.ev (tupE []))] (G_wrong_path m)) R = some (.nx, R.set 1 (some (.d .non))) := by
    simp [setS, cal0, evs, ev1, dv, var, at_, toD_d, tupE, onlyD, w, okOld, R]
  have s2 : asB (bin (.pk 1) (.ev (cst .non)) notN) (R.set 1 (some (.d .non))) = some (false, R.set 1 (some (.d .non))) := by simp [asB, bin, ev1, at_, dv, cst, toD_d, res, peek, A.toP, notN, nonD, R]
  have s3 : asB (bin (.ev (cal0 [(.ev (var 0))] (G_depth_of m))) (.ev (cst (.int 8))) gtI) (R.set 1 (some (.d .non))) = some (false, R.set 1 (some (.d .non))) := by
    have : ¬ ((8 : Int) < (depD d : Int)) := by omega
    simp [asB, bin, ev1, dv, cal0, evs, var, at_, toD_d, onlyD, dp, cst, res, gtI, onII, R, this]
  have s4 : asB (bin (.ev (cal0 [(.ev (var 0))] (G_parts_of m))) (.ev (cst (.int 200))) gtI) (R.set 1 (some (.d .non))) = some (false, R.set 1 (some (.d .non))) := by
    have : ¬ ((200 : Int) < (prtD d : Int)) := by omega
    simp [asB, bin, ev1, dv, cal0, evs, var, at_, toD_d, onlyD, pr, cst, res, gtI, onII, R, this]
  simp only [S_check, seqS, s1, Option.bind_some, ifS_no s2, ifS_no s3, ifS_no s4]
theorem check_row_gen {m : Nat} {L : D} {xs : List D} (hL : itemsOf L = some xs) (hm : 8 < m) (hx : ∀ d ∈ xs, Doc 8 d ∧ prtD d ≤ 200) (hs : (xs.map prtD).sum ≤ 200) (hl : xs.length < 1000) : G_check_row m [L] = some (.d .non) := by
  unfold G_check_row run0
  let R : Ro := [some (.d L), none]
  rw [if_pos (by rfl), show ro0 2 [L] = R from rfl]
  have e1 : seqW (var 0) R = some (xs, R) := by simp [seqW, dv, var, at_, toD_d, hL, R]
  have s1 : ∃ o : Option D, forS (seqW (var 0)) (nameG 1) (exprS (cal0 [(.ev (var 1))] (G_check m))) [] R = some (.nx, [some (.d L), o.map A.d]) := by
    unfold forS
    rw [e1, Option.bind_some]
    simp only [forget, Option.bind_some]
    obtain ⟨ρ', ⟨o, rfl⟩, e'⟩ := loopS_inv (g := nameG 1) (b := exprS (cal0 [(.ev (var 1))] (G_check m))) (fg := []) (Iv := fun ρ => ∃ o : Option D, ρ = [some (.d L), o.map A.d]) (ds := xs) (ρ := R) ⟨none, rfl⟩ (fun d hd ρ ⟨o, hρ⟩ => by
      subst hρ
      have c := check_spec (m := m) (hx d hd).1 (Nat.le_refl _) hm (hx d hd).2
      refine ⟨[some (.d L), some (.d d)], [some (.d L), some (.d d)], [some (.d L), some (.d d)], ?_, ?_, rfl, some d, rfl⟩
      · cases o <;> simp [nameG, okOld, at_, A.bor]
      · simp [exprS, cal0, evs, ev1, dv, var, at_, toD_d, onlyD, c])
    exact ⟨o, e'⟩
  obtain ⟨o, s1⟩ := s1
  let T : Ro := [some (.d L), o.map A.d]
  have e2 : lcE (seqW (var 0)) (nameG 1) tstY (cal0 [(.ev (var 1))] (G_parts_of m)) [1] T = some (.l false (xs.map fun d => .int (prtD d)), R) := by
    unfold lcE
    rw [show seqW (var 0) T = some (xs, T) by simp [seqW, dv, var, at_, toD_d, hL, T]]
    simp only [Option.bind_some]
    rw [show forget [1] T = some R by cases o <;> simp [forget, okOld, at_, A.bor, T, R]]
    rw [Option.bind_some, lcL_map (h := fun d => .int (prtD d)) (fun d hd => ?_) (by simp; omega)]
    · simp
    · have p := parts_spec (m := m) (hx d hd).1 (by omega)
      refine ⟨R.set 1 (some (.d d)), _, R.set 1 (some (.d d)), ?_, rfl, ?_, ?_⟩
      · simp [nameG, okOld, at_, R]
      · simp [dv, cal0, evs, ev1, var, at_, toD_d, onlyD, p, R]
      · simp [forget, okOld, at_, A.bor, R]
  have e3 : sumD [.lst (xs.map fun d => D.int (prtD d))] = some (.d (.int ((xs.map prtD).sum : Nat))) := by
    have := mapO_int (xs.map prtD)
    rw [List.map_map] at this
    unfold sumD
    simp only
    rw [show (xs.map fun d => D.int (prtD d)) = List.map ((fun x : Nat => D.int (x : Int)) ∘ prtD) xs from rfl, this, Option.map_some, sum_nat]
  have s2 : asB (bin (.ev (app [(.ev (lcE (seqW (var 0)) (nameG 1) tstY (cal0 [(.ev (var 1))] (G_parts_of m)) [1]))] sumD)) (.ev (cst (.int 200))) gtI) T = some (false, R) := by
    have : ¬ ((200 : Int) < (((xs.map prtD).sum : Nat) : Int)) := by omega
    simp [asB, bin, ev1, dv, app, evs, e2, toD_l, toD_d, ress, res, e3, cst, gtI, onII, this]
  simp only [S_check_row, seqS, s1, Option.bind_some, show ([some (.d L), o.map A.d] : Ro) = T from rfl, ifS_no s2]
theorem check_row_spec {m : Nat} {xs : List D} (hm : 8 < m) (hx : ∀ d ∈ xs, Doc 8 d ∧ prtD d ≤ 200) (hs : (xs.map prtD).sum ≤ 200) (hl : xs.length < 1000) : G_check_row m [.lst xs] = some (.d .non) := check_row_gen rfl hm hx hs hl
/-- the row's patches one after the other -/
inductive Steps (m : Nat) : D → List D → D → Prop
  | nil {c : D} : Steps m c [] c
  | cons {c x o c' f : D} {xs : List D} {r r2 : A} (h1 : G_of_patch m [x, .bl false] = some r) (h2 : r.toD = some o) (h3 : G_joined m [c, o] = some r2) (h4 : r2.toD = some c') (h5 : r2.bor = false) (h6 : Steps m c' xs f) : Steps m c (x :: xs) f
theorem Steps.app {m : Nat} {c d e : D} {xs ys : List D} (h : Steps m c xs d) (k : Steps m d ys e) : Steps m c (xs ++ ys) e := by
  induction h with
  | nil => exact k
  | cons h1 h2 h3 h4 h5 _ ih => exact .cons h1 h2 h3 h4 h5 (ih k)
theorem whole_loop {m : Nat} {L : D} : ∀ {xs : List D} {a : A} {c f : D}, Steps m c xs f → a.toD = some c → a.bor = false →
    ∃ a' : A, a'.toD = some f ∧ a'.bor = false ∧ loopS (nameG 2) (setS 1 (cal0 [(.ev (var 1)), (.ev (cal0 [(.ev (var 2)), (.ev (cst (.bl false)))] (G_of_patch m)))] (G_joined m))) [2] xs [some (.d L), some a, none] = some (.nx, [some (.d L), some a', none])
  | [], a, c, f, h, ha, hb => by
    cases h
    exact ⟨a, ha, hb, rfl⟩
  | x :: xs, a, c, f, h, ha, hb => by
    cases h with
    | @cons _ _ o c' _ _ r r2 h1 h2 h3 h4 h5 h6 =>
      obtain ⟨a', e1, e2, e3⟩ := whole_loop (L := L) h6 h4 h5
      refine ⟨a', e1, e2, ?_⟩
      unfold loopS
      have g : nameG 2 x [some (.d L), some a, none] = some [some (.d L), some a, some (.d x)] := by simp [nameG, okOld, at_]
      have b : setS 1 (cal0 [(.ev (var 1)), (.ev (cal0 [(.ev (var 2)), (.ev (cst (.bl false)))] (G_of_patch m)))] (G_joined m)) [some (.d L), some a, some (.d x)] = some (.nx, [some (.d L), some r2, some (.d x)]) := by
        simp [setS, cal0, evs, ev1, dv, var, at_, ha, toD_d, cst, onlyD, h1, h2, h3, okOld, A.bor]
      rw [g, Option.bind_some, b, Option.bind_some]
      simp only
      rw [show forget [2] [some (.d L), some r2, some (.d x)] = some [some (.d L), some r2, none] by simp [forget, okOld, at_, A.bor], Option.bind_some]
      exact e3
theorem whole_gen {m : Nat} {L : D} {xs : List D} {f : D} (hL : itemsOf L = some xs) (h : Steps m (effD "keep" .non []) xs f) : ∃ a : A, a.toD = some f ∧ a.bor = false ∧ G_whole m [L] = some a := by
  obtain ⟨a, e1, e2, e3⟩ := whole_loop (L := L) h (effA_toD "keep" .non []) rfl
  refine ⟨a, e1, e2, ?_⟩
  unfold G_whole run0
  rw [if_pos (by rfl), show ro0 3 [L] = [some (.d L), none, none] from rfl]
  have s1 : setS 1 (cal0 [] (G_keep m)) [some (.d L), none, none] = some (.nx, [some (.d L), some (effA "keep" .non []), none]) := by simp [setS, cal0, evs, onlyD, keep_spec, okOld, at_]
  have s2 : forS (seqW (var 0)) (nameG 2) (setS 1 (cal0 [(.ev (var 1)), (.ev (cal0 [(.ev (var 2)), (.ev (cst (.bl false)))] (G_of_patch m)))] (G_joined m))) [2] [some (.d L), some (effA "keep" .non []), none] = some (.nx, [some (.d L), some a, none]) := by
    unfold forS
    rw [show seqW (var 0) [some (.d L), some (effA "keep" .non []), none] = some (xs, [some (.d L), some (effA "keep" .non []), none]) by simp [seqW, dv, var, at_, toD_d, hL], Option.bind_some]
    simp only
    rw [show forget [2] [some (.d L), some (effA "keep" .non []), none] = some [some (.d L), some (effA "keep" .non []), none] by simp [forget, okOld, at_], Option.bind_some]
    exact e3
  simp [S_whole, seqS, s1, s2, retV, at_, e2]
theorem whole_spec {m : Nat} {xs : List D} {f : D} (h : Steps m (effD "keep" .non []) xs f) : ∃ a : A, a.toD = some f ∧ a.bor = false ∧ G_whole m [.lst xs] = some a := whole_gen rfl h
theorem effect_gen {m : Nat} {L : D} {xs : List D} {f : D} (hL : itemsOf L = some xs) (hm : 8 < m) (hx : ∀ d ∈ xs, Doc 8 d ∧ prtD d ≤ 200) (hs : (xs.map prtD).sum ≤ 200) (hl : xs.length < 1000) (h : Steps m (effD "keep" .non []) xs f) : ∃ a : A, a.toD = some f ∧ a.bor = false ∧ G_effect m [L] = some a := by
  obtain ⟨a, e1, e2, e3⟩ := whole_gen hL h
  refine ⟨a, e1, e2, ?_⟩
  unfold G_effect run0
  rw [if_pos (by rfl), show ro0 1 [L] = [some (.d L)] from rfl]
  simp [S_effect, seqS, exprS, cal0, evs, ev1, dv, var, at_, toD_d, onlyD, check_row_gen hL hm hx hs hl, retS, e3]
theorem effect_spec {m : Nat} {xs : List D} {f : D} (hm : 8 < m) (hx : ∀ d ∈ xs, Doc 8 d ∧ prtD d ≤ 200) (hs : (xs.map prtD).sum ≤ 200) (hl : xs.length < 1000) (h : Steps m (effD "keep" .non []) xs f) : ∃ a : A, a.toD = some f ∧ a.bor = false ∧ G_effect m [.lst xs] = some a := effect_gen rfl hm hx hs hl h
end Tw
end
section
set_option maxRecDepth 100000
set_option maxHeartbeats 4000000
namespace Tw
open PySem PySem.Spec PyProof.Rows L2

/-! ### data without dicts -/
mutual
def dataD : D → Bool
  | .non => true
  | .bl _ => true
  | .int _ => true
  | .str _ => true
  | .lst xs => datas xs
  | .tup xs => datas xs
  | _ => false
def datas : List D → Bool
  | [] => true
  | d :: r => dataD d && datas r
end
mutual
theorem eqO_self : ∀ d : D, dataD d = true → eqO d d = some true
  | .non, _ => by simp [eqO, kn, eqB]
  | .bl _, _ => by simp [eqO, kn, eqB]
  | .int _, _ => by simp [eqO, kn, eqB]
  | .str _, _ => by simp [eqO, kn, eqB]
  | .lst xs, h => by
    unfold eqO
    simp only [if_true]
    exact eqOs_self xs (by unfold dataD at h; exact h)
  | .tup xs, h => by
    unfold eqO
    simp only
    rw [eqOs_self xs (by unfold dataD at h; exact h)]
    simp
  | .dic _, h => by simp [dataD] at h
  | .pr _, h => by simp [dataD] at h
  | .ins _ _, h => by simp [dataD] at h
theorem eqOs_self : ∀ xs : List D, datas xs = true → eqOs xs xs = some true
  | [], _ => by simp [eqOs]
  | x :: r, h => by
    unfold datas at h
    rw [Bool.and_eq_true] at h
    unfold eqOs
    simp only
    rw [eqO_self x h.1, eqOs_self r h.2]
    rfl
end
theorem datas_all : ∀ {xs : List D}, datas xs = true ↔ ∀ d ∈ xs, dataD d = true
  | [] => by simp [datas]
  | d :: r => by
    unfold datas
    rw [Bool.and_eq_true, datas_all]
    simp
theorem hgts_le : ∀ {xs : List D} {n : Nat}, (∀ d ∈ xs, hgt d ≤ n) → hgts xs ≤ n
  | [], n, _ => by simp [hgts]
  | d :: r, n, h => by
    unfold hgts
    have := h d List.mem_cons_self
    have := hgts_le fun x hx => h x (List.mem_cons_of_mem _ hx)
    omega
/-- effects whose members are so deep -/
inductive EffT : Nat → D → Prop
  | mk {n : Nat} {k : Str} {a : D} {ms : List (Str × D)} (ha : dataD a = true) (hh : hgt a ≤ 3) (h64 : ms.length < 64) (hm : ∀ p ∈ ms, EffT n p.2) : EffT (n + 1) (effD k a ms)
theorem lk_atom {x y z : D} : List.lookup ("atom" : Str) [(("kind" : Str), x), ("atom", y), ("members", z)] = some y := by
  simp [List.lookup, show (("atom" : Str) == "kind") = false by decide +kernel]
theorem fld_atom {o : Opd} {ρ ρ' : Ro} {s : Sum D Nat} {k : Str} {a : D} {ms : List (Str × D)} (h : ev1 o ρ = some (s, ρ')) (h2 : res ρ' s = some (effD k a ms)) : fldE "Effect" "atom" o ρ = some (.d a, ρ') := by
  simp [fldE, h, h2, effD, insD, lk_atom]
theorem lk_facts {x y z : D} : List.lookup ("facts" : Str) [(("kind" : Str), x), ("atom", y), ("members", z)] = none := by
  simp [List.lookup, show (("facts" : Str) == "kind") = false by decide +kernel, show (("facts" : Str) == "atom") = false by decide +kernel, show (("facts" : Str) == "members") = false by decide +kernel]
theorem facts_spec : ∀ {m n : Nat} {e : D}, EffT n e → n ≤ m → ∃ f : D, G_Effect_facts m [e] = some (.d f) ∧ dataD f = true ∧ hgt f ≤ 3 * n + 3
  | 0, n, e, h, hn => by cases h; omega
  | m + 1, n, e, h, hn => by
    cases h with
    | @mk n' k a ms ha hh h64 hm =>
      have ih : ∀ p ∈ ms, ∃ f : D, G_Effect_facts m [p.2] = some (.d f) ∧ dataD f = true ∧ hgt f ≤ 3 * n' + 3 := fun p hp => facts_spec (hm p hp) (by omega)
      have ex : ∃ g : Str × D → D, ∀ p ∈ ms, G_Effect_facts m [p.2] = some (.d (g p)) ∧ dataD (g p) = true ∧ hgt (g p) ≤ 3 * n' + 3 := by
        refine ⟨fun p => open Classical in if h : ∃ f : D, G_Effect_facts m [p.2] = some (.d f) ∧ dataD f = true ∧ hgt f ≤ 3 * n' + 3 then h.choose else .non, fun p hp => ?_⟩
        simp only [dif_pos (ih p hp)]
        exact (ih p hp).choose_spec
      obtain ⟨g, hg⟩ := ex
      show ∃ f : D, run0 3 1 _ _ = _ ∧ _
      unfold run0
      let R : Ro := [some (.d (effD k a ms)), none, none]
      rw [if_pos (by rfl), show ro0 3 [effD k a ms] = R from rfl]
      have f0 : fldE "Effect" "kind" (.pk 0) R = some (.d (.str k), R) := fld_kind (s := .inr 0) rfl rfl
      have f1 : fldE "Effect" "atom" (.pk 0) R = some (.d a, R) := fld_atom (s := .inr 0) rfl rfl
      have f2 : fldE "Effect" "members" (.pk 0) R = some (.d (.tup (ms.map pairE)), R) := fld_mem (s := .inr 0) rfl rfl
      have hms : ∀ p ∈ ms, ∃ k' a' ms', p.2 = effD k' a' ms' := fun p hp => by
        cases h : p.2 <;> have := hm p hp <;> rw [h] at this <;> cases this
        exact ⟨_, _, _, rfl⟩
      have e1 : lcE (seqW (fldE "Effect" "members" (.pk 0))) (tupG 2 (consG (nameG 1) (consG (nameG 2) nilG))) tstY (tupE [(.ev (var 1)), (.ev (methE "Effect" "facts" (var 2) [] (G_Effect_facts m)))]) [1, 2] R = some (.l false (ms.map fun p => .tup [.str p.1, g p]), R) := by
        unfold lcE
        rw [show seqW (fldE "Effect" "members" (.pk 0)) R = some (ms.map pairE, R) by simp [seqW, dv, f2, toD_d, itemsOf]]
        simp only [Option.bind_some]
        rw [show forget [1, 2] R = some R by simp [forget, okOld, at_, R]]
        rw [Option.bind_some, lcL_map (h := fun d => match d with | .tup [.str k, v] => .tup [.str k, g (k, v)] | _ => .non) (fun d hd => ?_) (by simp; omega)]
        · simp [List.map_map, Function.comp_def, pairE]
        · obtain ⟨p, hp, rfl⟩ := List.mem_map.mp hd
          obtain ⟨g1, g2, g3⟩ := hg p hp
          obtain ⟨k', a', ms', hv⟩ := hms p hp
          have g1' := g1
          rw [hv] at g1'
          refine ⟨[some (.d (effD k a ms)), some (.d (.str p.1)), some (.d p.2)], _, [some (.d (effD k a ms)), some (.d (.str p.1)), some (.d p.2)], ?_, rfl, ?_, ?_⟩
          · simp [tupG, pairE, consG, nameG, okOld, at_, nilG, R]
          · have hme : methE "Effect" "facts" (var 2) [] (G_Effect_facts m) [some (.d (effD k a ms)), some (.d (.str p.1)), some (.d p.2)] = some (.d (g p), [some (.d (effD k a ms)), some (.d (.str p.1)), some (.d p.2)]) := by
              rw [hv]
              unfold methE
              rw [show dv (var 2) [some (.d (effD k a ms)), some (.d (.str p.1)), some (.d (effD k' a' ms'))] = some (effD k' a' ms', [some (.d (effD k a ms)), some (.d (.str p.1)), some (.d (effD k' a' ms'))]) by simp [dv, var, at_, toD_d]]
              simp only [Option.bind_some, insD, effD, lk_facts, and_self, if_true, evs, onlyD]
              rw [show G_Effect_facts m [.ins "Effect" [("kind", .str k'), ("atom", a'), ("members", .tup (ms'.map pairE))]] = some (.d (g p)) from g1']
              rfl
            simp [dv, tupE, evs, ev1, var, at_, toD_d, onlyD, hme, pairE]
          · simp [forget, okOld, at_, A.bor, R]
      refine ⟨.tup [.str k, a, .tup (ms.map fun p => .tup [.str p.1, g p])], ?_, ?_, ?_⟩
      · simp [S_Effect_facts, retS, tupE, evs, ev1, dv, f0, f1, toD_d, app, e1, toD_l, ress, res, tupleD, onlyD]
      · have : datas (ms.map fun p => D.tup [.str p.1, g p]) = true := datas_all.mpr fun d hd => by
          obtain ⟨p, hp, rfl⟩ := List.mem_map.mp hd
          simp [dataD, datas, (hg p hp).2.1]
        simp [dataD, datas, ha, this]
      · have : hgts (ms.map fun p => D.tup [.str p.1, g p]) ≤ 3 * n' + 4 := hgts_le fun d hd => by
          obtain ⟨p, hp, rfl⟩ := List.mem_map.mp hd
          have := (hg p hp).2.2
          simp [hgt, hgts]
          omega
        simp [hgt, hgts]
        omega
theorem eq_spec {m n : Nat} {e : D} (h : EffT n e) (hn : n ≤ m) (h30 : n ≤ 30) : G_EffectU_eqU m [e, e] = some (.d (.bl true)) := by
  obtain ⟨f, e1, e2, e3⟩ := facts_spec h hn
  cases h with
  | @mk n' k a ms ha hh h64 hm =>
    unfold G_EffectU_eqU run0
    let R : Ro := [some (.d (effD k a ms)), some (.d (effD k a ms))]
    rw [if_pos (by rfl), show ro0 2 [effD k a ms, effD k a ms] = R from rfl]
    have me : ∀ i : Nat, i < 2 → methE "Effect" "facts" (var i) [] (G_Effect_facts m) R = some (.d f, R) := fun i hi => by
      unfold methE
      rw [show dv (var i) R = some (effD k a ms, R) by
        rcases i with _ | _ | i
        · simp [dv, var, at_, toD_d, R]
        · simp [dv, var, at_, toD_d, R]
        · omega]
      simp only [Option.bind_some, insD, effD, lk_facts, and_self, if_true, evs, onlyD]
      rw [show G_Effect_facts m [.ins "Effect" [("kind", .str k), ("atom", a), ("members", .tup (ms.map pairE))]] = some (.d f) from e1]
      rfl
    have hi : isiI "Effect" (.pk 1) R = some (.d (.bl true), R) := by simp [isiI, ev1, at_, res, peek, A.toP, insD, effD, R]
    have he : eqG f f = some (.d (.bl true)) := by
      unfold eqG
      rw [if_pos (by omega), eqO_self f e2]
      rfl
    simp [S_EffectU_eqU, retS, andV, asB, hi, bin, ev1, dv, me 0 (by omega), me 1 (by omega), toD_d, res, he]
theorem ne_spec {m n : Nat} {e : D} (h : EffT n e) (hn : n ≤ m) (h30 : n ≤ 30) : eqI "Effect" (G_EffectU_eqU m) true e e = some (.d (.bl false)) := by
  have hq := eq_spec h hn h30
  cases h with
  | @mk n' k a ms ha hh h64 hm =>
    unfold eqI
    simp only [effD, insD, Option.bind_some, and_self, if_true]
    rw [show G_EffectU_eqU m [.ins "Effect" [("kind", .str k), ("atom", a), ("members", .tup (ms.map pairE))], .ins "Effect" [("kind", .str k), ("atom", a), ("members", .tup (ms.map pairE))]] = some (.d (.bl true)) from hq]
    rfl
end Tw
end
section
set_option maxRecDepth 100000
/-! the algebra of effects over documents as functions; no program in sight -/
namespace Tw
open PySem PySem.Spec

/-- a document, or a missing one -/
inductive T where
  | miss
  | atom (a : D)
  | obj (m : Str → T)
/-- an effect -/
inductive E where
  | keep
  | drop
  | set (a : D)
  | merge (m : Str → E)
  | build (m : Str → E)
namespace T
def ch : T → Str → T
  | .obj m, k => m k
  | _, _ => .miss
end T
def act : E → T → T
  | .keep, d => d
  | .drop, _ => .miss
  | .set a, _ => .atom a
  | .merge m, d => .obj fun k => act (m k) (d.ch k)
  | .build m, _ => .obj fun k => act (m k) .miss
/-- what an effect makes where nothing is -/
def bu : E → E
  | .keep => .drop
  | .drop => .drop
  | .set a => .set a
  | .merge m => .build fun k => bu (m k)
  | .build m => .build m
/-- one effect and then another one -/
def jn : E → E → E
  | e, .keep => e
  | _, .drop => .drop
  | _, .set a => .set a
  | _, .build m => .build m
  | .keep, .merge m => .merge m
  | .merge m1, .merge m => .merge fun k => jn (m1 k) (m k)
  | .build m1, .merge m => .build fun k => jn (m1 k) (m k)
  | .drop, .merge m => .build fun k => bu (m k)
  | .set _, .merge m => .build fun k => bu (m k)
theorem act_bu : ∀ (e : E) (d : T), act (bu e) d = act e .miss
  | .keep, d => rfl
  | .drop, d => rfl
  | .set a, d => rfl
  | .merge m, d => by
    simp only [bu, act]
    congr 1
    funext k
    exact act_bu (m k) _
  | .build m, d => rfl
theorem act_jn : ∀ (e f : E) (d : T), act (jn e f) d = act f (act e d)
  | e, .keep, d => by cases e <;> rfl
  | e, .drop, d => by cases e <;> rfl
  | e, .set a, d => by cases e <;> rfl
  | e, .build m, d => by cases e <;> rfl
  | .keep, .merge m, d => rfl
  | .drop, .merge m, d => by
    simp only [jn, act]
    congr 1
    funext k
    exact act_bu (m k) _
  | .set a, .merge m, d => by
    simp only [jn, act]
    congr 1
    funext k
    exact act_bu (m k) _
  | .merge m1, .merge m, d => by
    simp only [jn, act]
    congr 1
    funext k
    exact act_jn (m1 k) (m k) _
  | .build m1, .merge m, d => by
    simp only [jn, act]
    congr 1
    funext k
    exact act_jn (m1 k) (m k) _
/-- the effect of a member of a patch -/
def eff : T → E
  | .miss => .keep
  | .atom a => if nonB a then .drop else .set a
  | .obj m => .merge fun k => eff (m k)
/-- the effect of a patch -/
def effR : T → E
  | .miss => .keep
  | .atom a => .set a
  | .obj m => .merge fun k => eff (m k)
def effs (ps : List T) : E := ps.foldl (fun e p => jn e (effR p)) .keep
def runT (d : T) (ps : List T) : T := ps.foldl (fun d p => act (effR p) d) d
theorem act_foldl : ∀ (ps : List T) (e : E) (d : T), act (ps.foldl (fun e p => jn e (effR p)) e) d = ps.foldl (fun d p => act (effR p) d) (act e d)
  | [], e, d => rfl
  | p :: r, e, d => by
    rw [List.foldl_cons, List.foldl_cons, act_foldl r, act_jn]
theorem act_effs (ps : List T) (d : T) : act (effs ps) d = runT d ps := act_foldl ps .keep d

/-! ### well formed effects -/
/-- what stands in a build -/
inductive Bd : E → Prop
  | drop : Bd .drop
  | set {a : D} : Bd (.set a)
  | build {m : Str → E} (h : ∀ k, Bd (m k)) : Bd (.build m)
inductive Wf : E → Prop
  | keep : Wf .keep
  | bd {e : E} (h : Bd e) : Wf e
  | merge {m : Str → E} (h : ∀ k, Wf (m k)) : Wf (.merge m)
theorem bd_bu : ∀ {e : E}, Wf e → Bd (bu e)
  | .keep, _ => .drop
  | .drop, _ => .drop
  | .set a, _ => .set
  | .merge m, h => .build fun k => bd_bu (match h with | .merge h => h k | .bd h => nomatch h)
  | .build m, h => match h with | .bd h => h
theorem wf_jn : ∀ {e f : E}, Wf e → Wf f → Wf (jn e f)
  | e, .keep, h, _ => by cases e <;> exact h
  | e, .drop, _, h => by cases e <;> exact h
  | e, .set a, _, h => by cases e <;> exact h
  | e, .build m, _, h => by cases e <;> exact h
  | .keep, .merge m, _, h => h
  | .drop, .merge m, _, h => .bd (.build fun k => bd_bu (match h with | .merge h => h k | .bd h => nomatch h))
  | .set a, .merge m, _, h => .bd (.build fun k => bd_bu (match h with | .merge h => h k | .bd h => nomatch h))
  | .merge m1, .merge m, h1, h => .merge fun k => wf_jn (match h1 with | .merge h => h k | .bd h => nomatch h) (match h with | .merge h => h k | .bd h => nomatch h)
  | .build m1, .merge m, h1, h => .bd (.build fun k => bd_jn (match h1 with | .bd (.build h) => h k) (match h with | .merge h => h k | .bd h => nomatch h))
where bd_jn : ∀ {e f : E}, Bd e → Wf f → Bd (jn e f)
  | e, .keep, h, _ => by cases e <;> exact h
  | e, .drop, _, h => by cases e <;> exact .drop
  | e, .set a, _, h => by cases e <;> exact .set
  | e, .build m, _, h => by cases h with | bd h => cases e <;> exact h
  | .keep, .merge m, h, _ => nomatch h
  | .drop, .merge m, _, h => .build fun k => bd_bu (match h with | .merge h => h k | .bd h => nomatch h)
  | .set a, .merge m, _, h => .build fun k => bd_bu (match h with | .merge h => h k | .bd h => nomatch h)
  | .merge m1, .merge m, h1, h => nomatch h1
  | .build m1, .merge m, h1, h => .build fun k => bd_jn (match h1 with | .build h => h k) (match h with | .merge h => h k | .bd h => nomatch h)
theorem wf_eff : ∀ t : T, Wf (eff t)
  | .miss => .keep
  | .atom a => by
    unfold eff
    split
    · exact .bd .drop
    · exact .bd .set
  | .obj m => .merge fun k => wf_eff (m k)
theorem wf_effR : ∀ t : T, Wf (effR t)
  | .miss => .keep
  | .atom a => .bd .set
  | .obj m => .merge fun k => wf_eff (m k)
theorem wf_foldl : ∀ (ps : List T) {e : E}, Wf e → Wf (ps.foldl (fun e p => jn e (effR p)) e)
  | [], e, h => h
  | p :: r, e, h => wf_foldl r (wf_jn h (wf_effR p))
theorem wf_effs (ps : List T) : Wf (effs ps) := wf_foldl ps .keep

/-! ### paths of an effect, documents with one path -/
/-- a path is one of an effect: at each key that leads on, something is done -/
def onE : List Str → E → Prop
  | [], _ => True
  | k :: r, .merge m => m k ≠ .keep ∧ onE r (m k)
  | k :: r, .build m => m k ≠ .drop ∧ onE r (m k)
  | _ :: _, _ => False
/-- a path is one of a patch -/
def onT : List Str → T → Prop
  | [], _ => True
  | k :: r, .obj m => m k ≠ .miss ∧ onT r (m k)
  | _ :: _, _ => False
def sing (k : Str) (d : T) : T := .obj fun j => if j = k then d else .miss
def wrap : List Str → T → T
  | [], d => d
  | k :: r, d => sing k (wrap r d)
theorem ch_sing (k : Str) (d : T) : (sing k d).ch k = d := by simp [sing, T.ch]
theorem obj_inj {m n : Str → T} (h : T.obj m = .obj n) (k : Str) : m k = n k := by cases h; rfl
theorem bd_miss : ∀ {e f : E}, Bd e → Bd f → act e .miss = act f .miss → e = f
  | .drop, .drop, _, _, _ => rfl
  | .set a, .set b, _, _, h => by simp only [act] at h; cases h; rfl
  | .build m, .build n, hm, hn, h => by
    congr 1
    funext k
    cases hm with | build hm => cases hn with | build hn => exact bd_miss (hm k) (hn k) (obj_inj h k)
  | .drop, .set b, _, _, h => by cases h
  | .drop, .build b, _, _, h => by cases h
  | .set b, .drop, _, _, h => by cases h
  | .build b, .drop, _, _, h => by cases h
  | .set a, .build b, _, _, h => by cases h
  | .build a, .set b, _, _, h => by cases h
  | .keep, _, h, _, _ => nomatch h
  | .merge _, _, h, _, _ => nomatch h
  | _, .keep, _, h, _ => nomatch h
  | _, .merge _, _, h, _ => nomatch h
/-- the ends of the tried documents: two atoms, an empty object, an object with a key that is not used -/
structure Ends (S : T → Prop) (z : Str) : Prop where
  two : ∃ a b : D, a ≠ b ∧ S (.atom a) ∧ S (.atom b)
  emp : S (.obj fun _ => .miss)
  unu : ∃ a : D, S (sing z (.atom a))
/-- z is used nowhere in an effect -/
def noZ (z : Str) : E → Prop
  | .merge m => m z = .keep ∧ ∀ k, noZ z (m k)
  | .build m => m z = .drop ∧ ∀ k, noZ z (m k)
  | _ => True
/-- two effects that differ do so at a document with one path that one of them has -/
theorem sep {S : T → Prop} {z : Str} (hS : Ends S z) : ∀ {e f : E}, Wf e → Wf f → noZ z e → noZ z f → e ≠ f →
    ∃ (p : List Str) (t : T), (onE p e ∨ onE p f) ∧ S t ∧ act e (wrap p t) ≠ act f (wrap p t) := by
  obtain ⟨a, b, hab, ha, hb⟩ := hS.two
  obtain ⟨c, hc⟩ := hS.unu
  have one : ∀ (e f : E) (t : T), S t → act e t ≠ act f t → ∃ (p : List Str) (t : T), (onE p e ∨ onE p f) ∧ S t ∧ act e (wrap p t) ≠ act f (wrap p t) := fun e f t h h2 => ⟨[], t, .inl trivial, h, h2⟩
  have keepSet : ∀ x : D, ∃ t, S t ∧ t ≠ .atom x := fun x => by
    by_cases h : a = x
    · exact ⟨_, hb, fun e => hab (h.trans (by cases e; rfl))⟩
    · exact ⟨_, ha, fun e => h (by cases e; rfl)⟩
  intro e
  induction e with
  | keep =>
    intro f _ hf _ _ hne
    cases f with
    | keep => exact absurd rfl hne
    | drop => exact one _ _ _ ha (by intro h; cases h)
    | set x => obtain ⟨t, h1, h2⟩ := keepSet x; exact one _ _ t h1 h2
    | merge m => exact one _ _ _ ha (by intro h; cases h)
    | build m => exact one _ _ _ ha (by intro h; cases h)
  | drop =>
    intro f _ hf _ _ hne
    cases f with
    | keep => exact one _ _ _ ha (by intro h; cases h)
    | drop => exact absurd rfl hne
    | set x => exact one _ _ _ ha (by intro h; cases h)
    | merge m => exact one _ _ _ ha (by intro h; cases h)
    | build m => exact one _ _ _ ha (by intro h; cases h)
  | set y =>
    intro f _ hf _ _ hne
    cases f with
    | keep => obtain ⟨t, h1, h2⟩ := keepSet y; exact one _ _ t h1 (fun h => h2 h.symm)
    | drop => exact one _ _ _ ha (by intro h; cases h)
    | set x => exact one _ _ _ ha (by intro h; apply hne; simp only [act] at h; cases h; rfl)
    | merge m => exact one _ _ _ ha (by intro h; cases h)
    | build m => exact one _ _ _ ha (by intro h; cases h)
  | merge m ih =>
    intro f he hf ze zf hne
    cases f with
    | keep => exact one _ _ _ ha (by intro h; cases h)
    | drop => exact one _ _ _ ha (by intro h; cases h)
    | set x => exact one _ _ _ ha (by intro h; cases h)
    | build n =>
      refine one _ _ _ hc fun h => ?_
      have h1 := obj_inj h z
      rw [ch_sing, ze.1, zf.1] at h1
      cases h1
    | merge n =>
      have : ∃ k, m k ≠ n k := Classical.byContradiction fun hn => hne (by
        congr 1
        funext k
        exact Classical.byContradiction fun hk => hn ⟨k, hk⟩)
      obtain ⟨k, hk⟩ := this
      obtain ⟨p, t, h1, h2, h3⟩ := ih k (f := n k) (match he with | .merge h => h k | .bd h => nomatch h) (match hf with | .merge h => h k | .bd h => nomatch h) (ze.2 k) (zf.2 k) hk
      refine ⟨k :: p, t, ?_, h2, fun h => h3 ?_⟩
      · -- the path is one of the two
        by_cases h4 : onE p (m k) ∧ m k ≠ .keep
        · exact .inl ⟨h4.2, h4.1⟩
        · by_cases h5 : onE p (n k) ∧ n k ≠ .keep
          · exact .inr ⟨h5.2, h5.1⟩
          · have kp : ∀ {q : List Str}, onE q .keep → q = [] := fun {q} h => by cases q with | nil => rfl | cons _ _ => exact h.elim
            rcases h1 with h1 | h1
            · have hm : m k = .keep := Classical.byContradiction fun h => h4 ⟨h1, h⟩
              have hp : p = [] := kp (hm ▸ h1)
              subst hp
              exact .inr ⟨fun h => hk (hm.trans h.symm), trivial⟩
            · have hm : n k = .keep := Classical.byContradiction fun h => h5 ⟨h1, h⟩
              have hp : p = [] := kp (hm ▸ h1)
              subst hp
              exact .inl ⟨fun h => hk (h.trans hm.symm), trivial⟩
      · have := obj_inj h k
        simp only [wrap, ch_sing] at this
        exact this
  | build m ih =>
    intro f he hf ze zf hne
    cases f with
    | keep => exact one _ _ _ ha (by intro h; cases h)
    | drop => exact one _ _ _ ha (by intro h; cases h)
    | set x => exact one _ _ _ ha (by intro h; cases h)
    | merge n =>
      refine one _ _ _ hc fun h => ?_
      have h1 := obj_inj h z
      rw [ch_sing, ze.1, zf.1] at h1
      cases h1
    | build n =>
      refine one _ _ _ ha fun h => hne ?_
      refine bd_miss (match he with | .bd h => h) (match hf with | .bd h => h) ?_
      exact h
end Tw
end
section
set_option maxRecDepth 100000
set_option maxHeartbeats 4000000
/-! documents as functions: what == tells -/
namespace Tw
open PySem PySem.Spec PyProof.Rows L2

mutual
def den : D → T
  | .dic kvs => .obj fun s => denK kvs s
  | d => .atom d
def denK : List (Key × D) → Str → T
  | [], _ => .miss
  | (k, d) :: r, s => if k = Sum.inr s then den d else denK r s
end
theorem den_nodic {d : D} (h : isDic d = false) : den d = .atom d := by cases d <;> first | rfl | cases h
theorem den_ne : ∀ d : D, den d ≠ .miss
  | .dic _, h => by simp [den] at h
  | .non, h => by simp [den] at h
  | .bl _, h => by simp [den] at h
  | .int _, h => by simp [den] at h
  | .str _, h => by simp [den] at h
  | .lst _, h => by simp [den] at h
  | .tup _, h => by simp [den] at h
  | .pr _, h => by simp [den] at h
  | .ins _ _, h => by simp [den] at h
def denO : Option D → T
  | some d => den d
  | none => .miss
theorem lkE_cons (p : Str × D) (r : List (Str × D)) (k : Str) : lkE (p :: r) k = if p.1 = k then some p.2 else lkE r k := by
  unfold lkE
  rw [List.find?_cons]
  by_cases h : p.1 = k
  · simp [h]
  · simp [h]
theorem denK_dct : ∀ (ms : List (Str × D)) (k : Str), denK (dctE ms) k = denO (lkE ms k)
  | [], k => rfl
  | p :: r, k => by
    show (if (Sum.inr p.1 : Key) = .inr k then den p.2 else denK (dctE r) k) = _
    rw [lkE_cons, denK_dct r k]
    by_cases h : p.1 = k
    · rw [if_pos h, if_pos (by rw [h])]; rfl
    · rw [if_neg h, if_neg (fun e => h (Sum.inr.inj e))]
theorem den_dct (ms : List (Str × D)) : den (.dic (dctE ms)) = .obj fun k => denO (lkE ms k) := by
  show T.obj (fun s => denK (dctE ms) s) = _
  exact congrArg T.obj (funext fun k => denK_dct ms k)
/-! ### lists without doubles -/
theorem nodup_len {α : Type} [DecidableEq α] : ∀ {xs ys : List α}, xs.Nodup → (∀ x ∈ xs, x ∈ ys) → xs.length ≤ ys.length
  | [], ys, _, _ => Nat.zero_le _
  | x :: r, ys, h, hs => by
    obtain ⟨h1, h2⟩ := List.nodup_cons.mp h
    have hx := hs x List.mem_cons_self
    have ih := nodup_len (xs := r) (ys := ys.erase x) h2 fun y hy => (List.mem_erase_of_ne (fun e => by subst e; exact h1 hy)).mpr (hs y (List.mem_cons_of_mem _ hy))
    rw [List.length_erase_of_mem hx] at ih
    have : 0 < ys.length := List.length_pos_of_mem hx
    rw [List.length_cons]
    omega
theorem nodup_sub {α : Type} [DecidableEq α] {xs ys : List α} (h : xs.Nodup) (hs : ∀ x ∈ xs, x ∈ ys) (hl : ys.length ≤ xs.length) : ∀ y ∈ ys, y ∈ xs := fun y hy => by
  apply Classical.byContradiction
  intro hn
  have := nodup_len (xs := y :: xs) (ys := ys) (List.nodup_cons.mpr ⟨hn, h⟩) (fun x hx => by
    rcases List.mem_cons.mp hx with rfl | hx
    · exact hy
    · exact hs x hx)
  rw [List.length_cons] at this
  omega
theorem lkE_none {ms : List (Str × D)} {k : Str} : lkE ms k = none ↔ k ∉ ms.map (·.1) := by
  constructor
  · intro h hk
    obtain ⟨d, e⟩ := lkE_some hk
    rw [h] at e
    cases e
  · intro h
    cases e : lkE ms k with
    | none => rfl
    | some d =>
      exfalso
      unfold lkE at e
      obtain ⟨p, hp, _⟩ := map_some.mp e
      have h1 : decide (p.1 = k) = true := List.find?_some (p := fun q : Str × D => decide (q.1 = k)) hp
      have h2 := List.mem_of_find?_eq_some hp
      exact h (List.mem_map.mpr ⟨p, h2, of_decide_eq_true h1⟩)
theorem lkE_mem {ms : List (Str × D)} {k : Str} {d : D} (h : lkE ms k = some d) : (k, d) ∈ ms := by
  unfold lkE at h
  obtain ⟨p, hp, e⟩ := map_some.mp h
  have h1 : p.1 = k := of_decide_eq_true (List.find?_some (p := fun q : Str × D => decide (q.1 = k)) hp)
  have h2 := List.mem_of_find?_eq_some hp
  rw [← h1, ← e]
  exact h2
/-! ### == of atoms -/
theorem eqB_plain : ∀ {a b : D}, plainB a = true → plainB b = true → (eqB a b = true ↔ a = b)
  | .non, .non, _, _ => by simp [eqB]
  | .non, .int _, _, _ => by simp [eqB]
  | .non, .str _, _, _ => by simp [eqB]
  | .int _, .non, _, _ => by simp [eqB]
  | .int _, .int _, _, _ => by simp [eqB]
  | .int _, .str _, _, _ => by simp [eqB]
  | .str _, .non, _, _ => by simp [eqB]
  | .str _, .int _, _, _ => by simp [eqB]
  | .str _, .str _, _, _ => by simp [eqB]
  | .bl _, _, h, _ => by cases h
  | .lst _, _, h, _ => by cases h
  | .tup _, _, h, _ => by cases h
  | .pr _, _, h, _ => by cases h
  | .dic _, _, h, _ => by cases h
  | .ins _ _, _, h, _ => by cases h
  | _, .bl _, _, h => by cases h
  | _, .lst _, _, h => by cases h
  | _, .tup _, _, h => by cases h
  | _, .pr _, _, h => by cases h
  | _, .dic _, _, h => by cases h
  | _, .ins _ _, _, h => by cases h
theorem kn_plain {a : D} (h : plainB a = true) : kn a = 0 := by cases a <;> first | rfl | cases h
theorem eqO_sc {a b : D} (h : kn a = 0) (hb : kn b ≤ 3) : eqO a b = some (eqB a b) := by
  cases a <;> first | (simp [kn] at h; done) | (unfold eqO; exact if_pos ⟨rfl, hb⟩)
theorem eqOs_plain : ∀ {xs ys : List D}, (∀ x ∈ xs, plainB x = true) → (∀ y ∈ ys, plainB y = true) → xs.length = ys.length → ∃ r, eqOs xs ys = some r ∧ (r = true ↔ xs = ys)
  | [], [], _, _, _ => ⟨true, by unfold eqOs; rfl, by simp⟩
  | x :: r, y :: t, hx, hy, hl => by
    obtain ⟨b, e1, e2⟩ := eqOs_plain (xs := r) (ys := t) (fun z hz => hx z (List.mem_cons_of_mem _ hz)) (fun z hz => hy z (List.mem_cons_of_mem _ hz)) (by simpa using hl)
    have px := hx x List.mem_cons_self
    have py := hy y List.mem_cons_self
    refine ⟨eqB x y && b, ?_, ?_⟩
    · unfold eqOs
      simp only
      rw [eqO_sc (kn_plain px) (by rw [kn_plain py]; omega), e1]
      rfl
    · rw [Bool.and_eq_true, eqB_plain px py, e2, List.cons.injEq]
  | [], _ :: _, _, _, hl => by simp at hl
  | _ :: _, [], _, _, hl => by simp at hl
theorem atom_lst {xs : List D} (h : atomB (.lst xs) = true) : (∀ x ∈ xs, plainB x = true) ∧ xs.length < 1000 := by
  unfold atomB at h
  rw [Bool.and_eq_true] at h
  exact ⟨List.all_eq_true.mp h.1, of_decide_eq_true h.2⟩
theorem atom_cases {a : D} (h : atomB a = true) : plainB a = true ∨ ∃ xs, a = .lst xs := by cases a <;> first | (cases h; done) | exact .inl rfl | exact .inr ⟨_, rfl⟩
theorem atom_kn {a : D} (h : atomB a = true) : kn a ≤ 1 := by cases a <;> first | (cases h; done) | simp [kn]
theorem eqO_atom {a b : D} (ha : atomB a = true) (hb : atomB b = true) : ∃ r, eqO a b = some r ∧ (r = true ↔ a = b) := by
  rcases atom_cases ha with pa | ⟨xs, rfl⟩
  · refine ⟨_, eqO_sc (kn_plain pa) (by have := atom_kn hb; omega), ?_⟩
    rcases atom_cases hb with pb | ⟨ys, rfl⟩
    · exact eqB_plain pa pb
    · cases a <;> first | (cases pa; done) | simp [eqB]
  · rcases atom_cases hb with pb | ⟨ys, rfl⟩
    · refine ⟨false, ?_, ?_⟩
      · cases b <;> first | (cases pb; done) | simp [eqO, kn]
      · cases b <;> first | (cases pb; done) | simp
    · obtain ⟨hx, _⟩ := atom_lst ha
      obtain ⟨hy, _⟩ := atom_lst hb
      by_cases hl : xs.length = ys.length
      · obtain ⟨r, e1, e2⟩ := eqOs_plain hx hy hl
        refine ⟨r, ?_, ?_⟩
        · unfold eqO
          simp only
          rw [if_pos hl, e1]
        · rw [e2, D.lst.injEq]
      · refine ⟨false, ?_, ?_⟩
        · unfold eqO
          simp only
          rw [if_neg hl]
        · simp only [Bool.false_eq_true, D.lst.injEq, false_iff]
          exact fun e => hl (by rw [e])
/-! ### == of documents -/
theorem eqOk_doc {ms' : List (Str × D)} : ∀ {ms : List (Str × D)}, (∀ p ∈ ms, ∀ d', lkE ms' p.1 = some d' → ∃ r, eqO p.2 d' = some r ∧ (r = true ↔ den p.2 = den d')) →
    ∃ r, eqOk (dctE ms) (dctE ms') = some r ∧ (r = true ↔ ∀ p ∈ ms, denO (lkE ms' p.1) = den p.2)
  | [], _ => ⟨true, by unfold dctE eqOk; rfl, by simp⟩
  | p :: t, h => by
    obtain ⟨b, e1, e2⟩ := eqOk_doc (ms := t) fun q hq => h q (List.mem_cons_of_mem _ hq)
    show ∃ r, eqOk ((Sum.inr p.1, p.2) :: dctE t) (dctE ms') = some r ∧ _
    unfold eqOk
    rw [getD_dct]
    cases hl : lkE ms' p.1 with
    | none =>
      refine ⟨false, by simp only; rw [e1]; rfl, ?_⟩
      simp only [Bool.false_eq_true, false_iff]
      intro hall
      have := hall p List.mem_cons_self
      rw [hl] at this
      exact den_ne p.2 this.symm
    | some d' =>
      obtain ⟨r, e3, e4⟩ := h p List.mem_cons_self d' hl
      refine ⟨r && b, by simp only; rw [e3, e1]; rfl, ?_⟩
      rw [Bool.and_eq_true, e4, e2]
      constructor
      · rintro ⟨h1, h2⟩ q hq
        rcases List.mem_cons.mp hq with rfl | hq
        · rw [hl]; exact h1.symm
        · exact h2 q hq
      · intro hall
        refine ⟨?_, fun q hq => hall q (List.mem_cons_of_mem _ hq)⟩
        have := hall p List.mem_cons_self
        rw [hl] at this
        exact this.symm
theorem eqO_den {n : Nat} {a : D} (ha : Doc n a) : ∀ {m : Nat} {b : D}, Doc m b → ∃ r, eqO a b = some r ∧ (r = true ↔ den a = den b) := by
  induction ha with
  | @atom n a h =>
    intro m b hb
    cases hb with
    | atom h' =>
      obtain ⟨r, e1, e2⟩ := eqO_atom h h'
      refine ⟨r, e1, ?_⟩
      rw [e2, den_nodic (atomB_nodic h), den_nodic (atomB_nodic h')]
      exact ⟨fun e => by rw [e], fun e => by cases e; rfl⟩
    | @dic m' ms h64 nd hm =>
      refine ⟨false, ?_, ?_⟩
      · rcases atom_cases h with pa | ⟨xs, rfl⟩
        · rw [eqO_sc (kn_plain pa) (by simp [kn])]
          cases a <;> first | (cases pa; done) | rfl
        · simp [eqO, kn]
      · rw [den_nodic (atomB_nodic h), den_dct]
        simp
  | @dic n ms h64 nd hm ih =>
    intro m b hb
    cases hb with
    | atom h' =>
      refine ⟨false, ?_, ?_⟩
      · have := atom_kn h'
        cases b <;> first | (cases h'; done) | simp [eqO, kn]
      · rw [den_nodic (atomB_nodic h'), den_dct]
        simp
    | @dic m' ms' h64' nd' hm' =>
      obtain ⟨r, e1, e2⟩ := eqOk_doc (ms := ms) (ms' := ms') fun p hp d' hl => ih p hp (hm' _ (lkE_mem hl))
      refine ⟨decide ((dctE ms).length = (dctE ms').length) && r, ?_, ?_⟩
      · unfold eqO
        simp only
        rw [e1]
        rfl
      · have hk : ∀ l : List (Str × D), (dctE l).length = (l.map (·.1)).length := fun l => by simp [dctE]
        rw [Bool.and_eq_true, decide_eq_true_iff, e2, den_dct, den_dct, hk, hk]
        constructor
        · rintro ⟨hl, hall⟩
          congr 1
          funext k
          by_cases hkm : k ∈ ms.map (·.1)
          · obtain ⟨p, hp, rfl⟩ := List.mem_map.mp hkm
            rw [hall p hp, lkE_find nd hp]
            rfl
          · have hkm' : k ∉ ms'.map (·.1) := fun h => hkm (nodup_sub (xs := ms.map fun q => q.1) (ys := ms'.map fun q => q.1) (show (ms.map fun q : Str × D => q.1).Nodup from nd) (fun x hx => by
              obtain ⟨p, hp, rfl⟩ := List.mem_map.mp hx
              apply Classical.byContradiction
              intro hn
              have := hall p hp
              rw [lkE_none.mpr hn] at this
              exact den_ne p.2 this.symm) (by omega) k h)
            rw [lkE_none.mpr hkm, lkE_none.mpr hkm']
        · intro e
          have hall : ∀ k, denO (lkE ms k) = denO (lkE ms' k) := obj_inj e
          have sub : ∀ {l l' : List (Str × D)}, (∀ k, denO (lkE l k) = denO (lkE l' k)) → ∀ x ∈ l.map (·.1), x ∈ l'.map (·.1) := fun {l l'} h x hx => by
            apply Classical.byContradiction
            intro hn
            obtain ⟨d, hd⟩ := lkE_some hx
            have := h x
            rw [hd, lkE_none.mpr hn] at this
            exact den_ne d this
          refine ⟨Nat.le_antisymm (nodup_len nd (sub hall)) (nodup_len nd' (sub fun k => (hall k).symm)), fun p hp => ?_⟩
          rw [← hall p.1, lkE_find nd hp]
          rfl
theorem hgt_doc {n : Nat} {d : D} (h : Doc n d) : hgt d ≤ n + 1 := by
  induction h with
  | @atom n a h =>
    rcases atom_cases h with pa | ⟨xs, rfl⟩
    · cases a <;> first | (cases pa; done) | simp [hgt]
    · have := (atom_lst h).1
      have : hgts xs ≤ 0 := hgts_le fun d hd => by
        have := this d hd
        cases d <;> first | (cases this; done) | simp [hgt]
      simp [hgt]
      omega
  | @dic n ms _ _ _ ih =>
    have key : ∀ l : List (Str × D), (∀ p ∈ l, hgt p.2 ≤ n + 1) → hgtk (dctE l) ≤ n + 1 := fun l ih => by
      induction l with
      | nil => simp [dctE, hgtk]
      | cons p r ihr =>
        show max (hgt p.2) (hgtk (dctE r)) ≤ n + 1
        have h1 := ih p List.mem_cons_self
        have h2 := ihr fun q hq => ih q (List.mem_cons_of_mem _ hq)
        omega
    have := key ms ih
    show hgtk (dctE ms) + 1 ≤ n + 1 + 1
    omega
theorem eqG_den {n m : Nat} {a b : D} (ha : Doc n a) (hb : Doc m b) (hn : n < 90) : ∃ r, eqG a b = some (.d (.bl r)) ∧ (r = true ↔ den a = den b) := by
  obtain ⟨r, e1, e2⟩ := eqO_den ha hb
  refine ⟨r, ?_, e2⟩
  unfold eqG
  rw [if_pos (by have := hgt_doc ha; omega), e1]
  rfl
theorem neG_den {n m : Nat} {a b : D} (ha : Doc n a) (hb : Doc m b) (hn : n < 90) : ∃ r, neG a b = some (.d (.bl r)) ∧ (r = true ↔ den a ≠ den b) := by
  obtain ⟨r, e1, e2⟩ := eqO_den ha hb
  refine ⟨!r, ?_, ?_⟩
  · unfold neG
    rw [if_pos (by have := hgt_doc ha; omega), e1]
    rfl
  · rw [Ne, ← e2]
    cases r <;> simp
end Tw
end
section
set_option maxRecDepth 100000
set_option maxHeartbeats 4000000
/-! effects of the program against the algebra -/
namespace Tw
open PySem PySem.Spec PyProof.Rows L2

/-! ### members in order -/
theorem memE_keys (ms : List (Str × D)) : (memE ms).map (·.1) = sortS (ms.map (·.1)) := by
  unfold memE
  rw [List.map_map]
  simp [Function.comp_def]
theorem nd_memE {ms : List (Str × D)} (nd : ND ms) : ND (memE ms) := by
  unfold ND
  rw [memE_keys]
  exact (sortS_perm _).nodup_iff.mpr nd
theorem mem_memE {ms : List (Str × D)} (nd : ND ms) {p : Str × D} : p ∈ memE ms ↔ p ∈ ms := by
  unfold memE
  constructor
  · intro h
    obtain ⟨k, hk, rfl⟩ := List.mem_map.mp h
    obtain ⟨d, hd⟩ := lkE_some ((sortS_perm _).mem_iff.mp hk)
    rw [hd]
    exact lkE_mem hd
  · intro h
    refine List.mem_map.mpr ⟨p.1, (sortS_perm _).mem_iff.mpr (List.mem_map.mpr ⟨p, h, rfl⟩), ?_⟩
    rw [lkE_find nd h]
    rfl
theorem key_memE {ms : List (Str × D)} {k : Str} : k ∈ (memE ms).map (·.1) ↔ k ∈ ms.map (·.1) := by
  rw [memE_keys]
  exact (sortS_perm _).mem_iff
theorem lk_ext {ms ms' : List (Str × D)} (nd : ND ms) (nd' : ND ms') (h : ∀ p, p ∈ ms ↔ p ∈ ms') (k : Str) : lkE ms k = lkE ms' k := by
  cases e : lkE ms k with
  | some d =>
    have := (h _).mp (lkE_mem e)
    exact (lkE_find nd' this).symm
  | none =>
    refine (lkE_none.mpr fun hk => ?_).symm
    obtain ⟨d, hd⟩ := lkE_some hk
    have := (h _).mpr (lkE_mem hd)
    exact lkE_none.mp e (List.mem_map.mpr ⟨_, this, rfl⟩)
/-- two orders of the same members are one -/
theorem memE_ext {ms ms' : List (Str × D)} (nd : ND ms) (nd' : ND ms') (h : ∀ p, p ∈ ms ↔ p ∈ ms') : memE ms = memE ms' := by
  have hk : sortS (ms.map (·.1)) = sortS (ms'.map (·.1)) := by
    refine pw_uniq ?_ (sortS_pw _) (sortS_pw _)
    refine (sortS_perm _).trans (List.Perm.trans ?_ (sortS_perm _).symm)
    refine (List.perm_ext_iff_of_nodup nd nd').mpr fun k => ?_
    constructor
    · intro hk; obtain ⟨p, hp, rfl⟩ := List.mem_map.mp hk; exact List.mem_map.mpr ⟨p, (h p).mp hp, rfl⟩
    · intro hk; obtain ⟨p, hp, rfl⟩ := List.mem_map.mp hk; exact List.mem_map.mpr ⟨p, (h p).mpr hp, rfl⟩
  unfold memE
  rw [hk]
  exact List.map_congr_left fun k _ => by rw [lk_ext nd nd' h k]
theorem memE_idem {ms : List (Str × D)} (nd : ND ms) : memE (memE ms) = memE ms := memE_ext (nd_memE nd) nd fun p => mem_memE nd
/-! ### documents whose keys are known -/
inductive DocK (ks : List Str) : Nat → D → Prop
  | atom {n : Nat} {d : D} (h : atomB d = true) : DocK ks n d
  | dic {n : Nat} {ms : List (Str × D)} (nd : ND ms) (hk : ∀ p ∈ ms, p.1 ∈ ks) (hm : ∀ p ∈ ms, DocK ks n p.2) : DocK ks (n + 1) (.dic (dctE ms))
theorem len_ks {ks : List Str} {ms : List (Str × D)} (nd : ND ms) (hk : ∀ p ∈ ms, p.1 ∈ ks) : ms.length ≤ ks.length := by
  have := nodup_len (xs := ms.map fun q => q.1) (ys := ks) (show (ms.map fun q : Str × D => q.1).Nodup from nd) fun x hx => by
    obtain ⟨p, hp, rfl⟩ := List.mem_map.mp hx
    exact hk p hp
  simpa using this
theorem DocK.doc {ks : List Str} (h32 : ks.length < 32) {n : Nat} {d : D} (h : DocK ks n d) : Doc n d := by
  induction h with
  | atom h => exact .atom h
  | dic nd hk hm ih => exact .dic (by have := len_ks nd hk; omega) nd ih
theorem DocK.mono {ks : List Str} {n m : Nat} {d : D} (h : DocK ks n d) (hn : n ≤ m) : DocK ks m d := by
  induction h generalizing m with
  | atom h => exact .atom h
  | dic nd hk hm ih =>
    obtain ⟨m', rfl⟩ : ∃ m', m = m' + 1 := ⟨m - 1, by omega⟩
    exact .dic nd hk fun p hp => ih p hp (by omega)
/-! ### effects as they stand in the program -/
inductive Ef (ks : List Str) : Nat → E → D → Prop
  | keep {n : Nat} : Ef ks (n + 1) .keep (effD "keep" .non [])
  | drop {n : Nat} : Ef ks (n + 1) .drop (effD "drop" .non [])
  | set {n : Nat} {a : D} (h : atomB a = true) : Ef ks (n + 1) (.set a) (effD "set" (frA a) [])
  | merge {n : Nat} {m : Str → E} {ms : List (Str × D)} (nd : ND ms) (so : memE ms = ms) (hk : ∀ p ∈ ms, p.1 ∈ ks) (hne : ∀ p ∈ ms, m p.1 ≠ .keep) (hm : ∀ p ∈ ms, Ef ks n (m p.1) p.2) (ho : ∀ k, k ∉ ms.map (·.1) → m k = .keep) : Ef ks (n + 1) (.merge m) (effD "merge" .non ms)
  | build {n : Nat} {m : Str → E} {ms : List (Str × D)} (nd : ND ms) (so : memE ms = ms) (hk : ∀ p ∈ ms, p.1 ∈ ks) (hne : ∀ p ∈ ms, m p.1 ≠ .drop) (hm : ∀ p ∈ ms, Ef ks n (m p.1) p.2) (ho : ∀ k, k ∉ ms.map (·.1) → m k = .drop) : Ef ks (n + 1) (.build m) (effD "build" .non ms)
variable {ks : List Str}
theorem Ef.mkM {n : Nat} {m : Str → E} {ms : List (Str × D)} (nd : ND ms) (hk : ∀ p ∈ ms, p.1 ∈ ks) (hne : ∀ p ∈ ms, m p.1 ≠ .keep) (hm : ∀ p ∈ ms, Ef ks n (m p.1) p.2) (ho : ∀ k, k ∉ ms.map (·.1) → m k = .keep) : Ef ks (n + 1) (.merge m) (effD "merge" .non (memE ms)) :=
  .merge (nd_memE nd) (memE_idem nd) (fun p hp => hk p ((mem_memE nd).mp hp)) (fun p hp => hne p ((mem_memE nd).mp hp)) (fun p hp => hm p ((mem_memE nd).mp hp)) fun k hk => ho k fun h => hk (key_memE.mpr h)
theorem Ef.mkB {n : Nat} {m : Str → E} {ms : List (Str × D)} (nd : ND ms) (hk : ∀ p ∈ ms, p.1 ∈ ks) (hne : ∀ p ∈ ms, m p.1 ≠ .drop) (hm : ∀ p ∈ ms, Ef ks n (m p.1) p.2) (ho : ∀ k, k ∉ ms.map (·.1) → m k = .drop) : Ef ks (n + 1) (.build m) (effD "build" .non (memE ms)) :=
  .build (nd_memE nd) (memE_idem nd) (fun p hp => hk p ((mem_memE nd).mp hp)) (fun p hp => hne p ((mem_memE nd).mp hp)) (fun p hp => hm p ((mem_memE nd).mp hp)) fun k hk => ho k fun h => hk (key_memE.mpr h)
theorem Ef.mono {n m : Nat} {e : E} {d : D} (h : Ef ks n e d) (hn : n ≤ m) : Ef ks m e d := by
  induction h generalizing m with
  | keep => obtain ⟨m', rfl⟩ : ∃ m', m = m' + 1 := ⟨m - 1, by omega⟩; exact .keep
  | drop => obtain ⟨m', rfl⟩ : ∃ m', m = m' + 1 := ⟨m - 1, by omega⟩; exact .drop
  | set h => obtain ⟨m', rfl⟩ : ∃ m', m = m' + 1 := ⟨m - 1, by omega⟩; exact .set h
  | merge nd so hk hne hm ho ih => obtain ⟨m', rfl⟩ : ∃ m', m = m' + 1 := ⟨m - 1, by omega⟩; exact .merge nd so hk hne (fun p hp => ih p hp (by omega)) ho
  | build nd so hk hne hm ho ih => obtain ⟨m', rfl⟩ : ∃ m', m = m' + 1 := ⟨m - 1, by omega⟩; exact .build nd so hk hne (fun p hp => ih p hp (by omega)) ho
theorem Ef.shape {n : Nat} {e : E} {d : D} (h : Ef ks n e d) : ∃ k a ms, d = effD k a ms := by cases h <;> exact ⟨_, _, _, rfl⟩
theorem effD_inj {k k' : Str} {a a' : D} {ms ms' : List (Str × D)} (h : effD k a ms = effD k' a' ms') : k = k' ∧ a = a' ∧ ms = ms' := by
  unfold effD at h
  simp only [D.ins.injEq, List.cons.injEq, Prod.mk.injEq, D.str.injEq, D.tup.injEq, true_and, and_true] at h
  refine ⟨h.1, h.2.1, ?_⟩
  have := h.2.2
  clear h
  induction ms generalizing ms' with
  | nil => cases ms' with
    | nil => rfl
    | cons _ _ => simp at this
  | cons p r ih => cases ms' with
    | nil => simp at this
    | cons q t =>
      rw [List.map_cons, List.map_cons, List.cons.injEq] at this
      rw [ih this.2]
      have h1 := this.1
      unfold pairE at h1
      simp at h1
      congr 1
      exact Prod.ext h1.1 h1.2
theorem frA_inj {a b : D} (ha : atomB a = true) (hb : atomB b = true) (h : frA a = frA b) : a = b := by
  cases a <;> first | (cases ha; done) | (cases b <;> first | (cases hb; done) | (simp [frA] at h; done) | (simp [frA] at h; subst h; rfl) | rfl)
theorem kd_ne : ¬ (("keep" : Str) = "drop") ∧ ¬ (("keep" : Str) = "set") ∧ ¬ (("keep" : Str) = "merge") ∧ ¬ (("keep" : Str) = "build") ∧ ¬ (("drop" : Str) = "set") ∧ ¬ (("drop" : Str) = "merge") ∧ ¬ (("drop" : Str) = "build") ∧ ¬ (("set" : Str) = "merge") ∧ ¬ (("set" : Str) = "build") ∧ ¬ (("merge" : Str) = "build") := by decide +kernel
/-- an effect is told by what stands in the program -/
theorem Ef.inj {n : Nat} {e : E} {d : D} (h : Ef ks n e d) : ∀ {n' : Nat} {e' : E}, Ef ks n' e' d → e = e' := by
  obtain ⟨n1, n2, n3, n4, n5, n6, n7, n8, n9, n10⟩ := kd_ne
  induction h with
  | keep => intro n' e' h'; generalize hx : effD "keep" .non [] = x at h'; cases h' <;> first | rfl | (have := (effD_inj hx).1; first | exact absurd this n1 | exact absurd this n2 | exact absurd this n3 | exact absurd this n4)
  | drop => intro n' e' h'; generalize hx : effD "drop" .non [] = x at h'; cases h' <;> first | rfl | (have := (effD_inj hx).1; first | exact absurd this.symm n1 | exact absurd this n5 | exact absurd this n6 | exact absurd this n7)
  | set h =>
    intro n' e' h'
    generalize hx : effD "set" _ [] = x at h'
    cases h' with
    | set h' => rw [frA_inj h h' (effD_inj hx).2.1]
    | _ => have := (effD_inj hx).1; first | exact absurd this.symm n2 | exact absurd this.symm n5 | exact absurd this n8 | exact absurd this n9
  | @merge n m ms nd so hk hne hm ho ih =>
    intro n' e' h'
    generalize hx : effD "merge" _ ms = x at h'
    cases h' with
    | @merge n' m' ms' nd' so' hk' hne' hm' ho' =>
      obtain rfl := (effD_inj hx).2.2
      congr 1
      funext k
      by_cases hkm : k ∈ ms.map (·.1)
      · obtain ⟨p, hp, rfl⟩ := List.mem_map.mp hkm
        exact ih p hp (hm' p hp)
      · rw [ho k hkm, ho' k hkm]
    | _ => have := (effD_inj hx).1; first | exact absurd this.symm n3 | exact absurd this.symm n6 | exact absurd this.symm n8 | exact absurd this n10
  | @build n m ms nd so hk hne hm ho ih =>
    intro n' e' h'
    generalize hx : effD "build" _ ms = x at h'
    cases h' with
    | @build n' m' ms' nd' so' hk' hne' hm' ho' =>
      obtain rfl := (effD_inj hx).2.2
      congr 1
      funext k
      by_cases hkm : k ∈ ms.map (·.1)
      · obtain ⟨p, hp, rfl⟩ := List.mem_map.mp hkm
        exact ih p hp (hm' p hp)
      · rw [ho k hkm, ho' k hkm]
    | _ => have := (effD_inj hx).1; first | exact absurd this.symm n4 | exact absurd this.symm n7 | exact absurd this.symm n9 | exact absurd this.symm n10
/-- .. and tells it -/
theorem Ef.uniq {n : Nat} {e : E} {d : D} (h : Ef ks n e d) : ∀ {n' : Nat} {d' : D}, Ef ks n' e d' → d = d' := by
  induction h with
  | keep => intro n' d' h'; cases h'; rfl
  | drop => intro n' d' h'; cases h'; rfl
  | set h => intro n' d' h'; cases h'; rfl
  | @merge n m ms nd so hk hne hm ho ih =>
    intro n' d' h'
    cases h' with
    | @merge n' _ ms' nd' so' hk' hne' hm' ho' =>
      have : ms = ms' := by
        rw [← so, ← so']
        refine memE_ext nd nd' fun p => ⟨fun hp => ?_, fun hp => ?_⟩
        · have hin : p.1 ∈ ms'.map (·.1) := Classical.byContradiction fun hn => hne p hp (ho' _ hn)
          obtain ⟨q, hq, e⟩ := List.mem_map.mp hin
          have := ih p hp (d' := q.2) (by rw [← e]; exact hm' q hq)
          have : p = q := Prod.ext e.symm this
          rw [this]; exact hq
        · have hin : p.1 ∈ ms.map (·.1) := Classical.byContradiction fun hn => hne' p hp (ho _ hn)
          obtain ⟨q, hq, e⟩ := List.mem_map.mp hin
          have := ih q hq (d' := p.2) (by rw [e]; exact hm' p hp)
          have : q = p := Prod.ext e this
          rw [← this]; exact hq
      rw [this]
  | @build n m ms nd so hk hne hm ho ih =>
    intro n' d' h'
    cases h' with
    | @build n' _ ms' nd' so' hk' hne' hm' ho' =>
      have : ms = ms' := by
        rw [← so, ← so']
        refine memE_ext nd nd' fun p => ⟨fun hp => ?_, fun hp => ?_⟩
        · have hin : p.1 ∈ ms'.map (·.1) := Classical.byContradiction fun hn => hne p hp (ho' _ hn)
          obtain ⟨q, hq, e⟩ := List.mem_map.mp hin
          have := ih p hp (d' := q.2) (by rw [← e]; exact hm' q hq)
          have : p = q := Prod.ext e.symm this
          rw [this]; exact hq
        · have hin : p.1 ∈ ms.map (·.1) := Classical.byContradiction fun hn => hne' p hp (ho _ hn)
          obtain ⟨q, hq, e⟩ := List.mem_map.mp hin
          have := ih q hq (d' := p.2) (by rw [e]; exact hm' p hp)
          have : q = p := Prod.ext e this
          rw [← this]; exact hq
      rw [this]
end Tw
end
section
set_option maxRecDepth 100000
set_option maxHeartbeats 4000000
/-! the program's effects: of a patch, built, joined, of a row -/
namespace Tw
open PySem PySem.Spec PyProof.Rows L2
variable {ks : List Str}

theorem tyD_atom {a : D} (h : atomB a = true) : (tyD a).isSome = true := by
  obtain ⟨t, e, _⟩ := atomB_ty h
  rw [e]
  rfl
theorem eff_ne {t : T} (h : t ≠ .miss) : eff t ≠ .keep := by
  cases t with
  | miss => exact absurd rfl h
  | atom a => unfold eff; split <;> simp
  | obj m => simp [eff]
/-- a choice of values for members -/
theorem choose_mem {ms : List (Str × D)} {P : Str × D → D → Prop} (h : ∀ p ∈ ms, ∃ d, P p d) : ∃ g : Str × D → D, ∀ p ∈ ms, P p (g p) := by
  refine ⟨fun p => open Classical in if h : ∃ d, P p d then h.choose else .non, fun p hp => ?_⟩
  simp only [dif_pos (h p hp)]
  exact (h p hp).choose_spec
theorem mapV_keys (h : Str × D → D) (ms : List (Str × D)) : (mapV h ms).map (·.1) = ms.map (·.1) := by simp [mapV, Function.comp_def]
theorem mem_mapV {h : Str × D → D} {ms : List (Str × D)} {p : Str × D} : p ∈ mapV h ms ↔ ∃ q ∈ ms, p = (q.1, h q) := by
  unfold mapV
  rw [List.mem_map]
  exact ⟨fun ⟨q, hq, e⟩ => ⟨q, hq, e.symm⟩, fun ⟨q, hq, e⟩ => ⟨q, hq, e.symm⟩⟩
theorem of_spec (h32 : ks.length < 32) {n : Nat} {d : D} (h : DocK ks n d) : ∀ {m : Nat} (b : Bool), n < m → ∃ r e', G_of_patch m [d, .bl b] = some r ∧ r.toD = some e' ∧ r.bor = false ∧ Ef ks (n + 1) (if b then eff (den d) else effR (den d)) e' := by
  induction h with
  | @atom n d h =>
    intro m b hm
    obtain ⟨m', rfl⟩ : ∃ m', m = m' + 1 := ⟨m - 1, by omega⟩
    by_cases hb : d = .non ∧ b = true
    · obtain ⟨rfl, rfl⟩ := hb
      exact ⟨_, _, of_none m', effA_toD _ _ _, rfl, .drop⟩
    · have hv : d ≠ .non ∨ b = false := by
        by_cases h1 : d = .non
        · exact .inr (by cases b <;> simp_all)
        · exact .inl h1
      refine ⟨_, _, of_set m' hv (fun kvs e => by rw [e] at h; cases h) (tyD_atom h), effA_toD _ _ _, rfl, ?_⟩
      rw [den_nodic (atomB_nodic h)]
      have : (if b = true then eff (.atom d) else effR (.atom d)) = .set d := by
        cases b with
        | false => rfl
        | true =>
          have hd : nonB d = false := by
            rcases hv with h1 | h1
            · cases d <;> first | rfl | exact absurd rfl h1
            · cases h1
          simp [eff, hd]
      rw [this]
      exact .set h
  | @dic n ms nd hk hm ih =>
    intro m b hm'
    obtain ⟨m', rfl⟩ : ∃ m', m = m' + 1 := ⟨m - 1, by omega⟩
    obtain ⟨g, hg⟩ := choose_mem (ms := ms) (P := fun p e' => ∃ r, G_of_patch m' [p.2, .bl true] = some r ∧ r.toD = some e' ∧ Ef ks (n + 1) (eff (den p.2)) e') fun p hp => by
      obtain ⟨r, e', h1, h2, _, h3⟩ := ih p hp (m := m') true (by omega)
      exact ⟨e', r, h1, h2, h3⟩
    refine ⟨_, _, of_dict m' (by have := len_ks nd hk; omega) nd (h := g) fun p hp => ?_, effA_toD _ _ _, rfl, ?_⟩
    · obtain ⟨r, h1, h2, _⟩ := hg p hp
      exact ⟨r, h1, h2⟩
    · rw [den_dct]
      have e : (if b = true then eff (T.obj fun k => denO (lkE ms k)) else effR (T.obj fun k => denO (lkE ms k))) = .merge fun k => eff (denO (lkE ms k)) := by cases b <;> rfl
      rw [e]
      refine Ef.mkM (nd_mapV nd) (fun p hp => ?_) (fun p hp => ?_) (fun p hp => ?_) fun k hk' => ?_
      · obtain ⟨q, hq, rfl⟩ := mem_mapV.mp hp
        exact hk q hq
      · obtain ⟨q, hq, rfl⟩ := mem_mapV.mp hp
        simp only [lkE_find nd hq, denO]
        exact eff_ne (den_ne _)
      · obtain ⟨q, hq, rfl⟩ := mem_mapV.mp hp
        simp only [lkE_find nd hq, denO]
        obtain ⟨_, _, _, h3⟩ := hg q hq
        exact h3
      · rw [mapV_keys] at hk'
        simp only [lkE_none.mpr hk', denO]
        rfl
theorem nonB_eff (k : Str) (a : D) (ms : List (Str × D)) : nonB (effD k a ms) = false := rfl
theorem filter_nd {p : Str × D → Bool} {ms : List (Str × D)} (nd : ND ms) : ND (ms.filter p) := nd_filter nd
/-- what is built of a member's effect -/
theorem built_spec (h32 : ks.length < 32) {n : Nat} {e : E} {d : D} (h : Ef ks n e d) : ∀ {m : Nat}, n ≤ m → ∃ r x, G_built m [d] = some r ∧ r.toD = some x ∧ r.bor = false ∧ (bu e = .drop → x = .non) ∧ (bu e ≠ .drop → Ef ks n (bu e) x) := by
  induction h with
  | @keep n =>
    intro m hm
    obtain ⟨m', rfl⟩ : ∃ m', m = m' + 1 := ⟨m - 1, by omega⟩
    exact ⟨_, _, built_none m' (.inl rfl), rfl, rfl, fun _ => rfl, fun h => absurd rfl h⟩
  | @drop n =>
    intro m hm
    obtain ⟨m', rfl⟩ : ∃ m', m = m' + 1 := ⟨m - 1, by omega⟩
    exact ⟨_, _, built_none m' (.inr rfl), rfl, rfl, fun _ => rfl, fun h => absurd rfl h⟩
  | @set n a h =>
    intro m hm
    obtain ⟨m', rfl⟩ : ∃ m', m = m' + 1 := ⟨m - 1, by omega⟩
    exact ⟨_, _, built_same m' (.inl rfl), rfl, rfl, fun h => by simp [bu] at h, fun _ => .set h⟩
  | @build n f ms nd so hk hne hm ho ih =>
    intro m hm'
    obtain ⟨m', rfl⟩ : ∃ m', m = m' + 1 := ⟨m - 1, by omega⟩
    exact ⟨_, _, built_same m' (.inr rfl), rfl, rfl, fun h => by simp [bu] at h, fun _ => .build nd so hk hne hm ho⟩
  | @merge n f ms nd so hk hne hm ho ih =>
    intro m hm'
    obtain ⟨m', rfl⟩ : ∃ m', m = m' + 1 := ⟨m - 1, by omega⟩
    obtain ⟨g, hg⟩ := choose_mem (ms := ms) (P := fun p x => ∃ r, G_built m' [p.2] = some r ∧ r.toD = some x ∧ (bu (f p.1) = .drop → x = .non) ∧ (bu (f p.1) ≠ .drop → Ef ks n (bu (f p.1)) x)) fun p hp => by
      obtain ⟨r, x, h1, h2, _, h3, h4⟩ := ih p hp (m := m') (by omega)
      exact ⟨x, r, h1, h2, h3, h4⟩
    refine ⟨_, _, built_merge m' (by have := len_ks nd hk; omega) nd (h := g) fun p hp => ?_, effA_toD _ _ _, rfl, fun h => by simp [bu] at h, fun _ => ?_⟩
    · obtain ⟨r, h1, h2, _⟩ := hg p hp
      exact ⟨r, h1, h2⟩
    · -- a member that is left
      have left : ∀ p ∈ (mapV g ms).filter (fun p => !nonB p.2), ∃ q ∈ ms, p = (q.1, g q) ∧ bu (f q.1) ≠ .drop := fun p hp => by
        obtain ⟨hp1, hp2⟩ := List.mem_filter.mp hp
        obtain ⟨q, hq, rfl⟩ := mem_mapV.mp hp1
        refine ⟨q, hq, rfl, fun hd => ?_⟩
        obtain ⟨_, _, _, h3, _⟩ := hg q hq
        rw [show (q.1, g q).2 = .non from h3 hd] at hp2
        cases hp2
      refine Ef.mkB (m := fun k => bu (f k)) (nd_filter (nd_mapV nd)) (fun p hp => ?_) (fun p hp => ?_) (fun p hp => ?_) fun k hk' => ?_
      · obtain ⟨q, hq, rfl, _⟩ := left p hp
        exact hk q hq
      · obtain ⟨q, hq, rfl, h⟩ := left p hp
        exact h
      · obtain ⟨q, hq, rfl, h⟩ := left p hp
        obtain ⟨_, _, _, _, h4⟩ := hg q hq
        exact h4 h
      · by_cases hkm : k ∈ ms.map (·.1)
        · obtain ⟨q, hq, rfl⟩ := List.mem_map.mp hkm
          apply Classical.byContradiction
          intro hd
          obtain ⟨_, _, _, _, h4⟩ := hg q hq
          obtain ⟨kk, a, ms', hs⟩ := (h4 hd).shape
          refine hk' (List.mem_map.mpr ⟨(q.1, g q), List.mem_filter.mpr ⟨mem_mapV.mpr ⟨q, hq, rfl⟩, ?_⟩, rfl⟩)
          simp only [hs, nonB_eff]
          rfl
        · show bu (f k) = .drop
          rw [ho k hkm]
          rfl
theorem jn_ne {e f : E} (h : f ≠ .keep) : jn e f ≠ .keep := by
  cases f with
  | keep => exact absurd rfl h
  | drop => cases e <;> simp [jn]
  | set a => cases e <;> simp [jn]
  | build m => cases e <;> simp [jn]
  | merge m => cases e <;> simp [jn]
theorem isDrop_ef {n : Nat} {e : E} {d : D} (h : Ef ks n e d) : isDropD d = true ↔ e = .drop := by
  obtain ⟨n1, n2, n3, n4, n5, n6, n7, n8, n9, n10⟩ := kd_ne
  cases h with
  | keep => simp [isDropD, effD, n1]
  | drop => simp [isDropD, effD]
  | set h => simp [isDropD, effD, Ne.symm n5]
  | merge => simp [isDropD, effD, Ne.symm n6]
  | build => simp [isDropD, effD, Ne.symm n7]
theorem Ef.pos {n : Nat} {e : E} {d : D} (h : Ef ks n e d) : 1 ≤ n := by cases h <;> omega
theorem jn_keep (e : E) : jn e .keep = e := by cases e <;> rfl
/-- what a sum answers, as data -/
def jD (m : Nat) (c o : D) : D := ((G_joined m [c, o]).bind A.toD).getD .non
theorem jD_of {m : Nat} {c o x : D} {r : A} (h : G_joined m [c, o] = some r) (h2 : r.toD = some x) : jD m c o = x := by
  unfold jD
  rw [h, Option.bind_some, h2]
  rfl
/-- one effect and then another one -/
theorem joined_spec (h32 : ks.length < 32) : ∀ {m n n' : Nat} {e f : E} {d d' : D}, Ef ks n e d → Ef ks n' f d' → n' < m → ∃ r x, G_joined m [d, d'] = some r ∧ r.toD = some x ∧ r.bor = false ∧ Ef ks (max n n') (jn e f) x
  | 0, n, n', e, f, d, d', h, h', hm => absurd hm (Nat.not_lt_zero _)
  | m + 1, n, n', e, f, d, d', h, h', hm => by
    cases h' with
    | @keep n' =>
      refine ⟨_, _, joined_keep m, rfl, rfl, ?_⟩
      rw [jn_keep]
      exact h.mono (by omega)
    | @drop n' =>
      refine ⟨_, _, joined_over m (.inr (.inl rfl)), rfl, rfl, ?_⟩
      rw [show jn e .drop = .drop by cases e <;> rfl]
      exact (Ef.drop (n := n')).mono (by omega)
    | @set n' a ha =>
      refine ⟨_, _, joined_over m (.inl rfl), rfl, rfl, ?_⟩
      rw [show jn e (.set a) = .set a by cases e <;> rfl]
      exact (Ef.set (n := n') ha).mono (by omega)
    | @build n' f ms nd so hk hne hm' ho =>
      refine ⟨_, _, joined_over m (.inr (.inr rfl)), rfl, rfl, ?_⟩
      rw [show jn e (.build f) = .build f by cases e <;> rfl]
      exact (Ef.build nd so hk hne hm' ho).mono (by omega)
    | @merge n' f ms nd so hk hne hm' ho =>
      have whole : Ef ks (n' + 1) (.merge f) (effD "merge" .non ms) := .merge nd so hk hne hm' ho
      -- into what merges or is built
      have into : ∀ (k1 : Str) (m1 : List (Str × D)) (g : Str → E) (x0 : E) (n0 : Nat), (k1 = "merge" ∧ x0 = .keep ∨ k1 = "build" ∧ x0 = .drop) → ND m1 → (∀ p ∈ m1, p.1 ∈ ks) → (∀ p ∈ m1, g p.1 ≠ x0) → (∀ p ∈ m1, Ef ks n0 (g p.1) p.2) → (∀ k, k ∉ m1.map (·.1) → g k = x0) →
          ∃ ms', G_joined (m + 1) [effD k1 .non m1, effD "merge" .non ms] = some (effA k1 .non (memE ms')) ∧ ND ms' ∧ (∀ p ∈ ms', p.1 ∈ ks) ∧ (∀ p ∈ ms', jn (g p.1) (f p.1) ≠ x0) ∧ (∀ p ∈ ms', Ef ks (max n0 n') (jn (g p.1) (f p.1)) p.2) ∧ (∀ k, k ∉ ms'.map (·.1) → jn (g k) (f k) = x0) := by
        intro k1 m1 g x0 n0 hk1 nd1 hks1 hne1 hm1 ho1
        have hkk : k1 = "merge" ∨ k1 = "build" := by rcases hk1 with h | h; exact .inl h.1; exact .inr h.1
        have hmis : Ef ks 1 x0 (misD k1) := by
          unfold misD
          rcases hk1 with ⟨rfl, rfl⟩ | ⟨rfl, rfl⟩
          · rw [if_pos rfl]; exact .keep
          · rw [if_neg (by decide +kernel)]; exact .drop
        have hcur : ∀ p : Str × D, Ef ks (max n0 1) (g p.1) (curD k1 m1 p) := fun p => by
          unfold curD
          cases hl : lkE m1 p.1 with
          | none =>
            rw [ho1 p.1 (lkE_none.mp hl)]
            exact hmis.mono (by omega)
          | some d =>
            have := hm1 _ (lkE_mem hl)
            exact this.mono (by omega)
        have hj : ∀ p ∈ ms, ∃ r, G_joined m [curD k1 m1 p, p.2] = some r ∧ r.toD = some (jD m (curD k1 m1 p) p.2) ∧ Ef ks (max n0 n') (jn (g p.1) (f p.1)) (jD m (curD k1 m1 p) p.2) := fun p hp => by
          obtain ⟨r, x, h1, h2, _, h3⟩ := joined_spec h32 (m := m) (hcur p) (hm' p hp) (by omega)
          rw [jD_of h1 h2]
          have := (hm' p hp).pos
          exact ⟨r, h1, h2, h3.mono (by omega)⟩
        let l : List (Str × D) := mapV (fun p => jD m (curD k1 m1 p) p.2) ms ++ m1.filter (outE ms)
        have out : ∀ p ∈ m1.filter (outE ms), p ∈ m1 ∧ p.1 ∉ ms.map (·.1) := fun p hp => by
          obtain ⟨h1, h2⟩ := List.mem_filter.mp hp
          refine ⟨h1, lkE_none.mp ?_⟩
          unfold outE at h2
          exact Option.isNone_iff_eq_none.mp h2
        have ndl : ND l := by
          unfold ND
          rw [List.map_append, mapV_keys]
          refine List.nodup_append.mpr ⟨nd, nd_filter nd1, fun a ha b hb => ?_⟩
          obtain ⟨p, hp, rfl⟩ := List.mem_map.mp hb
          intro e
          exact (out p hp).2 (e ▸ ha)
        have kl : ∀ p ∈ l, p.1 ∈ ks := fun p hp => by
          rcases List.mem_append.mp hp with h | h
          · obtain ⟨q, hq, rfl⟩ := mem_mapV.mp h
            exact hk q hq
          · exact hks1 p (out p h).1
        have el : ∀ p ∈ l, Ef ks (max n0 n') (jn (g p.1) (f p.1)) p.2 := fun p hp => by
          rcases List.mem_append.mp hp with h | h
          · obtain ⟨q, hq, rfl⟩ := mem_mapV.mp h
            exact (hj q hq).choose_spec.2.2
          · obtain ⟨h1, h2⟩ := out p h
            rw [ho p.1 h2, jn_keep]
            exact (hm1 p h1).mono (by omega)
        have ol : ∀ k, k ∉ l.map (·.1) → jn (g k) (f k) = x0 := fun k hkl => by
          rw [List.map_append, mapV_keys, List.mem_append, not_or] at hkl
          rw [ho k hkl.1, jn_keep]
          refine ho1 k fun h => hkl.2 ?_
          obtain ⟨p, hp, rfl⟩ := List.mem_map.mp h
          refine List.mem_map.mpr ⟨p, List.mem_filter.mpr ⟨hp, ?_⟩, rfl⟩
          unfold outE
          rw [lkE_none.mpr hkl.1]
          rfl
        have hlen : m1.length + ms.length < 64 := by
          have := len_ks nd hk
          have := len_ks nd1 hks1
          omega
        have fin : ND (sumE k1 m1 ms (jD m)) ∧ (∀ p ∈ sumE k1 m1 ms (jD m), p ∈ l) ∧ (∀ p ∈ sumE k1 m1 ms (jD m), jn (g p.1) (f p.1) ≠ x0) ∧ (∀ k, k ∉ (sumE k1 m1 ms (jD m)).map (·.1) → jn (g k) (f k) = x0) := by
          unfold sumE
          rcases hk1 with ⟨rfl, rfl⟩ | ⟨rfl, rfl⟩
          · simp only
            rw [if_neg (by decide +kernel)]
            refine ⟨ndl, fun p hp => hp, fun p hp => ?_, ol⟩
            rcases List.mem_append.mp hp with h | h
            · obtain ⟨q, hq, rfl⟩ := mem_mapV.mp h
              exact jn_ne (hne q hq)
            · obtain ⟨h1, h2⟩ := out p h
              rw [ho p.1 h2, jn_keep]
              exact hne1 p h1
          · simp only
            rw [if_pos trivial]
            refine ⟨nd_filter ndl, fun p hp => (List.mem_filter.mp hp).1, fun p hp hd => ?_, fun k hkl => ?_⟩
            · obtain ⟨h1, h2⟩ := List.mem_filter.mp hp
              rw [(isDrop_ef (el p h1)).mpr hd] at h2
              cases h2
            · by_cases hkl2 : k ∈ l.map (·.1)
              · obtain ⟨p, hp, rfl⟩ := List.mem_map.mp hkl2
                apply Classical.byContradiction
                intro hd
                refine hkl (List.mem_map.mpr ⟨p, List.mem_filter.mpr ⟨hp, ?_⟩, rfl⟩)
                have : isDropD p.2 = false := by
                  cases hb : isDropD p.2 with
                  | false => rfl
                  | true => exact absurd ((isDrop_ef (el p hp)).mp hb) hd
                rw [this]
                rfl
              · exact ol k hkl2
        refine ⟨sumE k1 m1 ms (jD m), joined_into m hkk nd1 nd hlen (J := jD m) (fun p hp => ?_) (fun _ p hp => (el p hp).shape) fin.1, fin.1, fun p hp => kl p (fin.2.1 p hp), fin.2.2.1, fun p hp => el p (fin.2.1 p hp), fin.2.2.2⟩
        obtain ⟨r, h1, h2, _⟩ := hj p hp
        exact ⟨r, h1, h2⟩
      cases h with
      | @keep n =>
        exact ⟨_, _, joined_first m, rfl, rfl, by show Ef ks _ (.merge f) _; exact whole.mono (by omega)⟩
      | @drop n =>
        obtain ⟨r, x, h1, h2, h3, _, h5⟩ := built_spec h32 (m := m) whole (by omega)
        exact ⟨r, x, joined_gone m (.inr rfl) h1, h2, h3, (h5 (by simp [bu])).mono (by omega)⟩
      | @set n a ha =>
        obtain ⟨r, x, h1, h2, h3, _, h5⟩ := built_spec h32 (m := m) whole (by omega)
        exact ⟨r, x, joined_gone m (.inl rfl) h1, h2, h3, (h5 (by simp [bu])).mono (by omega)⟩
      | @merge n g m1 nd1 so1 hk1 hne1 hm1 ho1 =>
        obtain ⟨ms', h1, h2, h3, h4, h5, h6⟩ := into "merge" m1 g .keep n (.inl ⟨rfl, rfl⟩) nd1 hk1 hne1 hm1 ho1
        exact ⟨_, _, h1, effA_toD _ _ _, rfl, (Ef.mkM (m := fun k => jn (g k) (f k)) h2 h3 h4 h5 h6).mono (by omega)⟩
      | @build n g m1 nd1 so1 hk1 hne1 hm1 ho1 =>
        obtain ⟨ms', h1, h2, h3, h4, h5, h6⟩ := into "build" m1 g .drop n (.inr ⟨rfl, rfl⟩) nd1 hk1 hne1 hm1 ho1
        exact ⟨_, _, h1, effA_toD _ _ _, rfl, (Ef.mkB (m := fun k => jn (g k) (f k)) h2 h3 h4 h5 h6).mono (by omega)⟩
end Tw
end
section
set_option maxRecDepth 100000
set_option maxHeartbeats 4000000
/-! the effect of a row; == of effects -/
namespace Tw
open PySem PySem.Spec PyProof.Rows L2
variable {ks : List Str}

theorem steps_of (h32 : ks.length < 32) {k m : Nat} (hm : k + 1 < m) : ∀ {xs : List D} {n : Nat} {c : D} {e : E}, Ef ks n e c → (∀ x ∈ xs, DocK ks k x) → ∃ f, Steps m c xs f ∧ Ef ks (max n (k + 1)) ((xs.map den).foldl (fun e p => jn e (effR p)) e) f
  | [], n, c, e, h, _ => ⟨c, .nil, h.mono (by omega)⟩
  | x :: r, n, c, e, h, hx => by
    obtain ⟨r1, o, h1, h2, h3, h4⟩ := of_spec h32 (hx x List.mem_cons_self) (m := m) false (by omega)
    obtain ⟨r2, c', h5, h6, h7, h8⟩ := joined_spec h32 (m := m) h h4 hm
    obtain ⟨f, g1, g2⟩ := steps_of h32 hm h8 fun y hy => hx y (List.mem_cons_of_mem _ hy)
    exact ⟨f, .cons h1 h2 h5 h6 h7 g1, g2.mono (by omega)⟩
/-- a row that the package takes -/
structure Row (ks : List Str) (k : Nat) (xs : List D) : Prop where
  doc : ∀ x ∈ xs, DocK ks k x
  sum : (xs.map prtD).sum ≤ 200
theorem prt_pos (d : D) : 1 ≤ prtD d := by cases d <;> simp [prtD]
theorem prt_mem {xs : List D} {x : D} (h : x ∈ xs) : prtD x ≤ (xs.map prtD).sum := by
  induction xs with
  | nil => cases h
  | cons y r ih =>
    rw [List.map_cons, List.sum_cons]
    rcases List.mem_cons.mp h with rfl | h
    · omega
    · have := ih h; omega
theorem len_le_prt (xs : List D) : xs.length ≤ (xs.map prtD).sum := by
  induction xs with
  | nil => simp
  | cons y r ih =>
    rw [List.map_cons, List.sum_cons, List.length_cons]
    have := prt_pos y
    omega
theorem Row.doc8 (h32 : ks.length < 32) {k : Nat} {xs : List D} (h : Row ks k xs) (hk : k ≤ 8) : ∀ d ∈ xs, Doc 8 d ∧ prtD d ≤ 200 := fun d hd => ⟨((h.doc d hd).mono hk).doc h32, by have := prt_mem hd; have := h.sum; omega⟩
theorem whole_row (h32 : ks.length < 32) {k m : Nat} {L : D} {xs : List D} (hL : itemsOf L = some xs) (hm : k + 1 < m) (h : ∀ x ∈ xs, DocK ks k x) : ∃ a f, G_whole m [L] = some a ∧ a.toD = some f ∧ a.bor = false ∧ Ef ks (k + 1) (effs (xs.map den)) f := by
  obtain ⟨f, h1, h2⟩ := steps_of h32 hm (n := 1) (Ef.keep (ks := ks)) h
  obtain ⟨a, g1, g2, g3⟩ := whole_gen hL h1
  exact ⟨a, f, g3, g1, g2, h2.mono (by omega)⟩
theorem check_row (h32 : ks.length < 32) {k m : Nat} {L : D} {xs : List D} (hL : itemsOf L = some xs) (hm : 8 < m) (hk : k ≤ 8) (h : Row ks k xs) : G_check_row m [L] = some (.d .non) :=
  check_row_gen hL hm (h.doc8 h32 hk) h.sum (by have := len_le_prt xs; have := h.sum; omega)
theorem effect_row (h32 : ks.length < 32) {k m : Nat} {L : D} {xs : List D} (hL : itemsOf L = some xs) (hm : k + 1 < m) (h8 : 8 < m) (hk : k ≤ 8) (h : Row ks k xs) : ∃ a f, G_effect m [L] = some a ∧ a.toD = some f ∧ a.bor = false ∧ Ef ks (k + 1) (effs (xs.map den)) f := by
  obtain ⟨f, h1, h2⟩ := steps_of h32 hm (n := 1) (Ef.keep (ks := ks)) h.doc
  obtain ⟨a, g1, g2, g3⟩ := effect_gen hL h8 (h.doc8 h32 hk) h.sum (by have := len_le_prt xs; have := h.sum; omega) h1
  exact ⟨a, f, g3, g1, g2, h2.mono (by omega)⟩
/-! ### == of effects -/
mutual
/-- data in which == is being one -/
def pureD : D → Bool
  | .non => true
  | .int _ => true
  | .str _ => true
  | .tup xs => pures xs
  | _ => false
def pures : List D → Bool
  | [] => true
  | d :: r => pureD d && pures r
end
theorem pure_kn {a : D} (h : pureD a = true) : kn a ≤ 2 := by cases a <;> first | (simp [pureD] at h; done) | simp [kn]
mutual
theorem eqO_pure : ∀ {a b : D}, pureD a = true → pureD b = true → ∃ r, eqO a b = some r ∧ (r = true ↔ a = b)
  | .non, b, ha, hb => ⟨_, eqO_sc rfl (by have := pure_kn hb; omega), by cases b <;> first | (simp [pureD] at hb; done) | simp [eqB]⟩
  | .int _, b, ha, hb => ⟨_, eqO_sc rfl (by have := pure_kn hb; omega), by cases b <;> first | (simp [pureD] at hb; done) | simp [eqB]⟩
  | .str _, b, ha, hb => ⟨_, eqO_sc rfl (by have := pure_kn hb; omega), by cases b <;> first | (simp [pureD] at hb; done) | simp [eqB]⟩
  | .tup xs, b, ha, hb => by
    cases b with
    | tup ys =>
      obtain ⟨r, e1, e2⟩ := eqOs_pure (xs := xs) (ys := ys) (by simpa [pureD] using ha) (by simpa [pureD] using hb)
      refine ⟨r && decide (xs.length = ys.length), by unfold eqO; simp only; rw [e1]; rfl, ?_⟩
      rw [Bool.and_eq_true, decide_eq_true_iff, D.tup.injEq]
      constructor
      · rintro ⟨h1, h2⟩
        have := e2.mp h1
        rw [h2, List.take_length] at this
        rw [← List.take_length (l := xs), h2, this]
      · intro e
        subst e
        refine ⟨e2.mpr rfl, rfl⟩
    | _ => exact ⟨false, by first | (simp [pureD] at hb; done) | simp [eqO, kn], by simp⟩
  | .bl _, b, ha, hb => by simp [pureD] at ha
  | .lst _, b, ha, hb => by simp [pureD] at ha
  | .pr _, b, ha, hb => by simp [pureD] at ha
  | .dic _, b, ha, hb => by simp [pureD] at ha
  | .ins _ _, b, ha, hb => by simp [pureD] at ha
theorem eqOs_pure : ∀ {xs ys : List D}, pures xs = true → pures ys = true → ∃ r, eqOs xs ys = some r ∧ (r = true ↔ xs.take ys.length = ys.take xs.length)
  | [], ys, _, _ => ⟨true, by unfold eqOs; rfl, by simp⟩
  | x :: r, [], _, _ => ⟨true, by unfold eqOs; rfl, by simp⟩
  | x :: r, y :: t, hx, hy => by
    unfold pures at hx hy
    rw [Bool.and_eq_true] at hx hy
    obtain ⟨b, e1, e2⟩ := eqO_pure hx.1 hy.1
    obtain ⟨c, e3, e4⟩ := eqOs_pure hx.2 hy.2
    refine ⟨b && c, by unfold eqOs; simp only; rw [e1, e3]; rfl, ?_⟩
    rw [Bool.and_eq_true, e2, e4, List.length_cons, List.length_cons, List.take_succ_cons, List.take_succ_cons, List.cons.injEq]
end
theorem pures_all : ∀ {xs : List D}, pures xs = true ↔ ∀ d ∈ xs, pureD d = true
  | [] => by simp [pures]
  | d :: r => by
    unfold pures
    rw [Bool.and_eq_true, pures_all]
    simp
/-- the facts of an effect -/
inductive Fc : D → D → Prop
  | mk {k : Str} {a : D} {ms : List (Str × D)} {g : Str × D → D} (h : ∀ p ∈ ms, Fc p.2 (g p)) : Fc (effD k a ms) (.tup [.str k, a, .tup (ms.map fun p => .tup [.str p.1, g p])])
theorem Fc.inj {d f : D} (h : Fc d f) : ∀ {d' : D}, Fc d' f → d = d' := by
  induction h with
  | @mk k a ms g h ih =>
    intro d' h'
    generalize hx : D.tup [.str k, a, .tup (ms.map fun p => .tup [.str p.1, g p])] = x at h'
    cases h' with
    | @mk k' a' ms' g' h' =>
      simp only [D.tup.injEq, List.cons.injEq, D.str.injEq, and_true] at hx
      obtain ⟨rfl, rfl, hx⟩ := hx
      have : ms = ms' := by
        clear h
        induction ms generalizing ms' with
        | nil => cases ms' with
          | nil => rfl
          | cons _ _ => simp at hx
        | cons p r ihl => cases ms' with
          | nil => simp at hx
          | cons q t =>
            simp only [List.map_cons, List.cons.injEq, D.tup.injEq, D.str.injEq, and_true] at hx
            obtain ⟨⟨e1, e2⟩, e3⟩ := hx
            have := ih p List.mem_cons_self (d' := q.2) (by rw [e2]; exact h' q List.mem_cons_self)
            have e : p = q := Prod.ext e1 this
            rw [e, ihl (fun p hp => ih p (List.mem_cons_of_mem _ hp)) (fun p hp => h' p (List.mem_cons_of_mem _ hp)) e3]
      rw [this]
theorem atom_fr {a : D} (ha : atomB a = true) : dataD (frA a) = true ∧ hgt (frA a) ≤ 3 := by
  rcases atom_cases ha with pa | ⟨xs, rfl⟩
  · cases a <;> first | (cases pa; done) | exact ⟨rfl, by simp [frA, hgt]⟩
  · obtain ⟨h1, _⟩ := atom_lst ha
    refine ⟨?_, ?_⟩
    · show datas xs = true
      exact datas_all.mpr fun d hd => by
        have := h1 d hd
        cases d <;> first | (cases this; done) | rfl
    · have : hgts xs ≤ 0 := hgts_le fun d hd => by
        have := h1 d hd
        cases d <;> first | (cases this; done) | simp [hgt]
      simp [frA, hgt]
      omega
theorem Ef.effT (h32 : ks.length < 32) {n : Nat} {e : E} {d : D} (h : Ef ks n e d) : EffT n d := by
  induction h with
  | keep => exact .mk rfl (by simp [hgt]) (by simp) (fun p hp => by cases hp)
  | drop => exact .mk rfl (by simp [hgt]) (by simp) (fun p hp => by cases hp)
  | set h => exact .mk (atom_fr h).1 (atom_fr h).2 (by simp) (fun p hp => by cases hp)
  | merge nd so hk hne hm ho ih => exact .mk rfl (by simp [hgt]) (by have := len_ks nd hk; omega) ih
  | build nd so hk hne hm ho ih => exact .mk rfl (by simp [hgt]) (by have := len_ks nd hk; omega) ih
theorem pure_frA {a : D} (ha : atomB a = true) : pureD (frA a) = true := by
  rcases atom_cases ha with pa | ⟨xs, rfl⟩
  · cases a <;> first | (cases pa; done) | rfl
  · show pures xs = true
    exact pures_all.mpr fun d hd => by
      have := (atom_lst ha).1 d hd
      cases d <;> first | (cases this; done) | rfl
/-- the facts of an effect, one level -/
theorem facts_at {m n : Nat} {k : Str} {a : D} {ms : List (Str × D)} {g : Str × D → D} (h : EffT (n + 1) (effD k a ms)) (hg : ∀ p ∈ ms, G_Effect_facts m [p.2] = some (.d (g p))) :
    G_Effect_facts (m + 1) [effD k a ms] = some (.d (.tup [.str k, a, .tup (ms.map fun p => .tup [.str p.1, g p])])) := by
  have h64 : ms.length < 64 := by
    generalize hx : effD k a ms = x at h
    cases h with
    | mk ha hh h64 hm => rw [(effD_inj hx).2.2]; exact h64
  have hm : ∀ p ∈ ms, EffT n p.2 := by
    generalize hx : effD k a ms = x at h
    cases h with
    | mk ha hh h64 hm => rw [(effD_inj hx).2.2]; exact hm
  show run0 3 1 _ _ = _
  unfold run0
  let R : Ro := [some (.d (effD k a ms)), none, none]
  rw [if_pos (by rfl), show ro0 3 [effD k a ms] = R from rfl]
  have f0 : fldE "Effect" "kind" (.pk 0) R = some (.d (.str k), R) := fld_kind (s := .inr 0) rfl rfl
  have f1 : fldE "Effect" "atom" (.pk 0) R = some (.d a, R) := fld_atom (s := .inr 0) rfl rfl
  have f2 : fldE "Effect" "members" (.pk 0) R = some (.d (.tup (ms.map pairE)), R) := fld_mem (s := .inr 0) rfl rfl
  have hms : ∀ p ∈ ms, ∃ k' a' ms', p.2 = effD k' a' ms' := fun p hp => by
    cases h : p.2 <;> have := hm p hp <;> rw [h] at this <;> cases this
    exact ⟨_, _, _, rfl⟩
  have e1 : lcE (seqW (fldE "Effect" "members" (.pk 0))) (tupG 2 (consG (nameG 1) (consG (nameG 2) nilG))) tstY (tupE [(.ev (var 1)), (.ev (methE "Effect" "facts" (var 2) [] (G_Effect_facts m)))]) [1, 2] R = some (.l false (ms.map fun p => .tup [.str p.1, g p]), R) := by
    unfold lcE
    rw [show seqW (fldE "Effect" "members" (.pk 0)) R = some (ms.map pairE, R) by simp [seqW, dv, f2, toD_d, itemsOf]]
    simp only [Option.bind_some]
    rw [show forget [1, 2] R = some R by simp [forget, okOld, at_, R]]
    rw [Option.bind_some, lcL_map (h := fun d => match d with | .tup [.str k, v] => .tup [.str k, g (k, v)] | _ => .non) (fun d hd => ?_) (by simp; omega)]
    · simp [List.map_map, Function.comp_def, pairE]
    · obtain ⟨p, hp, rfl⟩ := List.mem_map.mp hd
      have g1 := hg p hp
      obtain ⟨k', a', ms', hv⟩ := hms p hp
      have g1' := g1
      rw [hv] at g1'
      refine ⟨[some (.d (effD k a ms)), some (.d (.str p.1)), some (.d p.2)], _, [some (.d (effD k a ms)), some (.d (.str p.1)), some (.d p.2)], ?_, rfl, ?_, ?_⟩
      · simp [tupG, pairE, consG, nameG, okOld, at_, nilG, R]
      · have hme : methE "Effect" "facts" (var 2) [] (G_Effect_facts m) [some (.d (effD k a ms)), some (.d (.str p.1)), some (.d p.2)] = some (.d (g p), [some (.d (effD k a ms)), some (.d (.str p.1)), some (.d p.2)]) := by
          rw [hv]
          unfold methE
          rw [show dv (var 2) [some (.d (effD k a ms)), some (.d (.str p.1)), some (.d (effD k' a' ms'))] = some (effD k' a' ms', [some (.d (effD k a ms)), some (.d (.str p.1)), some (.d (effD k' a' ms'))]) by simp [dv, var, at_, toD_d]]
          simp only [Option.bind_some, insD, effD, lk_facts, and_self, if_true, evs, onlyD]
          rw [show G_Effect_facts m [.ins "Effect" [("kind", .str k'), ("atom", a'), ("members", .tup (ms'.map pairE))]] = some (.d (g p)) from g1']
          rfl
        simp [dv, tupE, evs, ev1, var, at_, toD_d, onlyD, hme, pairE]
      · simp [forget, okOld, at_, A.bor, R]
  simp [S_Effect_facts, retS, tupE, evs, ev1, dv, f0, f1, toD_d, app, e1, toD_l, ress, res, tupleD, onlyD]
theorem facts_ef (h32 : ks.length < 32) {n : Nat} {e : E} {d : D} (h : Ef ks n e d) : ∀ {m : Nat}, n ≤ m → ∃ f : D, G_Effect_facts m [d] = some (.d f) ∧ Fc d f ∧ pureD f = true ∧ hgt f ≤ 3 * n + 3 := by
  have key : ∀ {m n : Nat} {k : Str} {a : D} {ms : List (Str × D)}, pureD a = true → hgt a ≤ 3 → (∀ p ∈ ms, ∃ f : D, G_Effect_facts m [p.2] = some (.d f) ∧ Fc p.2 f ∧ pureD f = true ∧ hgt f ≤ 3 * n + 3) → EffT (n + 1) (effD k a ms) → n ≤ m →
      ∃ f : D, G_Effect_facts (m + 1) [effD k a ms] = some (.d f) ∧ Fc (effD k a ms) f ∧ pureD f = true ∧ hgt f ≤ 3 * (n + 1) + 3 := by
    intro m n k a ms ha hha hms hT hmn
    obtain ⟨g, hg⟩ := choose_mem hms
    have e1 := facts_at (m := m) (g := g) hT fun p hp => (hg p hp).1
    refine ⟨_, e1, .mk fun p hp => (hg p hp).2.1, ?_, ?_⟩
    · have : pures (ms.map fun p => D.tup [.str p.1, g p]) = true := pures_all.mpr fun d hd => by
        obtain ⟨p, hp, rfl⟩ := List.mem_map.mp hd
        simp [pureD, pures, (hg p hp).2.2.1]
      simp [pureD, pures, ha, this]
    · have h3 : hgts (ms.map fun p => D.tup [.str p.1, g p]) ≤ 3 * n + 4 := hgts_le fun d hd => by
        obtain ⟨p, hp, rfl⟩ := List.mem_map.mp hd
        have := (hg p hp).2.2.2
        simp [hgt, hgts]
        omega
      simp [hgt, hgts]
      omega
  have T := h.effT h32
  induction h with
  | keep => intro m hm; obtain ⟨m', rfl⟩ : ∃ m', m = m' + 1 := ⟨m - 1, by omega⟩; exact key rfl (by simp [hgt]) (fun p hp => by cases hp) T (by omega)
  | drop => intro m hm; obtain ⟨m', rfl⟩ : ∃ m', m = m' + 1 := ⟨m - 1, by omega⟩; exact key rfl (by simp [hgt]) (fun p hp => by cases hp) T (by omega)
  | set h => intro m hm; obtain ⟨m', rfl⟩ : ∃ m', m = m' + 1 := ⟨m - 1, by omega⟩; exact key (pure_frA h) (atom_fr h).2 (fun p hp => by cases hp) T (by omega)
  | merge nd so hk hne hm ho ih => intro m hm'; obtain ⟨m', rfl⟩ : ∃ m', m = m' + 1 := ⟨m - 1, by omega⟩; exact key rfl (by simp [hgt]) (fun p hp => ih p hp ((hm p hp).effT h32) (m := m') (by omega)) T (by omega)
  | build nd so hk hne hm ho ih => intro m hm'; obtain ⟨m', rfl⟩ : ∃ m', m = m' + 1 := ⟨m - 1, by omega⟩; exact key rfl (by simp [hgt]) (fun p hp => ih p hp ((hm p hp).effT h32) (m := m') (by omega)) T (by omega)
/-- == of two effects -/
theorem eqU_ef (h32 : ks.length < 32) {m n n' : Nat} {e e' : E} {d d' : D} (h : Ef ks n e d) (h' : Ef ks n' e' d') (hn : n ≤ m) (hn' : n' ≤ m) (h30 : n ≤ 30) : ∃ r, G_EffectU_eqU m [d, d'] = some (.d (.bl r)) ∧ (r = true ↔ e = e') := by
  obtain ⟨f, e1, c1, p1, g1⟩ := facts_ef h32 h hn
  obtain ⟨f', e2, c2, p2, g2⟩ := facts_ef h32 h' hn'
  obtain ⟨r, e3, e4⟩ := eqO_pure p1 p2
  obtain ⟨k, a, ms, rfl⟩ := h.shape
  obtain ⟨k', a', ms', rfl⟩ := h'.shape
  refine ⟨r, ?_, ?_⟩
  · unfold G_EffectU_eqU run0
    let R : Ro := [some (.d (effD k a ms)), some (.d (effD k' a' ms'))]
    rw [if_pos (by rfl), show ro0 2 [effD k a ms, effD k' a' ms'] = R from rfl]
    have me0 : methE "Effect" "facts" (var 0) [] (G_Effect_facts m) R = some (.d f, R) := by
      unfold methE
      rw [show dv (var 0) R = some (effD k a ms, R) by simp [dv, var, at_, toD_d, R]]
      simp only [Option.bind_some, insD, effD, lk_facts, and_self, if_true, evs, onlyD]
      rw [show G_Effect_facts m [.ins "Effect" [("kind", .str k), ("atom", a), ("members", .tup (ms.map pairE))]] = some (.d f) from e1]
      rfl
    have me1 : methE "Effect" "facts" (var 1) [] (G_Effect_facts m) R = some (.d f', R) := by
      unfold methE
      rw [show dv (var 1) R = some (effD k' a' ms', R) by simp [dv, var, at_, toD_d, R]]
      simp only [Option.bind_some, insD, effD, lk_facts, and_self, if_true, evs, onlyD]
      rw [show G_Effect_facts m [.ins "Effect" [("kind", .str k'), ("atom", a'), ("members", .tup (ms'.map pairE))]] = some (.d f') from e2]
      rfl
    have hi : isiI "Effect" (.pk 1) R = some (.d (.bl true), R) := by simp [isiI, ev1, at_, res, peek, A.toP, insD, effD, R]
    have he : eqG f f' = some (.d (.bl r)) := by
      unfold eqG
      rw [if_pos (by omega), e3]
      rfl
    simp [S_EffectU_eqU, retS, andV, asB, hi, bin, ev1, dv, me0, me1, toD_d, res, he]
  · rw [e4]
    constructor
    · intro e
      subst e
      have := c1.inj c2
      rw [← this] at h'
      exact h.inj h'
    · intro e
      subst e
      have := h.uniq h'
      rw [← this] at e2
      rw [e1] at e2
      cases e2
      rfl
theorem eqI_ef (h32 : ks.length < 32) {m n n' : Nat} {e e' : E} {d d' : D} (h : Ef ks n e d) (h' : Ef ks n' e' d') (hn : n ≤ m) (hn' : n' ≤ m) (h30 : n ≤ 30) (neg : Bool) : ∃ r, eqI "Effect" (G_EffectU_eqU m) neg d d' = some (.d (.bl (if neg = true then !r else r))) ∧ (r = true ↔ e = e') := by
  obtain ⟨r, e1, e2⟩ := eqU_ef h32 h h' hn hn' h30
  obtain ⟨k, a, ms, rfl⟩ := h.shape
  obtain ⟨k', a', ms', rfl⟩ := h'.shape
  refine ⟨r, ?_, e2⟩
  unfold eqI
  simp only [effD, insD, Option.bind_some, and_self, if_true]
  rw [show G_EffectU_eqU m [.ins "Effect" [("kind", .str k), ("atom", a), ("members", .tup (ms.map pairE))], .ins "Effect" [("kind", .str k'), ("atom", a'), ("members", .tup (ms'.map pairE))]] = some (.d (.bl r)) from e1]
  rfl
end Tw
end
section
set_option maxRecDepth 100000
set_option maxHeartbeats 4000000
/-! keys and depth of an effect as it stands in the program -/
namespace Tw
open PySem PySem.Spec PyProof.Rows L2
variable {ks : List Str}
theorem Ef.on {n : Nat} {e : E} {d : D} (h : Ef ks n e d) : ∀ {p : List Str}, onE p e → p.length < n ∧ ∀ k ∈ p, k ∈ ks := by
  induction h with
  | keep => intro p hp; cases p with
    | nil => simp
    | cons k r => exact hp.elim
  | drop => intro p hp; cases p with
    | nil => simp
    | cons k r => exact hp.elim
  | set h => intro p hp; cases p with
    | nil => simp
    | cons k r => exact hp.elim
  | @merge n m ms nd so hk hne hm ho ih =>
    intro p hp
    cases p with
    | nil => simp
    | cons k r =>
      obtain ⟨h1, h2⟩ := hp
      have hkm : k ∈ ms.map (·.1) := Classical.byContradiction fun h => h1 (ho k h)
      obtain ⟨q, hq, rfl⟩ := List.mem_map.mp hkm
      obtain ⟨h3, h4⟩ := ih q hq h2
      refine ⟨by rw [List.length_cons]; omega, fun j hj => ?_⟩
      rcases List.mem_cons.mp hj with rfl | hj
      · exact hk q hq
      · exact h4 j hj
  | @build n m ms nd so hk hne hm ho ih =>
    intro p hp
    cases p with
    | nil => simp
    | cons k r =>
      obtain ⟨h1, h2⟩ := hp
      have hkm : k ∈ ms.map (·.1) := Classical.byContradiction fun h => h1 (ho k h)
      obtain ⟨q, hq, rfl⟩ := List.mem_map.mp hkm
      obtain ⟨h3, h4⟩ := ih q hq h2
      refine ⟨by rw [List.length_cons]; omega, fun j hj => ?_⟩
      rcases List.mem_cons.mp hj with rfl | hj
      · exact hk q hq
      · exact h4 j hj
theorem Ef.noZ {n : Nat} {e : E} {d : D} (h : Ef ks n e d) {z : Str} (hz : z ∉ ks) : noZ z e := by
  induction h with
  | keep => trivial
  | drop => trivial
  | set h => trivial
  | @merge n m ms nd so hk hne hm ho ih =>
    refine ⟨ho z fun h => ?_, fun k => ?_⟩
    · obtain ⟨q, hq, rfl⟩ := List.mem_map.mp h
      exact hz (hk q hq)
    · by_cases hkm : k ∈ ms.map (·.1)
      · obtain ⟨q, hq, rfl⟩ := List.mem_map.mp hkm
        exact ih q hq
      · rw [ho k hkm]; trivial
  | @build n m ms nd so hk hne hm ho ih =>
    refine ⟨ho z fun h => ?_, fun k => ?_⟩
    · obtain ⟨q, hq, rfl⟩ := List.mem_map.mp h
      exact hz (hk q hq)
    · by_cases hkm : k ∈ ms.map (·.1)
      · obtain ⟨q, hq, rfl⟩ := List.mem_map.mp hkm
        exact ih q hq
      · rw [ho k hkm]; trivial
/-- the effect of a row, as it stands -/
theorem effs_ef (h32 : ks.length < 32) {k : Nat} {xs : List D} (h : ∀ x ∈ xs, DocK ks k x) : ∃ f, Ef ks (k + 1) (effs (xs.map den)) f := by
  obtain ⟨f, _, h2⟩ := steps_of h32 (k := k) (m := k + 2) (by omega) (n := 1) (Ef.keep (ks := ks)) h
  exact ⟨f, h2.mono (by omega)⟩
end Tw
end
section
set_option maxRecDepth 100000
set_option maxHeartbeats 4000000
/-! only the last occurrence of a patch counts -/
namespace Tw
open PySem PySem.Spec PyProof.Rows L2

theorem idem_eff : ∀ (p : T) (d : T), act (eff p) (act (eff p) d) = act (eff p) d
  | .miss, d => rfl
  | .atom a, d => by
    unfold eff
    split <;> rfl
  | .obj m, d => by
    show T.obj _ = T.obj _
    congr 1
    funext k
    exact idem_eff (m k) _
theorem idem_effR : ∀ (p : T) (d : T), act (effR p) (act (effR p) d) = act (effR p) d
  | .miss, d => rfl
  | .atom a, d => rfl
  | .obj m, d => idem_eff (.obj m) d
/-- what a patch does not tell apart stays so -/
theorem stab_eff : ∀ (p q : T) {d d' : T}, act (eff p) d = act (eff p) d' → act (eff p) (act (eff q) d) = act (eff p) (act (eff q) d')
  | .miss, q, d, d', h => by
    have : d = d' := h
    rw [this]
  | .atom a, q, d, d', h => by
    unfold eff
    split <;> rfl
  | .obj m, .miss, d, d', h => h
  | .obj m, .atom a, d, d', h => by
    have : act (eff (.atom a)) d = act (eff (.atom a)) d' := by
      unfold eff
      split <;> rfl
    rw [this]
  | .obj m, .obj n, d, d', h => by
    show T.obj _ = T.obj _
    congr 1
    funext k
    exact stab_eff (m k) (n k) (obj_inj h k)
theorem stab_effR (p q : T) {d d' : T} (h : act (effR p) d = act (effR p) d') : act (effR p) (act (effR q) d) = act (effR p) (act (effR q) d') := by
  cases p with
  | miss => have : d = d' := h; rw [this]
  | atom a => rfl
  | obj m =>
    cases q with
    | miss => exact h
    | atom a => rfl
    | obj n => exact stab_eff (.obj m) (.obj n) h
theorem stab_run (p : T) : ∀ (qs : List T) {d d' : T}, act (effR p) d = act (effR p) d' → act (effR p) (runT d qs) = act (effR p) (runT d' qs)
  | [], d, d', h => h
  | q :: r, d, d', h => stab_run p r (stab_effR p q h)
theorem runT_append (d : T) (ps qs : List T) : runT d (ps ++ qs) = runT (runT d ps) qs := by
  unfold runT
  rw [List.foldl_append]
theorem cover {p : T} {L : List T} (h : p ∈ L) (d : T) : runT (act (effR p) d) L = runT d L := by
  obtain ⟨l1, l2, rfl⟩ := List.append_of_mem h
  rw [runT_append, runT_append]
  have := stab_run p l1 (idem_effR p d)
  show runT (act (effR p) _) l2 = runT (act (effR p) _) l2
  rw [this]
/-- patches that come again later do not count -/
theorem cover_all : ∀ {ps : List T} {L : List T}, (∀ p ∈ ps, p ∈ L) → ∀ d : T, runT d (ps ++ L) = runT d L
  | [], L, _, d => rfl
  | p :: r, L, h, d => by
    show runT (act (effR p) d) (r ++ L) = _
    rw [cover_all (ps := r) (L := L) (fun q hq => h q (List.mem_cons_of_mem _ hq)), cover (h p List.mem_cons_self)]
/-- rows that do the same have one effect -/
theorem effs_ext {ks : List Str} (h32 : ks.length < 32) {z : Str} (hz : z ∉ ks) {k : Nat} {xs ys : List D} (hx : ∀ x ∈ xs, DocK ks k x) (hy : ∀ y ∈ ys, DocK ks k y) (h : ∀ t, runT t (xs.map den) = runT t (ys.map den)) : effs (xs.map den) = effs (ys.map den) := by
  obtain ⟨f, hf⟩ := effs_ef h32 hx
  obtain ⟨g, hg⟩ := effs_ef h32 hy
  apply Classical.byContradiction
  intro hne
  obtain ⟨p, t, _, _, hd⟩ := sep (S := fun _ => True) (z := z) ⟨⟨.int 0, .int 1, by simp, trivial, trivial⟩, trivial, ⟨.non, trivial⟩⟩ (wf_effs _) (wf_effs _) (hf.noZ hz) (hg.noZ hz) hne
  rw [act_effs, act_effs] at hd
  exact hd (h _)
end Tw
end
section
set_option maxRecDepth 100000
set_option maxHeartbeats 4000000
/-! a calculus for the evaluation functions: WP o Q says that o answers and that the answer has Q -/
namespace Tw
open PySem PySem.Spec PyProof.Rows L2

def WP {α : Type} (o : Option α) (Q : α → Prop) : Prop := ∃ x, o = some x ∧ Q x
section
variable {α β : Type}
theorem WP.mono {o : Option α} {P Q : α → Prop} (h : WP o P) (k : ∀ x, P x → Q x) : WP o Q := let ⟨x, e, p⟩ := h; ⟨x, e, k x p⟩
theorem WP.of {o : Option α} {x : α} {Q : α → Prop} (e : o = some x) (q : Q x) : WP o Q := ⟨x, e, q⟩
@[simp ↓] theorem WP_some {x : α} {Q : α → Prop} : WP (some x) Q ↔ Q x := ⟨fun ⟨y, e, q⟩ => by cases e; exact q, fun q => ⟨x, rfl, q⟩⟩
@[simp ↓] theorem WP_none {Q : α → Prop} : WP (none : Option α) Q ↔ False := ⟨fun h => let ⟨_, e, _⟩ := h; (nomatch e), False.elim⟩
@[simp ↓] theorem WP_bind {o : Option α} {f : α → Option β} {Q : β → Prop} : WP (o.bind f) Q ↔ WP o fun x => WP (f x) Q := by
  constructor
  · rintro ⟨y, e, q⟩
    obtain ⟨x, e1, e2⟩ := bind_some.mp e
    exact ⟨x, e1, y, e2, q⟩
  · rintro ⟨x, e1, y, e2, q⟩
    exact ⟨y, bind_some.mpr ⟨x, e1, e2⟩, q⟩
@[simp ↓] theorem WP_map {o : Option α} {f : α → β} {Q : β → Prop} : WP (o.map f) Q ↔ WP o fun x => Q (f x) := by
  constructor
  · rintro ⟨y, e, q⟩
    obtain ⟨x, e1, e2⟩ := map_some.mp e
    exact ⟨x, e1, show Q (f x) by rw [e2]; exact q⟩
  · rintro ⟨x, e1, q⟩
    exact ⟨f x, map_some.mpr ⟨x, e1, rfl⟩, q⟩
@[simp ↓] theorem WP_ite {c : Prop} [Decidable c] {a b : Option α} {Q : α → Prop} : WP (if c then a else b) Q ↔ (c → WP a Q) ∧ (¬ c → WP b Q) := by
  by_cases h : c
  · simp [h]
  · simp [h]
end
/-! ### slots -/
@[simp] theorem at_zero (x : Option A) (ρ : Ro) : at_ (x :: ρ) 0 = x := by cases x <;> rfl
@[simp] theorem at_succ (x : Option A) (ρ : Ro) (n : Nat) : at_ (x :: ρ) (n + 1) = at_ ρ n := rfl
@[simp] theorem toD_d' (x : D) : (A.d x).toD = some x := rfl
@[simp] theorem toD_l' (x : List D) : (A.l false x).toD = some (.lst x) := rfl
@[simp] theorem toD_k' (x : List (Key × D)) : (A.k false x).toD = some (.dic x) := rfl
@[simp] theorem bor_d (x : D) : (A.d x).bor = false := rfl
@[simp] theorem bor_l (b : Bool) (x : List D) : (A.l b x).bor = b := rfl
@[simp] theorem bor_k (b : Bool) (x : List (Key × D)) : (A.k b x).bor = b := rfl
@[simp] theorem bor_i (b : Bool) (c : Str) (x : List (Str × A)) : (A.i b c x).bor = b := rfl
@[simp] theorem toP_d (x : D) : (A.d x).toP = some x := rfl
@[simp] theorem toP_l (b : Bool) (x : List D) : (A.l b x).toP = some (.lst x) := rfl
@[simp] theorem toP_k (b : Bool) (x : List (Key × D)) : (A.k b x).toP = some (.dic x) := rfl
@[simp] theorem lend_l (b : Bool) (x : List D) : (A.l b x).lend = some (.l true x) := rfl
@[simp] theorem lend_k (b : Bool) (x : List (Key × D)) : (A.k b x).lend = some (.k true x) := rfl
@[simp] theorem mark_l (b c : Bool) (x : List D) : (A.l b x).mark c = .l c x := rfl
@[simp] theorem mark_k (b c : Bool) (x : List (Key × D)) : (A.k b x).mark c = .k c x := rfl
def okO (x : Option A) (n i : Nat) : Bool := match x with | some x => !x.bor | none => decide (i < n)
@[simp] theorem okOld_eq (ρ : Ro) (i : Nat) : okOld ρ i = okO (at_ ρ i) ρ.length i := rfl
@[simp] theorem okO_some (x : A) (n i : Nat) : okO (some x) n i = !x.bor := rfl
@[simp] theorem okO_none (n i : Nat) : okO none n i = decide (i < n) := rfl
section
variable {ρ : Ro}
@[simp ↓] theorem WP_dv {f : EF} {Q : D × Ro → Prop} : WP (dv f ρ) Q ↔ WP (f ρ) fun x => WP x.1.toD fun d => Q (d, x.2) := by unfold dv; simp only [WP_bind, WP_map]
@[simp ↓] theorem WP_ev {f : EF} {Q : Sum D Nat × Ro → Prop} : WP (ev1 (.ev f) ρ) Q ↔ WP (f ρ) fun x => WP x.1.toD fun d => Q (.inl d, x.2) := by unfold ev1; simp only [WP_map, WP_dv]
@[simp ↓] theorem WP_pk {i : Nat} {Q : Sum D Nat × Ro → Prop} : WP (ev1 (.pk i) ρ) Q ↔ (at_ ρ i).isSome = true ∧ Q (.inr i, ρ) := by
  unfold ev1
  by_cases h : (at_ ρ i).isSome = true
  · simp [h]
  · simp [h]
@[simp] theorem res_inl (d : D) : res ρ (.inl d) = some d := rfl
@[simp] theorem res_inr (i : Nat) : res ρ (.inr i) = (at_ ρ i).bind A.toP := rfl
@[simp ↓] theorem WP_res_inl {d : D} {Q : D → Prop} : WP (res ρ (.inl d)) Q ↔ Q d := by simp only [res_inl, WP_some]
@[simp ↓] theorem WP_res_inr {i : Nat} {Q : D → Prop} : WP (res ρ (.inr i)) Q ↔ WP (at_ ρ i) fun x => WP x.toP Q := by simp only [res_inr, WP_bind]
@[simp ↓] theorem WP_cst {x : D} {Q : A × Ro → Prop} : WP (cst x ρ) Q ↔ Q (.d x, ρ) := WP_some
@[simp ↓] theorem WP_var {i : Nat} {Q : A × Ro → Prop} : WP (var i ρ) Q ↔ WP (at_ ρ i) fun x => WP x.toD fun d => Q (.d d, ρ.set i (some (.d d))) := by unfold var; simp only [WP_bind, WP_map]
@[simp ↓] theorem WP_bin {o p : Opd} {op : D → D → Option A} {Q : A × Ro → Prop} : WP (bin o p op ρ) Q ↔ WP (ev1 o ρ) fun x => WP (ev1 p x.2) fun y => WP (res y.2 x.1) fun a => WP (res y.2 y.1) fun b => WP (op a b) fun r => Q (r, y.2) := by unfold bin; simp only [WP_bind, WP_map]
@[simp ↓] theorem WP_un {f : EF} {op : D → Option A} {Q : A × Ro → Prop} : WP (un f op ρ) Q ↔ WP (dv f ρ) fun x => WP (op x.1) fun r => Q (r, x.2) := by unfold un; simp only [WP_bind, WP_map]
@[simp ↓] theorem WP_evs_nil {Q : List (Sum D Nat) × Ro → Prop} : WP (evs [] ρ) Q ↔ Q ([], ρ) := WP_some
@[simp ↓] theorem WP_evs_cons {o : Opd} {r : List Opd} {Q : List (Sum D Nat) × Ro → Prop} : WP (evs (o :: r) ρ) Q ↔ WP (ev1 o ρ) fun x => WP (evs r x.2) fun y => Q (x.1 :: y.1, y.2) := by
  show WP ((ev1 o ρ).bind _) Q ↔ _
  simp only [WP_bind, WP_map]
@[simp] theorem onlyD_nil : onlyD [] = some [] := rfl
@[simp] theorem onlyD_inl (d : D) (r : List (Sum D Nat)) : onlyD (.inl d :: r) = (onlyD r).map fun y => d :: y := rfl
@[simp ↓] theorem WP_onlyD_nil {Q : List D → Prop} : WP (onlyD []) Q ↔ Q [] := WP_some
@[simp ↓] theorem WP_onlyD_inl {d : D} {r : List (Sum D Nat)} {Q : List D → Prop} : WP (onlyD (.inl d :: r)) Q ↔ WP (onlyD r) fun y => Q (d :: y) := by simp only [onlyD_inl, WP_map]
@[simp ↓] theorem WP_ress_nil {Q : List D → Prop} : WP (ress ρ []) Q ↔ Q [] := WP_some
@[simp ↓] theorem WP_ress_cons {a : Sum D Nat} {r : List (Sum D Nat)} {Q : List D → Prop} : WP (ress ρ (a :: r)) Q ↔ WP (res ρ a) fun x => WP (ress ρ r) fun y => Q (x :: y) := by
  show WP ((res ρ a).bind _) Q ↔ _
  simp only [WP_bind, WP_map]
@[simp ↓] theorem WP_app {os : List Opd} {op : List D → Option A} {Q : A × Ro → Prop} : WP (app os op ρ) Q ↔ WP (evs os ρ) fun x => WP (ress x.2 x.1) fun ds => WP (op ds) fun r => Q (r, x.2) := by unfold app; simp only [WP_bind, WP_map]
@[simp ↓] theorem WP_cal0 {os : List Opd} {F : F0} {Q : A × Ro → Prop} : WP (cal0 os F ρ) Q ↔ WP (evs os ρ) fun x => WP (onlyD x.1) fun ds => WP (F ds) fun r => Q (r, x.2) := by unfold cal0; simp only [WP_bind, WP_map]
@[simp ↓] theorem WP_cal1 {i : Nat} {os : List Opd} {F : F1} {Q : A × Ro → Prop} : WP (cal1 i os F ρ) Q ↔ WP (at_ ρ i) fun _ => WP (evs os ρ) fun x => WP (onlyD x.1) fun ds => WP (at_ x.2 i) fun a => WP a.lend fun l => WP (F l ds) fun y => y.2.bor = true ∧ Q (y.1, x.2.set i (some (y.2.mark a.bor))) := by
  unfold cal1
  simp only [WP_bind, WP_ite, WP_some, WP_none, imp_false, Classical.not_not]
  constructor
  · intro h
    refine h.mono fun _ h => h.mono fun _ h => h.mono fun _ h => h.mono fun _ h => h.mono fun _ h => h.mono fun y h => ⟨h.2, h.1 h.2⟩
  · intro h
    refine h.mono fun _ h => h.mono fun _ h => h.mono fun _ h => h.mono fun _ h => h.mono fun _ h => h.mono fun y h => ⟨fun _ => h.2, h.1⟩
@[simp ↓] theorem WP_lstE {os : List Opd} {Q : A × Ro → Prop} : WP (lstE os ρ) Q ↔ WP (evs os ρ) fun x => WP (onlyD x.1) fun ds => WP (if ds.length ≤ 16777216 then some (A.l false ds, x.2) else none) Q := by unfold lstE; simp only [WP_bind]
@[simp ↓] theorem WP_tupE {os : List Opd} {Q : A × Ro → Prop} : WP (tupE os ρ) Q ↔ WP (evs os ρ) fun x => WP (onlyD x.1) fun ds => WP (if ds.length ≤ 16777216 then some (A.d (.tup ds), x.2) else none) Q := by unfold tupE; simp only [WP_bind]
@[simp ↓] theorem WP_dic0 {Q : A × Ro → Prop} : WP (dic0 ρ) Q ↔ Q (.k false [], ρ) := WP_some
@[simp ↓] theorem WP_pairs_nil {Q : List (Key × D) × Ro → Prop} : WP (pairsE [] ρ) Q ↔ Q ([], ρ) := WP_some
@[simp ↓] theorem WP_pairs_cons {f g : EF} {r : List (EF × EF)} {Q : List (Key × D) × Ro → Prop} : WP (pairsE ((f, g) :: r) ρ) Q ↔ WP (dv f ρ) fun x => WP (toKey x.1) fun k => WP (dv g x.2) fun y => WP (pairsE r y.2) fun z => Q ((k, y.1) :: z.1, z.2) := by
  show WP ((dv f ρ).bind _) Q ↔ _
  simp only [WP_bind, WP_map]
@[simp ↓] theorem WP_dicE {ps : List (EF × EF)} {Q : A × Ro → Prop} : WP (dicE ps ρ) Q ↔ WP (pairsE ps ρ) fun x => WP (if x.1.length ≤ 15 then some (A.k false (mergeD [] x.1), x.2) else none) Q := by unfold dicE; simp only [WP_bind]
@[simp ↓] theorem WP_fldE {cn f : Str} {o : Opd} {Q : A × Ro → Prop} : WP (fldE cn f o ρ) Q ↔ WP (ev1 o ρ) fun x => WP (res x.2 x.1) fun d => WP (insD d) fun y => WP (if y.1 = cn then (y.2.lookup f).map fun r => (A.d r, x.2) else none) Q := by unfold fldE; simp only [WP_bind]
@[simp ↓] theorem WP_isiE {o : Opd} {T : String} {Q : A × Ro → Prop} : WP (isiE o T ρ) Q ↔ WP (ev1 o ρ) fun x => WP (res x.2 x.1) fun d => WP (tyD d) fun t => Q (.d (.bl (subT t T)), x.2) := by unfold isiE; simp only [WP_bind, WP_map]
@[simp ↓] theorem WP_getE {o p : Opd} {Q : A × Ro → Prop} : WP (getE o p ρ) Q ↔ WP (ev1 o ρ) fun x => WP (res x.2 x.1) fun d0 => WP (if isDic d0 = true then (ev1 p x.2).bind fun y => (res y.2 x.1).bind fun d => (dicD d).bind fun kvs => (res y.2 y.1).bind fun kd => (toKey kd).map fun k => (A.d ((Tw.getD kvs k).getD .non), y.2) else none) Q := by unfold getE; simp only [WP_bind]
@[simp ↓] theorem WP_appE {i : Nat} {p : Opd} {Q : A × Ro → Prop} : WP (appE i p ρ) Q ↔ WP (lstA (at_ ρ i)) fun _ => WP (ev1 p ρ) fun x => WP (inlD x.1) fun d => WP (lstA (at_ x.2 i)) fun y => WP (if y.2.length < 16777216 then some (A.d .non, x.2.set i (some (.l y.1 (y.2 ++ [d])))) else none) Q := by unfold appE; simp only [WP_bind]
@[simp] theorem lstA_l (b : Bool) (xs : List D) : lstA (some (.l b xs)) = some (b, xs) := rfl
@[simp ↓] theorem WP_lstA {b : Bool} {xs : List D} {Q : Bool × List D → Prop} : WP (lstA (some (.l b xs))) Q ↔ Q (b, xs) := WP_some
@[simp ↓] theorem WP_inlD {d : D} {Q : D → Prop} : WP (inlD (.inl d)) Q ↔ Q d := WP_some
@[simp] theorem isDic_dic (kvs : List (Key × D)) : isDic (.dic kvs) = true := rfl
@[simp] theorem dicD_dic (kvs : List (Key × D)) : dicD (.dic kvs) = some kvs := rfl
@[simp] theorem toKey_str (x : Str) : toKey (.str x) = some (.inr x) := rfl
@[simp] theorem toKey_int (x : Int) : toKey (.int x) = some (.inl x) := rfl
def lstD : D → Option (List D)
  | .lst xs => some xs
  | _ => none
@[simp] theorem lstD_lst (xs : List D) : lstD (.lst xs) = some xs := rfl
@[simp ↓] theorem WP_slL {o : Opd} {l h : Part} {Q : A × Ro → Prop} : WP (slL o l h ρ) Q ↔ WP (ev1 o ρ) fun x => WP (part l x.2) fun i => WP (part h i.2) fun j => WP (res j.2 x.1) fun d => WP (lstD d) fun xs => Q (.l false (cutD xs i.1 j.1), j.2) := by
  unfold slL
  simp only [WP_bind]
  refine iff_of_eq (congrArg _ (funext fun x => congrArg _ (funext fun i => congrArg _ (funext fun j => congrArg _ (funext fun d => ?_)))))
  cases d <;> simp [lstD]
@[simp ↓] theorem WP_part_no {Q : Option Int × Ro → Prop} : WP (part .no ρ) Q ↔ Q (none, ρ) := WP_some
def intO : D → Option Int
  | .int i => some i
  | _ => none
@[simp] theorem intO_int (i : Int) : intO (.int i) = some i := rfl
@[simp ↓] theorem WP_part_ev {f : EF} {Q : Option Int × Ro → Prop} : WP (part (.ev f) ρ) Q ↔ WP (dv f ρ) fun x => WP (intO x.1) fun i => Q (some i, x.2) := by
  unfold part
  simp only [WP_bind]
  refine iff_of_eq (congrArg _ (funext fun x => ?_))
  obtain ⟨d, ρ'⟩ := x
  cases d <;> simp [intO]
/-! ### tests -/
def blO : A → Option Bool
  | .d (.bl b) => some b
  | _ => none
@[simp] theorem blO_bl (b : Bool) : blO (.d (.bl b)) = some b := rfl
@[simp ↓] theorem WP_blO {b : Bool} {Q : Bool → Prop} : WP (blO (.d (.bl b))) Q ↔ Q b := WP_some
@[simp ↓] theorem WP_asB {f : EF} {Q : Bool × Ro → Prop} : WP (asB f ρ) Q ↔ WP (f ρ) fun x => WP (blO x.1) fun b => Q (b, x.2) := by
  unfold asB
  simp only [WP_bind]
  refine iff_of_eq (congrArg _ (funext fun x => ?_))
  obtain ⟨d, ρ'⟩ := x
  cases d with
  | d d => cases d <;> simp [blO]
  | _ => simp [blO]
@[simp ↓] theorem WP_notT {f : TF} {Q : Bool × Ro → Prop} : WP (notT f ρ) Q ↔ WP (f ρ) fun x => Q (!x.1, x.2) := by unfold notT; simp only [WP_map]
@[simp ↓] theorem WP_andT {f g : TF} {Q : Bool × Ro → Prop} : WP (andT f g ρ) Q ↔ WP (f ρ) fun x => (x.1 = true → WP (g x.2) Q) ∧ (x.1 = false → Q (false, x.2)) := by
  unfold andT; simp only [WP_bind, WP_ite, WP_some, Bool.not_eq_true]
@[simp ↓] theorem WP_orT {f g : TF} {Q : Bool × Ro → Prop} : WP (orT f g ρ) Q ↔ WP (f ρ) fun x => (x.1 = true → Q (true, x.2)) ∧ (x.1 = false → WP (g x.2) Q) := by
  unfold orT; simp only [WP_bind, WP_ite, WP_some, Bool.not_eq_true]
@[simp ↓] theorem WP_tstY {Q : Bool × Ro → Prop} : WP (tstY ρ) Q ↔ Q (true, ρ) := WP_some
@[simp ↓] theorem WP_toV {f : TF} {Q : A × Ro → Prop} : WP (toV f ρ) Q ↔ WP (f ρ) fun x => Q (.d (.bl x.1), x.2) := by unfold toV; simp only [WP_map]
@[simp ↓] theorem WP_ifE {t : TF} {f g : EF} {Q : A × Ro → Prop} : WP (ifE t f g ρ) Q ↔ WP (t ρ) fun x => (x.1 = true → WP (f x.2) Q) ∧ (x.1 = false → WP (g x.2) Q) := by
  unfold ifE; simp only [WP_bind, WP_ite, Bool.not_eq_true]
@[simp ↓] theorem WP_andV {f g : EF} {Q : A × Ro → Prop} : WP (andV f g ρ) Q ↔ WP (asB f ρ) fun x => (x.1 = true → WP (g x.2) Q) ∧ (x.1 = false → Q (.d (.bl false), x.2)) := by
  unfold andV; simp only [WP_bind, WP_ite, WP_some, Bool.not_eq_true]
@[simp ↓] theorem WP_orV {f g : EF} {Q : A × Ro → Prop} : WP (orV f g ρ) Q ↔ WP (asB f ρ) fun x => (x.1 = true → Q (.d (.bl true), x.2)) ∧ (x.1 = false → WP (g x.2) Q) := by
  unfold orV; simp only [WP_bind, WP_ite, WP_some, Bool.not_eq_true]
/-! ### statements -/
def seqK (g : SF) (Q : Out × Ro → Prop) : Out × Ro → Prop
  | (.nx, ρ) => WP (g ρ) Q
  | (o, ρ) => Q (o, ρ)
@[simp ↓] theorem seqK_nx {g : SF} {Q : Out × Ro → Prop} : seqK g Q (.nx, ρ) ↔ WP (g ρ) Q := Iff.rfl
@[simp ↓] theorem seqK_rt {g : SF} {Q : Out × Ro → Prop} {r : A} : seqK g Q (.rt r, ρ) ↔ Q (.rt r, ρ) := Iff.rfl
@[simp ↓] theorem seqK_bk {g : SF} {Q : Out × Ro → Prop} : seqK g Q (.bk, ρ) ↔ Q (.bk, ρ) := Iff.rfl
@[simp ↓] theorem seqK_ct {g : SF} {Q : Out × Ro → Prop} : seqK g Q (.ct, ρ) ↔ Q (.ct, ρ) := Iff.rfl
@[simp ↓] theorem WP_seqS {f g : SF} {Q : Out × Ro → Prop} : WP (seqS f g ρ) Q ↔ WP (f ρ) (seqK g Q) := by
  unfold seqS
  simp only [WP_bind]
  refine iff_of_eq (congrArg _ (funext fun x => ?_))
  obtain ⟨o, ρ'⟩ := x
  cases o <;> simp [seqK]
@[simp ↓] theorem WP_nxS {Q : Out × Ro → Prop} : WP (nxS ρ) Q ↔ Q (.nx, ρ) := WP_some
@[simp ↓] theorem WP_retS {f : EF} {Q : Out × Ro → Prop} : WP (retS f ρ) Q ↔ WP (f ρ) fun x => Q (.rt x.1, x.2) := by unfold retS; simp only [WP_map]
@[simp ↓] theorem WP_retN {Q : Out × Ro → Prop} : WP (retN ρ) Q ↔ Q (.rt (.d .non), ρ) := WP_some
@[simp ↓] theorem WP_retV {i : Nat} {Q : Out × Ro → Prop} : WP (retV i ρ) Q ↔ WP (at_ ρ i) fun x => x.bor = false ∧ Q (.rt x, ρ.set i none) := by
  unfold retV
  simp only [WP_bind, WP_ite, WP_some, WP_none, imp_false, Bool.not_eq_true]
  constructor
  · exact fun h => h.mono fun x h => ⟨h.1, h.2 h.1⟩
  · exact fun h => h.mono fun x h => ⟨h.1, fun _ => h.2⟩
@[simp ↓] theorem WP_exprS {f : EF} {Q : Out × Ro → Prop} : WP (exprS f ρ) Q ↔ WP (f ρ) fun x => Q (.nx, x.2) := by unfold exprS; simp only [WP_map]
@[simp ↓] theorem WP_ifS {t : TF} {f g : SF} {Q : Out × Ro → Prop} : WP (ifS t f g ρ) Q ↔ WP (t ρ) fun x => (x.1 = true → WP (f x.2) Q) ∧ (x.1 = false → WP (g x.2) Q) := by
  unfold ifS; simp only [WP_bind, WP_ite, Bool.not_eq_true]
@[simp ↓] theorem WP_setS {i : Nat} {f : EF} {Q : Out × Ro → Prop} : WP (setS i f ρ) Q ↔ WP (f ρ) fun x => okOld x.2 i = true ∧ Q (.nx, x.2.set i (some x.1)) := by
  unfold setS
  simp only [WP_bind, WP_ite, WP_some, WP_none, imp_false, Classical.not_not]
  constructor
  · exact fun h => h.mono fun x h => ⟨h.2, h.1 h.2⟩
  · exact fun h => h.mono fun x h => ⟨fun _ => h.2, h.1⟩
@[simp ↓] theorem WP_stS {i : Nat} {p : Opd} {f : EF} {Q : Out × Ro → Prop} : WP (stS i p f ρ) Q ↔ WP (dv f ρ) fun v => WP (at_ v.2 i) fun _ => WP (ev1 p v.2) fun j => WP (res j.2 j.1) fun jd => WP (putA (at_ j.2 i) jd v.1) fun x => Q (.nx, j.2.set i (some x)) := by unfold stS; simp only [WP_bind, WP_map]
@[simp ↓] theorem WP_parS {i j : Nat} {f g : EF} {Q : Out × Ro → Prop} : WP (parS i j (.ev f) (.ev g) ρ) Q ↔ WP (dv f ρ) fun x => WP (dv g x.2) fun y => okOld y.2 i = true ∧ okOld (y.2.set i (some (.d x.1))) j = true ∧ Q (.nx, (y.2.set i (some (.d x.1))).set j (some (.d y.1))) := by
  unfold parS
  simp only [WP_bind, WP_evs_cons, WP_ev, WP_evs_nil, WP_onlyD_inl, WP_onlyD_nil, WP_dv]
  refine iff_of_eq (congrArg _ (funext fun x => congrArg _ (funext fun d => congrArg _ (funext fun y => congrArg _ (funext fun e => ?_)))))
  refine propext ?_
  simp only [WP_ite, WP_some, WP_none, imp_false, Classical.not_not]
  constructor
  · rintro ⟨h1, h2⟩
    exact ⟨h2, (h1 h2).2, (h1 h2).1 (h1 h2).2⟩
  · rintro ⟨h1, h2, h3⟩
    exact ⟨fun _ => ⟨fun _ => h3, h2⟩, h1⟩
@[simp ↓] theorem WP_asgS {f : EF} {g : GF} {Q : Out × Ro → Prop} : WP (asgS f g ρ) Q ↔ WP (dv f ρ) fun x => WP (g x.1 x.2) fun ρ' => Q (.nx, ρ') := by unfold asgS; simp only [WP_bind, WP_map]
@[simp ↓] theorem WP_nameG {i : Nat} {d : D} {Q : Ro → Prop} : WP (nameG i d ρ) Q ↔ okOld ρ i = true ∧ Q (ρ.set i (some (.d d))) := by
  unfold nameG
  simp only [WP_ite, WP_some, WP_none, imp_false, Classical.not_not]
  exact ⟨fun h => ⟨h.2, h.1 h.2⟩, fun h => ⟨fun _ => h.2, h.1⟩⟩
@[simp ↓] theorem WP_tupG {n : Nat} {f : GsF} {ds : List D} {Q : Ro → Prop} : WP (tupG n f (.tup ds) ρ) Q ↔ ds.length = n ∧ WP (f ds ρ) Q := by
  show WP (if ds.length = n then f ds ρ else none) Q ↔ _
  simp only [WP_ite, WP_none, imp_false, Classical.not_not]
  exact ⟨fun h => ⟨h.2, h.1 h.2⟩, fun h => ⟨fun _ => h.2, h.1⟩⟩
@[simp ↓] theorem WP_tupGp {n : Nat} {f : GsF} {ds : List D} {Q : Ro → Prop} : WP (tupG n f (.pr ds) ρ) Q ↔ ds.length = n ∧ WP (f ds ρ) Q := by
  show WP (if ds.length = n then f ds ρ else none) Q ↔ _
  simp only [WP_ite, WP_none, imp_false, Classical.not_not]
  exact ⟨fun h => ⟨h.2, h.1 h.2⟩, fun h => ⟨fun _ => h.2, h.1⟩⟩
@[simp ↓] theorem WP_consG {f : GF} {g : GsF} {d : D} {r : List D} {Q : Ro → Prop} : WP (consG f g (d :: r) ρ) Q ↔ WP (f d ρ) fun ρ1 => WP (g r ρ1) Q := by
  show WP ((f d ρ).bind _) Q ↔ _
  simp only [WP_bind]
@[simp ↓] theorem WP_nilG {Q : Ro → Prop} : WP (nilG [] ρ) Q ↔ Q ρ := WP_some
@[simp ↓] theorem WP_forget_nil {Q : Ro → Prop} : WP (forget [] ρ) Q ↔ Q ρ := WP_some
@[simp ↓] theorem WP_forget_cons {i : Nat} {r : List Nat} {Q : Ro → Prop} : WP (forget (i :: r) ρ) Q ↔ okOld ρ i = true ∧ WP (forget r (ρ.set i none)) Q := by
  show WP (if okOld ρ i = true then forget r (ρ.set i none) else none) Q ↔ _
  simp only [WP_ite, WP_none, imp_false, Classical.not_not]
  exact ⟨fun h => ⟨h.2, h.1 h.2⟩, fun h => ⟨fun _ => h.2, h.1⟩⟩
def rt0K (Q : A → Prop) : Out × Ro → Prop
  | (.rt r, _) => Q r
  | (.nx, _) => Q (.d .non)
  | _ => False
@[simp ↓] theorem rt0K_rt {Q : A → Prop} {r : A} : rt0K Q (.rt r, ρ) ↔ Q r := Iff.rfl
@[simp ↓] theorem rt0K_nx {Q : A → Prop} : rt0K Q (.nx, ρ) ↔ Q (.d .non) := Iff.rfl
theorem WP_run0 {n np : Nat} {b : SF} {ds : List D} {Q : A → Prop} : WP (run0 n np b ds) Q ↔ ds.length = np ∧ WP (b (ro0 n ds)) (rt0K Q) := by
  unfold run0
  simp only [WP_ite, WP_none, imp_false, Classical.not_not, WP_bind]
  have : ∀ x : Out × Ro, WP (match x.1 with | .rt r => some r | .nx => some (A.d .non) | _ => none) Q ↔ rt0K Q x := fun ⟨o, ρ'⟩ => by cases o <;> simp [rt0K]
  constructor
  · exact fun h => ⟨h.2, (h.1 h.2).mono fun x hx => (this x).mp hx⟩
  · exact fun h => ⟨fun _ => h.2.mono fun x hx => (this x).mpr hx, h.1⟩
def rt1K (Q : A × A → Prop) : Out × Ro → Prop
  | (.rt r, ρ) => WP (at_ ρ 0) fun x => x.bor = true ∧ Q (r, x)
  | (.nx, ρ) => WP (at_ ρ 0) fun x => x.bor = true ∧ Q (.d .non, x)
  | _ => False
@[simp ↓] theorem rt1K_rt {Q : A × A → Prop} {r : A} : rt1K Q (.rt r, ρ) ↔ WP (at_ ρ 0) fun x => x.bor = true ∧ Q (r, x) := Iff.rfl
@[simp ↓] theorem rt1K_nx {Q : A × A → Prop} : rt1K Q (.nx, ρ) ↔ WP (at_ ρ 0) fun x => x.bor = true ∧ Q (.d .non, x) := Iff.rfl
theorem WP_run1 {n np : Nat} {b : SF} {x : A} {ds : List D} {Q : A × A → Prop} : WP (run1 n np b x ds) Q ↔ ds.length + 1 = np ∧ WP (b (ro1 n x ds)) (rt1K Q) := by
  unfold run1
  simp only [WP_ite, WP_none, imp_false, Classical.not_not, WP_bind]
  have : ∀ y : Out × Ro, WP (at_ y.2 0) (fun x' => (x'.bor = true → WP (match y.1 with | .rt r => some (r, x') | .nx => some (A.d .non, x') | _ => none) Q) ∧ x'.bor = true) ↔ rt1K Q y := fun ⟨o, ρ'⟩ => by
    cases o with
    | nx => exact ⟨fun h => h.mono fun x h => ⟨h.2, by simpa using h.1 h.2⟩, fun h => h.mono fun x h => ⟨fun _ => by simpa using h.2, h.1⟩⟩
    | rt r => exact ⟨fun h => h.mono fun x h => ⟨h.2, by simpa using h.1 h.2⟩, fun h => h.mono fun x h => ⟨fun _ => by simpa using h.2, h.1⟩⟩
    | bk => exact ⟨fun ⟨x, _, h⟩ => by simpa using h.1 h.2, False.elim⟩
    | ct => exact ⟨fun ⟨x, _, h⟩ => by simpa using h.1 h.2, False.elim⟩
  constructor
  · exact fun h => ⟨h.2, (h.1 h.2).mono fun x hx => (this x).mp hx⟩
  · exact fun h => ⟨fun _ => h.2.mono fun x hx => (this x).mpr hx, h.1⟩
@[simp] theorem ro1_eq (n : Nat) (x : A) (ds : List D) : ro1 n x ds = some x :: ro0 (n - 1) ds := rfl
@[simp] theorem ro0_eq (n : Nat) (ds : List D) : ro0 n ds = ds.map (fun d => some (.d d)) ++ List.replicate (n - ds.length) none := rfl
end
end Tw
end
section
set_option maxRecDepth 100000
set_option maxHeartbeats 4000000
/-! the calculus: operators, loops, comprehensions -/
namespace Tw
open PySem PySem.Spec PyProof.Rows L2

@[simp ↓] theorem WP_onII {C : Int → Int → Bool} {g : Int → Int → D} {i j : Int} {Q : A → Prop} : WP (onII C g (.int i) (.int j)) Q ↔ C i j = true ∧ Q (.d (g i j)) := by
  show WP (if C i j = true then some _ else none) Q ↔ _
  by_cases h : C i j = true <;> simp [h]
@[simp ↓] theorem WP_add_int {i j : Int} {Q : A → Prop} : WP (addX (.int i) (.int j)) Q ↔ Q (.d (.int (i + j))) := WP_some
@[simp ↓] theorem WP_add_lst {x y : List D} {Q : A → Prop} : WP (addX (.lst x) (.lst y)) Q ↔ x.length + y.length ≤ 16777216 ∧ Q (.l false (x ++ y)) := by
  have : addX (.lst x) (.lst y) = if x.length + y.length ≤ 16777216 then some (.l false (x ++ y)) else none := by
    show (none : Option A).or ((none : Option A).or ((if x.length + y.length ≤ 16777216 then some (A.l false (x ++ y)) else none).or none)) = _
    simp
  rw [this]
  by_cases h : x.length + y.length ≤ 16777216 <;> simp [h]
@[simp ↓] theorem WP_add_tup {x y : List D} {Q : A → Prop} : WP (addX (.tup x) (.tup y)) Q ↔ x.length + y.length ≤ 16777216 ∧ Q (.d (.tup (x ++ y))) := by
  have : addX (.tup x) (.tup y) = if x.length + y.length ≤ 16777216 then some (.d (.tup (x ++ y))) else none := by
    show (none : Option A).or ((none : Option A).or ((none : Option A).or (if x.length + y.length ≤ 16777216 then some (A.d (.tup (x ++ y))) else none))) = _
    simp
  rw [this]
  by_cases h : x.length + y.length ≤ 16777216 <;> simp [h]
@[simp ↓] theorem WP_add_str {x y : Str} {Q : A → Prop} : WP (addX (.str x) (.str y)) Q ↔ x.length + y.length ≤ 16777216 ∧ Q (.d (.str (x ++ y))) := by
  have : addX (.str x) (.str y) = if x.length + y.length ≤ 16777216 then some (.d (.str (x ++ y))) else none := by
    show (none : Option A).or ((if x.length + y.length ≤ 16777216 then some (A.d (.str (x ++ y))) else none).or ((none : Option A).or none)) = _
    simp
  rw [this]
  by_cases h : x.length + y.length ≤ 16777216 <;> simp [h]
@[simp] theorem negI_int (i : Int) : negI (.int i) = some (.d (.int (-i))) := rfl
@[simp ↓] theorem WP_ix_lst {xs : List D} {i : Int} {Q : A → Prop} : WP (ixX (.lst xs) (.int i)) Q ↔ WP (atI xs i) fun d => Q (.d d) := by
  have : ixX (.lst xs) (.int i) = (atI xs i).map A.d := by
    show ((none : Option A).or (((atI xs i).map A.d).or none)) = _
    rw [Option.none_or, Option.or_none]
  rw [this, WP_map]
@[simp ↓] theorem WP_ix_tup {xs : List D} {i : Int} {Q : A → Prop} : WP (ixX (.tup xs) (.int i)) Q ↔ WP (atI xs i) fun d => Q (.d d) := by
  have : ixX (.tup xs) (.int i) = (atI xs i).map A.d := by
    show ((none : Option A).or (((atI xs i).map A.d).or none)) = _
    rw [Option.none_or, Option.or_none]
  rw [this, WP_map]
@[simp ↓] theorem WP_ix_dic {kvs : List (Key × D)} {k : D} {Q : A → Prop} : WP (ixX (.dic kvs) k) Q ↔ WP (toKey k) fun k => WP (Tw.getD kvs k) fun d => Q (.d d) := by
  have : ixX (.dic kvs) k = (toKey k).bind fun k => (Tw.getD kvs k).map A.d := by
    show ((ixK (.dic kvs) k).or ((ixL (.dic kvs) k).or (ixS (.dic kvs) k))) = _
    have h1 : ixS (.dic kvs) k = none := by cases k <;> rfl
    have h2 : ixL (.dic kvs) k = none := by cases k <;> rfl
    rw [h1, h2, Option.or_none, Option.or_none]
    rfl
  rw [this]
  simp only [WP_bind, WP_map]
@[simp] theorem atI_0 (x : D) (r : List D) : atI (x :: r) 0 = some x := by simp [atI, ixN]
theorem WP_atI {xs : List D} {i : Int} {Q : D → Prop} (h0 : 0 ≤ i) (h1 : i < xs.length) (h : ∀ d ∈ xs, Q d) : WP (atI xs i) Q := by
  have hr : i.toNat < xs.length := by omega
  refine .of (x := xs[i.toNat]) ?_ (h _ (List.getElem_mem hr))
  unfold atI ixN
  rw [if_pos h0, if_pos (by omega), Option.bind_some, List.getElem?_eq_getElem hr]
@[simp] theorem atI3_1 (x y z : D) : atI [x, y, z] 1 = some y := rfl
@[simp] theorem atI3_2 (x y z : D) : atI [x, y, z] 2 = some z := rfl
@[simp ↓] theorem WP_eqS {a b : D} {Q : A → Prop} : WP (eqS a b) Q ↔ WP (scD a b) fun r => Q (.d (.bl r)) := by unfold eqS; simp only [WP_map]
@[simp ↓] theorem WP_neS {a b : D} {Q : A → Prop} : WP (neS a b) Q ↔ WP (scD a b) fun r => Q (.d (.bl (!r))) := by unfold neS; simp only [WP_map]
@[simp] theorem scD_int (i j : Int) : scD (.int i) (.int j) = some (decide (i = j)) := rfl
@[simp] theorem scD_str (i j : Str) : scD (.str i) (.str j) = some (decide (i = j)) := rfl
@[simp] theorem scD_bl (i j : Bool) : scD (.bl i) (.bl j) = some (decide (i = j)) := rfl
@[simp] theorem isN_eq (x : D) : isN x .non = some (.d (.bl (nonD x))) := rfl
@[simp] theorem notN_eq (x : D) : notN x .non = some (.d (.bl (!nonD x))) := rfl
@[simp ↓] theorem WP_inK {neg : Bool} {k : D} {kvs : List (Key × D)} {Q : A → Prop} : WP (inK neg k (.dic kvs)) Q ↔ WP (toKey k) fun k => Q (.d (.bl (if neg = true then !(Tw.getD kvs k).isSome else (Tw.getD kvs k).isSome))) := by
  show WP ((toKey k).map _) Q ↔ _
  simp only [WP_map]
@[simp] theorem lenD_lst (xs : List D) : lenD [.lst xs] = some (.d (.int xs.length)) := rfl
@[simp] theorem lenD_tup (xs : List D) : lenD [.tup xs] = some (.d (.int xs.length)) := rfl
@[simp] theorem lenD_dic (xs : List (Key × D)) : lenD [.dic xs] = some (.d (.int xs.length)) := rfl
@[simp] theorem absD_int (i : Int) : absD [.int i] = some (.d (.int (if i < 0 then -i else i))) := rfl
@[simp] theorem intC_int (i : Int) : intC [.int i] = some (.d (.int i)) := rfl
@[simp] theorem intC_bl (b : Bool) : intC [.bl b] = some (.d (.int (if b then 1 else 0))) := rfl
@[simp] theorem listD_lst (xs : List D) : listD [.lst xs] = some (.l false xs) := rfl
@[simp] theorem listD_tup (xs : List D) : listD [.tup xs] = some (.l false xs) := rfl
@[simp] theorem tupleD_lst (xs : List D) : tupleD [.lst xs] = some (.d (.tup xs)) := rfl
@[simp] theorem tupleD_tup (xs : List D) : tupleD [.tup xs] = some (.d (.tup xs)) := rfl
@[simp] theorem items_lst (xs : List D) : itemsOf (.lst xs) = some xs := rfl
@[simp] theorem items_tup (xs : List D) : itemsOf (.tup xs) = some xs := rfl
@[simp] theorem tyD_non : tyD .non = some "NoneType" := rfl
@[simp] theorem tyD_bl (b : Bool) : tyD (.bl b) = some "bool" := rfl
@[simp] theorem tyD_int (b : Int) : tyD (.int b) = some "int" := rfl
@[simp] theorem tyD_str (b : Str) : tyD (.str b) = some "str" := rfl
@[simp] theorem tyD_lst (b : List D) : tyD (.lst b) = some "list" := rfl
@[simp] theorem tyD_tup (b : List D) : tyD (.tup b) = some "tuple" := rfl
@[simp] theorem tyD_dic (b : List (Key × D)) : tyD (.dic b) = some "dict" := rfl
@[simp] theorem sub_NoneType_bool : subT "NoneType" "bool" = false := by decide
@[simp] theorem sub_NoneType_int : subT "NoneType" "int" = false := by decide
@[simp] theorem sub_NoneType_str : subT "NoneType" "str" = false := by decide
@[simp] theorem sub_NoneType_list : subT "NoneType" "list" = false := by decide
@[simp] theorem sub_NoneType_tuple : subT "NoneType" "tuple" = false := by decide
@[simp] theorem sub_NoneType_dict : subT "NoneType" "dict" = false := by decide
@[simp] theorem sub_bool_bool : subT "bool" "bool" = true := by decide
@[simp] theorem sub_bool_int : subT "bool" "int" = true := by decide
@[simp] theorem sub_bool_str : subT "bool" "str" = false := by decide
@[simp] theorem sub_bool_list : subT "bool" "list" = false := by decide
@[simp] theorem sub_bool_tuple : subT "bool" "tuple" = false := by decide
@[simp] theorem sub_bool_dict : subT "bool" "dict" = false := by decide
@[simp] theorem sub_int_bool : subT "int" "bool" = false := by decide
@[simp] theorem sub_int_int : subT "int" "int" = true := by decide
@[simp] theorem sub_int_str : subT "int" "str" = false := by decide
@[simp] theorem sub_int_list : subT "int" "list" = false := by decide
@[simp] theorem sub_int_tuple : subT "int" "tuple" = false := by decide
@[simp] theorem sub_int_dict : subT "int" "dict" = false := by decide
@[simp] theorem sub_str_bool : subT "str" "bool" = false := by decide
@[simp] theorem sub_str_int : subT "str" "int" = false := by decide
@[simp] theorem sub_str_str : subT "str" "str" = true := by decide
@[simp] theorem sub_str_list : subT "str" "list" = false := by decide
@[simp] theorem sub_str_tuple : subT "str" "tuple" = false := by decide
@[simp] theorem sub_str_dict : subT "str" "dict" = false := by decide
@[simp] theorem sub_list_bool : subT "list" "bool" = false := by decide
@[simp] theorem sub_list_int : subT "list" "int" = false := by decide
@[simp] theorem sub_list_str : subT "list" "str" = false := by decide
@[simp] theorem sub_list_list : subT "list" "list" = true := by decide
@[simp] theorem sub_list_tuple : subT "list" "tuple" = false := by decide
@[simp] theorem sub_list_dict : subT "list" "dict" = false := by decide
@[simp] theorem sub_tuple_bool : subT "tuple" "bool" = false := by decide
@[simp] theorem sub_tuple_int : subT "tuple" "int" = false := by decide
@[simp] theorem sub_tuple_str : subT "tuple" "str" = false := by decide
@[simp] theorem sub_tuple_list : subT "tuple" "list" = false := by decide
@[simp] theorem sub_tuple_tuple : subT "tuple" "tuple" = true := by decide
@[simp] theorem sub_tuple_dict : subT "tuple" "dict" = false := by decide
@[simp] theorem sub_dict_bool : subT "dict" "bool" = false := by decide
@[simp] theorem sub_dict_int : subT "dict" "int" = false := by decide
@[simp] theorem sub_dict_str : subT "dict" "str" = false := by decide
@[simp] theorem sub_dict_list : subT "dict" "list" = false := by decide
@[simp] theorem sub_dict_tuple : subT "dict" "tuple" = false := by decide
@[simp] theorem sub_dict_dict : subT "dict" "dict" = true := by decide
section
variable {ρ : Ro}
/-! ### loops -/
def loopK (fg : List Nat) (J : Ro → Prop) (Q : Out × Ro → Prop) : Out × Ro → Prop
  | (.nx, ρ) => WP (forget fg ρ) J
  | (.ct, ρ) => WP (forget fg ρ) J
  | (.bk, ρ) => WP (forget fg ρ) fun ρ' => Q (.nx, ρ')
  | (.rt a, ρ) => Q (.rt a, ρ)
@[simp ↓] theorem loopK_nx {fg : List Nat} {J : Ro → Prop} {Q : Out × Ro → Prop} : loopK fg J Q (.nx, ρ) ↔ WP (forget fg ρ) J := Iff.rfl
@[simp ↓] theorem loopK_ct {fg : List Nat} {J : Ro → Prop} {Q : Out × Ro → Prop} : loopK fg J Q (.ct, ρ) ↔ WP (forget fg ρ) J := Iff.rfl
@[simp ↓] theorem loopK_bk {fg : List Nat} {J : Ro → Prop} {Q : Out × Ro → Prop} : loopK fg J Q (.bk, ρ) ↔ WP (forget fg ρ) fun ρ' => Q (.nx, ρ') := Iff.rfl
@[simp ↓] theorem loopK_rt {fg : List Nat} {J : Ro → Prop} {Q : Out × Ro → Prop} {a : A} : loopK fg J Q (.rt a, ρ) ↔ Q (.rt a, ρ) := Iff.rfl
theorem loop_inv {g : GF} {b : SF} {fg : List Nat} (I : List D → Ro → Prop) {Q : Out × Ro → Prop} : ∀ {ds : List D} {ρ : Ro}, I [] ρ →
    (∀ pre d suf ρ, ds = pre ++ d :: suf → I pre ρ → WP (g d ρ) fun ρ1 => WP (b ρ1) (loopK fg (I (pre ++ [d])) Q)) → (∀ ρ, I ds ρ → Q (.nx, ρ)) → WP (loopS g b fg ds ρ) Q := by
  have key : ∀ (ds : List D) (pre : List D) (all : List D) (ρ : Ro), all = pre ++ ds → I pre ρ → (∀ pre d suf ρ, all = pre ++ d :: suf → I pre ρ → WP (g d ρ) fun ρ1 => WP (b ρ1) (loopK fg (I (pre ++ [d])) Q)) → (∀ ρ, I all ρ → Q (.nx, ρ)) → WP (loopS g b fg ds ρ) Q := by
    intro ds
    induction ds with
    | nil =>
      intro pre all ρ ha h0 _ fin
      rw [List.append_nil] at ha
      subst ha
      exact .of rfl (fin ρ h0)
    | cons d r ih =>
      intro pre all ρ ha h0 step fin
      obtain ⟨ρ1, e1, ⟨o, ρ2⟩, e2, h2⟩ := step pre d r ρ ha h0
      unfold loopS
      rw [e1, Option.bind_some, e2, Option.bind_some]
      cases o with
      | nx =>
        obtain ⟨ρ3, e3, h3⟩ := h2
        simp only
        rw [e3, Option.bind_some]
        exact ih (pre ++ [d]) all ρ3 (by rw [ha]; simp) h3 step fin
      | ct =>
        obtain ⟨ρ3, e3, h3⟩ := h2
        simp only
        rw [e3, Option.bind_some]
        exact ih (pre ++ [d]) all ρ3 (by rw [ha]; simp) h3 step fin
      | bk =>
        obtain ⟨ρ3, e3, h3⟩ := h2
        simp only
        rw [e3]
        exact .of rfl h3
      | rt a => exact .of rfl h2
  exact fun {ds ρ} h0 step fin => key ds [] ds ρ rfl h0 step fin
@[simp ↓] theorem WP_forS {w : WF} {g : GF} {b : SF} {fg : List Nat} {Q : Out × Ro → Prop} : WP (forS w g b fg ρ) Q ↔ WP (w ρ) fun x => WP (forget fg x.2) fun ρ2 => WP (loopS g b fg x.1 ρ2) Q := by unfold forS; simp only [WP_bind]
@[simp ↓] theorem WP_forD {i : Nat} {m : Md} {g : GF} {b : SF} {fg : List Nat} {Q : Out × Ro → Prop} : WP (forD i m g b fg ρ) Q ↔ WP (dv (var i) ρ) fun x => WP (dicD x.1) fun kvs => WP (forget fg x.2) fun ρ2 => WP (loopS g b fg (m kvs) ρ2) Q := by
  unfold forD
  rw [WP_bind]
  refine iff_of_eq (congrArg _ (funext fun x => ?_))
  obtain ⟨d, ρ'⟩ := x
  cases d <;> simp [dicD]
@[simp ↓] theorem WP_seqW {f : EF} {Q : List D × Ro → Prop} : WP (seqW f ρ) Q ↔ WP (dv f ρ) fun x => WP (itemsOf x.1) fun ds => Q (ds, x.2) := by unfold seqW; simp only [WP_bind, WP_map]
@[simp ↓] theorem WP_rng1W {f : EF} {Q : List D × Ro → Prop} : WP (rng1W f ρ) Q ↔ WP (dv f ρ) fun x => WP (intO x.1) fun n => (-(2 ^ 62) ≤ n ∧ n < 2 ^ 62) ∧ Q (rngL 0 n.toNat, x.2) := by
  unfold rng1W
  rw [WP_bind]
  refine iff_of_eq (congrArg _ (funext fun x => ?_))
  obtain ⟨d, ρ'⟩ := x
  cases d with
  | int n =>
    simp only [intO, WP_ite, WP_some, WP_none, imp_false, Classical.not_not]
    exact propext ⟨fun h => ⟨h.2, h.1 h.2⟩, fun h => ⟨fun _ => h.2, h.1⟩⟩
  | _ => simp [intO]
theorem rngL_len (n : Nat) : (rngL 0 n).length = n := by simp [rngL]
theorem mem_rngL {n : Nat} {d : D} (h : d ∈ rngL 0 n) : ∃ i : Nat, i < n ∧ d = .int i := by
  unfold rngL at h
  obtain ⟨i, hi, rfl⟩ := List.mem_map.mp h
  exact ⟨i, List.mem_range.mp hi, by simp⟩
/-! ### comprehensions -/
theorem lc_inv {g : GF} {t : TF} {f : EF} {own : List Nat} (I : List D → List D → Ro → Prop) {Q : List D × Ro → Prop} {ds : List D} {ρ : Ro} (h0 : I [] [] ρ)
    (step : ∀ pre d suf acc ρ, ds = pre ++ d :: suf → I pre acc ρ → WP (g d ρ) fun ρ1 => WP (t ρ1) fun x => (x.1 = true → WP (dv f x.2) fun y => WP (forget own y.2) fun ρ2 => acc.length < 16777216 ∧ I (pre ++ [d]) (acc ++ [y.1]) ρ2) ∧ (x.1 = false → WP (forget own x.2) fun ρ2 => I (pre ++ [d]) acc ρ2))
    (fin : ∀ acc ρ, I ds acc ρ → Q (acc, ρ)) : WP (lcL g t f own ds [] ρ) Q := by
  have key : ∀ (r pre acc : List D) (ρ : Ro), ds = pre ++ r → I pre acc ρ → WP (lcL g t f own r acc ρ) Q := by
    intro r
    induction r with
    | nil =>
      intro pre acc ρ ha h
      rw [List.append_nil] at ha
      subst ha
      exact .of rfl (fin acc ρ h)
    | cons d r ih =>
      intro pre acc ρ ha h
      obtain ⟨ρ1, e1, ⟨b, ρ2⟩, e2, h2, h3⟩ := step pre d r acc ρ ha h
      unfold lcL
      rw [e1, Option.bind_some, e2, Option.bind_some]
      cases b with
      | true =>
        obtain ⟨y, e3, ρ3, e4, hl, h4⟩ := h2 rfl
        simp only [if_true]
        rw [e3, Option.bind_some]
        rw [e4, Option.bind_some, if_pos hl]
        exact ih (pre ++ [d]) _ ρ3 (by rw [ha]; simp) h4
      | false =>
        obtain ⟨ρ3, e4, h4⟩ := h3 rfl
        simp only [Bool.false_eq_true, if_false]
        rw [e4, Option.bind_some]
        exact ih (pre ++ [d]) _ ρ3 (by rw [ha]; simp) h4
  exact key ds [] [] ρ rfl h0
@[simp ↓] theorem WP_lcE {w : WF} {g : GF} {t : TF} {f : EF} {own : List Nat} {Q : A × Ro → Prop} : WP (lcE w g t f own ρ) Q ↔ WP (w ρ) fun x => WP (forget own x.2) fun ρ1 => WP (lcL g t f own x.1 [] ρ1) fun y => Q (.l false y.1, y.2) := by unfold lcE; simp only [WP_bind, WP_map]
@[simp ↓] theorem WP_lcD {i : Nat} {m : Md} {g : GF} {t : TF} {f : EF} {own : List Nat} {Q : A × Ro → Prop} : WP (lcD i m g t f own ρ) Q ↔ WP (dv (var i) ρ) fun x => WP (dicD x.1) fun kvs => WP (forget own x.2) fun ρ1 => WP (lcL g t f own (m kvs) [] ρ1) fun y => Q (.l false y.1, y.2) := by
  unfold lcD
  rw [WP_bind]
  refine iff_of_eq (congrArg _ (funext fun x => ?_))
  obtain ⟨d, ρ'⟩ := x
  cases d <;> simp [dicD]
theorem dc_inv {g : GF} {t : TF} {fk fv : EF} {own : List Nat} (I : List D → List (Key × D) → Ro → Prop) {Q : List (Key × D) × Ro → Prop} {ds : List D} {ρ : Ro} (h0 : I [] [] ρ)
    (step : ∀ pre d suf acc ρ, ds = pre ++ d :: suf → I pre acc ρ → WP (g d ρ) fun ρ1 => WP (t ρ1) fun x => (x.1 = true → WP (dv fk x.2) fun y => WP (toKey y.1) fun k => WP (dv fv y.2) fun z => WP (forget own z.2) fun ρ2 => acc.length < 16777216 ∧ I (pre ++ [d]) (putD acc k z.1) ρ2) ∧ (x.1 = false → WP (forget own x.2) fun ρ2 => I (pre ++ [d]) acc ρ2))
    (fin : ∀ acc ρ, I ds acc ρ → Q (acc, ρ)) : WP (dcL g t fk fv own ds [] ρ) Q := by
  have key : ∀ (r pre : List D) (acc : List (Key × D)) (ρ : Ro), ds = pre ++ r → I pre acc ρ → WP (dcL g t fk fv own r acc ρ) Q := by
    intro r
    induction r with
    | nil =>
      intro pre acc ρ ha h
      rw [List.append_nil] at ha
      subst ha
      exact .of rfl (fin acc ρ h)
    | cons d r ih =>
      intro pre acc ρ ha h
      obtain ⟨ρ1, e1, ⟨b, ρ2⟩, e2, h2, h3⟩ := step pre d r acc ρ ha h
      unfold dcL
      rw [e1, Option.bind_some, e2, Option.bind_some]
      cases b with
      | true =>
        obtain ⟨y, e3, k, ek, z, e5, ρ3, e4, hl, h4⟩ := h2 rfl
        simp only [if_true]
        rw [e3, Option.bind_some]
        rw [ek, Option.bind_some, e5, Option.bind_some]
        rw [e4, Option.bind_some, if_pos hl]
        exact ih (pre ++ [d]) _ ρ3 (by rw [ha]; simp) h4
      | false =>
        obtain ⟨ρ3, e4, h4⟩ := h3 rfl
        simp only [Bool.false_eq_true, if_false]
        rw [e4, Option.bind_some]
        exact ih (pre ++ [d]) _ ρ3 (by rw [ha]; simp) h4
  exact key ds [] [] ρ rfl h0
@[simp ↓] theorem WP_dcE {w : WF} {g : GF} {t : TF} {fk fv : EF} {own : List Nat} {Q : A × Ro → Prop} : WP (dcE w g t fk fv own ρ) Q ↔ WP (w ρ) fun x => WP (forget own x.2) fun ρ1 => WP (dcL g t fk fv own x.1 [] ρ1) fun y => Q (.k false y.1, y.2) := by unfold dcE; simp only [WP_bind, WP_map]
end
end Tw
end
section
set_option maxRecDepth 100000
set_option maxHeartbeats 4000000
/-! the calculus: states of draws, dicts by their members -/
namespace Tw
open PySem PySem.Spec PyProof.Rows L2

/-- the state of the draws -/
def stV (b : Bool) (x y z : Int) : A := .l b [.int x, .int y, .int z]
@[simp] theorem stV_bor (b : Bool) (x y z : Int) : (stV b x y z).bor = b := rfl
@[simp] theorem stV_lend (b : Bool) (x y z : Int) : (stV b x y z).lend = some (stV true x y z) := rfl
@[simp] theorem stV_mark (b c : Bool) (x y z : Int) : (stV b x y z).mark c = stV c x y z := rfl
@[simp] theorem stV_toP (b : Bool) (x y z : Int) : (stV b x y z).toP = some (.lst [.int x, .int y, .int z]) := rfl
@[simp] theorem stV_put0 (b : Bool) (x y z : Int) (v : Int) : putA (some (stV b x y z)) (.int 0) (.int v) = some (stV b v y z) := rfl
@[simp] theorem stV_put1 (b : Bool) (x y z : Int) (v : Int) : putA (some (stV b x y z)) (.int 1) (.int v) = some (stV b x v z) := rfl
/-- a state as it is met -/
def St3 (b : Bool) (s : A) : Prop := ∃ x y z, s = stV b x y z ∧ 0 ≤ y ∧ y < 4294967296
theorem St3.bor {b : Bool} {s : A} (h : St3 b s) : s.bor = b := by obtain ⟨x, y, z, rfl, _⟩ := h; rfl
theorem St3.lend {b : Bool} {s : A} (h : St3 b s) : ∃ t, s.lend = some t ∧ St3 true t := by obtain ⟨x, y, z, rfl, h⟩ := h; exact ⟨_, rfl, x, y, z, rfl, h⟩
theorem St3.mark {b c : Bool} {s : A} (h : St3 b s) : St3 c (s.mark c) := by obtain ⟨x, y, z, rfl, h⟩ := h; exact ⟨x, y, z, rfl, h⟩
/-! ### dicts by their members -/
def setE (ms : List (Str × D)) (k : Str) (v : D) : List (Str × D) := if (ms.any fun p => decide (p.1 = k)) = true then ms.map (fun p => if p.1 = k then (p.1, v) else p) else ms ++ [(k, v)]
def delE (ms : List (Str × D)) (k : Str) : List (Str × D) := ms.filter fun p => decide (p.1 ≠ k)
theorem any_key {ms : List (Str × D)} {k : Str} : (ms.any fun p => decide (p.1 = k)) = true ↔ k ∈ ms.map (·.1) := by
  rw [List.any_eq_true, List.mem_map]
  exact ⟨fun ⟨p, hp, e⟩ => ⟨p, hp, of_decide_eq_true e⟩, fun ⟨p, hp, e⟩ => ⟨p, hp, decide_eq_true e⟩⟩
theorem put_dct (ms : List (Str × D)) (k : Str) (v : D) : putD (dctE ms) (.inr k) v = dctE (setE ms k v) := by
  unfold putD setE
  have h1 : ((dctE ms).any fun kv => decide (kv.1 = Sum.inr k)) = ms.any fun p => decide (p.1 = k) := by
    unfold dctE
    rw [List.any_map]
    congr 1
    funext p
    simp
  rw [h1]
  split
  · simp only [dctE, List.map_map]
    refine List.map_congr_left fun p _ => ?_
    by_cases h : p.1 = k
    · simp [h]
    · simp [h]
  · simp [dctE]
theorem del_dct (ms : List (Str × D)) (k : Str) : delD (dctE ms) (.inr k) = dctE (delE ms k) := by
  unfold delD delE dctE
  rw [List.filter_map]
  congr 1
  refine List.filter_congr fun p _ => ?_
  simp
theorem set_keys {ms : List (Str × D)} {k : Str} {v : D} {j : Str} : j ∈ (setE ms k v).map (·.1) ↔ j ∈ ms.map (·.1) ∨ j = k := by
  unfold setE
  split
  · rename_i h
    have : (ms.map fun p => if p.1 = k then (p.1, v) else p).map (·.1) = ms.map (·.1) := by
      rw [List.map_map]
      refine List.map_congr_left fun p _ => ?_
      by_cases e : p.1 = k <;> simp [e]
    rw [this]
    exact ⟨.inl, fun h' => h'.elim id fun e => e ▸ any_key.mp h⟩
  · rw [List.map_append, List.mem_append]
    simp
theorem set_nd {ms : List (Str × D)} {k : Str} {v : D} (nd : ND ms) : ND (setE ms k v) := by
  unfold setE
  split
  · have : (ms.map fun p => if p.1 = k then (p.1, v) else p).map (·.1) = ms.map (·.1) := by
      rw [List.map_map]
      refine List.map_congr_left fun p _ => ?_
      by_cases e : p.1 = k <;> simp [e]
    unfold ND
    rw [this]
    exact nd
  · rename_i h
    unfold ND
    rw [List.map_append]
    refine List.nodup_append.mpr ⟨nd, by simp, fun a ha b hb => ?_⟩
    simp at hb
    subst hb
    exact fun e => h (any_key.mpr (e ▸ ha))
theorem set_mem {ms : List (Str × D)} {k : Str} {v : D} {p : Str × D} (h : p ∈ setE ms k v) : p ∈ ms ∨ p = (k, v) := by
  unfold setE at h
  split at h
  · obtain ⟨q, hq, rfl⟩ := List.mem_map.mp h
    by_cases e : q.1 = k
    · rw [if_pos e]; exact .inr (by rw [e])
    · rw [if_neg e]; exact .inl hq
  · rcases List.mem_append.mp h with h | h
    · exact .inl h
    · exact .inr (List.mem_singleton.mp h)
theorem lkE_append {ms ms' : List (Str × D)} {j : Str} : lkE (ms ++ ms') j = (lkE ms j).or (lkE ms' j) := by
  induction ms with
  | nil => simp [lkE]
  | cons p r ih =>
    rw [List.cons_append, lkE_cons, lkE_cons, ih]
    by_cases h : p.1 = j <;> simp [h]
theorem lkE_rep {ms : List (Str × D)} {k : Str} {v : D} (j : Str) : lkE (ms.map fun p => if p.1 = k then (p.1, v) else p) j = if j = k then (lkE ms j).map fun _ => v else lkE ms j := by
  induction ms with
  | nil => simp [lkE]
  | cons p r ih =>
    rw [List.map_cons, lkE_cons, lkE_cons, ih]
    by_cases h : p.1 = k
    · rw [if_pos h]
      by_cases hj : j = k
      · simp [hj, h]
      · rw [if_neg hj, if_neg hj, if_neg (fun e => hj (e.symm.trans h)), if_neg (fun e => hj (e.symm.trans h))]
    · rw [if_neg h]
      by_cases hj : j = k
      · subst hj; simp [h]
      · by_cases hp : p.1 = j <;> simp [hj, hp]
theorem set_lk {ms : List (Str × D)} {k : Str} {v : D} (j : Str) : lkE (setE ms k v) j = if j = k then some v else lkE ms j := by
  unfold setE
  split
  · rename_i h
    rw [lkE_rep]
    by_cases hj : j = k
    · rw [if_pos hj, if_pos hj]
      obtain ⟨d, e⟩ := lkE_some (any_key.mp h)
      rw [hj, e]
      rfl
    · rw [if_neg hj, if_neg hj]
  · rename_i h
    rw [lkE_append, lkE_cons]
    by_cases hj : j = k
    · subst hj
      rw [lkE_none.mpr (fun e => h (any_key.mpr e))]
      simp
    · rw [if_neg (fun e => hj e.symm), if_neg hj]
      simp [lkE]
theorem del_nd {ms : List (Str × D)} {k : Str} (nd : ND ms) : ND (delE ms k) := nd_filter nd
theorem del_mem {ms : List (Str × D)} {k : Str} {p : Str × D} (h : p ∈ delE ms k) : p ∈ ms := (List.mem_filter.mp h).1
theorem del_lk {ms : List (Str × D)} {k : Str} (j : Str) : lkE (delE ms k) j = if j = k then none else lkE ms j := by
  induction ms with
  | nil => simp [delE, lkE]
  | cons p r ih =>
    unfold delE at ih ⊢
    rw [List.filter_cons]
    by_cases h : p.1 = k
    · rw [if_neg (by simp [h]), ih, lkE_cons]
      by_cases hj : j = k
      · simp [hj]
      · rw [if_neg hj, if_neg hj, if_neg (fun e => hj (e.symm.trans h))]
    · rw [if_pos (by simp [h]), lkE_cons, lkE_cons, ih]
      by_cases hj : j = k
      · subst hj; simp [h]
      · simp [hj]
theorem set_len {ms : List (Str × D)} {k : Str} {v : D} : (setE ms k v).length ≤ ms.length + 1 := by
  unfold setE
  split <;> simp
@[simp ↓] theorem WP_putK {b : Bool} {ms : List (Str × D)} {k : Str} {v : D} {Q : A → Prop} : WP (putA (some (.k b (dctE ms))) (.str k) v) Q ↔ ms.length < 16777216 ∧ Q (.k b (dctE (setE ms k v))) := by
  have : putA (some (.k b (dctE ms))) (.str k) v = if (dctE ms).length < 16777216 then some (.k b (putD (dctE ms) (.inr k) v)) else none := rfl
  rw [this, put_dct, show (dctE ms).length = ms.length by simp [dctE]]
  simp only [WP_ite, WP_some, WP_none, imp_false, Classical.not_not]
  exact ⟨fun h => ⟨h.2, h.1 h.2⟩, fun h => ⟨fun _ => h.2, h.1⟩⟩
@[simp ↓] theorem WP_revL {ρ : Ro} {o : Opd} {Q : A × Ro → Prop} : WP (revL o ρ) Q ↔ WP (ev1 o ρ) fun x => WP (res x.2 x.1) fun d => WP (lstD d) fun xs => Q (.l false xs.reverse, x.2) := by
  unfold revL
  simp only [WP_bind]
  refine iff_of_eq (congrArg _ (funext fun x => congrArg _ (funext fun d => ?_)))
  cases d <;> simp [lstD]
@[simp] theorem tupDO_tup (xs : List D) : tupDO (.tup xs) = some xs := rfl
@[simp ↓] theorem WP_slT {ρ : Ro} {o : Opd} {l h : Part} {Q : A × Ro → Prop} : WP (slT o l h ρ) Q ↔ WP (ev1 o ρ) fun x => WP (part l x.2) fun i => WP (part h i.2) fun j => WP (res j.2 x.1) fun d => WP (tupDO d) fun xs => Q (.d (.tup (cutD xs i.1 j.1)), j.2) := by
  unfold slT
  simp only [WP_bind, WP_map]
@[simp ↓] theorem WP_mulX_lst {xs : List D} {k : Int} {Q : A → Prop} : WP (mulX (.lst xs) (.int k)) Q ↔ ((-(2 ^ 63) ≤ k ∧ k < 2 ^ 63) ∧ xs.length * k.toNat ≤ 16777216) ∧ Q (.l false (List.replicate k.toNat xs).flatten) := by
  have : mulX (.lst xs) (.int k) = if (-(2 ^ 63) ≤ k ∧ k < 2 ^ 63) ∧ xs.length * k.toNat ≤ 16777216 then some (.l false (List.replicate k.toNat xs).flatten) else none := rfl
  rw [this]
  simp only [WP_ite, WP_some, WP_none, imp_false, Classical.not_not]
  exact ⟨fun h => ⟨h.2, h.1 h.2⟩, fun h => ⟨fun _ => h.2, h.1⟩⟩
end Tw
end
section
set_option maxRecDepth 100000
set_option maxHeartbeats 4000000
/-! the calculus: comprehensions by a map, merging a patch into a document -/
namespace Tw
open PySem PySem.Spec PyProof.Rows L2

theorem lc_filt {g : GF} {t : TF} {f : EF} {own : List Nat} {ρ : Ro} {ds : List D} {Q : List D × Ro → Prop} (p : D → Bool) (h : D → D)
    (H : ∀ d ∈ ds, WP (g d ρ) fun ρ1 => WP (t ρ1) fun x => x.1 = p d ∧ (p d = true → WP (dv f x.2) fun y => y.1 = h d ∧ WP (forget own y.2) fun ρ2 => ρ2 = ρ) ∧ (p d = false → WP (forget own x.2) fun ρ2 => ρ2 = ρ))
    (hl : ds.length < 16777216) (q : Q ((ds.filter p).map h, ρ)) : WP (lcL g t f own ds [] ρ) Q := by
  refine lc_inv (fun pre acc ρ' => ρ' = ρ ∧ acc = (pre.filter p).map h ∧ acc.length ≤ pre.length) ⟨rfl, rfl, Nat.le_refl _⟩ ?_ ?_
  · rintro pre d suf acc _ hds ⟨rfl, rfl, hlen⟩
    have hd : d ∈ ds := by rw [hds]; simp
    have hpl : pre.length < ds.length := by rw [hds]; simp
    refine (H d hd).mono fun ρ1 h1 => h1.mono fun x ⟨e, h2, h3⟩ => ⟨fun hx => ?_, fun hx => ?_⟩
    · refine (h2 (e ▸ hx)).mono fun y ⟨e2, h4⟩ => h4.mono fun ρ2 e3 => ⟨by omega, e3, ?_, ?_⟩
      · rw [List.filter_append, List.map_append]
        simp [show p d = true from e ▸ hx, e2]
      · simp at hlen ⊢
        omega
    · refine (h3 (e ▸ hx)).mono fun ρ2 e3 => ⟨e3, ?_, ?_⟩
      · rw [List.filter_append]
        simp [show p d = false from e ▸ hx]
      · simp at hlen ⊢
        omega
  · rintro acc _ ⟨rfl, rfl, _⟩
    exact q
theorem lc_map {g : GF} {t : TF} {f : EF} {own : List Nat} {ρ : Ro} {ds : List D} {Q : List D × Ro → Prop} (h : D → D)
    (H : ∀ d ∈ ds, WP (g d ρ) fun ρ1 => WP (t ρ1) fun x => x.1 = true ∧ WP (dv f x.2) fun y => y.1 = h d ∧ WP (forget own y.2) fun ρ2 => ρ2 = ρ)
    (hl : ds.length < 16777216) (q : Q (ds.map h, ρ)) : WP (lcL g t f own ds [] ρ) Q := by
  refine lc_filt (fun _ => true) h (fun d hd => ?_) hl (by rw [List.filter_eq_self.mpr fun _ _ => rfl]; exact q)
  exact (H d hd).mono fun ρ1 h1 => h1.mono fun x ⟨e, h2⟩ => ⟨e, fun _ => h2, fun h => by cases h⟩
@[simp] theorem mKeys_dct (ms : List (Str × D)) : mKeys (dctE ms) = ms.map fun p => .str p.1 := by simp [mKeys, dctE, Function.comp_def, kD]
@[simp] theorem mVals_dct (ms : List (Str × D)) : mVals (dctE ms) = ms.map fun p => p.2 := by simp [mVals, dctE, Function.comp_def]
@[simp] theorem mItems_dct (ms : List (Str × D)) : mItems (dctE ms) = ms.map fun p => .pr [.str p.1, p.2] := by simp [mItems, dctE, Function.comp_def, kD]
@[simp] theorem getD_dct' (ms : List (Str × D)) (k : Str) : Tw.getD (dctE ms) (.inr k) = lkE ms k := getD_dct k ms
theorem dctE_nil : dctE [] = [] := rfl
theorem kE_nil : (A.k false [] : A) = .k false (dctE []) := rfl
@[simp ↓] theorem WP_dictD {ms : List (Str × D)} {Q : A → Prop} (nd : ND ms) : WP (dictD [.lst (ms.map pairE)]) Q ↔ Q (.k false (dctE ms)) := by rw [dictD_lst nd, WP_some]
theorem nonD_nonB (d : D) : nonD d = nonB d := by cases d <;> rfl
/-- what a copy answers -/
def thaw : D → A
  | .lst xs => .l false xs
  | .dic kvs => .k false kvs
  | d => .d d
@[simp] theorem thaw_toD (d : D) : (thaw d).toD = some d := by cases d <;> rfl
@[simp] theorem thaw_bor (d : D) : (thaw d).bor = false := by cases d <;> rfl
@[simp] theorem thaw_dic (kvs : List (Key × D)) : thaw (.dic kvs) = .k false kvs := rfl
/-! ### one patch into a document -/
theorem act_atom {t : T} (a : D) (h : t ≠ .miss) : act (effR t) (.atom a) = act (effR t) .miss := by
  cases t with
  | miss => exact absurd rfl h
  | atom b => rfl
  | obj m => rfl
theorem eff_effR {d : D} (h : nonB d = false) : eff (den d) = effR (den d) := by
  cases d <;> first | (cases h; done) | rfl
/-- the members, while a patch is merged in: pre is done -/
structure MInv (ks : List Str) (n : Nat) (f0 : Str → T) (pms : List (Str × D)) (pre : List Str) (ms : List (Str × D)) : Prop where
  nd : ND ms
  hk : ∀ p ∈ ms, p.1 ∈ ks
  hm : ∀ p ∈ ms, DocK ks n p.2
  hv : ∀ k, denO (lkE ms k) = if k ∈ pre then act (eff (denO (lkE pms k))) (f0 k) else f0 k
section
variable {ks : List Str} {n : Nat} {f0 : Str → T} {pms ms : List (Str × D)} {pre : List Str}
theorem MInv.start (nd : ND ms) (hk : ∀ p ∈ ms, p.1 ∈ ks) (hm : ∀ p ∈ ms, DocK ks n p.2) (h : ∀ k, denO (lkE ms k) = f0 k) : MInv ks n f0 pms [] ms := ⟨nd, hk, hm, fun k => by simp [h]⟩
theorem MInv.del (h : MInv ks n f0 pms pre ms) {p : Str × D} (hp : lkE pms p.1 = some p.2) (hn : nonB p.2 = true) : MInv ks n f0 pms (pre ++ [p.1]) (delE ms p.1) := by
  have hd : p.2 = .non := by cases hq : p.2 <;> rw [hq] at hn <;> first | rfl | cases hn
  refine ⟨del_nd h.nd, fun q hq => h.hk q (del_mem hq), fun q hq => h.hm q (del_mem hq), fun k => ?_⟩
  rw [del_lk]
  by_cases hk : k = p.1
  · subst hk
    rw [if_pos rfl, if_pos (by simp), hp, hd]
    rfl
  · rw [if_neg hk, h.hv k]
    simp [hk]
theorem MInv.skip (h : MInv ks n f0 pms pre ms) {p : Str × D} (hp : lkE pms p.1 = some p.2) (hn : nonB p.2 = true) (hm : lkE ms p.1 = none) : MInv ks n f0 pms (pre ++ [p.1]) ms := by
  have hd : p.2 = .non := by cases hq : p.2 <;> rw [hq] at hn <;> first | rfl | cases hn
  refine ⟨h.nd, h.hk, h.hm, fun k => ?_⟩
  by_cases hk : k = p.1
  · subst hk
    rw [if_pos (by simp), hp, hd, hm]
    rfl
  · rw [h.hv k]
    simp [hk]
theorem MInv.put (h : MInv ks n f0 pms pre ms) {p : Str × D} (hp : lkE pms p.1 = some p.2) (hn : nonB p.2 = false) (hpre : p.1 ∉ pre) (hkp : p.1 ∈ ks) {v : D} (hv : DocK ks n v) (e : den v = act (effR (den p.2)) (den ((lkE ms p.1).getD .non))) : MInv ks n f0 pms (pre ++ [p.1]) (setE ms p.1 v) := by
  refine ⟨set_nd h.nd, fun q hq => (set_mem hq).elim (h.hk q) fun e => by rw [e]; exact hkp, fun q hq => (set_mem hq).elim (h.hm q) fun e => by rw [e]; exact hv, fun k => ?_⟩
  rw [set_lk]
  by_cases hk : k = p.1
  · subst hk
    rw [if_pos rfl, if_pos (by simp), hp]
    show den v = act (eff (den p.2)) _
    rw [e, eff_effR hn]
    have h0 := h.hv p.1
    rw [if_neg hpre] at h0
    rw [← h0]
    cases hl : lkE ms p.1 with
    | some d => rfl
    | none => exact act_atom _ (den_ne _)
  · rw [if_neg hk, h.hv k]
    simp [hk]
theorem MInv.fin (h : MInv ks n f0 pms (pms.map (·.1)) ms) : den (.dic (dctE ms)) = .obj fun k => act (eff (denO (lkE pms k))) (f0 k) := by
  rw [den_dct]
  congr 1
  funext k
  rw [h.hv k]
  split
  · rfl
  · rename_i hk
    rw [lkE_none.mpr hk]
    rfl
theorem get_doc (h : MInv ks n f0 pms pre ms) (k : Str) : DocK ks n ((lkE ms k).getD .non) := by
  cases e : lkE ms k with
  | none => exact .atom rfl
  | some d => exact h.hm _ (lkE_mem e)
end
/-- a walk over members: the keys that are done are others -/
theorem split_key {pms : List (Str × D)} (nd : ND pms) {pre suf : List (Str × D)} {p : Str × D} (h : pms = pre ++ p :: suf) : lkE pms p.1 = some p.2 ∧ p.1 ∉ pre.map (·.1) := by
  have hp : p ∈ pms := by rw [h]; simp
  refine ⟨lkE_find nd hp, fun hk => ?_⟩
  rw [h] at nd
  unfold ND at nd
  rw [List.map_append, List.map_cons] at nd
  exact (List.nodup_append.mp nd).2.2 _ hk p.1 List.mem_cons_self rfl
theorem map_split {α β : Type} {f : α → β} : ∀ {l : List α} {pre : List β} {d : β} {suf : List β}, l.map f = pre ++ d :: suf → ∃ l1 x l2, l = l1 ++ x :: l2 ∧ pre = l1.map f ∧ d = f x ∧ suf = l2.map f
  | [], pre, d, suf, h => by simp at h
  | a :: r, [], d, suf, h => by
    rw [List.map_cons, List.nil_append, List.cons.injEq] at h
    exact ⟨[], a, r, rfl, rfl, h.1.symm, h.2.symm⟩
  | a :: r, b :: pre, d, suf, h => by
    rw [List.map_cons, List.cons_append, List.cons.injEq] at h
    obtain ⟨l1, x, l2, e1, e2, e3, e4⟩ := map_split h.2
    exact ⟨a :: l1, x, l2, by rw [e1]; rfl, by rw [List.map_cons, h.1, e2], e3, e4⟩
end Tw
end
section
set_option maxRecDepth 100000
set_option maxHeartbeats 4000000
/-! layer 23: defs that are run where nothing is being shown (repr) -/
namespace Tw
open PySem PySem.Spec PyProof.Rows L2

/-- a def's promise where no repr is under way -/
structure FnG (P : Program) (w : World) (K : PySem.W.Frag) (mg : Str → Option Value) (base : Heap) (k : Nat) (f : Addr) (fd : FuncData) (ps : List Str) (sp : Sp) : Prop where
  len : ∀ vs H Q E, sp vs H Q E → vs.length = ps.length
  go : ∀ (A : Around) (outer : List Env) (s : Shared) (H : Hp) (args : Args) (us : List Value) (vs : List V) (Q : VK) (E : XK), A.guards = some [] → Room k A → Env0 P w K mg base A outer s H → BindsTo s fd args (ps.zip us) → Vals vs us → sp vs H Q E →
    codeAny (model P w) A (.call (.ref f) args) (CR CX0 outer P w H s Q E) s
section
variable {P : Program} {w : World} {K : PySem.W.Frag} {mg : Str → Option Value} {base : Heap} {k : Nat} {f : Addr} {fd : FuncData} {ps N : List Str} {sp sp' : Sp} {x qual : Str} {st : Stmt}
theorem FnG.of (F : FnOk P w K mg base CX0 k f fd ps sp) : FnG P w K mg base k f fd ps sp := ⟨F.len, fun A o s H a us vs Q E _ => F.run A o s H a us vs Q E⟩
theorem FnG.up {j : Nat} (F : FnG P w K mg base j f fd ps sp) (h : j ≤ k) : FnG P w K mg base k f fd ps sp := ⟨F.len, fun A o s H a us vs Q E g r => F.go A o s H a us vs Q E g (r.mono h)⟩
theorem FnG.less (F : FnG P w K mg base k f fd ps sp) (h : ∀ vs H Q E, sp' vs H Q E → sp vs H Q E) : FnG P w K mg base k f fd ps sp' :=
  ⟨fun vs H Q E q => F.len vs H Q E (h _ _ _ _ q), fun A o s H a us vs Q E g r e b v q => F.go A o s H a us vs Q E g r e b v (h _ _ _ _ q)⟩
theorem par_kind {sc : Scope} (S : FnScope N ps sc) (us : List Value) (n : Nat) : ∀ y ∈ ps.zip us, sc.names.lookup y.1 = some .local ∨ (sc.names.lookup y.1 = some .cell ∧ ((cellsFrom n sc.names []).lookup y.1).isSome = true) := by
  rintro ⟨y, v⟩ hy
  exact (S.par y (List.of_mem_zip hy).1).imp id fun q => ⟨q, PySem.W.cellsFrom_some _ _ _ (.inl q)⟩
theorem Fun.okG (F : Fun K x qual st f fd) (S : FnScope N ps (defScope st)) (len : ∀ vs H Q E, sp vs H Q E → vs.length = ps.length)
    (hbody : ∀ (cdv : Value) (A : Around) (outer : List Env) (s : Shared) (H : Hp) (vs : List V) (Q : VK) (E : XK), A.guards = some [] → Room k (A.deeper (envOfC qual (defScope st) s.heap.objs.size f cdv)) → sp vs H Q E →
      ∃ t, PSs (cxOf CX0 P w K mg base N qual (defScope st) f cdv A outer s H E).nox (defBody st) t ∧ t { nx := fun _ H' => Q .non H', rt := Q } (start N vs) H) : FnG P w K mg base (k + 1) f fd ps sp := by
  obtain ⟨oc, od, kV, doc, pm, an, cdv, ct, osl, rfl, lk, hcd⟩ := F.ex
  constructor
  · exact len
  · intro A outer s H args us vs Q E hg hr e0 hb r hsp
    have kin : K.In s.heap := e0.mod.kin.keeps fun b o e => (e0.bs b o e).1
    have nol : s.heap.NoLimit := e0.mod.nolimit.keeps fun b o e => (e0.bs b o e).1
    apply codeAny_call_function hr.depth (kin _ _ lk) rfl S.co S.gen rfl (PySem.W.codeRec_of kin hcd)
    apply hb
    apply wpAny_newFunctionEnv_cells S.kind (par_kind S us _)
    rintro env rfl s1 x1
    refine ⟨nol.keeps x1.toInCall.keep, codeAny_func ?_⟩
    obtain ⟨t, ht, hq⟩ := hbody cdv A outer s H vs Q E hg (hr.deeper _) hsp
    have I0 := inv_start (CX := CX0) (E := E) S hr.hd e0 (len _ _ _ _ hsp) r x1
    apply wpAny_mono (ht.nox.run [] s1 (start N vs) H _ I0 hq)
    · intro fl s' hs
      match fl, hs with
      | .next, ⟨σ', H', J, q⟩ => exact ⟨.non, H', J.os, J.bare, J.base, J.hok, rfl, q⟩
      | .ret u, ⟨v, σ', H', J, rv, q⟩ => exact ⟨v, H', J.os, J.bare, J.base, J.hok, rv, q⟩
      | .brk, ⟨_, _, _, q⟩ => exact q.elim
      | .cont, ⟨_, _, _, q⟩ => exact q.elim
    · exact fun e s' h => h
end
end Tw
end
section
set_option maxRecDepth 100000
set_option maxHeartbeats 4000000
/-! layer 24: repr of data -/
namespace Tw
open PySem PySem.Spec PyProof.Rows L2

def keyP : Key → PyData
  | .inl i => .int i
  | .inr x => .str x
mutual
/-- data as the kit writes it -/
def pyD : D → Option PyData
  | .non => some .none
  | .bl b => some (.bool b)
  | .int i => some (.int i)
  | .str x => some (.str x)
  | .lst ds => (pyDs ds).map .list
  | .tup ds => (pyDs ds).map .tuple
  | .dic kvs => (pyDk kvs).map .dict
  | _ => none
def pyDs : List D → Option (List PyData)
  | [] => some []
  | d :: r => (pyD d).bind fun p => (pyDs r).map fun q => p :: q
def pyDk : List (Key × D) → Option (List (PyData × PyData))
  | [] => some []
  | (k, d) :: r => (pyD d).bind fun p => (pyDk r).map fun q => (keyP k, p) :: q
end
section
variable (P : Program) (w : World) (h : Heap)
def Shw (u : Value) (p : PyData) : Prop := ∃ as bs, Reads h u p as ∧ ReadAtMost h p.depth bs ∧ ReprK P w bs h p.depth u p.shown
def Shws (us : List Value) (ps : List PyData) : Prop := ∃ as bs, ReadsAll h us ps as ∧ ReadAtMost h (PyData.depthAll ps) bs ∧ ReprAllK P w bs h (PyData.depthAll ps) us (PyData.shownAll ps)
end
section
variable {P : Program} {w : World} {h : Heap}
theorem Shw.flat {u : Value} {p : PyData} (r : Reads h u p []) (k : ReprIs P w u p.shown) : Shw P w h u p := ⟨[], [], r, fun _ z => (nomatch z), .of_is k _ _ _⟩
theorem Shws.nil : Shws P w h [] [] := ⟨[], [], .nil, fun _ z => (nomatch z), by simp only [PyData.shownAll]; exact .nil⟩
theorem Shws.cons {u : Value} {us : List Value} {p : PyData} {ps : List PyData} (a : Shw P w h u p) (b : Shws P w h us ps) : Shws P w h (u :: us) (p :: ps) := by
  obtain ⟨as, bs, r, m, k⟩ := a
  obtain ⟨cs, ds, r', m', k'⟩ := b
  have l1 : p.depth ≤ PyData.depthAll (p :: ps) := by simp only [PyData.depthAll]; exact Nat.le_max_left _ _
  have l2 : PyData.depthAll ps ≤ PyData.depthAll (p :: ps) := by simp only [PyData.depthAll]; exact Nat.le_max_right _ _
  refine ⟨_, bs ++ ds, .cons r r', (m.mono l1).append (m'.mono l2), ?_⟩
  simp only [PyData.shownAll]
  exact .cons ((k.more fun b hb => List.mem_append_left _ hb).level_le l1) (k'.more_le (fun b hb => List.mem_append_right _ hb) l2)
/-- a list over its parts -/
theorem Shws.list {us : List Value} {ps : List PyData} {a : Addr} {o : Obj} {n : Nat} (b : Shws P w h us ps) (h1 : h.get? a = some o) (h2 : o.cls = .type "list") (h3 : o.data = .seq us.toArray n) : Shw P w h (.ref a) (.list ps) := by
  obtain ⟨as, bs, r, m, k⟩ := b
  have R : Reads h (.ref a) (.list ps) (a :: as) := .list h1 h2 h3 r
  have na : a ∉ bs := not_mem_of_deeper R (by simp only [PyData.depth]; omega) m
  refine ⟨_, a :: bs, R, .cons R (by simp only [PyData.depth]; omega) m, ?_⟩
  simp only [PyData.depth, PyData.shown]
  match us, ps, r, k, h3 with
  | [], [], _, _, h3 =>
    simp only [PyData.shownAll, listText_nil]
    exact ReprK.listEmpty h1 h2 h3
  | x :: l, ps, _, k, h3 => exact ReprK.list h1 h2 h3 na (by simpa using k.length_eq) fun i y e => k.item i y (by simpa using e)
theorem Shws.tuple {us : List Value} {ps : List PyData} {a : Addr} {o : Obj} {n : Nat} (b : Shws P w h us ps) (h1 : h.get? a = some o) (h2 : o.cls = .type "tuple") (h3 : o.data = .seq us.toArray n) : Shw P w h (.ref a) (.tuple ps) := by
  obtain ⟨as, bs, r, m, k⟩ := b
  have R : Reads h (.ref a) (.tuple ps) as := .tuple h1 h2 h3 r
  have na : a ∉ bs := not_mem_of_deeper R (by simp only [PyData.depth]; omega) m
  refine ⟨_, a :: bs, R, .cons R (by simp only [PyData.depth]; omega) m, ?_⟩
  simp only [PyData.depth, PyData.shown]
  exact ReprK.tuple h1 h2 h3 na k
theorem Shws.dict {kvs : List (PyData × PyData)} {a : Addr} {o : Obj} {es : Array DictEntry} {n : Nat} (b : Shws P w h (es.toList.map (·.key)) (kvs.map (·.1))) (c : Shws P w h (es.toList.map (·.val)) (kvs.map (·.2)))
    (h1 : h.get? a = some o) (h2 : o.cls = .type "dict") (h3 : o.data = .dict es n) (hs : (a == sysModules) = false) : Shw P w h (.ref a) (.dict kvs) := by
  obtain ⟨as, bs, r, m, k⟩ := b
  obtain ⟨cs, ds, r', m', k'⟩ := c
  have R : Reads h (.ref a) (.dict kvs) (a :: as ++ cs) := .dict h1 h2 h3 r r'
  have l1 := PyData.depthAll_keys_le kvs
  have l2 := PyData.depthAll_vals_le kvs
  have mm := (m.mono l1).append (m'.mono l2)
  have na : a ∉ bs ++ ds := not_mem_of_deeper R (by simp only [PyData.depth]; omega) mm
  refine ⟨_, a :: (bs ++ ds), R, .cons R (by simp only [PyData.depth]; omega) mm, ?_⟩
  simp only [PyData.depth, PyData.shown, PyData.shownKv_eq]
  exact ReprK.dict h1 h2 h3 hs na (ReprEntriesK.of_two _ _ _ (k.more_le (fun b hb => List.mem_append_left _ hb) l1) (k'.more_le (fun b hb => List.mem_append_right _ hb) l2))
end
section
variable {X : Cx} {pins : List (Addr × Obj)} {σ : Sg} {H : Hp} {s : Shared} {mg : Str → Option Value} {Z : Addr → Prop}
theorem keys_shw : ∀ {kvs : List (Key × D)} {p : List (PyData × PyData)} {vs : List (Key × V)} {ws : List (Key × Value)} {es : List DictEntry}, pyDk kvs = some p → RepK mg Z H kvs vs → KV vs ws → Pairs (mixKind X.prog X.w) es ws →
    PyData.showableKv p = true → (∀ t ∈ PyData.shownKv p, t.length ≤ sizeLine) → Shws X.prog X.w s.heap (es.map (·.key)) (p.map (·.1))
  | [], p, vs, ws, es, e, r, kv, pr, _, _ => by
    cases e; cases r; cases kv; cases pr
    exact .nil
  | (k, d) :: t, p, vs, ws, es, e, r, kv, pr, hs, hz => by
    obtain ⟨v, w, rfl, r1, r2⟩ := r
    obtain ⟨p1, e1, e2⟩ := bind_some.mp e
    obtain ⟨p2, e3, e4⟩ := map_some.mp e2
    subst e4
    cases kv with
    | cons kv1 kv2 =>
      cases pr with
      | cons i1 i2 i3 =>
        rename_i q qs e0 es0
        simp only [PyData.showableKv, Bool.and_eq_true] at hs
        simp only [PyData.shownKv] at hz
        refine .cons ?_ (keys_shw e3 r2 kv2 i3 hs.2 fun x hx => hz x (List.mem_cons_of_mem _ hx))
        have hl := hz _ List.mem_cons_self
        rw [strLen_append, strLen_append] at hl
        have hk : keyIs q.1 e0.key = true := i1
        rw [← kv1.1] at hk
        rcases keyIs_shape hk with ⟨i, tk, ev, ek⟩ | ⟨x, tk, ev, ek⟩
        · obtain rfl : k = _ := by first | exact ek | exact ev
          show Shw _ _ _ e0.key (.int i)
          rw [show e0.key = _ from by first | exact ev | exact ek]
          exact .flat (.int i tk) (.int tk (by simpa [keyP, PyData.showable] using hs.1.1))
        · obtain rfl : k = _ := by first | exact ek | exact ev
          show Shw _ _ _ e0.key (.str x)
          rw [show e0.key = _ from by first | exact ev | exact ek]
          exact .flat (.str x tk) (.str x tk (by simp only [keyP, PyData.shown] at hl; omega))
mutual
theorem shw (I : Inv X pins σ H s) : ∀ (d : D) {p : PyData} {v : V} {u : Value}, pyD d = some p → Rep mg Z H d v → RelV v u → p.showable = true → p.shown.length ≤ sizeLine → Shw X.prog X.w s.heap u p
  | .non, p, v, u, e, r, rv, _, _ => by
    cases e; cases r; cases rv
    exact .flat .none .none
  | .bl b, p, v, u, e, r, rv, _, _ => by
    cases e; cases r; cases rv
    exact .flat (.bool b) (.bool b)
  | .int i, p, v, u, e, r, rv, hs, _ => by
    cases e; cases r
    obtain ⟨t, rfl⟩ := rv
    exact .flat (.int i t) (.int t (by simpa [PyData.showable] using hs))
  | .str x, p, v, u, e, r, rv, _, hz => by
    cases e; cases r
    obtain ⟨t, rfl⟩ := rv
    exact .flat (.str x t) (.str x t (by simpa only [PyData.shown] using hz))
  | .lst ds, p, v, u, e, r, rv, hs, hz => by
    obtain ⟨q, e1, rfl⟩ := map_some.mp e
    obtain ⟨a, vs, rfl, _, g, rr⟩ := r
    cases rv
    obtain ⟨its, rl, ⟨o, n, h1, h2, _, h3⟩, _⟩ := I.list (.inl g.l2)
    refine Shws.list (shws I ds e1 rr rl (by simpa [PyData.showable] using hs) fun t ht => ?_) h1 h2 h3
    simp only [PyData.shown] at hz
    exact Nat.le_trans (listText_mem_le ht) hz
  | .tup ds, p, v, u, e, r, rv, hs, hz => by
    obtain ⟨q, e1, rfl⟩ := map_some.mp e
    obtain ⟨a, vs, o0, rfl, _, _, g, rr⟩ := r
    cases rv
    obtain ⟨its, rl, ⟨o, h1, h2, n, h3⟩, _⟩ := I.tuple (.inl g.frz2)
    refine Shws.tuple (shws I ds e1 rr rl (by simpa [PyData.showable] using hs) fun t ht => ?_) h1 h2 h3
    simp only [PyData.shown] at hz
    exact Nat.le_trans (tupleText_mem_le ht) hz
  | .dic kvs, p, v, u, e, r, rv, hs, hz => by
    obtain ⟨q, e1, rfl⟩ := map_some.mp e
    obtain ⟨a, vs, rfl, _, g, rr⟩ := r
    cases rv
    obtain ⟨_, hsm, ws, rel, o, es, ep, h1, h2, h3, _, pr, _⟩ := dk_rd I.hok g.l2
    simp only [PyData.shown] at hz
    have hs' : PyData.showableKv q = true := by simpa [PyData.showable] using hs
    have hz' : ∀ t ∈ PyData.shownKv q, t.length ≤ sizeLine := fun t ht => Nat.le_trans (dictText_mem_le ht) hz
    exact Shws.dict (keys_shw e1 rr rel pr hs' hz') (shwk I kvs e1 rr rel pr hs' hz') h1 h2.1 h3 hsm
  | .pr _, p, v, u, e, _, _, _, _ => by cases e
  | .ins _ _, p, v, u, e, _, _, _, _ => by cases e
theorem shws (I : Inv X pins σ H s) : ∀ (ds : List D) {p : List PyData} {vs : List V} {us : List Value}, pyDs ds = some p → Reps mg Z H ds vs → Vals vs us → PyData.showableAll p = true → (∀ t ∈ PyData.shownAll p, t.length ≤ sizeLine) → Shws X.prog X.w s.heap us p
  | [], p, vs, us, e, r, rv, _, _ => by
    cases e; cases r; cases rv
    exact .nil
  | d :: t, p, vs, us, e, r, rv, hs, hz => by
    obtain ⟨v, w, rfl, r1, r2⟩ := r
    obtain ⟨p1, e1, e2⟩ := bind_some.mp e
    obtain ⟨p2, e3, rfl⟩ := map_some.mp e2
    cases rv with
    | cons rv1 rv2 =>
      simp only [PyData.showableAll, Bool.and_eq_true] at hs
      simp only [PyData.shownAll] at hz
      exact .cons (shw I d e1 r1 rv1 hs.1 (hz _ List.mem_cons_self)) (shws I t e3 r2 rv2 hs.2 fun x hx => hz x (List.mem_cons_of_mem _ hx))
theorem shwk (I : Inv X pins σ H s) : ∀ (kvs : List (Key × D)) {p : List (PyData × PyData)} {vs : List (Key × V)} {ws : List (Key × Value)} {es : List DictEntry}, pyDk kvs = some p → RepK mg Z H kvs vs → KV vs ws → Pairs (mixKind X.prog X.w) es ws →
    PyData.showableKv p = true → (∀ t ∈ PyData.shownKv p, t.length ≤ sizeLine) → Shws X.prog X.w s.heap (es.map (·.val)) (p.map (·.2))
  | [], p, vs, ws, es, e, r, kv, pr, _, _ => by
    cases e; cases r; cases kv; cases pr
    exact .nil
  | (k, d) :: t, p, vs, ws, es, e, r, kv, pr, hs, hz => by
    obtain ⟨v, w, rfl, r1, r2⟩ := r
    obtain ⟨p1, e1, e2⟩ := bind_some.mp e
    obtain ⟨p2, e3, rfl⟩ := map_some.mp e2
    cases kv with
    | cons kv1 kv2 =>
      cases pr with
      | cons i1 i2 i3 =>
        rename_i q qs e0 es0
        simp only [PyData.showableKv, Bool.and_eq_true] at hs
        simp only [PyData.shownKv] at hz
        have hl := hz _ List.mem_cons_self
        rw [strLen_append, strLen_append] at hl
        refine .cons (shw I d e1 r1 (by show RelV v e0.val; rw [i2]; exact kv1.2) hs.1.2 (by show p1.shown.length ≤ _; omega)) (shwk I t e3 r2 kv2 i3 hs.2 fun x hx => hz x (List.mem_cons_of_mem _ hx))
end
end
/-! ### repr of a container -/
section
variable {P : Program} {w : World} {A : Around} {E : Value → Shared → Prop} {s : Shared} {Q : Value → Shared → Prop} {a : Addr} {o : Obj}
theorem repr_list {us : List Value} {ps : List PyData} {n : Nat} (b : Shws P w s.heap us ps) (h1 : s.heap.get? a = some o) (h2 : o.cls = .type "list") (h3 : o.data = .seq us.toArray n)
    (hg : A.guards = some []) (hu : A.units + (PyData.depth (.list ps) + 1) < cLine) (hz : (PyData.shown (.list ps)).length ≤ sizeLine)
    (hQ : ∀ h' u tk, (∀ b o, s.heap.get? b = some o → h'.get? b = some o) → Q (.str (PyData.shown (.list ps)) u) { s with heap := h', toks := tk }) : wpAny (model P w) A (call (.builtin "repr") [.ref a]) Q E s := by
  obtain ⟨as, bs, r, m, k⟩ := b
  have R : Reads s.heap (.ref a) (.list ps) (a :: as) := .list h1 h2 h3 r
  have na : a ∉ bs := not_mem_of_deeper R (by simp only [PyData.depth]; omega) m
  have hu' : A.in1.units + (PyData.depthAll ps + 1) < cLine := by
    simp only [PyData.depth] at hu
    show A.units + 1 + _ < _
    omega
  refine call_repr_slot (by omega) ⟨o, h1, h2⟩ F.slot_list_repr.toG ?_
  simp only [PyData.shown] at hQ hz
  match us, ps, r, k, h3, hQ with
  | [], [], _, _, h3, hQ =>
    simp only [PyData.shownAll, listText_nil] at hQ
    exact call_list_repr_empty ⟨o, h1, h2⟩ h1 h3 ⟨_, _, rfl, hQ s.heap _ _ fun _ _ e => e⟩
  | x :: l, ps, _, k, h3, hQ =>
    exact call_list_reprK h1 h2 h3 na (by simpa using k.length_eq) (fun i y e => k.item i y (by simpa using e)) (show A.in1.guards = some [] from hg) (fun b _ => Clear.nil b) hu' (fun _ _ e => e) (fun h' u tk hk => ⟨_, _, rfl, hQ h' u tk hk⟩) hz
theorem repr_tuple {us : List Value} {ps : List PyData} {n : Nat} (b : Shws P w s.heap us ps) (h1 : s.heap.get? a = some o) (h2 : o.cls = .type "tuple") (h3 : o.data = .seq us.toArray n)
    (hg : A.guards = some []) (hu : A.units + (PyData.depth (.tuple ps) + 1) < cLine) (hz : (PyData.shown (.tuple ps)).length ≤ sizeLine)
    (hQ : ∀ h' u tk, (∀ b o, s.heap.get? b = some o → h'.get? b = some o) → Q (.str (PyData.shown (.tuple ps)) u) { s with heap := h', toks := tk }) : wpAny (model P w) A (call (.builtin "repr") [.ref a]) Q E s := by
  obtain ⟨as, bs, r, m, k⟩ := b
  have R : Reads s.heap (.ref a) (.tuple ps) as := .tuple h1 h2 h3 r
  have na : a ∉ bs := not_mem_of_deeper R (by simp only [PyData.depth]; omega) m
  have hu' : A.in1.units + (PyData.depthAll ps + 1) < cLine := by
    simp only [PyData.depth] at hu
    show A.units + 1 + _ < _
    omega
  simp only [PyData.shown] at hQ hz
  exact call_repr_slot (by omega) ⟨o, h1, h2⟩ F.slot_tuple_repr (call_tuple_reprK h1 h2 h3 na k (show A.in1.guards = some [] from hg) (fun b _ => Clear.nil b) hu' (fun _ _ e => e) (fun h' u tk hk => ⟨_, _, rfl, hQ h' u tk hk⟩) hz)
theorem repr_dict {kvs : List (PyData × PyData)} {es : Array DictEntry} {n : Nat} (b : Shws P w s.heap (es.toList.map (·.key)) (kvs.map (·.1))) (c : Shws P w s.heap (es.toList.map (·.val)) (kvs.map (·.2)))
    (h1 : s.heap.get? a = some o) (h2 : o.cls = .type "dict") (h3 : o.data = .dict es n) (hs : (a == sysModules) = false)
    (hg : A.guards = some []) (hu : A.units + (PyData.depth (.dict kvs) + 1) < cLine) (hz : (PyData.shown (.dict kvs)).length ≤ sizeLine)
    (hQ : ∀ h' u tk, (∀ b o, s.heap.get? b = some o → h'.get? b = some o) → Q (.str (PyData.shown (.dict kvs)) u) { s with heap := h', toks := tk }) : wpAny (model P w) A (call (.builtin "repr") [.ref a]) Q E s := by
  obtain ⟨as, bs, r, m, k⟩ := b
  obtain ⟨cs, ds, r', m', k'⟩ := c
  have R : Reads s.heap (.ref a) (.dict kvs) (a :: as ++ cs) := .dict h1 h2 h3 r r'
  have l1 := PyData.depthAll_keys_le kvs
  have l2 := PyData.depthAll_vals_le kvs
  have na : a ∉ bs ++ ds := not_mem_of_deeper R (by simp only [PyData.depth]; omega) ((m.mono l1).append (m'.mono l2))
  have hu' : A.in1.units + (PyData.depthKv kvs + 1) < cLine := by
    simp only [PyData.depth] at hu
    show A.units + 1 + _ < _
    omega
  simp only [PyData.shown, PyData.shownKv_eq] at hQ hz
  exact call_repr_slot (by omega) ⟨o, h1, h2⟩ F.slot_dict_repr (call_dict_reprK h1 h2 h3 hs na (ReprEntriesK.of_two _ _ _ (k.more_le (fun b hb => List.mem_append_left _ hb) l1) (k'.more_le (fun b hb => List.mem_append_right _ hb) l2))
    (show A.in1.guards = some [] from hg) (fun b _ => Clear.nil b) hu' (fun _ _ e => e) (fun h' u tk hk => ⟨_, _, rfl, hQ h' u tk hk⟩) hz)
end
/-- repr(x) -/
def reprD : List D → Option A
  | [d] => (pyD d).bind fun p => if p.showable = true ∧ p.shown.length ≤ sizeLine ∧ p.depth ≤ 100 then some (.d (.str p.shown)) else none
  | _ => none
theorem cD_repr {X : Cx} (hg : X.A.guards = some []) (hu : X.A.units + 102 < cLine) : CallD X (.builtin "repr") reprD := by
  intro pins s σ H xs us Q I r h
  obtain ⟨Z, ds, x, hz, ra, e, k⟩ := h
  unfold reprD at e
  split at e
  case h_2 => cases e
  rename_i d
  obtain ⟨p, e1, e2⟩ := bind_some.mp e
  split at e2
  case isFalse => cases e2
  rename_i hp
  cases e2
  obtain ⟨v, rfl, rt⟩ := arg1 ra
  obtain ⟨u, rfl, ru⟩ := vals1 r
  have fin : ∀ h' t tk, (∀ b o, s.heap.get? b = some o → h'.get? b = some o) → EP X pins σ Q (.str p.shown t) { s with heap := h', toks := tk } := fun h' t tk hk => ⟨.str p.shown, H, I.kept hk, ⟨t, rfl⟩, k.sc rfl⟩
  have fin0 : ∀ {y : Str}, p.shown = y → EP X pins σ Q (.str y s.toks) { s with toks := s.toks + 1 } := fun {y} e => by
    rw [← e]
    exact fin s.heap s.toks _ fun _ _ e => e
  cases d with
  | non =>
    cases (show v = .non from rt)
    cases e1
    cases (show u = .none from ru)
    exact PySem.P.repr_of_none (fin0 (by simp only [PyData.shown]))
  | bl b =>
    cases (show v = .bl b from rt)
    cases e1
    cases (show u = .bool b from ru)
    exact PySem.P.repr_of_bool (fin0 (by simp only [PyData.shown]))
  | int i =>
    cases (show v = .int i from rt)
    cases e1
    obtain ⟨t, rfl⟩ := ru
    exact PySem.P.repr_of_int (by simpa [PyData.showable] using hp.1) (fin0 (by simp only [PyData.shown]))
  | str y =>
    cases (show v = .str y from rt)
    cases e1
    obtain ⟨t, rfl⟩ := ru
    exact PySem.P.repr_of_str (fin0 (by simp only [PyData.shown])) (by simpa only [PyData.shown] using hp.2.1)
  | lst ds =>
    obtain ⟨q, e3, rfl⟩ := map_some.mp e1
    obtain ⟨a, vs, rfl, g, rr⟩ := rt
    cases ru
    obtain ⟨its, rl, ⟨o, n, h1, h2, _, h3⟩, _⟩ := I.list (.inl g.l2)
    have hl := hp.2.1
    simp only [PyData.shown] at hl
    exact repr_list (shws I ds e3 rr rl (by simpa [PyData.showable] using hp.1) fun t ht => Nat.le_trans (listText_mem_le ht) hl) h1 h2 h3 hg (by omega) hp.2.1 fun h' u tk hk => fin h' u tk hk
  | tup ds =>
    obtain ⟨q, e3, rfl⟩ := map_some.mp e1
    obtain ⟨a, vs, o0, rfl, _, _, g, rr⟩ := rt
    cases ru
    obtain ⟨its, rl, ⟨o, h1, h2, n, h3⟩, _⟩ := I.tuple (.inl g.frz2)
    have hl := hp.2.1
    simp only [PyData.shown] at hl
    exact repr_tuple (shws I ds e3 rr rl (by simpa [PyData.showable] using hp.1) fun t ht => Nat.le_trans (tupleText_mem_le ht) hl) h1 h2 h3 hg (by omega) hp.2.1 fun h' u tk hk => fin h' u tk hk
  | dic kvs =>
    obtain ⟨q, e3, rfl⟩ := map_some.mp e1
    obtain ⟨a, vs, rfl, g, rr⟩ := rt
    cases ru
    obtain ⟨_, hsm, ws, rel, o, es, ep, h1, h2, h3, _, pr, _⟩ := dk_rd I.hok g.l2
    have hl := hp.2.1
    simp only [PyData.shown] at hl
    have hs' : PyData.showableKv q = true := by simpa [PyData.showable] using hp.1
    have hz' : ∀ t ∈ PyData.shownKv q, t.length ≤ sizeLine := fun t ht => Nat.le_trans (dictText_mem_le ht) hl
    exact repr_dict (keys_shw e3 rr rel pr hs' hz') (shwk I kvs e3 rr rel pr hs' hz') h1 h2.1 h3 hsm hg (by omega) hp.2.1 fun h' u tk hk => fin h' u tk hk
  | pr _ => cases e1
  | ins _ _ => cases e1
end Tw
end
section
set_option maxRecDepth 100000
set_option maxHeartbeats 4000000
/-! layer 25: calls and entry of the defs that show data -/
namespace Tw
open PySem PySem.Spec PyProof.Rows L2
section
variable {mg : Str → Option Value}
theorem len0 {vs : List V} {H : Hp} {Q : VK} {E : XK} {N ps : List Str} {b : SF} (h : sp0 mg (run0 N.length ps.length b) vs H Q E) : vs.length = ps.length := by
  obtain ⟨Z, ds, r, _, hr, e, _⟩ := h
  unfold run0 at e
  split at e
  · rename_i h1; rw [← h1, hr.length]
  · cases e
theorem body0 {X : Cx} {sts : List Stmt} {vs : List V} {H : Hp} {Q : VK} {E : XK} {N ps : List Str} {b : SF} (hnp : ps.length ≤ N.length) (hb : BI X sts b) (h : sp0 X.mg (run0 N.length ps.length b) vs H Q E) : ∃ t, PSs X sts t ∧ t { nx := fun _ H' => Q .non H', rt := Q } (start N vs) H := by
  obtain ⟨Z, ds, r, hz, hrep, e, ret⟩ := h
  unfold run0 at e
  split at e
  case isFalse => cases e
  rename_i hl
  obtain ⟨⟨o, ρ'⟩, e1, e2⟩ := bind_some.mp e
  refine ⟨_, hb, ⟨Z, H, fun _ => [], fun _ => .non⟩, _, [], [], o, ρ', ⟨_, good0 hz hrep (by omega)⟩, e1, ?_⟩
  have fin : ∀ σ' v H' y, SR X.mg ⟨Z, H, fun _ => [], fun _ => .non⟩ σ' H' ρ' [] [] (some y) v → y = r → Q v H' := fun σ' v H' y ⟨fp, g⟩ hy => by
    subst hy
    obtain ⟨u, e3, own⟩ := g.ent none _ rfl
    cases e3
    refine ret v H' (fp none) (fun b o e => g.keep b o e fun _ h => by cases h) (fun a ha => ?_) (g.nd none) (own.mono (fun a u z h => ⟨fun w => ?_, h⟩) fun _ _ => rfl) (g.rnb _ rfl)
    · rcases g.new none a ha with h | h
      · cases h
      · exact h
    · rcases w with w | w
      · exact z (.inl w)
      · exact z (.inr ⟨none, w⟩)
  cases o with
  | nx =>
    cases e2
    exact fun σ' H' ⟨fp, g⟩ => fin σ' .non H' _ ⟨_, g.put (x := .non) (u := .non) rfl⟩ rfl
  | rt y =>
    cases e2
    exact fun σ' v H' s => fin σ' v H' _ s rfl
  | bk => cases e2
  | ct => cases e2
theorem len1 {vs : List V} {H : Hp} {Q : VK} {E : XK} {N ps : List Str} {b : SF} (h : sp1 mg (run1 N.length ps.length b) vs H Q E) : vs.length = ps.length := by
  obtain ⟨Z, x, u, fx, ds, us, r, x', rfl, _, _, _, _, _, hr, e, _⟩ := h
  unfold run1 at e
  split at e
  · rename_i h1; rw [← h1, hr.length]; rfl
  · cases e
theorem body1 {X : Cx} {sts : List Stmt} {vs : List V} {H : Hp} {Q : VK} {E : XK} {N ps : List Str} {b : SF} (hnp : ps.length ≤ N.length) (hb : BI X sts b) (h : sp1 X.mg (run1 N.length ps.length b) vs H Q E) : ∃ t, PSs X sts t ∧ t { nx := fun _ H' => Q .non H', rt := Q } (start N vs) H := by
  obtain ⟨Z, x, u, fx, ds, us, r, x', rfl, hx, hxb, nd, hfz, hz, hrep, e, ret⟩ := h
  unfold run1 at e
  split at e
  case isFalse => cases e
  rename_i hl
  obtain ⟨⟨o, ρ'⟩, e1, e2⟩ := bind_some.mp e
  obtain ⟨y0, e3, e4⟩ := bind_some.mp e2
  simp only at e3 e4
  by_cases hyb : y0.bor = true
  case neg => rw [if_neg hyb] at e4; cases e4
  rw [if_pos hyb] at e4
  refine ⟨_, hb, _, _, [], [], o, ρ', ⟨_, good1 hz hx hxb nd hfz hrep (by omega)⟩, e1, ?_⟩
  have fin : ∀ σ' v H' y, SR X.mg ⟨Z, H, fun i => if i = 0 then fx else [], fun _ => u⟩ σ' H' ρ' [] [] (some y) v → y = r → y0 = x' → Q v H' := fun σ' v H' y ⟨fp, g⟩ hy hy0 => by
    subst hy; subst hy0
    obtain ⟨u1, e5, own⟩ := g.ent none _ rfl
    cases e5
    obtain ⟨u2, e6, own2⟩ := g.ent (some 0) _ e3
    have e7 := g.bvs 0 _ e3 hyb
    cases e6.symm.trans e7
    have zz : ∀ a, (Z a ∨ a ∈ fp (some 0) ∨ a ∈ fp none) → Zof ⟨Z, H, fun i => if i = 0 then fx else [], fun _ => u⟩ fp a := fun a h => by
      rcases h with h | h | h
      · exact .inl h
      · exact .inr ⟨_, h⟩
      · exact .inr ⟨_, h⟩
    refine ret v H' (fp none) (fp (some 0)) (fun b o e hb => g.keep b o e fun i h => ?_) (fun b h => g.mor b h) (fun a ha => ?_) (g.nd _) (fun a ha => ?_) (g.nd none) (fun a h1 h2 => ?_) (own2.mono (fun a u z h => ⟨fun w => z (zz a w), h⟩) fun _ _ => rfl) (own.mono (fun a u z h => ⟨fun w => z (zz a w), h⟩) fun _ _ => rfl) hyb (g.rnb _ rfl)
    · have h : b ∈ (if i = 0 then fx else []) := h
      split at h
      · exact hb h
      · cases h
    · exact g.new (some 0) a ha
    · rcases g.new none a ha with h | h
      · cases h
      · exact h
    · cases g.ap _ _ a h1 h2
  cases o with
  | nx =>
    cases e4
    exact fun σ' H' ⟨fp, g⟩ => fin σ' .non H' _ ⟨_, g.put (x := .non) (u := .non) rfl⟩ rfl rfl
  | rt y =>
    cases e4
    exact fun σ' v H' s => fin σ' v H' _ s rfl rfl
  | bk => cases e4
  | ct => cases e4
end
section
variable (P : Program) (w : World) (K : PySem.W.Frag) (mg : Str → Option Value) (base : Heap)
def CalG (nm : Str) (ps : List Str) (k : Nat) (F : F0) : Prop := ∃ f fd, mg nm = some (.ref f) ∧ PySem.W.keepIn K (.ref f) = true ∧ Binds K fd ps [] ∧ FnG P w K mg base k f fd ps (sp0 mg F)
def CalG1 (nm : Str) (ps : List Str) (k : Nat) (F : F1) : Prop := ∃ f fd, mg nm = some (.ref f) ∧ PySem.W.keepIn K (.ref f) = true ∧ Binds K fd ps [] ∧ FnG P w K mg base k f fd ps (sp1 mg F)
end
section
variable {P : Program} {w : World} {K : PySem.W.Frag} {mg : Str → Option Value} {base : Heap} {nm cn qual : Str} {st : Stmt} {ps N : List Str} {k : Nat} {b : SF} {F : F0} {G : F1}
theorem CalG.none (T : DefT K mg nm st ps) : CalG P w K mg base nm ps k fun _ => none := let ⟨f, fd, m, F, bi⟩ := T; ⟨f, fd, m, F.kp, bi, .of no0⟩
theorem CalG1.none (T : DefT K mg nm st ps) : CalG1 P w K mg base nm ps k fun _ _ => none := let ⟨f, fd, m, F, bi⟩ := T; ⟨f, fd, m, F.kp, bi, .of no1⟩
abbrev BodyG (P : Program) (w : World) (K : PySem.W.Frag) (mg : Str → Option Value) (base : Heap) (qual : Str) (st : Stmt) (N : List Str) (k : Nat) (b : SF) : Prop :=
  ∀ (f : Addr) (cdv : Value) (A : Around) (outer : List Env) (s : Shared) (H : Hp) (E : XK), A.guards = some [] → Room k (A.deeper (envOfC qual (defScope st) s.heap.objs.size f cdv)) → BI (cxOf CX0 P w K mg base N qual (defScope st) f cdv A outer s H E).nox (defBody st) b
theorem okG0 {x : Str} {f : Addr} {fd : FuncData} (F : Fun K x qual st f fd) (S : FnScope N ps (defScope st)) (hnp : ps.length ≤ N.length) (hb : BodyG P w K mg base qual st N k b) :
    FnG P w K mg base (k + 1) f fd ps (sp0 mg (run0 N.length ps.length b)) :=
  Tw.Fun.okG F S (fun vs H Q E h => len0 h) fun cdv A outer s H vs Q E hg hr h => body0 hnp (hb f cdv A outer s H E hg hr) h
theorem okG1 {x : Str} {f : Addr} {fd : FuncData} (F : Fun K x qual st f fd) (S : FnScope N ps (defScope st)) (hnp : ps.length ≤ N.length) (hb : BodyG P w K mg base qual st N k b) :
    FnG P w K mg base (k + 1) f fd ps (sp1 mg (run1 N.length ps.length b)) :=
  Tw.Fun.okG F S (fun vs H Q E h => len1 h) fun cdv A outer s H vs Q E hg hr h => body1 hnp (hb f cdv A outer s H E hg hr) h
theorem CalG.mk {k' : Nat} (T : DefT K mg nm st ps) (S : FnScope N ps (defScope st)) (hb : BodyG P w K mg base nm st N k b) (hnp : ps.length ≤ N.length := by decide) (hk : k + 1 ≤ k' := by omega) : CalG P w K mg base nm ps k' (run0 N.length ps.length b) :=
  let ⟨f, fd, m, F, bi⟩ := T; ⟨f, fd, m, F.kp, bi, (okG0 F S hnp hb).up hk⟩
theorem CalG1.mk {k' : Nat} (T : DefT K mg nm st ps) (S : FnScope N ps (defScope st)) (hb : BodyG P w K mg base nm st N k b) (hnp : ps.length ≤ N.length := by decide) (hk : k + 1 ≤ k' := by omega) : CalG1 P w K mg base nm ps k' (run1 N.length ps.length b) :=
  let ⟨f, fd, m, F, bi⟩ := T; ⟨f, fd, m, F.kp, bi, (okG1 F S hnp hb).up hk⟩
end
/-! ### calls -/
section
variable {X : Cx} {k k' : Nat} {ps : List Str} {x : Str} {p pos : Pos} {e : Expr} {es : List Expr} {os : List Opd} {f : Addr} {fd : FuncData} {sp : Sp} {F : F0} {G : F1} {t : TA}
theorem run_g {pins : List (Addr × Obj)} {σ : L2.St} {H : Hp} {s : Shared} {Q : VK} {us : List Value} {vs : List V} (F : FnG X.prog X.w X.K X.mg X.base k f fd ps sp) (hg : X.A.guards = some []) (hr : Room k X.A) (hb : Binds X.K fd ps [])
    (I : Inv X pins σ H s) (r : Vals vs us) (h : sp vs H Q E0) : wpAny (model X.prog X.w) X.A (call (.ref f) us) (EP X pins σ Q) X.xe s := by
  have hl : us.length = ps.length := r.length.symm.trans (F.len _ _ _ _ h)
  have bnd : BindsTo s fd ⟨us, []⟩ (ps.zip us) := by
    have := hb s us I.kIn (by simpa using hl)
    rwa [List.append_nil] at this
  apply wpAny_call
  apply codeAny_mono (F.go X.A X.stack s H ⟨us, []⟩ us vs Q E0 hg hr I.env0 bnd r h)
  intro res s' q
  match res, q with
  | .ok (.ret u), q => exact I.after q
  | .error _, q => exact q.elim
theorem e_callG (c : CalG X.prog X.w X.K X.mg X.base x ps k F) (hG : X.A.guards = some []) (hr : Room k' X.A) (ha : AI X (e :: es) os) (hk : k ≤ k' := by omega) (hg : Gl X x := by rfl) (hdb : (x == ("__debug__" : Str)) = false := by decide)
    (he : starEach (e :: es) X.env = (false, eval e X.env) :: starEach es X.env := by rfl) (hpl : (backTo pos (starEach es X.env)).any (·.1) = false := by rfl) : EI X (.Call (.Name x p) (e :: es) [] pos) (cal0 os F) := by
  obtain ⟨f, fd, m, kp, bi, G⟩ := c
  refine ⟨fun pins s σ H Q I h => ?_⟩
  have h' : tAr X.mg os σ H fun vs H1 => sp0 X.mg F vs H1 Q E0 := cal0_go h
  refine wpAny_Call_Name_kw (ld_glob I hg m ?_ hdb)
  refine PySem.W.callWith_K (h₀ := X.base) I.ok.mod.kin kp (thn (ha.run pos pins s σ H _ I h') fun us s1 ⟨vs, H1, I1, r, q⟩ => ⟨I1.kIn, ?_⟩) he hpl
  exact run_g G hG (hr.mono hk) bi I1 r q
theorem e_callG1 {FF : F1} (i : Nat) {y : Str} {py : Pos} (c : CalG1 X.prog X.w X.K X.mg X.base x ps k FF) (hG : X.A.guards = some []) (hr : Room k' X.A) (ha : AI X es os) (hk : k ≤ k' := by omega) (hN : X.N[i]? = some y := by rfl) (hv : Vis X.env.scope y := by first | exact Or.inl rfl | exact Or.inr (Or.inl rfl) | exact Or.inr (Or.inr rfl))
    (hd : (y == ("__debug__" : Str)) = false := by decide) (hcd : (y == ("__classdict__" : Str)) = false := by decide) (hg : Gl X x := by rfl) (hs1 : starEach (.Name y py :: es) X.env = (false, eval (.Name y py) X.env) :: starEach es X.env := by rfl)
    (hdb : (x == ("__debug__" : Str)) = false := by decide) (hpl : (backTo pos (starEach es X.env)).any (·.1) = false := by rfl) : EI X (.Call (.Name x p) (.Name y py :: es) [] pos) (cal1 i os FF) := by
  obtain ⟨f, fd, m, kp, bi, G⟩ := c
  refine ⟨fun pins s σ H Q I h => ?_⟩
  have h' : tCons (tVar i) (tAr X.mg os) σ H fun vs H1 => sp1 X.mg FF vs H1 Q E0 := cal1_go h
  refine wpAny_Call_Name_kw (ld_glob I hg m ?_ hdb)
  refine PySem.W.callWith_K (h₀ := X.base) I.ok.mod.kin kp (thn ((pa_cons (pe_var hN hv hd hcd) ha hs1).run pos pins s σ H _ I h') fun us s1 ⟨vs, H1, I1, r, q⟩ => ⟨I1.kIn, ?_⟩) hs1 hpl
  exact run_g G hG (hr.mono hk) bi I1 r q
end
/-! ### the entry -/
def noL (K : PySem.W.Frag) : Bool := K.all fun p => !(p.2.cls == Value.type "list")
theorem noL_at {K : PySem.W.Frag} (h : noL K = true) {a : Addr} {o : Obj} (e : K.lookup a = some o) : o.cls ≠ .type "list" := by
  induction K with
  | nil => cases e
  | cons p r ih =>
    obtain ⟨b, u⟩ := p
    unfold noL at h
    rw [List.all_cons, Bool.and_eq_true] at h
    rw [List.lookup_cons] at e
    cases hb : a == b with
    | true =>
      rw [hb] at e
      cases e
      intro hc
      have h1 := h.1
      rw [hc] at h1
      simp at h1
    | false =>
      rw [hb] at e
      exact ih h.2 e
/-- what law(script) promises -/
def spLaw : Sp := fun vs H Q _ => ∃ (a : Addr) (ns : List Int), vs = [.ref a] ∧ Rd H a (.lst (ns.map V.int)) ∧ ns.length ≤ 63 ∧ ∀ H', Q (.bl true) H'
theorem ints_rep {mg : Str → Option Value} {Z : Addr → Prop} {H : Hp} : ∀ ns : List Int, Reps mg Z H (ns.map D.int) (ns.map V.int)
  | [] => rfl
  | n :: r => ⟨_, _, rfl, rfl, ints_rep r⟩
/-- only the script is known, and it is locked -/
def Hscr (a : Addr) (o : Obj) (ns : List Int) : Hp := fun b => if b = a then some (.frz o (.lst (ns.map V.int))) else none
theorem Hscr_none {a b : Addr} {o : Obj} {ns : List Int} (h : b ≠ a) : Hscr a o ns b = none := if_neg h
theorem law_entry {P : Program} {w : World} {K : PySem.W.Frag} {mg mb : Str → Option Value} {k : Nat} {fa a : Addr} {fd : FuncData} {x : Str} {s₁ : Shared} {vs : List Value} {ns : List Int}
    (KX : K.In s₁.heap) (hL : noL K = true) (hns : s₁.heap.Ns mainGlobals mg) (hb : s₁.heap.Ns builtinsNs mb) (hbb : ∀ x : Str, x ≠ "__name__" → mb x = bootBuiltins x) (hlim : s₁.heap.NoLimit) (hg : s₁.gens = #[])
    (ha : s₁.heap.get? a = some { cls := .type "list", data := .seq vs.toArray }) (hi : IntsAre vs ns) (hl : ns.length ≤ 63) (hr : Room k callerA)
    (F : ∀ base : Heap, K.In base → base.Ns mainGlobals mg → FnG P w K mg base k fa fd [x] spLaw) (hbind : ∀ (s : Shared) (u : Value), BindsTo s fd ⟨[u], []⟩ [(x, u)]) :
    codeAny (model P w) callerA (.call (.ref fa) ⟨[.ref a], []⟩) (fun r s' => r = .ok (.ret (.bool true)) ∧ OldK s₁.heap s'.heap ∧ s'.os = s₁.os ∧ AllBare s'.gens) s₁ := by
  have hK : K.lookup a = none := by
    cases e : K.lookup a with
    | none => rfl
    | some o => exact absurd (by rw [KX a o e] at ha; cases ha; rfl) (noL_at hL e)
  have rv : Vals (ns.map V.int) vs := vals_ints hi
  let H : Hp := Hscr a { cls := .type "list", data := .seq vs.toArray } ns
  have Ha : H a = some (.frz { cls := .type "list", data := .seq vs.toArray } (.lst (ns.map V.int))) := if_pos rfl
  have hz : (ns.map V.int).length ≤ sizeLine := by rw [List.length_map]; exact Nat.le_trans hl (by decide)
  have hok : HOk P w H s₁.heap := fun b u z => by
    by_cases e : b = a
    · subst e
      rw [Ha] at z
      cases z
      exact ⟨ha, hz, vs, _, rv, ha⟩
    · rw [show H b = none from Hscr_none e] at z; cases z
  have isnt : ∀ {b : Addr} {o : Obj} {es : Array DictEntry} {ep : Nat}, s₁.heap.get? b = some o → o.data = .dict es ep → H b = none := fun {b o es ep} e d => Hscr_none fun z => by
    subst z
    rw [ha] at e
    cases e
    cases d
  have carry : ∀ {b : Addr} {m : Str → Option Value}, s₁.heap.Ns b m → (hidT s₁.heap H).Ns b m := fun {b m} ⟨o, es, ep, e, d, r⟩ => ⟨o, es, ep, hidT_get e (isnt e d), d, r⟩
  have kb : K.In (hidT s₁.heap H) := fun b o e => hidT_get (KX b o e) (Hscr_none fun z => by subst z; rw [hK] at e; cases e)
  have md : Mod K mg (hidT s₁.heap H) := ⟨kb, carry hns, ⟨mb, carry hb, hbb⟩, let ⟨mc, h1, h2⟩ := hlim; ⟨mc, carry h1, h2⟩⟩
  have env : Env0 P w K mg (hidT s₁.heap H) callerA [] s₁ H := ⟨rfl, md, fun b o e => of_hidT e, Nat.le_of_eq (hidT_size _ _), trivial, fun b z => (nomatch z), hok, .of_eq hg⟩
  have run := (F _ kb (carry hns)).go callerA [] s₁ H ⟨[.ref a], []⟩ [.ref a] [.ref a] (fun v _ => v = .bl true) (fun _ _ _ => False) rfl hr env (hbind s₁ (.ref a)) (.cons rfl .nil) ⟨a, ns, rfl, .inr ⟨_, Ha, rfl⟩, hl, fun _ => rfl⟩
  apply codeAny_mono run
  intro r s' q
  match r, q with
  | .error _, q => exact q.elim
  | .ok (.ret u), ⟨v, H', os, bare, un, hok', rr, qv⟩ =>
    cases (show v = V.bl true from qv)
    cases (show u = Value.bool true from rr)
    refine ⟨rfl, .of_keep fun b o e => ?_, os, bare⟩
    by_cases z : b = a
    · subst z
      obtain ⟨e1, _⟩ := hok' b _ (un.frzs b _ _ Ha)
      rw [ha] at e
      cases e
      exact e1
    · exact un.keep b o e (Hscr_none z) (fun y => (nomatch y)) (fun y => (nomatch y))
/-- the law's promise, from its def's own -/
theorem walk_g {l : PySem.W.OpenLaw} {k : Nat} {q : Program} {loose : List Str} {XP : (Str → Option Value) → Heap → Prop} {YP : World → Heap → Prop} {d : DefRec} {K : Params → PySem.W.Frag} (hn : l.most = some 63) (hdf : d.params.defaults = []) (hr : Room k callerA)
    (hY : ∀ (w : World) (h : Heap), YP w h → (K w.params).In h) (hL : ∀ w : World, noL (K w.params) = true)
    (F : ∀ (w : World) (mg : Str → Option Value) (fa : Addr) (h : Heap), (K w.params).In h → h.Ns mainGlobals mg → mg d.name = some (.ref fa) →
      ∃ fd : FuncData, (∀ (s : Shared) (u : Value), BindsTo s fd ⟨[u], []⟩ [("_law_script", u)]) ∧ ∀ base : Heap, (K w.params).In base → base.Ns mainGlobals mg → FnG l.prog w (K w.params) mg base k fa fd ["_law_script"] spLaw) :
    PySem.W.WalkO q loose XP YP l.row.toRowW d [] (fun f vs => PySem.call f vs) :=
  Att.attach_call hn hdf fun w s₀ s₁ mg mb fa o pm cd doc a vs ns G Y ho hd hcd hmg hobj hints hlen hg =>
    let ⟨_, hb, hF⟩ := F w mg fa _ (hY w _ Y) G.T.g hmg
    law_entry (hY w _ Y) (hL w) G.T.g G.T.b G.T.builtins G.T.nolimit hg hobj hints hlen hr hF hb
end Tw
end
section
set_option maxRecDepth 100000
set_option maxHeartbeats 4000000
/-! effects as they are observed; how long their trees are -/
namespace Tw
open PySem PySem.Spec PyProof.Rows L2

/-! ### the atoms of a document, of an effect -/
inductive AtT (S : D → Prop) : T → Prop
  | miss : AtT S .miss
  | atom {a : D} (h : S a) : AtT S (.atom a)
  | obj {m : Str → T} (h : ∀ k, AtT S (m k)) : AtT S (.obj m)
inductive AtE (S : D → Prop) : E → Prop
  | keep : AtE S .keep
  | drop : AtE S .drop
  | set {a : D} (h : S a) : AtE S (.set a)
  | merge {m : Str → E} (h : ∀ k, AtE S (m k)) : AtE S (.merge m)
  | build {m : Str → E} (h : ∀ k, AtE S (m k)) : AtE S (.build m)
section
variable {S : D → Prop}
theorem AtE.mm {m : Str → E} (h : AtE S (.merge m)) (k : Str) : AtE S (m k) := by cases h with | merge h => exact h k
theorem AtE.bb {m : Str → E} (h : AtE S (.build m)) (k : Str) : AtE S (m k) := by cases h with | build h => exact h k
theorem AtE.bu : ∀ {e : E}, AtE S e → AtE S (bu e)
  | .keep, _ => .drop
  | .drop, _ => .drop
  | .set a, h => h
  | .merge m, h => .build fun k => (h.mm k).bu
  | .build m, h => h
theorem AtE.jn : ∀ {e f : E}, AtE S e → AtE S f → AtE S (jn e f)
  | e, .keep, h, _ => by cases e <;> exact h
  | e, .drop, _, h => by cases e <;> exact .drop
  | e, .set a, _, h => by cases e <;> exact h
  | e, .build m, _, h => by cases e <;> exact h
  | .keep, .merge m, _, h => h
  | .drop, .merge m, _, h => .build fun k => (h.mm k).bu
  | .set a, .merge m, _, h => .build fun k => (h.mm k).bu
  | .merge m1, .merge m, h1, h => .merge fun k => (h1.mm k).jn (h.mm k)
  | .build m1, .merge m, h1, h => .build fun k => (h1.bb k).jn (h.mm k)
theorem AtT.eff : ∀ {t : T}, AtT S t → AtE S (eff t)
  | .miss, _ => .keep
  | .atom a, h => by
    cases h with
    | atom h =>
      unfold Tw.eff
      split
      · exact .drop
      · exact .set h
  | .obj m, h => .merge fun k => AtT.eff (match h with | .obj h => h k)
theorem AtT.effR : ∀ {t : T}, AtT S t → AtE S (effR t)
  | .miss, _ => .keep
  | .atom a, h => by cases h with | atom h => exact .set h
  | .obj m, h => .merge fun k => AtT.eff (match h with | .obj h => h k)
theorem at_foldl : ∀ {ps : List T} {e : E}, AtE S e → (∀ p ∈ ps, AtT S p) → AtE S (ps.foldl (fun e p => Tw.jn e (Tw.effR p)) e)
  | [], e, h, _ => h
  | p :: r, e, h, hp => at_foldl (ps := r) (e := Tw.jn e (Tw.effR p)) (h.jn (hp p List.mem_cons_self).effR) fun q hq => hp q (List.mem_cons_of_mem _ hq)
theorem at_effs {ps : List T} (h : ∀ p ∈ ps, AtT S p) : AtE S (effs ps) := at_foldl .keep h
theorem at_den {ms : List (Str × D)} (h : ∀ p ∈ ms, AtT S (den p.2)) : AtT S (den (.dic (dctE ms))) := by
  rw [den_dct]
  refine .obj fun k => ?_
  cases e : lkE ms k with
  | none => exact .miss
  | some d => exact h (k, d) (lkE_mem e)
end
/-! ### what is always the same -/
def cstE : T → E
  | .miss => .drop
  | .atom a => .set a
  | .obj m => .build fun k => cstE (m k)
theorem cst_bd : ∀ {e : E} {x : T}, Bd e → cstE (act e x) = e
  | .drop, _, _ => rfl
  | .set a, _, _ => rfl
  | .build m, _, h => by
    show E.build _ = _
    congr 1
    funext k
    exact cst_bd (match h with | .build h => h k)
  | .keep, _, h => nomatch h
  | .merge _, _, h => nomatch h
theorem act_bd : ∀ {e : E} (x y : T), Bd e → act e x = act e y
  | .drop, _, _, _ => rfl
  | .set a, _, _, _ => rfl
  | .build m, _, _, _ => rfl
  | .keep, _, _, h => nomatch h
  | .merge _, _, _, h => nomatch h
theorem keep_iff {e : E} {a b : D} (hab : a ≠ b) (h0 : act e (.atom a) = .atom a) (h1 : act e (.atom b) = .atom b) : e = .keep := by
  cases e with
  | keep => rfl
  | drop => cases h0
  | set c =>
    cases h0
    cases h1
    exact absurd rfl hab
  | merge m => cases h0
  | build m => cases h0
theorem bd_of {e : E} {z : Str} {a : D} (w : Wf e) (hz : noZ z e) (hk : e ≠ .keep) (h : act e (.obj fun _ => .miss) = act e (sing z (.atom a))) : Bd e := by
  cases w with
  | keep => exact absurd rfl hk
  | bd h => exact h
  | @merge m hm =>
    have h1 := obj_inj (show T.obj _ = T.obj _ from h) z
    have h2 : m z = .keep := hz.1
    rw [h2, ch_sing] at h1
    cases h1
/-! ### below a path -/
def T.chs : T → List Str → T
  | t, [] => t
  | t, k :: p => (t.ch k).chs p
theorem chs_miss : ∀ p : List Str, T.chs .miss p = .miss
  | [] => rfl
  | _ :: p => chs_miss p
theorem chs_snoc : ∀ (t : T) (p : List Str) (k : Str), t.chs (p ++ [k]) = (t.chs p).ch k
  | t, [], k => rfl
  | t, j :: p, k => chs_snoc (t.ch j) p k
def atP : E → List Str → E → Prop
  | e, [], e' => e = e'
  | e, k :: p, e' => ∃ m, e = .merge m ∧ atP (m k) p e'
theorem act_at : ∀ {e0 : E} {p : List Str} {e : E} (x : T), atP e0 p e → (act e0 (wrap p x)).chs p = act e x
  | e0, [], e, x, h => by cases h; rfl
  | e0, k :: p, e, x, ⟨m, h1, h2⟩ => by
    subst h1
    show (act (m k) ((sing k (wrap p x)).ch k)).chs p = _
    rw [ch_sing]
    exact act_at x h2
theorem at_snoc : ∀ {e0 : E} {p : List Str} {m : Str → E} (k : Str), atP e0 p (.merge m) → atP e0 (p ++ [k]) (m k)
  | e0, [], m, k, h => ⟨m, h, rfl⟩
  | e0, j :: p, m, k, ⟨m', h1, h2⟩ => ⟨m', h1, at_snoc k h2⟩
/-! ### the facts of an effect are told by it -/
theorem Fc.fn {d f : D} (h : Fc d f) : ∀ {f' : D}, Fc d f' → f = f' := by
  induction h with
  | @mk k a ms g h ih =>
    intro f' h'
    generalize hx : effD k a ms = x at h'
    cases h' with
    | @mk k' a' ms' g' h' =>
      obtain ⟨rfl, rfl, rfl⟩ := effD_inj hx
      have : ms.map (fun p => D.tup [.str p.1, g p]) = ms.map fun p => .tup [.str p.1, g' p] := List.map_congr_left fun p hp => by rw [ih p hp (h' p hp)]
      rw [this]
/-! ### how long the facts are when they are shown -/
/-- an atom that is short -/
def Sml (a : D) : Prop := ∃ p, pyD (frA a) = some p ∧ p.showable = true ∧ p.shown.length ≤ 40 ∧ p.depth ≤ 2
def Bnd : Nat → Nat
  | 0 => 0
  | n + 1 => 100 + 3 * (Bnd n + 20)
def ShB (n : Nat) (f : D) : Prop := ∃ p, pyD f = some p ∧ p.showable = true ∧ p.shown.length ≤ Bnd n ∧ p.depth ≤ 3 * n + 2
theorem shown_tup (xs : List PyData) : (PyData.shown (.tuple xs)).length ≤ ((PyData.shownAll xs).map (·.length)).sum + 2 * (PyData.shownAll xs).length + 3 := by
  simp only [PyData.shown]
  exact tupleText_len_le _
/-- the members, shown -/
theorem mem_shb {n : Nat} {g : Str × D → D} : ∀ {ms : List (Str × D)}, (∀ p ∈ ms, (reprText p.1).length ≤ 8) → (∀ p ∈ ms, ShB n (g p)) → ∃ q, pyDs (ms.map fun p => D.tup [.str p.1, g p]) = some q ∧ PyData.showableAll q = true ∧
    ((PyData.shownAll q).map (·.length)).sum ≤ ms.length * (Bnd n + 15) ∧ (PyData.shownAll q).length = ms.length ∧ PyData.depthAll q ≤ 3 * n + 3
  | [], _, _ => ⟨[], rfl, by simp [PyData.showableAll], by simp [PyData.shownAll], by simp [PyData.shownAll], by simp [PyData.depthAll]⟩
  | p :: r, hk, h => by
    obtain ⟨q, e1, e2, e3, e4, e5⟩ := mem_shb (fun p hp => hk p (List.mem_cons_of_mem _ hp)) fun p hp => h p (List.mem_cons_of_mem _ hp)
    obtain ⟨x, x1, x2, x3, x4⟩ := h p List.mem_cons_self
    have hk1 := hk p List.mem_cons_self
    have ht := shown_tup [.str p.1, x]
    simp only [PyData.shownAll, PyData.shown, List.map_cons, List.map_nil, List.sum_cons, List.sum_nil, List.length_cons, List.length_nil] at ht
    refine ⟨.tuple [.str p.1, x] :: q, ?_, ?_, ?_, ?_, ?_⟩
    · simp [pyDs, pyD, e1, x1]
    · simp [PyData.showableAll, PyData.showable, x2, e2]
    · simp only [PyData.shownAll, PyData.shown, List.map_cons, List.sum_cons, List.length_cons]
      rw [Nat.add_mul]
      omega
    · simp only [PyData.shownAll, List.length_cons, e4]
    · simp only [PyData.depthAll, PyData.depth]
      omega
theorem shb_of {ks : List Str} (h3 : ks.length ≤ 3) (hks : ∀ k ∈ ks, (reprText k).length ≤ 8) {n : Nat} {e : E} {d : D} (h : Ef ks n e d) : ∀ {f : D}, AtE Sml e → Fc d f → ShB n f := by
  have key : ∀ {n : Nat} {k : Str} {a : D} {ms : List (Str × D)} {g : Str × D → D}, (reprText k).length ≤ 8 → (∃ p, pyD a = some p ∧ p.showable = true ∧ p.shown.length ≤ 40 ∧ p.depth ≤ 2) → ms.length ≤ 3 → (∀ p ∈ ms, (reprText p.1).length ≤ 8) → (∀ p ∈ ms, ShB n (g p)) →
      ShB (n + 1) (.tup [.str k, a, .tup (ms.map fun p => .tup [.str p.1, g p])]) := by
    intro n k a ms g hk ⟨p, p1, p2, p3, p4⟩ hl hkm hm
    obtain ⟨q, e1, e2, e3, e4, e5⟩ := mem_shb hkm hm
    have t1 := shown_tup q
    have t2 := shown_tup [.str k, p, .tuple q]
    have hmul : ms.length * (Bnd n + 15) ≤ 3 * (Bnd n + 15) := Nat.mul_le_mul_right _ hl
    refine ⟨.tuple [.str k, p, .tuple q], ?_, ?_, ?_, ?_⟩
    · simp [pyDs, pyD, e1, p1]
    · simp [PyData.showableAll, PyData.showable, p2, e2]
    · have : (PyData.shown (.str k)).length ≤ 8 := by simp only [PyData.shown]; exact hk
      simp only [PyData.shownAll, List.map_cons, List.map_nil, List.sum_cons, List.sum_nil, List.length_cons, List.length_nil] at t2
      unfold Bnd
      omega
    · simp only [PyData.depthAll, PyData.depth]
      omega
  have k1 : (reprText "keep").length ≤ 8 ∧ (reprText "drop").length ≤ 8 ∧ (reprText "set").length ≤ 8 ∧ (reprText "merge").length ≤ 8 ∧ (reprText "build").length ≤ 8 := by decide +kernel
  have nn : ∃ p, pyD .non = some p ∧ p.showable = true ∧ p.shown.length ≤ 40 ∧ p.depth ≤ 2 := ⟨.none, rfl, by simp [PyData.showable], by simp only [PyData.shown]; decide +kernel, by simp [PyData.depth]⟩
  have inv : ∀ {k : Str} {a : D} {ms : List (Str × D)} {f : D}, Fc (effD k a ms) f → ∃ g : Str × D → D, f = .tup [.str k, a, .tup (ms.map fun p => .tup [.str p.1, g p])] ∧ ∀ p ∈ ms, Fc p.2 (g p) := by
    intro k a ms f hf
    generalize hx : effD k a ms = x at hf
    cases hf with
    | @mk k' a' ms' g h =>
      obtain ⟨rfl, rfl, rfl⟩ := effD_inj hx
      exact ⟨g, rfl, h⟩
  induction h with
  | keep =>
    intro f _ hf
    obtain ⟨g, rfl, _⟩ := inv hf
    exact key k1.1 nn (by simp) (by simp) (by simp)
  | drop =>
    intro f _ hf
    obtain ⟨g, rfl, _⟩ := inv hf
    exact key k1.2.1 nn (by simp) (by simp) (by simp)
  | set h =>
    intro f ha hf
    obtain ⟨g, rfl, _⟩ := inv hf
    exact key k1.2.2.1 (by cases ha with | set h => exact h) (by simp) (by simp) (by simp)
  | @merge n m ms nd so hk hne hm ho ih =>
    intro f ha hf
    obtain ⟨g, rfl, hg⟩ := inv hf
    exact key k1.2.2.2.1 nn (by have := len_ks nd hk; omega) (fun p hp => hks _ (hk p hp)) fun p hp => ih p hp (ha.mm _) (hg p hp)
  | @build n m ms nd so hk hne hm ho ih =>
    intro f ha hf
    obtain ⟨g, rfl, hg⟩ := inv hf
    exact key k1.2.2.2.2 nn (by have := len_ks nd hk; omega) (fun p hp => hks _ (hk p hp)) fun p hp => ih p hp (ha.bb _) (hg p hp)
end Tw
end
section
set_option maxRecDepth 100000
set_option maxHeartbeats 4000000
/-! layer 26: x + y and x(..) of instances -/
namespace Tw
open PySem PySem.Spec PyProof.Rows L2

/-! ### x + y -/
/-- what a result must be, to be no NotImplemented: data or an object -/
def plusI (cn : Str) (F : F0) : D → D → Option A := fun a b => (insD a).bind fun x => (insD b).bind fun y => if x.1 = cn ∧ y.1 = cn then F [a, b] else none
theorem relV_ni {v : V} (h : RelV v .notImplemented) : False := by
  cases v <;> first | (cases h; done) | (obtain ⟨_, h⟩ := h; cases h; done) | (simp [RelV] at h; done)
section
variable {X : Cx} {k k' : Nat} {f C : Addr} {fd : FuncData} {ps : List Str} {cn : Str}
theorem o_plusI {F : F0} (hc : ClsF X cn C) (ha : PySem.W.findIn X.K (.ref C) "__add__" = some (some (.ref f))) (hf : PySem.W.isFn X.K (.ref f) = true) (hs : PySem.W.selfFirst X.K C = true)
    (G : FnOk X.prog X.w X.K X.mg X.base CX0 k f fd ps (sp0 X.mg F)) (hb : Binds X.K fd ps []) (hr : Room k X.A) : OpD X (binaryOp .Add) (plusI cn F) := by
  intro pins s σ H x y u v Q I rx ry h
  obtain ⟨Z, a, b, r, hz, ra, rb, e, kk⟩ := h
  obtain ⟨⟨c1, fs⟩, e1, e⟩ := bind_some.mp (show (insD a).bind _ = _ from e)
  obtain ⟨⟨c2, gs⟩, e2, e⟩ := bind_some.mp e
  split at e
  case isFalse => cases e
  rename_i hcn
  cases a <;> cases e1
  cases b <;> cases e2
  have ra' : Rep X.mg Z H (.ins c1 fs) x := ra
  have rb' : Rep X.mg Z H (.ins c2 gs) y := rb
  obtain ⟨p, C1, dx, vs, rfl, _, hm1, g1, _⟩ := ra
  obtain ⟨p2, C2, dy, ws, rfl, _, hm2, g2, _⟩ := rb
  have h1 : C1 = C := by
    have := hm1.symm.trans (show X.mg c1 = some (.ref C) by rw [show c1 = cn from hcn.1]; exact hc.mg)
    cases this; rfl
  have h2 : C2 = C := by
    have := hm2.symm.trans (show X.mg c2 = some (.ref C) by rw [show c2 = cn from hcn.2]; exact hc.mg)
    cases this; rfl
  subst h1
  subst h2
  obtain ⟨mA, J, _⟩ := ins_get I.hok g1.ins
  obtain ⟨mB, J', _⟩ := ins_get I.hok g2.ins
  obtain ⟨od, J, _⟩ := J.look
  obtain ⟨od', J', _⟩ := J'.look
  obtain ⟨m, hF⟩ := I.fr
  cases rx
  cases ry
  refine PySem.W.binop_K (op := .Add) hF I.ok.mod.kin J J'.type hs ha hf ?_
  refine run_eq G hb rfl hr I (show RelV (.ref p) (.ref p) from rfl) (show RelV (.ref p2) (.ref p2) from rfl) ⟨Z, _, r, hz, Reps.cons ra' (Reps.cons rb' Reps.nil), e, kk⟩ fun w s' hw => ?_
  obtain ⟨v', H', I', rv, q⟩ := hw
  unfold PySem.W.CmpBack
  split
  · exact relV_ni rv
  · exact ⟨v', H', I', rv, q⟩
theorem o_plusIC {F : F0} (c : CalM X.prog X.w X.K X.mg X.base cn "__add__" ps k F) (hsf : ∀ C, X.mg cn = some (.ref C) → PySem.W.selfFirst X.K C = true) (hr : Room k' X.A) (hk : k ≤ k' := by omega) : OpD X (binaryOp .Add) (plusI cn F) :=
  let ⟨C, _, _, m, c, me, bi, G⟩ := c; o_plusI ⟨m, c⟩ me.at_ me.fn (hsf C m) G bi (hr.mono hk)
end
/-! ### x(..) -/
section
variable {P : Program} {w : World} {A : Around} {s : Shared} {K : PySem.W.Frag} {x C dx f : Addr} {od : Option Obj} {us : List Value} {R : Result → Shared → Prop}
/-- calling an instance calls its class's __call__ -/
theorem call_inst (X : K.In s.heap) (J : PySem.W.InstAt s.heap x (PySem.W.instObj C dx) C od) (hs : PySem.W.findIn K (.ref C) "__call__" = some (some (.ref f))) (hf : PySem.W.isFn K (.ref f) = true)
    {o : Obj} {fd : FuncData} (lk : K.lookup f = some o) (hd : o.data = .func fd) (h : codeAny (model P w) A (.call (.ref f) ⟨.ref x :: us, []⟩) R s) : codeAny (model P w) A (.call (.ref x) ⟨us, []⟩) R s := by
  refine codeAny_of_tree ?_
  show wpAny _ _ (callAny (.ref x) _) _ _ _
  simp only [callAny]
  refine wpAny_bind (wpAny_load J.at_ ?_)
  show wpAny _ _ (callAny.viaDunder (.ref x) _) _ _ _
  unfold callAny.viaDunder
  refine wpAny_bind (wpAny_bind (J.type.here ((PySem.W.looks_findIn X hs).here ?_)))
  refine wpAny_bind ((PySem.W.bind_fn X _ (beq_iff_eq.mp hf)).here ?_)
  refine wpAny_bind ?_
  unfold callAny.plainCallee
  refine wpAny_bind (wpAny_load (X _ _ lk) ?_)
  simp only [hd]
  refine wpAny_pure ?_
  rw [if_pos rfl]
  exact wpAny_pure (a := Fin.again (.call (.ref f) ⟨.ref x :: us, []⟩)) (And.intro rfl h)
end
/-- callWith of an instance -/
theorem callWith_inst {M : Model} {A : Around} {E : Value → Shared → Prop} {s : Shared} {env : Env} {pos : Pos} {x C : Addr} {Q : Value → Shared → Prop} {e : Expr} {rest : List Expr}
    (h : wpAny M A (spliced (backTo pos (starEach (e :: rest) env))) (fun vs s₁ => (∃ dx, s₁.heap.get? x = some (PySem.W.instObj C dx)) ∧ wpAny M A (call (.ref x) vs) Q E s₁) E s)
    (he : starEach (e :: rest) env = (false, eval e env) :: starEach rest env := by rfl) (hpl : (backTo pos (starEach rest env)).any (·.1) = false := by rfl) :
    wpAny M A (callWith pos (.ref x) [] (backTo pos (starEach (e :: rest) env)) []) Q E s := by
  have h2 : wpAny M A (evalArgs (.ref x) true (backTo pos (starEach (e :: rest) env)) []) (fun a s₁ => (∃ dx, s₁.heap.get? x = some (PySem.W.instObj C dx)) ∧ wpAny M A (call (.ref x) ([] ++ a.pos) a.kw) Q E s₁) E s := by
    rw [he] at h ⊢
    exact Calls.evalArgs_plain h
  have hp : ((backTo pos (starEach (e :: rest) env)).any (·.1) || ([] : List (Option Str × Sem Value)).any (·.1.isNone)) = false := by
    rw [he]
    show ((false || (backTo pos (starEach rest env)).any (·.1)) || false) = false
    rw [hpl]
    rfl
  unfold callWith
  refine wpAny_bind (wpAny_holding (wpAny_mono h2 (fun a s₁ h₁ => wpAny_bind (wpAny_standAt ?_)) fun _ _ z => z))
  simp only [hp]
  refine wpAny_bind ?_
  unfold keeperOf
  obtain ⟨⟨dx, hx⟩, h₁⟩ := h₁
  refine wpAny_bind (wpAny_load hx (wpAny_pure ?_))
  dsimp only
  exact wpAny_bind (wpAny_operateT (wpAny_mono h₁ (fun r s₂ hr => wpAny_bind (wpAny_holding (wpAny_point (wpAny_pure hr)))) fun _ _ z => z))
/-- x(e, ..) of an instance whose class has an own __call__ -/
def callI (cn : Str) (f : EF) (os : List Opd) (F : F0) : EF := fun ρ => (dv f ρ).bind fun x => (insD x.1).bind fun y => if y.1 = cn then (evs os x.2).bind fun z => (onlyD z.1).bind fun ds => (F (x.1 :: ds)).map fun r => (r, z.2) else none
section
variable {X : Cx} {k k' : Nat} {g C : Addr} {fd : FuncData} {ps : List Str} {cn qual : Str} {st : Stmt} {a e : Expr} {es : List Expr} {os : List Opd} {f : EF} {pos : Pos} {F : F0}
theorem e_callI (hc : ClsF X cn C) (hs : PySem.W.findIn X.K (.ref C) "__call__" = some (some (.ref g))) (hf : PySem.W.isFn X.K (.ref g) = true) {o : Obj} {fd0 : FuncData} (lk : X.K.lookup g = some o) (hd : o.data = .func fd0)
    (G : FnOk X.prog X.w X.K X.mg X.base CX0 k g fd ps (sp0 X.mg F)) (hr : Room k X.A) (hb : Binds X.K fd ps []) (he : EI X a f) (ha : AI X (e :: es) os)
    (hst : starEach (e :: es) X.env = (false, eval e X.env) :: starEach es X.env := by rfl) (hpl : (backTo pos (starEach es X.env)).any (·.1) = false := by rfl)
    (ht : eval (.Call a (e :: es) [] pos) X.env = (do callWith pos (← eval a X.env) [] (backTo pos (starEach (e :: es) X.env)) (backToKw pos (keywordEach [] X.env))) := by rfl) : EI X (.Call a (e :: es) [] pos) (callI cn f os F) := by
  refine ⟨fun pins s σ H Q I h => ?_⟩
  obtain ⟨c, ρ, ts, tv, r, ρ', s0, e0, kk⟩ := h
  obtain ⟨⟨d, ρ1⟩, e1, e2⟩ := bind_some.mp (show (dv f ρ).bind _ = _ from e0)
  obtain ⟨⟨c', fs⟩, e3, e4⟩ := bind_some.mp e2
  split at e4
  case isFalse => cases e4
  rename_i hcn
  obtain rfl : c' = cn := hcn
  obtain ⟨⟨ss, ρ2⟩, e5, e6⟩ := bind_some.mp e4
  obtain ⟨ds, e7, e8⟩ := bind_some.mp e6
  obtain ⟨y, e9, e10⟩ := map_some.mp e8
  cases e10
  rw [ht]
  refine wpAny_bind (thn (he.run pins s σ H (fun v H1 => (∃ a0, v = .ref a0) ∧ tAr X.mg os σ H1 fun ws H2 => ∃ a0 dx vs, v = .ref a0 ∧ H2 a0 = some (.ins C dx vs) ∧ sp0 X.mg F (v :: ws) H2 Q E0) I ?_) fun u s1 ⟨v, H1, I1, r1, q1⟩ => ?_)
  · refine tE_dv s0 e1 fun v H1 s1 => ?_
    have hv : ∃ a0, v = .ref a0 := by
      obtain ⟨fp1, g1⟩ := id s1
      obtain ⟨w1, tw1, eq, rep1, _⟩ := g1.tmp
      cases eq
      cases d <;> cases e3
      obtain ⟨a0, _, _, _, rfl, _⟩ := rep1
      exact ⟨a0, rfl⟩
    refine ⟨hv, c, ρ1, _, _, ss, ρ2, s1, e5, fun ws H2 fp2 g2 ra => ?_⟩
    obtain ⟨w2, tw2, eq, rep2, tt2⟩ := g2.tmp
    cases eq
    have g3 := g2.retmp tt2
    cases d <;> cases e3
    obtain ⟨a0, C', dx, vs, rfl, _, hm, gg, rf⟩ := id rep2
    cases hm.symm.trans hc.mg
    exact ⟨a0, dx, vs, rfl, gg.ins, _, _, _, fun p h => g2.zal h, Reps.cons rep2 (ra.only e7), e9, SR.ret g3 kk⟩
  · obtain ⟨⟨a0, rfl⟩, q1⟩ := q1
    cases r1
    refine callWith_inst (C := C) (thn (ha.run pos pins s1 σ H1 _ I1 q1) fun us s2 ⟨ws, H2, I2, r2, a1, dx, vs, ex, hins, hsp⟩ => ?_) hst hpl
    cases ex
    obtain ⟨mA, J, _⟩ := ins_get I2.hok hins
    have hget := J.obj
    obtain ⟨od, J, _⟩ := J.look
    refine ⟨⟨dx, hget⟩, ?_⟩
    have hl := G.len _ _ _ _ hsp
    have rr : Vals (.ref a0 :: ws) (.ref a0 :: us) := .cons rfl r2
    have bnd : BindsTo s2 fd ⟨.ref a0 :: us, []⟩ (ps.zip (.ref a0 :: us)) := by
      have := hb s2 (.ref a0 :: us) I2.kIn (by rw [List.append_nil, ← rr.length]; exact hl)
      rwa [List.append_nil] at this
    refine wpAny_call (call_inst I2.kIn J hs hf lk hd (codeAny_mono (G.run X.A X.stack s2 H2 ⟨.ref a0 :: us, []⟩ (.ref a0 :: us) (.ref a0 :: ws) Q E0 hr I2.env0 bnd rr hsp) fun res s' q => ?_))
    match res, q with
    | .ok (.ret u), q => exact I2.after q
    | .error _, q => exact q.elim
theorem e_callIC (c : CalM X.prog X.w X.K X.mg X.base cn "__call__" ps k F) (T : MetT X.K X.mg cn "__call__" qual st ps) (hr : Room k' X.A) (he : EI X a f) (ha : AI X (e :: es) os) (hk : k ≤ k' := by omega)
    (hst : starEach (e :: es) X.env = (false, eval e X.env) :: starEach es X.env := by rfl) (hpl : (backTo pos (starEach es X.env)).any (·.1) = false := by rfl)
    (ht : eval (.Call a (e :: es) [] pos) X.env = (do callWith pos (← eval a X.env) [] (backTo pos (starEach (e :: es) X.env)) (backToKw pos (keywordEach [] X.env))) := by rfl) : EI X (.Call a (e :: es) [] pos) (callI cn f os F) := by
  obtain ⟨C, g, fd, m, c, me, bi, G⟩ := c
  obtain ⟨C', g', fd', m', _, me', F', _⟩ := T
  cases m.symm.trans m'
  cases me.at_.symm.trans me'.at_
  obtain ⟨oc, od, kV, doc, pm, an, cdv, ct, osl, rfl, lk, _⟩ := F'.ex
  exact e_callI ⟨m, c⟩ me.at_ me.fn lk rfl G (hr.mono hk) bi he ha hst hpl ht
end
end Tw
end
section
set_option maxRecDepth 100000
set_option maxHeartbeats 4000000
/-! layer 27: walks over enumerate(list) -/
namespace Tw
open PySem PySem.Spec PyProof.Rows L2

/-- the pairs of a list's items with their places -/
def enumF : Nat → List D → List D
  | _, [] => []
  | k, d :: r => .pr [.int (k : Nat), d] :: enumF (k + 1) r
theorem enum_get : ∀ {ds : List D} {k i : Nat}, (enumF k ds)[i]? = (ds[i]?).map fun d => .pr [.int ((k + i : Nat) : Int), d]
  | [], k, i => by simp [enumF]
  | d :: r, k, 0 => by simp [enumF]
  | d :: r, k, i + 1 => by
    unfold enumF
    rw [List.getElem?_cons_succ, List.getElem?_cons_succ, enum_get (ds := r), show k + 1 + i = k + (i + 1) by omega]
theorem enum_len : ∀ {ds : List D} {k : Nat}, (enumF k ds).length = ds.length
  | [], _ => rfl
  | d :: r, k => by simp [enumF, enum_len (ds := r)]
def enumW (f : EF) : WF := fun ρ => (dv f ρ).bind fun x => (lstD x.1).map fun ds => (enumF 0 ds, x.2)
section
variable {mg : Str → Option Value}
theorem gives_enum {K : PySem.W.Frag} {a : Addr} {o : HO} {xs : List V} {ds : List D} {T0 : List D} {V0 : List V} (hl : ds.length = xs.length) (ho : o = .lst xs ∨ ∃ q, o = .frz q (.lst xs)) : Gives mg [(a, o)] (ds ++ T0) (xs ++ V0) (Ite K a) (enumF 0 ds) := by
  have at' : ∀ {c σ H ρ r v T' V'}, Pins c [(a, o)] → SR mg c σ H ρ (T' ++ (ds ++ T0)) (V' ++ (xs ++ V0)) r v → H a = some o := fun hp ⟨fp, g⟩ => by
    obtain ⟨h1, h2⟩ := hp _ List.mem_cons_self
    exact g.pinned h1 h2
  refine ⟨fun c σ H ρ r v T' V' hp s i hi => ?_, fun c σ H ρ r v T' V' hp s i hi => ?_, fun c σ H ρ T' V' hp hlen s i x H' d hd y => ?_⟩
  · rw [enum_len] at hi
    exact ⟨xs, xs[i]'(by omega), .inl (rd_of_pin (K := K) (at' hp s) ho), List.getElem?_eq_getElem _⟩
  · rw [enum_len] at hi
    exact ⟨xs, .inl (rd_of_pin (K := K) (at' hp s) ho), by omega⟩
  · have h := at' hp s
    obtain ⟨T, x', rfl, hT, rfl, hx⟩ := y
    have hx := hx xs (.inl (rd_of_pin (K := K) h ho))
    rw [enum_get, Nat.zero_add] at hd
    obtain ⟨d', hd', rfl⟩ := Option.map_eq_some_iff.mp hd
    obtain ⟨fp, g⟩ := s
    have t := g.tmp
    have t2 := t.drop T'.length
    rw [List.drop_left' rfl, List.drop_left' hlen.symm] at t2
    obtain ⟨u, hu, rep⟩ := t2.get (i := i) (d := d') (by rw [List.getElem?_append_left (List.getElem?_eq_some_iff.mp hd').1]; exact hd')
    rw [List.getElem?_append_left (by have := (List.getElem?_eq_some_iff.mp hd').1; omega), hx] at hu
    cases hu
    have g' := g.same (Sm.new (o := .tup [.int (i : Nat), x']) hT)
    refine ⟨⟨fp, g'.retmp ⟨_, _, rfl, ⟨T, [.int (i : Nat), x'], rfl, fun w => g.zal w hT, .inl upd_same, ⟨_, _, rfl, rfl, ⟨_, _, rfl, rep.mono fun a u z w => ⟨z, (Sm.new hT).rd w⟩, rfl⟩⟩⟩, g'.tmp⟩⟩, Sm.new hT⟩
end
section
variable {X : Cx} {e : Expr} {elts : List Expr} {kk : Nat} {tpos p pos : Pos} {f : EF}
theorem w_enum (hm : X.mg "enumerate" = none) (h : EI X e f) (hg : Gl X "enumerate" := by rfl) (hs : starEach [e] X.env = [(false, eval e X.env)] := by rfl) : IW X (.Tuple elts kk tpos) (.Call (.Name "enumerate" p) [e] [] pos) (enumW f) :=
  (pi_enum hg hm (pa_cons h pa_nil hs) hs).imp fun σ H R w => by
  obtain ⟨c, ρ, ts, tv, ds, ρ', s, e1, k⟩ := w
  obtain ⟨⟨d, ρ1⟩, e2, e3⟩ := bind_some.mp (show (dv f ρ).bind _ = _ from e1)
  obtain ⟨ds', e4, e5⟩ := map_some.mp e3
  cases e5
  refine tE_dv s e2 fun v H1 s1 => ?_
  obtain ⟨fp, g⟩ := s1
  obtain ⟨v', tv', eq, rep, t⟩ := g.tmp
  cases eq
  have main : ∀ {a : Addr} {o : HO} {xs : List V}, ¬ Zof c fp a → H1 a = some o → Reps X.mg (Zof c fp) H1 ds' xs → (o = .lst xs ∨ ∃ q, o = .frz q (.lst xs)) → R (Ite X.K a) H1 := fun {a o xs} hz ho hr hJ => by
    have g1 := (g.pin ho hz).retmp (T := ds' ++ ts) (TV := xs ++ tv) (hr.append t)
    refine k (Ite X.K a) H1 (c.pin a o) _ _ [(a, o)] ⟨fp, g1⟩ (fun p hp => ?_) (gives_enum hr.length hJ) (fun σ H ρ r v ⟨fp', g'⟩ => ?_) (fun _ h => h)
    · rw [List.mem_singleton.mp hp]
      exact ⟨upd_same, fun w => hz (.inl w)⟩
    · exact ⟨fp', (g'.unpin (g.pinOk ho fun w => hz (.inl w)) g.z0).pops hr.length⟩
  cases d <;> cases e4
  obtain ⟨a, vs, rfl, hz, rd, hr⟩ := rep
  refine ⟨a, vs, rfl, .inl rd.l2, ?_⟩
  rcases rd with rd | ⟨q, rd, _⟩
  · exact main hz rd hr (.inl rfl)
  · exact main hz rd hr (.inr ⟨q, rfl⟩)
end
@[simp ↓] theorem WP_enumW {f : EF} {ρ : Ro} {Q : List D × Ro → Prop} : WP (enumW f ρ) Q ↔ WP (dv f ρ) fun x => WP (lstD x.1) fun ds => Q (enumF 0 ds, x.2) := by unfold enumW; simp only [WP_bind, WP_map]
end Tw
end
section
set_option maxRecDepth 100000
set_option maxHeartbeats 4000000
/-! layer 28: while -/
namespace Tw
open PySem PySem.Spec PyProof.Rows L2

/-- while t: b, at most so many turns -/
def whileF (t : TF) (b : SF) : Nat → SF
  | 0 => fun _ => none
  | n + 1 => fun ρ => (t ρ).bind fun x => if x.1 = true then (b x.2).bind fun y => match y.1 with
    | .nx => whileF t b n y.2
    | .ct => whileF t b n y.2
    | .bk => some (.nx, y.2)
    | .rt a => some (.rt a, y.2)
    else some (.nx, x.2)
section
variable {X : Cx} {pos : Pos} {cnd : Expr} {body : List Stmt} {t : TF} {b : SF}
theorem s_while (n : Nat) (hp : PassesOwn (model X.prog X.w) X.A X.env X.xe) (hc : TI X cnd t) (hb : BI X body b) : SI X (.While cnd body [] pos) (whileF t b n) := (ps_while hp hc hb).imp fun D σ H h => by
  obtain ⟨c, ρ, ts, tv, o, ρ', s, e, k⟩ := h
  refine ⟨fun m σ H => ∃ ρ, SR X.mg c σ H ρ ts tv none .non ∧ whileF t b m ρ = some (o, ρ'), ⟨n, ρ, s, e⟩, ?_⟩
  rintro m σ H ⟨ρ, s, e⟩
  cases m with
  | zero => cases e
  | succ m =>
    obtain ⟨⟨q, ρ1⟩, e1, e2⟩ := bind_some.mp (show (t ρ).bind _ = _ from e)
    refine ⟨c, ρ, ts, tv, q, ρ1, s, e1, fun H' s' => ?_⟩
    cases q with
    | false =>
      rw [if_neg (by simp)] at e2 ⊢
      cases e2
      exact k σ H' s'
    | true =>
      rw [if_pos rfl] at e2 ⊢
      obtain ⟨⟨o2, ρ2⟩, e3, e4⟩ := bind_some.mp e2
      refine ⟨fun σ H => ∃ ρ, SR X.mg c σ H ρ ts tv none .non ∧ whileF t b m ρ = some (o, ρ'), fun σ' H' w => ⟨m, Nat.lt_succ_self m, w⟩, c, ρ1, ts, tv, o2, ρ2, s', e3, ?_⟩
      cases o2 with
      | nx => exact fun σ' H'' s'' => ⟨ρ2, s'', e4⟩
      | ct => exact fun σ' H'' s'' => ⟨ρ2, s'', e4⟩
      | bk =>
        cases e4
        exact k
      | rt a =>
        cases e4
        exact k
end
/-- a while that comes to its end within m turns does so within more -/
theorem whileF_more {t : TF} {b : SF} : ∀ {m n : Nat} {ρ : Ro} {x : Out × Ro}, m ≤ n → whileF t b m ρ = some x → whileF t b n ρ = some x
  | 0, _, _, _, _, e => by cases e
  | m + 1, 0, _, _, h, _ => absurd h (by omega)
  | m + 1, n + 1, ρ, x, h, e => by
    obtain ⟨⟨q, ρ1⟩, e1, e2⟩ := bind_some.mp (show (t ρ).bind _ = _ from e)
    show (t ρ).bind _ = _
    rw [e1, Option.bind_some]
    cases q with
    | false => exact e2
    | true =>
      simp only [if_true] at e2 ⊢
      obtain ⟨⟨o2, ρ2⟩, e3, e4⟩ := bind_some.mp e2
      rw [e3, Option.bind_some]
      cases o2 with
      | nx => exact whileF_more (by omega) e4
      | ct => exact whileF_more (by omega) e4
      | bk => exact e4
      | rt a => exact e4
/-- the rule of the calculus: an invariant with a measure -/
theorem while_inv {t : TF} {b : SF} (I : Nat → Ro → Prop) {Q : Out × Ro → Prop} : ∀ {n : Nat} {ρ : Ro}, I n ρ →
    (∀ m ρ, I m ρ → WP (t ρ) fun x => (x.1 = true → WP (b x.2) fun y => match y.1 with
      | .nx => ∃ m', m' < m ∧ I m' y.2
      | .ct => ∃ m', m' < m ∧ I m' y.2
      | .bk => Q (.nx, y.2)
      | .rt a => Q (.rt a, y.2)) ∧ (x.1 = false → Q (.nx, x.2))) → WP (whileF t b (n + 1) ρ) Q := by
  intro n
  induction n using Nat.strongRecOn with
  | ind n ih =>
    intro ρ h0 step
    obtain ⟨⟨q, ρ1⟩, e1, h1, h2⟩ := step n ρ h0
    have go : ∀ {m : Nat} {ρ2 : Ro}, m < n → I m ρ2 → WP (whileF t b n ρ2) Q := fun {m ρ2} hm hi => by
      obtain ⟨x, ex, qx⟩ := ih m hm hi step
      exact ⟨x, whileF_more (by omega) ex, qx⟩
    cases q with
    | false =>
      refine .of ?_ (h2 rfl)
      show (t ρ).bind _ = _
      rw [e1]
      rfl
    | true =>
      obtain ⟨⟨o2, ρ2⟩, e3, h3⟩ := h1 rfl
      have e0 : whileF t b (n + 1) ρ = (b ρ1).bind fun y => match y.1 with
          | .nx => whileF t b n y.2
          | .ct => whileF t b n y.2
          | .bk => some (.nx, y.2)
          | .rt a => some (.rt a, y.2) := by
        show (t ρ).bind _ = _
        rw [e1, Option.bind_some]
        simp only [if_true]
      have e3' : b ρ1 = some (o2, ρ2) := e3
      rw [e0, e3', Option.bind_some]
      clear e0 e3' e3
      cases o2 with
      | nx => obtain ⟨m', hm, hi⟩ := h3; exact go hm hi
      | ct => obtain ⟨m', hm, hi⟩ := h3; exact go hm hi
      | bk => exact .of rfl h3
      | rt a => exact .of rfl h3
end Tw
end
section
set_option maxRecDepth 100000
set_option maxHeartbeats 4000000
/-! layer 29: x.extend(list) -/
namespace Tw
open PySem PySem.Spec PyProof.Rows L2

def rExt : V → List V → Hp → VK → Prop := fun x vs H Q => ∃ l b xs zs, x = .ref l ∧ vs = [.ref b] ∧ H l = some (.lst xs) ∧ L2.Rd H b (.lst zs) ∧ xs.length + zs.length ≤ sizeLine ∧ Q .non (upd H l (.lst (xs ++ zs)))
section
variable {X : Cx}
theorem mt_ext : MtM X "list.extend" rExt := by
  intro pins s σ H x vs v us Q I rx rv h
  obtain ⟨l, b, xs, zs, rfl, rfl, hH, hB, hz, q⟩ := h
  cases rx
  obtain ⟨u, rfl, ru⟩ := rv.one
  cases ru
  obtain ⟨_, ia, na, ra, la, ea⟩ := I.lstM hH
  obtain ⟨_, ib, nb, rb, eb⟩ := (show ObjOk X.prog X.w H s.heap b (.lst zs) from rd_of I.hok hB)
  have lb := rb.length
  have fit : ia.length + ib.length ≤ sizeLine := by omega
  have small : ¬ (!ia.toArray.isEmpty && Builtin.List.listTooLong (ia.toArray.size + ib.toArray.size)) = true := by
    rw [notLongL (by rw [List.size_toArray, List.size_toArray]; exact fit), Bool.and_false]
    simp
  refine call_meets F.slot_list_extend ⟨_, ea, rfl⟩ F.entry_list_extend (F.args_list_extend_2 _ _) (AutoSeq1.list_extend_list_list_0 l ia.toArray na b ib.toArray nb small (by simp only [List.size_toArray]; omega) (by simp only [List.size_toArray]; omega)) ⟨ea, eb, ?_⟩
  exact ⟨.non, _, I.lset (its' := ia ++ ib) hH ea (by simp) (ra.append rb) (by rw [List.length_append]; omega), rfl, q⟩
/-- x.extend(e) -/
def extE (i : Nat) (p : Opd) : EF := fun ρ => (lstA (at_ ρ i)).bind fun _ => (ev1 p ρ).bind fun x => (inlD x.1).bind fun d => (lstD d).bind fun zs => (lstA (at_ x.2 i)).bind fun y => if y.2.length + zs.length ≤ 16777216 then some (.d .non, x.2.set i (some (.l y.1 (y.2 ++ zs)))) else none
theorem lstD_some {d : D} {xs : List D} (h : lstD d = some xs) : d = .lst xs := by
  cases d <;> first | (cases h; done) | (cases h; rfl)
theorem e_extend {a : Expr} {o : Opd} (i : Nat) {x : Str} {px apos cpos : Pos} (hb : OI X a o) (hN : X.N[i]? = some x := by rfl) (hv : Vis X.env.scope x := by first | exact Or.inl rfl | exact Or.inr (Or.inl rfl) | exact Or.inr (Or.inr rfl)) (hdb : (x == ("__debug__" : Str)) = false := by decide)
    (hcd : (x == ("__classdict__" : Str)) = false := by decide) (hbase : attributeBase (.Name x px) "extend" X.env (eval (.Name x px) X.env) = eval (.Name x px) X.env := by rfl)
    (hfew : ((backTo cpos (starEach [a] X.env)).all (fun x => !x.1) && (backToKw cpos (keywordEach [] X.env)).all (fun x => x.1.isSome)
      && decide (([a] : List Expr).length + ([] : List Keyword).length + (if ([] : List Keyword).isEmpty then 0 else 1) < 30)) = true := by rfl)
    (hline : (apos.endLine == cpos.line) = true := by rfl) (hs : starEach [a] X.env = (false, eval a X.env) :: starEach [] X.env := by rfl) : EI X (.Call (.Attribute (.Name x px) "extend" apos) [a] [] cpos) (extE i o) :=
  (pe_bm PySem.F.plainAttrs_list PySem.F.slot_list_extend PySem.F.type_list_extend mt_ext (pe_var hN hv hdb hcd) (pa_cons hb pa_nil hs) hbase hfew hline hs).imp fun σ H Q h => by
  obtain ⟨c, ρ, ts, tv, r, ρ', s, e, k⟩ := h
  obtain ⟨y0, e0, e⟩ := bind_some.mp (show (lstA (at_ ρ i)).bind _ = _ from e)
  obtain ⟨⟨x1, ρ1⟩, e1, e⟩ := bind_some.mp e
  obtain ⟨d, e2, e⟩ := bind_some.mp e
  obtain ⟨zs, ez, e⟩ := bind_some.mp e
  obtain ⟨⟨bb, xs⟩, e3, e⟩ := bind_some.mp e
  split at e
  case isFalse => cases e
  rename_i hl
  cases e
  obtain ⟨p0, vs0, hu0, h0⟩ := slot_list s e0
  refine ⟨.ref p0, atS_of.mp hu0, .inl ⟨rfl, _, .inl (.inl h0)⟩, tO_go s e1 fun w H1 s1 hw => ?_⟩
  obtain ⟨fp, g1⟩ := s1
  obtain ⟨g0, ra⟩ := g1.pop1 hw
  cases x1 with
  | inr j => cases e2
  | inl d' =>
    cases e2
    obtain rfl := lstD_some ez
    obtain ⟨b, ws, rfl, _, rd, rr⟩ := ra
    obtain ⟨p1, vs, hu, ho, rk, wr⟩ := g0.writeL (xs' := xs ++ zs) (lstA_some.mp e3)
    cases hu.symm.trans hu0
    obtain ⟨fp', g3, _⟩ := wr _ (rk.append rr)
    exact ⟨_, b, vs, ws, rfl, rfl, ho, rd.l2, by rw [← rk.length, ← rr.length, sizeLine_eq]; exact hl, k _ _ ⟨_, g3.put (show Rep X.mg _ _ .non .non from rfl)⟩⟩
end
@[simp ↓] theorem WP_extE {i : Nat} {p : Opd} {ρ : Ro} {Q : A × Ro → Prop} : WP (extE i p ρ) Q ↔ WP (lstA (at_ ρ i)) fun _ => WP (ev1 p ρ) fun x => WP (inlD x.1) fun d => WP (lstD d) fun zs => WP (lstA (at_ x.2 i)) fun y => WP (if y.2.length + zs.length ≤ 16777216 then some (A.d .non, x.2.set i (some (.l y.1 (y.2 ++ zs)))) else none) Q := by
  unfold extE
  simp only [WP_bind]
end Tw
end
section
set_option maxRecDepth 100000
set_option maxHeartbeats 4000000
/-! layer 30: x in a list of data -/
namespace Tw
open PySem PySem.Spec PyProof.Rows L2
open PySem.SeqAt PySem.MeetsSeq PySem.MeetsSeq2 PySem.MeetsSeq3 PySem.SeqRoads2
open AutoSeq1 (wpAny_loadPart')
section
variable {prog : Program} {w : World}
theorem hasLoop (p : Addr) (x : Value) (xs : Array Value) (m : Nat) (d1 : Option Addr) (z1 : Array (Option Value)) (f : Nat → Bool) (k : Nat) :
    ∀ i : Nat, xs.size - i = k → MeetsIn prog w (Builtin.«list.__contains__.loop» ⟨[.ref p, x, rawInt i], []⟩)
      (fun A R s => s.heap.get? p = some (seqOb "list" d1 xs m z1) ∧ (∀ j (h1 : j < xs.size), EqIn prog w A.in1 s xs[j] x (f j)) ∧ R (.ok (.ret (.bool (((List.range xs.size).drop i).any f)))) s) := by
  induction k with
  | zero =>
    intro i hk A R s ⟨gp, _, hR⟩
    obtain ⟨hp, g, d, tk, os⟩ := s
    have n1 : xs[((i : Nat) : Int).toNat]? = none := by rw [Array.getElem?_eq_none]; simp; omega
    rw [List.drop_of_length_le (by simp; omega)] at hR
    wp_walk using wpAny_loadPart' gp
    rw [n1]
    wp_walk
    exact hR
  | succ k ih =>
    intro i hk A R s ⟨gp, he, hR⟩
    obtain ⟨hp, g, d, tk, os⟩ := s
    have l1 : i < xs.size := by omega
    have n1 : xs[((i : Nat) : Int).toNat]? = some xs[i] := by rw [Int.toNat_natCast, Array.getElem?_eq_getElem l1]
    have dr : (List.range xs.size).drop i = i :: (List.range xs.size).drop (i + 1) := by rw [List.drop_eq_getElem_cons (by simpa using l1), List.getElem_range]
    have ci : ((i : Int) + 1) = ((i + 1 : Nat) : Int) := by omega
    rw [dr, List.any_cons] at hR
    wp_walk using wpAny_loadPart' gp
    rw [n1]
    refine wpAny_bind (he i l1 _ _ ?_)
    cases hf : f i with
    | true =>
      rw [hf, Bool.true_or] at hR
      wp_walk
      exact hR
    | false =>
      rw [hf, Bool.false_or] at hR
      wp_walk
      rw [ci]
      exact ⟨plainId_quiet plain_contains_loop _, codeAny_builtin entry_contains_loop (by
        rw [Around.under_plainId plain_contains_loop _]
        exact ih (i + 1) (by omega) A R _ ⟨gp, he, hR⟩)⟩
theorem hasList (p : Addr) (x : Value) (xs : Array Value) (m : Nat) (d1 : Option Addr) (z1 : Array (Option Value)) (f : Nat → Bool) :
    MeetsIn prog w (Builtin.«list.__contains__» ⟨[.ref p, x], []⟩)
      (fun A R s => s.heap.get? p = some (seqOb "list" d1 xs m z1) ∧ (∀ j (h1 : j < xs.size), EqIn prog w A.in1 s xs[j] x (f j)) ∧ R (.ok (.ret (.bool ((List.range xs.size).any f)))) s) := by
  intro A R s ⟨gp, he, hR⟩
  obtain ⟨hp, g, d, tk, os⟩ := s
  wp_walk using wpAny_loadPart' gp
  exact ⟨plainId_quiet plain_contains_loop _, codeAny_builtin entry_contains_loop (by
    rw [Around.under_plainId plain_contains_loop _]
    exact hasLoop p x xs m d1 z1 f _ 0 rfl A R _ ⟨gp, he, by simpa using hR⟩)⟩
variable {A : Around} {E : Value → Shared → Prop} {s : Shared}
theorem in_data {l : Addr} {items : Array Value} {x : Value} {Q : Value → Shared → Prop} (f : Nat → Bool) (hl : s.heap.IsList l items) (he : ∀ j (h1 : j < items.size), EqIn prog w A.in1 s items[j] x (f j))
    (h : Q (.bool ((List.range items.size).any f)) s) : wpAny (model prog w) A (compareOp .In x (.ref l)) Q E s := by
  obtain ⟨⟨cls, dd, data, sl⟩, ho, hc, n, hd⟩ := id hl
  simp only at hc hd
  subst hc hd
  have hT : s.TypeIs (.ref l) "list" := ⟨_, ho, rfl⟩
  show wpAny _ A (do return .bool (← contains (.ref l) x)) Q E s
  refine wpAny_bind (wpAny_contains_slot hT F.slot_list_contains (wpAny_mono (call_meetsIn (Q := fun v s' => ∃ b, v = .bool b ∧ Q (.bool b) s') F.slot_list_contains hT F.entry_list_contains (F.args_list_contains_2 _ _) (hasList l x items n dd sl f) ⟨ho, he, _, rfl, h⟩) ?_ fun _ _ e => e))
  rintro v s' ⟨b, rfl, q⟩
  exact wpAny_truthy_bool (wpAny_pure q)
theorem notIn_data {l : Addr} {items : Array Value} {x : Value} {Q : Value → Shared → Prop} (f : Nat → Bool) (hl : s.heap.IsList l items) (he : ∀ j (h1 : j < items.size), EqIn prog w A.in1 s items[j] x (f j))
    (h : Q (.bool (!(List.range items.size).any f)) s) : wpAny (model prog w) A (compareOp .NotIn x (.ref l)) Q E s := by
  obtain ⟨⟨cls, dd, data, sl⟩, ho, hc, n, hd⟩ := id hl
  simp only at hc hd
  subst hc hd
  have hT : s.TypeIs (.ref l) "list" := ⟨_, ho, rfl⟩
  show wpAny _ A (do return .bool (!(← contains (.ref l) x))) Q E s
  refine wpAny_bind (wpAny_contains_slot hT F.slot_list_contains (wpAny_mono (call_meetsIn (Q := fun v s' => ∃ b, v = .bool b ∧ Q (.bool (!b)) s') F.slot_list_contains hT F.entry_list_contains (F.args_list_contains_2 _ _) (hasList l x items n dd sl f) ⟨ho, he, _, rfl, h⟩) ?_ fun _ _ e => e))
  rintro v s' ⟨b, rfl, q⟩
  exact wpAny_truthy_bool (wpAny_pure q)
end
end Tw
end
section
set_option maxRecDepth 100000
set_option maxHeartbeats 4000000
/-! layer 31: x in a list, over data -/
namespace Tw
open PySem PySem.Spec PyProof.Rows L2

theorem mapO_at {α β : Type} {f : α → Option β} : ∀ {xs : List α} {bs : List β}, mapO f xs = some bs → bs.length = xs.length ∧ ∀ (j : Nat) (x : α), xs[j]? = some x → ∃ b, f x = some b ∧ bs[j]? = some b
  | [], bs, e => by cases e; exact ⟨rfl, by simp⟩
  | a :: r, bs, e => by
    obtain ⟨x, e1, e2⟩ := bind_some.mp (show (f a).bind _ = _ from e)
    obtain ⟨y, e3, rfl⟩ := map_some.mp e2
    obtain ⟨h1, h2⟩ := mapO_at e3
    refine ⟨by simp [h1], fun j z hz => ?_⟩
    cases j with
    | zero => simp at hz; subst hz; exact ⟨x, e1, rfl⟩
    | succ j => simpa using h2 j z (by simpa using hz)
theorem any_range (bs : List Bool) : (List.range bs.length).any (fun j => (bs[j]?).getD false) = bs.any id := by
  rw [Bool.eq_iff_iff, List.any_eq_true, List.any_eq_true]
  constructor
  · rintro ⟨j, hj, hb⟩
    have hj' : j < bs.length := by simpa using hj
    rw [List.getElem?_eq_getElem hj', Option.getD_some] at hb
    exact ⟨_, List.getElem_mem hj', hb⟩
  · rintro ⟨b, hm, hb⟩
    obtain ⟨j, hj, rfl⟩ := List.getElem_of_mem hm
    exact ⟨j, by simpa using hj, by rw [List.getElem?_eq_getElem hj, Option.getD_some]; exact hb⟩
theorem RepT.free {mg : Str → Option Value} {Z : Addr → Prop} {H : Hp} {d : D} {v : V} (h : RepT mg Z H d v) : Rep mg (fun _ => False) H d v := by
  have m : ∀ a u, ¬ Z a → Rd H a u → ¬ False ∧ Rd H a u := fun a u _ g => ⟨fun h => h, g⟩
  cases d with
  | lst ds => obtain ⟨a, vs, e, g, r⟩ := h; exact ⟨a, vs, e, fun h => h, g, r.mono m⟩
  | dic ds => obtain ⟨a, vs, e, g, r⟩ := h; exact ⟨a, vs, e, fun h => h, g, RepK.mono m r⟩
  | _ => exact Rep.mono m (show Rep mg Z H _ v from h)
theorem hgt_mem : ∀ {xs : List D} {x : D}, x ∈ xs → hgt x ≤ hgts xs
  | y :: r, x, h => by
    unfold hgts
    rcases List.mem_cons.mp h with rfl | h
    · exact Nat.le_max_left _ _
    · exact Nat.le_trans (hgt_mem h) (Nat.le_max_right _ _)
/-- x in xs, over data -/
def inG (neg : Bool) : D → D → Option A := fun a b => (lstD b).bind fun ys => if hgts ys ≤ 90 then (mapO (fun y => eqO y a) ys).map fun bs => .d (.bl (if neg = true then !bs.any id else bs.any id)) else none
section
variable {X : Cx}
theorem inG_at {neg : Bool} {pins : List (Addr × Obj)} {σ : Sg} {H : Hp} {s : Shared} {Z : Addr → Prop} {a b : D} {x y : V} {v u : Value} {r : A} (hu : X.A.units + 101 < cLine) (I : Inv X pins σ H s) (ra : RepT X.mg Z H a x) (rb : RepT X.mg Z H b y) (rx : RelV x v) (ry : RelV y u)
    (e : inG neg a b = some r) : ∃ l its f c, u = .ref l ∧ s.heap.IsList l its ∧ (∀ j (h1 : j < its.size), PySem.SeqAt.EqIn X.prog X.w X.A.in1 s its[j] v (f j)) ∧ (List.range its.size).any f = c ∧ r = .d (.bl (if neg = true then !c else c)) := by
  obtain ⟨ys, e1, e2⟩ := bind_some.mp (show (lstD b).bind _ = _ from e)
  split at e2
  case isFalse => cases e2
  rename_i hh
  obtain ⟨bs, e3, rfl⟩ := map_some.mp e2
  obtain rfl := lstD_some e1
  obtain ⟨l, vs, rfl, g, rr⟩ := rb
  cases ry
  obtain ⟨its, rv, pl, _⟩ := I.list (.inl g.l2)
  obtain ⟨h1, h2⟩ := mapO_at e3
  have hsz : its.length = bs.length := by rw [← rv.length, ← rr.length, h1]
  refine ⟨l, its.toArray, fun j => (bs[j]?).getD false, bs.any id, rfl, pl.isList, fun j hj => ?_, ?_, rfl⟩
  · have hj' : j < its.length := by simpa using hj
    have hy : j < ys.length := by rw [← h1, ← hsz]; exact hj'
    obtain ⟨b, e4, e5⟩ := h2 j ys[j] (List.getElem?_eq_getElem hy)
    obtain ⟨w, hw, rw1⟩ := rr.get (List.getElem?_eq_getElem hy)
    obtain ⟨q, hq, rq⟩ := rv.get hw
    rw [List.getElem?_eq_getElem hj'] at hq
    cases hq
    have hle : hgt ys[j] ≤ 90 := Nat.le_trans (hgt_mem (List.getElem_mem hy)) hh
    have t := eqO_tree I ys[j] a rw1 ra.free rq rx e4 hle
    show PySem.SeqAt.EqIn _ _ _ _ _ _ ((bs[j]?).getD false)
    rw [e5, Option.getD_some]
    have := t.at X.A.in1 (show X.A.units + 1 + 90 < cLine by omega)
    simpa using this
  · rw [List.size_toArray, hsz]
    exact any_range bs
theorem o_inG (hu : X.A.units + 101 < cLine) : OpD X (compareOp .In) (inG false) := by
  intro pins s σ H x y v u Q I rx ry h
  obtain ⟨Z, a, b, r, hz, ra, rb, e, k⟩ := h
  obtain ⟨l, its, f, c, rfl, hl, he, hc, rfl⟩ := inG_at hu I ra rb rx ry e
  refine in_data f hl he ?_
  rw [hc]
  exact ⟨.bl c, H, I, rfl, k.sc rfl⟩
theorem o_ninG (hu : X.A.units + 101 < cLine) : OpD X (compareOp .NotIn) (inG true) := by
  intro pins s σ H x y v u Q I rx ry h
  obtain ⟨Z, a, b, r, hz, ra, rb, e, k⟩ := h
  obtain ⟨l, its, f, c, rfl, hl, he, hc, rfl⟩ := inG_at hu I ra rb rx ry e
  refine notIn_data f hl he ?_
  rw [hc]
  exact ⟨.bl (!c), H, I, rfl, k.sc rfl⟩
end
theorem e_gstrC {X : Cx} {x : Str} {i : Str} {pos : Pos} (c : ∃ t, X.mg x = some (.str i t)) (hg : Gl X x := by rfl) (hd : (x == ("__debug__" : Str)) = false := by decide) : EI X (.Name x pos) (cst (.str i)) := let ⟨_, h⟩ := c; e_gstr hg h hd
end Tw
end
section
set_option maxRecDepth 100000
set_option maxHeartbeats 4000000
/-! layer 32: the height of a tree is told by the value; a tree that is lower than a list does not reach the list -/
namespace Tw
open PySem PySem.Spec PyProof.Rows L2

mutual
def ht : D → Nat
  | .lst xs => hts xs + 1
  | .tup xs => hts xs + 1
  | .pr xs => hts xs + 1
  | .dic xs => htk xs + 1
  | .ins _ fs => htf fs + 1
  | _ => 0
def hts : List D → Nat
  | [] => 0
  | d :: r => max (ht d) (hts r)
def htk : List (Key × D) → Nat
  | [] => 0
  | (_, d) :: r => max (ht d) (htk r)
def htf : List (Str × D) → Nat
  | [] => 0
  | (_, d) :: r => max (ht d) (htf r)
end
/-- what stands there, locked or not -/
def und : HO → HO
  | .frz _ u => u
  | u => u
theorem und_lst {H : Hp} {a : Addr} {vs : List V} (h : Rd H a (.lst vs)) : ∃ o, H a = some o ∧ und o = .lst vs := by
  rcases h with h | ⟨o, h, _⟩
  · exact ⟨_, h, rfl⟩
  · exact ⟨_, h, rfl⟩
theorem und_pr {H : Hp} {a : Addr} {vs : List V} (h : Rd H a (.tup vs)) : ∃ o, H a = some o ∧ und o = .tup vs := by
  rcases h with h | ⟨o, h, _⟩
  · exact ⟨_, h, rfl⟩
  · exact ⟨_, h, rfl⟩
theorem und_dK {H : Hp} {a : Addr} {vs : List (Key × V)} (h : Rd H a (.dK vs)) : ∃ o, H a = some o ∧ und o = .dK vs := by
  rcases h with h | ⟨o, h, _⟩
  · exact ⟨_, h, rfl⟩
  · exact ⟨_, h, rfl⟩
theorem und_tup {H : Hp} {a : Addr} {ob : Obj} {vs : List V} (h : Rd H a (.frz ob (.tup vs))) : ∃ o, H a = some o ∧ und o = .tup vs := ⟨_, h.frz, rfl⟩
theorem und_ins {H : Hp} {a C dx : Addr} {vs : List (Str × V)} (h : Rd H a (.ins C dx vs)) : ∃ o, H a = some o ∧ und o = .ins C dx vs := ⟨_, h.ins, rfl⟩
section
variable {mg : Str → Option Value} {Z Z' : Addr → Prop} {H : Hp}
mutual
theorem ht_det : ∀ {d d' : D} {v : V}, Rep mg Z H d v → Rep mg Z' H d' v → ht d = ht d'
  | .non, d', v, r, r' => by
    cases (show v = .non from r)
    cases d' <;> first | rfl | (cases (show V.non = _ from r'); done) | (obtain ⟨_, _, e, _⟩ := r'; cases e; done) | (obtain ⟨_, _, _, e, _⟩ := r'; cases e; done) | (obtain ⟨_, _, _, _, e, _⟩ := r'; cases e; done)
  | .bl b, d', v, r, r' => by
    cases (show v = .bl b from r)
    cases d' <;> first | rfl | (cases (show V.bl b = _ from r'); done) | (obtain ⟨_, _, e, _⟩ := r'; cases e; done) | (obtain ⟨_, _, _, e, _⟩ := r'; cases e; done) | (obtain ⟨_, _, _, _, e, _⟩ := r'; cases e; done)
  | .int b, d', v, r, r' => by
    cases (show v = .int b from r)
    cases d' <;> first | rfl | (cases (show V.int b = _ from r'); done) | (obtain ⟨_, _, e, _⟩ := r'; cases e; done) | (obtain ⟨_, _, _, e, _⟩ := r'; cases e; done) | (obtain ⟨_, _, _, _, e, _⟩ := r'; cases e; done)
  | .str b, d', v, r, r' => by
    cases (show v = .str b from r)
    cases d' <;> first | rfl | (cases (show V.str b = _ from r'); done) | (obtain ⟨_, _, e, _⟩ := r'; cases e; done) | (obtain ⟨_, _, _, e, _⟩ := r'; cases e; done) | (obtain ⟨_, _, _, _, e, _⟩ := r'; cases e; done)
  | .lst ds, d', v, ⟨a, vs, e, _, g, rr⟩, r' => by
    subst e
    obtain ⟨o, h1, h2⟩ := und_lst g
    cases d' with
    | lst ds' =>
      obtain ⟨a', vs', e, _, g', rr'⟩ := r'
      cases e
      obtain ⟨o', h1', h2'⟩ := und_lst g'
      cases h1.symm.trans h1'
      cases h2.symm.trans h2'
      simp only [ht, hts_det rr rr']
    | tup ds' => obtain ⟨a', vs', ob, e, _, _, g', _⟩ := r'; cases e; obtain ⟨o', h1', h2'⟩ := und_tup g'; cases h1.symm.trans h1'; cases h2.symm.trans h2'
    | pr ds' => obtain ⟨a', vs', e, _, g', _⟩ := r'; cases e; obtain ⟨o', h1', h2'⟩ := und_pr g'; cases h1.symm.trans h1'; cases h2.symm.trans h2'
    | dic ds' => obtain ⟨a', vs', e, _, g', _⟩ := r'; cases e; obtain ⟨o', h1', h2'⟩ := und_dK g'; cases h1.symm.trans h1'; cases h2.symm.trans h2'
    | ins c fs => obtain ⟨a', C, dx, vs', e, _, _, g', _⟩ := r'; cases e; obtain ⟨o', h1', h2'⟩ := und_ins g'; cases h1.symm.trans h1'; cases h2.symm.trans h2'
    | _ => cases (show V.ref a = _ from r')
  | .tup ds, d', v, ⟨a, vs, ob, e, _, _, g, rr⟩, r' => by
    subst e
    obtain ⟨o, h1, h2⟩ := und_tup g
    cases d' with
    | lst ds' => obtain ⟨a', vs', e, _, g', rr'⟩ := r'; cases e; obtain ⟨o', h1', h2'⟩ := und_lst g'; cases h1.symm.trans h1'; cases h2.symm.trans h2'
    | tup ds' => obtain ⟨a', vs', ob, e, _, _, g', rr'⟩ := r'; cases e; obtain ⟨o', h1', h2'⟩ := und_tup g'; cases h1.symm.trans h1'; cases h2.symm.trans h2'; simp only [ht, hts_det rr rr']
    | pr ds' => obtain ⟨a', vs', e, _, g', rr'⟩ := r'; cases e; obtain ⟨o', h1', h2'⟩ := und_pr g'; cases h1.symm.trans h1'; cases h2.symm.trans h2'; simp only [ht, hts_det rr rr']
    | dic ds' => obtain ⟨a', vs', e, _, g', _⟩ := r'; cases e; obtain ⟨o', h1', h2'⟩ := und_dK g'; cases h1.symm.trans h1'; cases h2.symm.trans h2'
    | ins c fs => obtain ⟨a', C, dx, vs', e, _, _, g', _⟩ := r'; cases e; obtain ⟨o', h1', h2'⟩ := und_ins g'; cases h1.symm.trans h1'; cases h2.symm.trans h2'
    | _ => cases (show V.ref a = _ from r')
  | .pr ds, d', v, ⟨a, vs, e, _, g, rr⟩, r' => by
    subst e
    obtain ⟨o, h1, h2⟩ := und_pr g
    cases d' with
    | lst ds' => obtain ⟨a', vs', e, _, g', rr'⟩ := r'; cases e; obtain ⟨o', h1', h2'⟩ := und_lst g'; cases h1.symm.trans h1'; cases h2.symm.trans h2'
    | tup ds' => obtain ⟨a', vs', ob, e, _, _, g', rr'⟩ := r'; cases e; obtain ⟨o', h1', h2'⟩ := und_tup g'; cases h1.symm.trans h1'; cases h2.symm.trans h2'; simp only [ht, hts_det rr rr']
    | pr ds' => obtain ⟨a', vs', e, _, g', rr'⟩ := r'; cases e; obtain ⟨o', h1', h2'⟩ := und_pr g'; cases h1.symm.trans h1'; cases h2.symm.trans h2'; simp only [ht, hts_det rr rr']
    | dic ds' => obtain ⟨a', vs', e, _, g', _⟩ := r'; cases e; obtain ⟨o', h1', h2'⟩ := und_dK g'; cases h1.symm.trans h1'; cases h2.symm.trans h2'
    | ins c fs => obtain ⟨a', C, dx, vs', e, _, _, g', _⟩ := r'; cases e; obtain ⟨o', h1', h2'⟩ := und_ins g'; cases h1.symm.trans h1'; cases h2.symm.trans h2'
    | _ => cases (show V.ref a = _ from r')
  | .dic ds, d', v, ⟨a, vs, e, _, g, rr⟩, r' => by
    subst e
    obtain ⟨o, h1, h2⟩ := und_dK g
    cases d' with
    | lst ds' => obtain ⟨a', vs', e, _, g', rr'⟩ := r'; cases e; obtain ⟨o', h1', h2'⟩ := und_lst g'; cases h1.symm.trans h1'; cases h2.symm.trans h2'
    | tup ds' => obtain ⟨a', vs', ob, e, _, _, g', rr'⟩ := r'; cases e; obtain ⟨o', h1', h2'⟩ := und_tup g'; cases h1.symm.trans h1'; cases h2.symm.trans h2'
    | pr ds' => obtain ⟨a', vs', e, _, g', rr'⟩ := r'; cases e; obtain ⟨o', h1', h2'⟩ := und_pr g'; cases h1.symm.trans h1'; cases h2.symm.trans h2'
    | dic ds' => obtain ⟨a', vs', e, _, g', rr'⟩ := r'; cases e; obtain ⟨o', h1', h2'⟩ := und_dK g'; cases h1.symm.trans h1'; cases h2.symm.trans h2'; simp only [ht, htk_det rr rr']
    | ins c fs => obtain ⟨a', C, dx, vs', e, _, _, g', _⟩ := r'; cases e; obtain ⟨o', h1', h2'⟩ := und_ins g'; cases h1.symm.trans h1'; cases h2.symm.trans h2'
    | _ => cases (show V.ref a = _ from r')
  | .ins c ds, d', v, ⟨a, C, dx, vs, e, _, _, g, rr⟩, r' => by
    subst e
    obtain ⟨o, h1, h2⟩ := und_ins g
    cases d' with
    | lst ds' => obtain ⟨a', vs', e, _, g', rr'⟩ := r'; cases e; obtain ⟨o', h1', h2'⟩ := und_lst g'; cases h1.symm.trans h1'; cases h2.symm.trans h2'
    | tup ds' => obtain ⟨a', vs', ob, e, _, _, g', rr'⟩ := r'; cases e; obtain ⟨o', h1', h2'⟩ := und_tup g'; cases h1.symm.trans h1'; cases h2.symm.trans h2'
    | pr ds' => obtain ⟨a', vs', e, _, g', rr'⟩ := r'; cases e; obtain ⟨o', h1', h2'⟩ := und_pr g'; cases h1.symm.trans h1'; cases h2.symm.trans h2'
    | dic ds' => obtain ⟨a', vs', e, _, g', rr'⟩ := r'; cases e; obtain ⟨o', h1', h2'⟩ := und_dK g'; cases h1.symm.trans h1'; cases h2.symm.trans h2'
    | ins c' fs => obtain ⟨a', C', dx', vs', e, _, _, g', rr'⟩ := r'; cases e; obtain ⟨o', h1', h2'⟩ := und_ins g'; cases h1.symm.trans h1'; cases h2.symm.trans h2'; simp only [ht, htf_det rr rr']
    | _ => cases (show V.ref a = _ from r')
theorem hts_det : ∀ {ds ds' : List D} {vs : List V}, Reps mg Z H ds vs → Reps mg Z' H ds' vs → hts ds = hts ds'
  | [], ds', vs, r, r' => by
    cases (show vs = [] from r)
    cases ds' with
    | nil => rfl
    | cons _ _ => obtain ⟨_, _, e, _⟩ := r'; cases e
  | d :: t, ds', vs, ⟨v, w, e, r1, r2⟩, r' => by
    subst e
    cases ds' with
    | nil => cases (show v :: w = [] from r')
    | cons d' t' =>
      obtain ⟨v', w', e, r1', r2'⟩ := r'
      cases e
      simp only [hts, ht_det r1 r1', hts_det r2 r2']
theorem htk_det : ∀ {ds ds' : List (Key × D)} {vs : List (Key × V)}, RepK mg Z H ds vs → RepK mg Z' H ds' vs → htk ds = htk ds'
  | [], ds', vs, r, r' => by
    cases (show vs = [] from r)
    cases ds' with
    | nil => rfl
    | cons p _ => obtain ⟨_, _⟩ := p; obtain ⟨_, _, e, _⟩ := r'; cases e
  | (k, d) :: t, ds', vs, ⟨v, w, e, r1, r2⟩, r' => by
    subst e
    cases ds' with
    | nil => cases (show (k, v) :: w = [] from r')
    | cons p t' =>
      obtain ⟨k', d'⟩ := p
      obtain ⟨v', w', e, r1', r2'⟩ := r'
      cases e
      simp only [htk, ht_det r1 r1', htk_det r2 r2']
theorem htf_det : ∀ {ds ds' : List (Str × D)} {vs : List (Str × V)}, RepF mg Z H ds vs → RepF mg Z' H ds' vs → htf ds = htf ds'
  | [], ds', vs, r, r' => by
    cases (show vs = [] from r)
    cases ds' with
    | nil => rfl
    | cons p _ => obtain ⟨_, _⟩ := p; obtain ⟨_, _, e, _⟩ := r'; cases e
  | (k, d) :: t, ds', vs, ⟨v, w, e, r1, r2⟩, r' => by
    subst e
    cases ds' with
    | nil => cases (show (k, v) :: w = [] from r')
    | cons p t' =>
      obtain ⟨k', d'⟩ := p
      obtain ⟨v', w', e, r1', r2'⟩ := r'
      cases e
      simp only [htf, ht_det r1 r1', htf_det r2 r2']
end
end
end Tw
end
section
set_option maxRecDepth 100000
set_option maxHeartbeats 4000000
/-! layer 33: a tree that is lower than a list stands off the list's own object -/
namespace Tw
open PySem PySem.Spec PyProof.Rows L2
section
variable {mg : Str → Option Value} {Z Z0 : Addr → Prop} {H : Hp} {a0 : Addr} {vs0 : List V} {xs0 : List D}
mutual
theorem Rep.off (h0 : H a0 = some (.lst vs0)) (r0 : Reps mg Z0 H xs0 vs0) : ∀ {y : D} {v : V}, ht y ≤ hts xs0 → Rep mg Z H y v → Rep mg (fun b => Z b ∨ b = a0) H y v
  | .non, v, _, r => r
  | .bl _, v, _, r => r
  | .int _, v, _, r => r
  | .str _, v, _, r => r
  | .lst ds, v, hy, ⟨a, vs, e, z, g, rr⟩ => by
    simp only [ht] at hy
    refine ⟨a, vs, e, fun h => ?_, g, Reps.off h0 r0 (by omega) rr⟩
    rcases h with h | h
    · exact z h
    · subst h
      obtain ⟨o, h1, h2⟩ := und_lst g
      cases h1.symm.trans h0
      cases h2
      have := hts_det rr r0
      omega
  | .tup ds, v, hy, ⟨a, vs, ob, e, z, n, g, rr⟩ => by
    simp only [ht] at hy
    refine ⟨a, vs, ob, e, fun h => ?_, n, g, Reps.off h0 r0 (by omega) rr⟩
    rcases h with h | h
    · exact z h
    · subst h
      obtain ⟨o, h1, h2⟩ := und_tup g
      cases h1.symm.trans h0
      cases h2
  | .pr ds, v, hy, ⟨a, vs, e, z, g, rr⟩ => by
    simp only [ht] at hy
    refine ⟨a, vs, e, fun h => ?_, g, Reps.off h0 r0 (by omega) rr⟩
    rcases h with h | h
    · exact z h
    · subst h
      obtain ⟨o, h1, h2⟩ := und_pr g
      cases h1.symm.trans h0
      cases h2
  | .dic ds, v, hy, ⟨a, vs, e, z, g, rr⟩ => by
    simp only [ht] at hy
    refine ⟨a, vs, e, fun h => ?_, g, RepK.off h0 r0 (by omega) rr⟩
    rcases h with h | h
    · exact z h
    · subst h
      obtain ⟨o, h1, h2⟩ := und_dK g
      cases h1.symm.trans h0
      cases h2
  | .ins c ds, v, hy, ⟨a, C, dx, vs, e, z, m, g, rr⟩ => by
    simp only [ht] at hy
    refine ⟨a, C, dx, vs, e, fun h => ?_, m, g, RepF.off h0 r0 (by omega) rr⟩
    rcases h with h | h
    · exact z h
    · subst h
      obtain ⟨o, h1, h2⟩ := und_ins g
      cases h1.symm.trans h0
      cases h2
theorem Reps.off (h0 : H a0 = some (.lst vs0)) (r0 : Reps mg Z0 H xs0 vs0) : ∀ {ys : List D} {vs : List V}, hts ys ≤ hts xs0 → Reps mg Z H ys vs → Reps mg (fun b => Z b ∨ b = a0) H ys vs
  | [], vs, _, r => r
  | d :: t, vs, hy, ⟨v, w, e, r1, r2⟩ => by
    simp only [hts] at hy
    exact ⟨v, w, e, Rep.off h0 r0 (by omega) r1, Reps.off h0 r0 (by omega) r2⟩
theorem RepK.off (h0 : H a0 = some (.lst vs0)) (r0 : Reps mg Z0 H xs0 vs0) : ∀ {ys : List (Key × D)} {vs : List (Key × V)}, htk ys ≤ hts xs0 → RepK mg Z H ys vs → RepK mg (fun b => Z b ∨ b = a0) H ys vs
  | [], vs, _, r => r
  | (k, d) :: t, vs, hy, ⟨v, w, e, r1, r2⟩ => by
    simp only [htk] at hy
    exact ⟨v, w, e, Rep.off h0 r0 (by omega) r1, RepK.off h0 r0 (by omega) r2⟩
theorem RepF.off (h0 : H a0 = some (.lst vs0)) (r0 : Reps mg Z0 H xs0 vs0) : ∀ {ys : List (Str × D)} {vs : List (Str × V)}, htf ys ≤ hts xs0 → RepF mg Z H ys vs → RepF mg (fun b => Z b ∨ b = a0) H ys vs
  | [], vs, _, r => r
  | (k, d) :: t, vs, hy, ⟨v, w, e, r1, r2⟩ => by
    simp only [htf] at hy
    exact ⟨v, w, e, Rep.off h0 r0 (by omega) r1, RepF.off h0 r0 (by omega) r2⟩
end
end
end Tw
end
section
set_option maxRecDepth 100000
set_option maxHeartbeats 4000000
/-! layer 34: f(s, xs): s is changed in place, the caller's list xs is only read, and stays the caller's -/
namespace Tw
open PySem PySem.Spec PyProof.Rows L2

def listA : A → Option (List D)
  | .l _ xs => some xs
  | _ => none
def dataA : A → Option D
  | .d x => some x
  | _ => none
def cal1P (i j : Nat) (F : F1) : EF := fun ρ => if i = j then none else (at_ ρ i).bind fun a => a.lend.bind fun l => (lstA (at_ ρ j)).bind fun y => (F l [.lst y.2]).bind fun z => if z.2.bor = true then
  (dataA z.1).bind fun d => (listA z.2).bind fun ws => if ht d ≤ hts y.2 ∧ hts ws ≤ hts y.2 then some (.d d, ρ.set i (some (z.2.mark a.bor))) else none else none
section
variable {mg : Str → Option Value} {σ : Sg} {H : Hp}
theorem dataA_some {x : A} {d : D} (h : dataA x = some d) : x = .d d := by cases x <;> cases h; rfl
theorem listA_some {x : A} {ws : List D} (h : listA x = some ws) : ∃ b, x = .l b ws := by cases x <;> cases h; exact ⟨_, rfl⟩
theorem cal1P_go {i j : Nat} {F : F1} {Q : VK} {E : XK} (h : tE mg (cal1P i j F) σ H Q) : tCons (tVar i) (tCons (tVar j) tNil) σ H fun vs H1 => sp1 mg F vs H1 Q E := by
  obtain ⟨c, ρ, ts, tv, r, ρ', s, e, k⟩ := h
  unfold cal1P at e
  split at e
  case isTrue => cases e
  rename_i hij
  obtain ⟨a, e1, e⟩ := bind_some.mp e
  obtain ⟨l, e2, e⟩ := bind_some.mp e
  obtain ⟨⟨bb, xs⟩, e3, e⟩ := bind_some.mp e
  obtain ⟨⟨z, x'⟩, e4, e⟩ := bind_some.mp e
  simp only at e4 e
  by_cases hb : x'.bor = true
  case neg => rw [if_neg hb] at e; cases e
  rw [if_pos hb] at e
  obtain ⟨d, e5, q1⟩ := bind_some.mp e
  obtain ⟨ws, e6, q2⟩ := bind_some.mp q1
  clear q1 e
  obtain rfl := dataA_some e5
  obtain ⟨b', rfl⟩ := listA_some e6
  split at q2
  case isFalse => cases q2
  rename_i hh
  cases q2
  obtain ⟨fp, g⟩ := s
  obtain ⟨u, hu, own⟩ := g.ent (some i) a e1
  obtain ⟨v2, hv2, p, vs, rfl, hfp, hp, rr⟩ := g.ent (some j) _ (lstA_some.mp e3)
  have pj : p ∈ fp (some j) := by rw [hfp]; exact List.mem_singleton.mpr rfl
  have pni : p ∉ fp (some i) := fun h => hij (by have := g.ap _ _ p h pj; simpa using this)
  refine ⟨u, atS_of.mp hu, .ref p, atS_of.mp hv2, ?_⟩
  let Z' : Addr → Prop := fun b => Zof c fp b ∧ b ≠ p
  have sub : ∀ a u, ¬ Zof c fp a → Rd H a u → ¬ Z' a ∧ Rd H a u := fun a u h g => ⟨fun w => h w.1, g⟩
  refine ⟨Z', l, u, fp (some i), [.lst xs], [.ref p], _, _, rfl, (lend_own e2 own).mono sub fun _ _ => rfl, lend_bor e2, g.nd _, fun b hb => ⟨.inr ⟨_, hb⟩, fun h => pni (h ▸ hb)⟩, fun b h => g.zal h.1,
    ⟨_, _, rfl, ⟨p, vs, rfl, fun w => w.2 rfl, .inl hp, rr.mono sub⟩, rfl⟩, e4, ?_⟩
  intro v H2 q fx' k1 k2 k3 k4 k5 k6 k7 k8 k9 k10 k11
  have hp2 : H2 p = some (.lst vs) := k1 p _ hp pni
  have rr2 : Reps mg (Zof c fp) H2 xs vs := rr.mono fun a u z w => ⟨z, by
    have na : a ∉ fp (some i) := fun h => z (.inr ⟨_, h⟩)
    rcases w with w | ⟨o, w, hl⟩
    · exact .inl (k1 a _ w na)
    · exact .inr ⟨o, k1 a _ w na, hl⟩⟩
  have wide : ∀ a u, ¬ ((Z' a ∨ a ∈ fx' ∨ a ∈ q) ∨ a = p) → Rd H2 a u → ¬ (Zof c fp a ∨ a ∈ fx' ∨ a ∈ q) ∧ Rd H2 a u := fun a u h g => ⟨fun w => h (by
    rcases w with w | w
    · by_cases e : a = p
      · exact .inr e
      · exact .inl (.inl ⟨w, e⟩)
    · exact .inl (.inr w)), g⟩
  refine k v H2 ⟨_, g.called e1 hu k1 k2 k3 k4 k5 k6 k7 (mark_bor k10) ?_ ?_ k11⟩
  · obtain ⟨a', vs', h1, h2, h3, h4⟩ := k8
    exact ⟨a', vs', h1, h2, h3, (Reps.off hp2 rr2 hh.2 h4).mono wide⟩
  · obtain ⟨h1, h2⟩ := k9
    exact ⟨h1, (Rep.off hp2 rr2 hh.1 h2).mono wide⟩
end
section
variable {X : Cx} {k' k : Nat} {ps : List Str} {x : Str} {p pos : Pos} {FF : F1}
theorem e_callP (i j : Nat) {y z : Str} {py pz : Pos} (c : Cal1 X.prog X.w X.K X.mg X.base x ps k FF) (hr : Room k' X.A) (hk : k ≤ k' := by omega) (hN : X.N[i]? = some y := by rfl) (hN2 : X.N[j]? = some z := by rfl)
    (hv : Vis X.env.scope y := by first | exact Or.inl rfl | exact Or.inr (Or.inl rfl) | exact Or.inr (Or.inr rfl)) (hv2 : Vis X.env.scope z := by first | exact Or.inl rfl | exact Or.inr (Or.inl rfl) | exact Or.inr (Or.inr rfl))
    (hd : (y == ("__debug__" : Str)) = false := by decide) (hd2 : (z == ("__debug__" : Str)) = false := by decide) (hcd : (y == ("__classdict__" : Str)) = false := by decide) (hcd2 : (z == ("__classdict__" : Str)) = false := by decide) (hg : Gl X x := by rfl)
    (hs1 : starEach [.Name y py, .Name z pz] X.env = (false, eval (.Name y py) X.env) :: starEach [.Name z pz] X.env := by rfl) (hs2 : starEach [.Name z pz] X.env = (false, eval (.Name z pz) X.env) :: starEach [] X.env := by rfl)
    (hdb : (x == ("__debug__" : Str)) = false := by decide) (hpl : (backTo pos (starEach [.Name z pz] X.env)).any (·.1) = false := by rfl) : EI X (.Call (.Name x p) [.Name y py, .Name z pz] [] pos) (cal1P i j FF) := by
  obtain ⟨f, fd, m, kp, bi, G⟩ := c
  exact (pe_call G (hr.mono hk) hg m kp bi .nil pass0 (pa_cons (pe_var hN hv hd hcd) (pa_cons (pe_var hN2 hv2 hd2 hcd2) pa_nil hs2) hs1) hdb hs1 hpl).imp fun σ H Q h => by
    show tCons (tVar i) (tCons (tVar j) tNil) σ H fun vs H1 => sp1 X.mg FF (vs ++ []) H1 Q E0
    simp only [List.append_nil]
    exact cal1P_go h
end
end Tw
end
section
set_option maxRecDepth 100000
set_option maxHeartbeats 4000000
/-! the calculus: the constructs of Q26 .. Q34 -/
namespace Tw
open PySem PySem.Spec PyProof.Rows L2
section
variable {ρ : Ro}
@[simp] theorem listA_l (b : Bool) (xs : List D) : listA (.l b xs) = some xs := rfl
@[simp] theorem dataA_d (d : D) : dataA (.d d) = some d := rfl
@[simp ↓] theorem WP_cal1P {i j : Nat} {F : F1} {Q : A × Ro → Prop} : WP (cal1P i j F ρ) Q ↔ i ≠ j ∧ WP (at_ ρ i) fun a => WP a.lend fun l => WP (lstA (at_ ρ j)) fun y => WP (F l [.lst y.2]) fun z => z.2.bor = true ∧ WP (dataA z.1) fun d => WP (listA z.2) fun ws => (ht d ≤ hts y.2 ∧ hts ws ≤ hts y.2) ∧ Q (.d d, ρ.set i (some (z.2.mark a.bor))) := by
  have sw : ∀ {p : Prop} [Decidable p] {o : Option (A × Ro)}, WP (if p then o else none) Q ↔ p ∧ WP o Q := fun {p _ o} => by
    by_cases h : p <;> simp [h]
  unfold cal1P
  by_cases hij : i = j
  · simp [hij]
  · rw [if_neg hij]
    simp only [WP_bind, sw, WP_some, ne_eq, hij, not_false_iff, true_and]
@[simp ↓] theorem WP_callI {cn : Str} {f : EF} {os : List Opd} {F : F0} {Q : A × Ro → Prop} : WP (callI cn f os F ρ) Q ↔ WP (dv f ρ) fun x => WP (insD x.1) fun y => WP (if y.1 = cn then (evs os x.2).bind fun z => (onlyD z.1).bind fun ds => (F (x.1 :: ds)).map fun r => (r, z.2) else none) Q := by unfold callI; simp only [WP_bind]
@[simp ↓] theorem WP_plusI {cn : Str} {F : F0} {a b : D} {Q : A → Prop} : WP (plusI cn F a b) Q ↔ WP (insD a) fun x => WP (insD b) fun y => WP (if x.1 = cn ∧ y.1 = cn then F [a, b] else none) Q := by unfold plusI; simp only [WP_bind]
@[simp ↓] theorem WP_inG {neg : Bool} {a : D} {ys : List D} {Q : A → Prop} : WP (inG neg a (.lst ys)) Q ↔ hgts ys ≤ 90 ∧ WP (mapO (fun y => eqO y a) ys) fun bs => Q (.d (.bl (if neg = true then !bs.any id else bs.any id))) := by
  show WP (if hgts ys ≤ 90 then _ else none) Q ↔ _
  by_cases h : hgts ys ≤ 90 <;> simp [h]
theorem ht_mem : ∀ {xs : List D} {x : D}, x ∈ xs → ht x ≤ hts xs
  | y :: r, x, h => by
    unfold hts
    rcases List.mem_cons.mp h with rfl | h
    · exact Nat.le_max_left _ _
    · exact Nat.le_trans (ht_mem h) (Nat.le_max_right _ _)
end
end Tw
end
section
set_option maxRecDepth 100000
set_option maxHeartbeats 4000000
/-! trees that belong to the frame: they are set aside, and taken up again -/
namespace Tw
open PySem PySem.Spec PyProof.Rows L2

/-- what stands at q is set aside -/
def Fx.pk (c : Fx) (q : List Addr) (G : Hp) : Fx := { c with Z0 := fun b => c.Z0 b ∨ b ∈ q, H0 := fun b => if b ∈ q then G b else c.H0 b }
/-- what a frame's constants keep to -/
structure Fx.ok (c : Fx) : Prop where
  z0 : ∀ b, c.Z0 b → c.H0 b ≠ none
  bz : ∀ i a, a ∈ c.bor i → c.Z0 a
section
variable {mg : Str → Option Value} {c c' : Fx} {σ σ' : Sg} {H H' G : Hp} {ρ ρ' : Ro} {ts : List D} {tv : List V} {r : Option A} {v u : V} {fp : Pl → List Addr} {q : List Addr} {x : A}
theorem Good.ok (g : Good mg c σ H ρ ts tv r v fp) : c.ok := ⟨g.z0, g.bz⟩
theorem SR.ok (g : SR mg c σ H ρ ts tv r v) : c.ok := let ⟨_, g⟩ := g; g.ok
theorem Fx.pk_nil : c.pk [] G = c := by
  unfold Fx.pk
  cases c
  simp
theorem Fx.pk_in {b : Addr} (h : b ∈ q) : (c.pk q G).H0 b = G b := if_pos h
theorem Fx.pk_out {b : Addr} (h : b ∉ q) : (c.pk q G).H0 b = c.H0 b := if_neg h
/-- what is set aside is disjoint from the rest -/
theorem Good.pkNot (g : Good mg (c.pk q G) σ H ρ ts tv r v fp) (ok : c.ok) (hq : ∀ a ∈ q, c.H0 a = none) {p : Pl} {a : Addr} (h : a ∈ fp p) : a ∉ q := fun hm => by
  rcases g.new p a h with w | w
  · cases p with
    | none => cases w
    | some i => exact ok.z0 a (ok.bz i a w) (hq a hm)
  · exact g.z0 a (.inr hm) w
theorem Good.pkAt (g : Good mg (c.pk q G) σ H ρ ts tv r v fp) (ok : c.ok) (hq : ∀ a ∈ q, c.H0 a = none) {a : Addr} (h : a ∈ q) : H a = G a := by
  cases e : G a with
  | none => exact absurd (by rw [Fx.pk_in h]; exact e) (g.z0 a (.inr h))
  | some o => exact g.keep a o (by rw [Fx.pk_in h]; exact e) fun i hi => ok.z0 a (ok.bz i a hi) (hq a h)
theorem Good.pkH0 (g : Good mg (c.pk q G) σ H ρ ts tv r v fp) (ok : c.ok) {p : Pl} {a : Addr} (h : a ∈ fp p) (hn : a ∉ q) : a ∈ bOf c p ∨ c.H0 a = none := by
  rcases g.new p a h with w | w
  · left; cases p with
    | none => cases w
    | some i => exact w
  · right; rw [Fx.pk_out hn] at w; exact w
/-- the tree at hand is set aside too -/
theorem Good.park (g : Good mg (c.pk q G) σ H ρ ts tv (some x) u fp) (ok : c.ok) (hq : ∀ a ∈ q, c.H0 a = none) (hH : ∀ b, b ∉ q → H' b = H b) (hn : ∀ b ∈ q, H' b ≠ none) : Good mg (c.pk (q ++ fp none) H') σ H' ρ ts tv none v (fpN fp []) := by
  have dj : ∀ {p a}, a ∈ fp p → a ∉ q := fun h => g.pkNot ok hq h
  have al : ∀ b ∈ q ++ fp none, H' b ≠ none := fun b hb => by
    rcases List.mem_append.mp hb with h | h
    · exact hn b h
    · rw [hH b (dj h)]; exact g.alloc h
  have lift : ∀ b w, ¬ Zof (c.pk q G) fp b → Rd H b w → ¬ Zof (c.pk (q ++ fp none) H') (fpN fp []) b ∧ Rd H' b w := fun b w z h => by
    have hb : b ∉ q := fun hb => z (.inl (.inr hb))
    refine ⟨fun k => ?_, ?_⟩
    · rcases k with (k | k) | ⟨p, k⟩
      · exact z (.inl (.inl k))
      · rcases List.mem_append.mp k with k | k
        · exact hb k
        · exact z (.inr ⟨none, k⟩)
      · cases p with
        | none => cases k
        | some i => exact z (.inr ⟨some i, k⟩)
    · rcases h with h | ⟨o, h, l⟩
      · exact .inl (by rw [hH b hb]; exact h)
      · exact .inr ⟨o, by rw [hH b hb]; exact h, l⟩
  refine ⟨g.len, fun p y e => ?_, fun p e => ?_, fun p => ?_, fun p p' a h1 h2 => ?_, fun p a h => ?_, g.tmp.mono lift, fun b o e hb => ?_, fun b hb => ?_, fun b hb => ?_, fun i a h => .inl (ok.bz i a h), g.bst, g.bvs, fun _ e => (by cases e), g.bnb⟩
  · cases p with
    | none => cases e
    | some i =>
      obtain ⟨w, e1, o⟩ := g.ent (some i) y e
      exact ⟨w, e1, o.mono lift fun a ha => hH a (dj ha)⟩
  · cases p with
    | none => rfl
    | some i => exact g.off (some i) e
  · cases p with
    | none => exact List.nodup_nil
    | some i => exact g.nd (some i)
  · cases p with
    | none => cases h1
    | some i =>
      cases p' with
      | none => cases h2
      | some j => exact g.ap (some i) (some j) a h1 h2
  · cases p with
    | none => cases h
    | some i =>
      have h : a ∈ fp (some i) := h
      rcases g.pkH0 ok h (dj h) with w | w
      · exact .inl w
      · right
        rw [Fx.pk_out]
        · exact w
        · intro k
          rcases List.mem_append.mp k with k | k
          · exact dj h k
          · cases g.ap (some i) none a h k
  · by_cases k : b ∈ q ++ fp none
    · rw [Fx.pk_in k] at e; exact e
    · rw [Fx.pk_out k] at e
      have hbq : b ∉ q := fun w => k (List.mem_append_left _ w)
      rw [hH b hbq]
      exact g.keep b o (by rw [Fx.pk_out hbq]; exact e) hb
  · by_cases k : b ∈ q ++ fp none
    · exact al b k
    · rw [Fx.pk_out k] at hb
      have hbq : b ∉ q := fun w => k (List.mem_append_left _ w)
      rw [hH b hbq]
      exact g.mor b (by rw [Fx.pk_out hbq]; exact hb)
  · by_cases k : b ∈ q ++ fp none
    · rw [Fx.pk_in k]; exact al b k
    · rw [Fx.pk_out k]
      rcases hb with hb | hb
      · exact ok.z0 b hb
      · exact absurd hb k
/-- what is set aside is written -/
theorem Good.pkW (g : Good mg (c.pk q G) σ H ρ ts tv none u fp) (ok : c.ok) (hq : ∀ a ∈ q, c.H0 a = none) (hH : ∀ b, b ∉ q → H' b = H b) (hn : ∀ b ∈ q, H' b ≠ none) : Good mg (c.pk q H') σ H' ρ ts tv none v fp := by
  have dj : ∀ {p a}, a ∈ fp p → a ∉ q := fun h => g.pkNot ok hq h
  have lift : ∀ b w, ¬ Zof (c.pk q G) fp b → Rd H b w → ¬ Zof (c.pk q H') fp b ∧ Rd H' b w := fun b w z h => by
    have hb : b ∉ q := fun hb => z (.inl (.inr hb))
    refine ⟨z, ?_⟩
    rcases h with h | ⟨o, h, l⟩
    · exact .inl (by rw [hH b hb]; exact h)
    · exact .inr ⟨o, by rw [hH b hb]; exact h, l⟩
  refine ⟨g.len, fun p y e => ?_, fun p e => ?_, g.nd, g.ap, fun p a h => ?_, g.tmp.mono lift, fun b o e hb => ?_, fun b hb => ?_, fun b hb => ?_, fun i a h => .inl (ok.bz i a h), g.bst, g.bvs, fun _ e => (by cases e), g.bnb⟩
  · cases p with
    | none => cases e
    | some i =>
      obtain ⟨w, e1, o⟩ := g.ent (some i) y e
      exact ⟨w, e1, o.mono lift fun a ha => hH a (dj ha)⟩
  · cases p with
    | none => exact g.off none e
    | some i => exact g.off (some i) e
  · rcases g.pkH0 ok h (dj h) with w | w
    · exact .inl w
    · exact .inr (by rw [Fx.pk_out (dj h)]; exact w)
  · by_cases k : b ∈ q
    · rw [Fx.pk_in k] at e; exact e
    · rw [Fx.pk_out k] at e
      rw [hH b k]
      exact g.keep b o (by rw [Fx.pk_out k]; exact e) hb
  · by_cases k : b ∈ q
    · exact hn b k
    · rw [Fx.pk_out k] at hb
      rw [hH b k]
      exact g.mor b (by rw [Fx.pk_out k]; exact hb)
  · by_cases k : b ∈ q
    · rw [Fx.pk_in k]; exact hn b k
    · rw [Fx.pk_out k]
      rcases hb with hb | hb
      · exact ok.z0 b hb
      · exact absurd hb k
/-- it is taken up again -/
theorem Good.unpark (g : Good mg (c.pk q G) σ H ρ ts tv none v fp) (ok : c.ok) (hq : ∀ a ∈ q, c.H0 a = none) {q' : List Addr} (hs : ∀ a ∈ q', a ∈ q) (nd : q'.Nodup) {y : D} (h : OwnT H y u q') : Good mg c σ H ρ ts tv (some (.t false y)) u (fpN fp q') := by
  have dj : ∀ {p a}, a ∈ fp p → a ∉ q := fun h => g.pkNot ok hq h
  have lift : ∀ b w, ¬ Zof (c.pk q G) fp b → Rd H b w → ¬ Zof c (fpN fp q') b ∧ Rd H b w := fun b w z h => ⟨fun k => by
    rcases k with k | ⟨p, k⟩
    · exact z (.inl (.inl k))
    · cases p with
      | none => exact z (.inl (.inr (hs b k)))
      | some i => exact z (.inr ⟨some i, k⟩), h⟩
  refine ⟨g.len, fun p x e => ?_, fun p e => ?_, fun p => ?_, fun p p' a h1 h2 => ?_, fun p a h' => ?_, g.tmp.mono lift, fun b o e hb => ?_, fun b hb => ?_, ok.z0, ok.bz, g.bst, g.bvs, fun x e => by cases e; rfl, g.bnb⟩
  · cases p with
    | none => cases e; exact ⟨u, rfl, h⟩
    | some i =>
      obtain ⟨w, e1, o⟩ := g.ent (some i) x e
      exact ⟨w, e1, o.mono lift fun _ _ => rfl⟩
  · cases p with
    | none => cases e
    | some i => exact g.off (some i) e
  · cases p with
    | none => exact nd
    | some i => exact g.nd (some i)
  · cases p with
    | none =>
      cases p' with
      | none => rfl
      | some j => exact absurd (hs a h1) (dj (p := some j) h2)
    | some i =>
      cases p' with
      | none => exact absurd (hs a h2) (dj (p := some i) h1)
      | some j => exact g.ap (some i) (some j) a h1 h2
  · cases p with
    | none => exact .inr (hq a (hs a h'))
    | some i => exact g.pkH0 ok h' (dj h')
  · have k : b ∉ q := fun k => by rw [hq b k] at e; cases e
    exact g.keep b o (by rw [Fx.pk_out k]; exact e) hb
  · have k : b ∉ q := fun k => hb (hq b k)
    exact g.mor b (by rw [Fx.pk_out k]; exact hb)
/-- what was set aside is given up -/
theorem Good.unpk (g : Good mg (c.pk q G) σ H ρ ts tv none v fp) (ok : c.ok) (hq : ∀ a ∈ q, c.H0 a = none) : Good mg c σ H ρ ts tv none v fp := by
  have h := g.unpark ok hq (q' := []) (fun _ h => by cases h) List.nodup_nil (y := .non) (u := .non) ⟨rfl, rfl⟩
  have h2 := h.drop v
  refine cast (congrArg (Good mg c σ H ρ ts tv none v) (funext fun p => ?_)) h2
  cases p with
  | none => exact (g.off none rfl).symm
  | some i => rfl
end
end Tw
end
section
set_option maxRecDepth 100000
set_option maxHeartbeats 4000000
/-! comprehensions whose items are trees of the frame -/
namespace Tw
open PySem PySem.Spec PyProof.Rows L2

def leafD : D → Bool
  | .non => true
  | .bl _ => true
  | .int _ => true
  | .str _ => true
  | _ => false
def A.toT : A → A
  | .d x => if leafD x = true then .t false x else .d x
  | .l false xs => if xs.all leafD = true then .t false (.lst xs) else .l false xs
  | .k false [] => .t false (.dic [])
  | a => a
section
variable {mg : Str → Option Value} {c c' : Fx} {σ σ' : Sg} {Z : Addr → Prop} {H H' G : Hp} {ρ ρ' : Ro} {ts : List D} {tv : List V} {r : Option A} {v u : V} {fp : Pl → List Addr} {q : List Addr} {x : A}
theorem leaf_own {d : D} {v : V} {q : List Addr} (h : leafD d = true) (r : Rep mg Z H d v) (e : q = []) : OwnT H d v q := by
  cases d <;> first | cases h; done | exact ⟨r, e⟩
theorem leaf_owns : ∀ {xs : List D} {vs : List V}, xs.all leafD = true → Reps mg Z H xs vs → OwnTs H xs vs []
  | [], vs, _, r => ⟨r, rfl⟩
  | d :: t, vs, h, ⟨v, w, e, r, s⟩ => by
    simp only [List.all_cons, Bool.and_eq_true] at h
    exact ⟨v, w, [], [], e, rfl, leaf_own h.1 r rfl, leaf_owns h.2 s⟩
theorem Own.toT {x : A} (h : Own mg Z H x v q) : Own mg Z H x.toT v q := by
  cases x with
  | d y =>
    show Own mg Z H (if leafD y = true then _ else _) v q
    split
    · exact leaf_own ‹_› h.2 h.1
    · exact h
  | l b xs =>
    cases b with
    | true => exact h
    | false =>
      show Own mg Z H (if xs.all leafD = true then _ else _) v q
      split
      · obtain ⟨a, vs, e1, e2, e3, e4⟩ := h
        exact ⟨a, vs, [], e1, e2, e3, leaf_owns ‹_› e4⟩
      · exact h
  | k b kvs =>
    cases b with
    | true => exact h
    | false =>
      cases kvs with
      | nil =>
        obtain ⟨a, vs, e1, e2, e3, e4⟩ := h
        exact ⟨a, vs, [], e1, e2, e3, e4, rfl⟩
      | cons _ _ => exact h
  | i _ _ _ => exact h
  | t _ _ => exact h
theorem toT_bor {x : A} (h : x.bor = false) : x.toT.bor = false := by
  cases x with
  | d y => show (if leafD y = true then _ else _ : A).bor = false; split <;> rfl
  | l b xs => cases b with
    | true => cases h
    | false => show (if xs.all leafD = true then _ else _ : A).bor = false; split <;> rfl
  | k b kvs => cases b with
    | true => cases h
    | false => cases kvs <;> rfl
  | i _ _ _ => exact h
  | t _ _ => exact h
theorem Good.reown {x y : A} (g : Good mg c σ H ρ ts tv (some x) v fp) (h : ∀ {u q}, Own mg (Zof c fp) H x u q → Own mg (Zof c fp) H y u q) (hb : y.bor = false) : Good mg c σ H ρ ts tv (some y) v fp := by
  refine ⟨g.len, fun p z e => ?_, fun p e => ?_, g.nd, g.ap, g.new, g.tmp, g.keep, g.mor, g.z0, g.bz, g.bst, g.bvs, fun z e => by cases e; exact hb, g.bnb⟩
  · cases p with
    | none =>
      cases e
      obtain ⟨u, e1, o⟩ := g.ent none x rfl
      exact ⟨u, e1, h o⟩
    | some i => exact g.ent (some i) z e
  · cases p with
    | none => cases e
    | some i => exact g.off (some i) e
theorem SR.toT {x : A} (s : SR mg c σ H ρ ts tv (some x) v) : SR mg c σ H ρ ts tv (some x.toT) v := by
  obtain ⟨fp, g⟩ := s
  exact ⟨fp, g.reown Own.toT (toT_bor (g.rnb x rfl))⟩
def toT (f : EF) : EF := fun ρ => (f ρ).map fun x => (x.1.toT, x.2)
theorem e_toT {X : Cx} {e : Expr} {f : EF} (h : EI X e f) : EI X e (toT f) := PE.imp h fun σ H Q h => by
  obtain ⟨c, ρ, ts, tv, r, ρ', s, e, k⟩ := h
  obtain ⟨⟨r1, ρ1⟩, e1, e2⟩ := map_some.mp (show (f ρ).map _ = _ from e)
  cases e2
  exact ⟨c, ρ, ts, tv, r1, ρ1, s, e1, fun v H' s' => k v H' s'.toT⟩
/-- the value as a tree of the frame's own -/
def trA : A → Option D
  | .t false d => some d
  | _ => none
theorem trA_some {x : A} {d : D} (h : trA x = some d) : x = .t false d := by
  cases x with
  | t b y => cases b with
    | true => cases h
    | false => cases h; rfl
  | _ => cases h
def tvl (f : EF) : Ro → Option (D × Ro) := fun ρ => (f ρ).bind fun x => (trA x.1.toT).map fun d => (d, x.2)
theorem tE_tv {f : EF} {d : D} {Q : VK} (s : SR mg c σ H ρ ts tv none .non) (e : tvl f ρ = some (d, ρ')) (k : ∀ v H', SR mg c σ H' ρ' ts tv (some (.t false d)) v → Q v H') : tE mg f σ H Q := by
  obtain ⟨⟨x, ρ1⟩, e1, e2⟩ := bind_some.mp (show (f ρ).bind _ = _ from e)
  obtain ⟨d', e3, e4⟩ := map_some.mp e2
  cases e4
  refine ⟨c, ρ, ts, tv, x, ρ1, s, e1, fun v H' s' => k v H' ?_⟩
  have := s'.toT
  rw [trA_some e3] at this
  exact this
theorem Fx.acc_pk {a : Addr} {o : HO} {H : Hp} : c.acc a o = c.pk [a] (upd H a o) := by
  unfold Fx.acc Fx.pk
  congr 1
  · funext b; simp
  · funext b
    by_cases h : b = a
    · subst h; rw [upd_same, if_pos (List.mem_singleton.mpr rfl), upd_same]
    · rw [upd_ne h, if_neg (by simpa using h)]
theorem OwnTs.append : ∀ {x y : List D} {v w : List V} {p q : List Addr}, OwnTs H x v p → OwnTs H y w q → OwnTs H (x ++ y) (v ++ w) (p ++ q)
  | [], y, v, w, p, q, ⟨e1, e2⟩, s => by rw [e1, e2]; exact s
  | d :: t, y, v, w, p, q, ⟨a, b, p1, p2, e, f, r, s⟩, k => by
    rw [e, f]
    exact ⟨a, b ++ w, p1, p2 ++ q, rfl, by rw [List.append_assoc], r, OwnTs.append s k⟩
theorem OwnTk.append : ∀ {x y : List (Key × D)} {v w : List (Key × V)} {p q : List Addr}, OwnTk H x v p → OwnTk H y w q → OwnTk H (x ++ y) (v ++ w) (p ++ q)
  | [], y, v, w, p, q, ⟨e1, e2⟩, s => by rw [e1, e2]; exact s
  | (k, d) :: t, y, v, w, p, q, ⟨a, b, p1, p2, e, f, r, s⟩, z => by
    rw [e, f]
    exact ⟨a, b ++ w, p1, p2 ++ q, rfl, by rw [List.append_assoc], r, OwnTk.append s z⟩
theorem OwnTs.one {d : D} {v : V} (h : OwnT H d v q) : OwnTs H [d] [v] q := ⟨v, [], q, [], rfl, by rw [List.append_nil], h, rfl, rfl⟩
theorem OwnTk.one {k : Key} {d : D} {v : V} (h : OwnT H d v q) : OwnTk H [(k, d)] [(k, v)] q := ⟨v, [], q, [], rfl, by rw [List.append_nil], h, rfl, rfl⟩
theorem OwnTs.len : ∀ {x : List D} {v : List V} {q : List Addr}, OwnTs H x v q → x.length = v.length
  | [], v, q, ⟨e, _⟩ => by rw [e]; rfl
  | d :: t, v, q, ⟨a, b, p1, p2, e, f, r, s⟩ => by rw [e, List.length_cons, List.length_cons, OwnTs.len s]
theorem OwnTk.keys : ∀ {x : List (Key × D)} {v : List (Key × V)} {q : List Addr}, OwnTk H x v q → x.map (·.1) = v.map (·.1)
  | [], v, q, ⟨e, _⟩ => by rw [e]; rfl
  | (k, d) :: t, v, q, ⟨a, b, p1, p2, e, f, r, s⟩ => by rw [e, List.map_cons, List.map_cons, OwnTk.keys s]
theorem pins_pk {P : List (Addr × HO)} (hp : Pins c P) (hq : ∀ a ∈ q, c.H0 a = none) : Pins (c.pk q G) P := fun p h => by
  obtain ⟨h1, h2⟩ := hp p h
  have hn : p.1 ∉ q := fun k => by rw [hq _ k] at h1; cases h1
  exact ⟨by rw [Fx.pk_out hn]; exact h1, fun w => by
    rcases w with w | w
    · exact h2 w
    · exact hn w⟩
/-- one more tree is set aside, and what holds them is written -/
theorem Good.grow {D : Addr} {o : HO} {d : Tw.D} (g : Good mg (c.pk (D :: q) G) σ H ρ ts tv (some (.t false d)) u fp) (ok : c.ok) (nd : (D :: q).Nodup) (hq : ∀ a ∈ D :: q, c.H0 a = none) :
    SR mg (c.pk (D :: (q ++ fp none)) (upd H D o)) σ (upd H D o) ρ ts tv none v ∧ (D :: (q ++ fp none)).Nodup ∧ (∀ a ∈ D :: (q ++ fp none), c.H0 a = none) ∧ OwnT (upd H D o) d u (fp none) ∧ (∀ a ∈ q, upd H D o a = G a) ∧ H D = G D := by
  have dj : ∀ {a}, a ∈ fp none → a ∉ D :: q := fun h => g.pkNot ok hq h
  have hat : ∀ {a}, a ∈ D :: q → H a = G a := fun h => g.pkAt ok hq h
  refine ⟨⟨_, g.park (H' := upd H D o) ok hq (fun b hb => upd_ne fun e => hb (by rw [e]; exact List.mem_cons_self)) fun b hb => ?_⟩, ?_, fun a ha => ?_, ?_, fun a ha => ?_, hat List.mem_cons_self⟩
  · by_cases e : b = D
    · subst e; rw [upd_same]; simp
    · rw [upd_ne e, hat hb]
      have := g.z0 b (.inr hb)
      rw [Fx.pk_in hb] at this
      exact this
  · show ((D :: q) ++ fp none).Nodup
    exact List.nodup_append.mpr ⟨nd, g.nd none, fun a h1 b h2 e => dj (e ▸ h2) h1⟩
  · rcases List.mem_append.mp (show a ∈ (D :: q) ++ fp none from ha) with h | h
    · exact hq a h
    · rcases g.pkH0 ok h (dj h) with w | w
      · cases w
      · exact w
  · obtain ⟨w, e1, ow⟩ := g.ent none _ rfl
    cases e1
    exact OwnT.mono (fun a ha => upd_ne fun e => dj ha (by rw [e]; exact List.mem_cons_self)) ow
  · have hne : a ≠ D := fun e => (List.nodup_cons.mp nd).1 (e ▸ ha)
    rw [upd_ne hne]; exact hat (List.mem_cons_of_mem _ ha)
end

/-! ### lists -/
def lcLT (g : GF) (t : TF) (f : EF) (own : List Nat) : List D → List D → Ro → Option (List D × Ro)
  | [], acc, ρ => some (acc, ρ)
  | d :: r, acc, ρ => (g d ρ).bind fun ρ1 => (t ρ1).bind fun x =>
    if x.1 then (tvl f x.2).bind fun y => (forget own y.2).bind fun ρ2 => if acc.length < 16777216 then lcLT g t f own r (acc ++ [y.1]) ρ2 else none
    else (forget own x.2).bind fun ρ2 => lcLT g t f own r acc ρ2
section
variable {mg : Str → Option Value} {c c' : Fx} {σ σ' : Sg} {H H' : Hp} {ρ ρ' : Ro} {ts : List D} {tv : List V} {r : Option A} {v : V} {fp : Pl → List Addr}
theorem lcT_go {js vs : List Nat} {g : GF} {t : TF} {f : EF} {P : List (Addr × HO)} {T : List D} {TV : List V} {J : It} {ds ys : List D} {ρf : Ro} {Q : VK} (hjs : ∀ j ∈ js, j ∈ vs)
    (s : SR mg c σ H ρ T TV none .non) (hp : Pins c P) (G : Gives mg P T TV J ds) (hw : ∀ i ∈ vs, at_ ρ i = none) (e : lcLT g t f vs ds [] ρ = some (ys, ρf))
    (k : ∀ a H', SR mg c σ H' ρf T TV (some (.t false (.lst ys))) (.ref a) → Q (.ref a) H') : ∀ D, H D = none → ∃ W : Nat → Nat → Hp → Prop, (∃ m, W 0 m (upd H D (.lst []))) ∧ ∀ i m H, W i m H →
      (J.stop i H ∧ Q (.ref D) H) ∨ (J.go i H ∧ ∃ Nx : Hp → Prop, (∀ H', Nx H' → ∃ m', m' < m ∧ W (i + 1) m' H') ∧ ∀ x H', J.yld i H x H' → tGr mg js g x (wipe σ vs) H' fun σ2 H2 => wipe σ2 vs = wipe σ vs ∧ tTst mg t σ2 H2 fun b H3 =>
        if b = true then tE mg f σ2 H3 fun y H4 => ∃ acc, H4 D = some (.lst acc) ∧ acc.length < sizeLine ∧ Nx (upd H4 D (.lst (acc ++ [y]))) else Nx H3) := by
  intro D hD
  have h0 : c.H0 D = none := by obtain ⟨fp, g⟩ := s; exact g.new' hD
  have ok := s.ok
  let N : Nat → Hp → Prop := fun i H => ∃ ρ acc av q, SR mg (c.pk (D :: q) H) (wipe σ vs) H ρ T TV none .non ∧ H D = some (.lst av) ∧ OwnTs H acc av q ∧ (D :: q).Nodup ∧ (∀ a ∈ D :: q, c.H0 a = none) ∧ (∀ i ∈ vs, at_ ρ i = none) ∧ lcLT g t f vs (ds.drop i) acc ρ = some (ys, ρf)
  refine ⟨fun i m H => i ≤ ds.length ∧ m = ds.length - i ∧ N i H, ⟨_, Nat.zero_le _, rfl, ρ, [], [], [], ?_, upd_same, ⟨rfl, rfl⟩, by simp, fun a ha => by rw [List.mem_singleton.mp ha]; exact h0, hw, e⟩, ?_⟩
  · obtain ⟨fp, g⟩ := s.wiped hw
    have := g.acc0 (o := .lst []) hD
    rw [Fx.acc_pk (H := H)] at this
    exact ⟨fp, this⟩
  · rintro i m H2 ⟨hi, rfl, ρ2, acc, av, q, s2, hat, ow, nd, hq, hw2, e2⟩
    have hp2 : Pins (c.pk (D :: q) H2) P := pins_pk hp hq
    by_cases hlt : i < ds.length
    · right
      refine ⟨G.go _ _ _ _ _ _ [] [] hp2 s2 i hlt, N (i + 1), fun H' q => ⟨ds.length - (i + 1), by omega, hlt, rfl, q⟩, fun x H' y => ?_⟩
      have hd : ds[i]? = some ds[i] := List.getElem?_eq_getElem hlt
      rw [List.drop_eq_getElem_cons hlt] at e2
      obtain ⟨ρ3, e3, e4⟩ := bind_some.mp (show (g ds[i] ρ2).bind _ = _ from e2)
      obtain ⟨⟨b, ρ4⟩, e5, e6⟩ := bind_some.mp e4
      have sy := G.yld _ _ _ _ [] [] hp2 rfl s2 i x H' _ hd y
      refine ⟨_, ρ2, T, TV, ds[i], ρ3, sy.1, e3, fun σ3 H3 ag s3 => ⟨?_, _, ρ3, _, _, b, ρ4, s3, e5, fun H4 s4 => ?_⟩⟩
      · rw [ag vs hjs, wipe_wipe]
      · have hag : ∀ {H5 : Hp} {ρ5 ρ6 : Ro} {cc : Fx} {r5 : Option A} {v5 : V}, SR mg cc σ3 H5 ρ5 T TV r5 v5 → forget vs ρ5 = some ρ6 → SR mg cc (wipe σ vs) H5 ρ6 T TV r5 v5 ∧ ∀ i ∈ vs, at_ ρ6 i = none := fun {H5 ρ5 ρ6 cc r5 v5} s5 e7 => by
          have hw6 := (forget_none e7).1
          have s6 := (s5.forget e7).wiped hw6
          rw [ag vs hjs, wipe_wipe] at s6
          exact ⟨s6, hw6⟩
        cases b with
        | false =>
          refine iteF ?_
          rw [if_neg (by simp)] at e6
          obtain ⟨ρ5, e7, e8⟩ := bind_some.mp e6
          obtain ⟨⟨fp5, g5⟩, hw5⟩ := hag s4 e7
          have pa : ∀ a ∈ D :: q, H4 a = H2 a := fun a ha => g5.pkAt ok hq ha
          have gw := g5.pkW (H' := H4) (v := .non) ok hq (fun _ _ => rfl) fun b hb => by
            rw [pa b hb]
            have := g5.z0 b (.inr hb)
            rw [Fx.pk_in hb] at this
            exact this
          exact ⟨ρ5, acc, av, q, ⟨_, gw⟩, by rw [pa D List.mem_cons_self]; exact hat, OwnTs.mono (fun a ha => pa a (List.mem_cons_of_mem _ ha)) ow, nd, hq, hw5, e8⟩
        | true =>
          refine iteT ?_
          rw [if_pos rfl] at e6
          obtain ⟨⟨y1, ρ5⟩, e7, e8⟩ := bind_some.mp e6
          obtain ⟨ρ6, e9, e10⟩ := bind_some.mp e8
          simp only at e10
          by_cases hlen : acc.length < 16777216
          case neg => rw [if_neg hlen] at e10; cases e10
          rw [if_pos hlen] at e10
          refine tE_tv s4 e7 fun u H5 s5 => ?_
          obtain ⟨⟨fp, g6⟩, hw6⟩ := hag s5 e9
          obtain ⟨k1, k2, k3, k4, k5, k6⟩ := g6.grow (o := .lst (av ++ [u])) (v := .non) ok nd hq
          refine ⟨av, k6.trans hat, by rw [← ow.len, sizeLine_eq]; exact hlen, ρ6, acc ++ [y1], av ++ [u], q ++ fp none, k1, upd_same, (OwnTs.mono k5 ow).append (OwnTs.one k4), k2, k3, hw6, e10⟩
    · left
      have en : ds.drop i = [] := List.drop_eq_nil_of_le (by omega)
      rw [en] at e2
      cases e2
      refine ⟨G.stop _ _ _ _ _ _ [] [] hp2 s2 i (by omega), k D H2 ?_⟩
      obtain ⟨fp, g⟩ := s2.unwiped hw2
      exact ⟨_, g.unpark ok hq (fun _ h => h) nd ⟨D, av, q, rfl, rfl, hat, ow⟩⟩
end
def lcT (w : WF) (g : GF) (t : TF) (f : EF) (own : List Nat) : EF := fun ρ => (w ρ).bind fun x => (forget own x.2).bind fun ρ1 => (lcLT g t f own x.1 [] ρ1).map fun y => (.t false (.lst y.1), y.2)
section
variable {X : Cx} {elt tg iter : Expr} {ifs : List Expr} {scope : Scope} {own : List (Str × Nat)} {pos : Pos} {w : WF} {js : List Nat} {g : GF} {t : TF} {f : EF}
theorem e_lcT (hc : X.calm = true) (hN : X.N.Nodup) (hi : IW X tg iter w) (ok : BlkOk X.N X.env.scope scope own) (hjs : ∀ j ∈ js, j ∈ own.map (·.2))
    (hg : ∀ (s : Shared) (H : Hp) (C : Addr) (cl : List (Str × Addr)) (fp : List Addr), GI (X.blk s H scope (compEnvC scope cl C X.env) fp) tg js g) (ht : ∀ (s : Shared) (H : Hp) (C : Addr) (cl : List (Str × Addr)) (fp : List Addr), PTsI (X.blk s H scope (compEnvC scope cl C X.env) fp) ifs t)
    (he : ∀ (s : Shared) (H : Hp) (C : Addr) (cl : List (Str × Addr)) (fp : List Addr), EI (X.blk s H scope (compEnvC scope cl C X.env) fp) elt f) (hs : ∀ x, foldedSetIterable iter X.env x = pure x := by intro _; rfl) :
    EI X (.ListComp elt [⟨tg, iter, ifs, 0⟩] scope pos) (lcT w g t f (own.map (·.2))) := (pe_lc (g := tGr X.mg js g) (tt := tTst X.mg t) (te := tE X.mg f) hc hN hi ok hg ht he hs).imp fun σ H Q h => by
  obtain ⟨c, ρ, ts, tv, r, ρ', s, e, k⟩ := h
  obtain ⟨⟨ds, ρ1⟩, e1, e2⟩ := bind_some.mp (show (w ρ).bind _ = _ from e)
  obtain ⟨ρ2, e3, e4⟩ := bind_some.mp e2
  obtain ⟨⟨ys, ρf⟩, e5, e6⟩ := map_some.mp e4
  cases e6
  refine ⟨c, ρ, ts, tv, ds, ρ1, s, e1, fun J H' c' T TV P s' hp G bk _ => ?_⟩
  exact lcT_go hjs (s'.forget e3) hp G (forget_none e3).1 e5 fun a H2 s2 => k _ H2 (bk _ _ _ _ _ s2)
end

/-! ### dicts -/
def dcLT (g : GF) (t : TF) (fk fv : EF) (own : List Nat) : List D → List (Key × D) → Ro → Option (List (Key × D) × Ro)
  | [], acc, ρ => some (acc, ρ)
  | d :: r, acc, ρ => (g d ρ).bind fun ρ1 => (t ρ1).bind fun x =>
    if x.1 then (dv fk x.2).bind fun y => (toKey y.1).bind fun k => if leafD y.1 = true ∧ (acc.any fun kv => decide (kv.1 = k)) = false then (tvl fv y.2).bind fun z => (forget own z.2).bind fun ρ2 => if acc.length < 16777216 then dcLT g t fk fv own r (acc ++ [(k, z.1)]) ρ2 else none else none
    else (forget own x.2).bind fun ρ2 => dcLT g t fk fv own r acc ρ2
section
variable {mg : Str → Option Value} {c c' : Fx} {σ σ' : Sg} {H H' : Hp} {ρ ρ' : Ro} {ts : List D} {tv : List V} {r : Option A} {v : V} {fp : Pl → List Addr}
theorem any_keys {k : Key} : ∀ {x : List (Key × D)} {w : List (Key × V)}, x.map (·.1) = w.map (·.1) → (x.any fun kv => decide (kv.1 = k)) = (w.any fun kv => decide (kv.1 = k))
  | [], [], _ => rfl
  | [], _ :: _, h => by simp at h
  | _ :: _, [], h => by simp at h
  | (k1, d) :: t, (k2, v) :: w, h => by
    simp only [List.map_cons, List.cons.injEq] at h
    obtain ⟨h1, h2⟩ := h
    subst h1
    rw [List.any_cons, List.any_cons, any_keys h2]
theorem dcT_go {js vs : List Nat} {g : GF} {t : TF} {fk fv : EF} {P : List (Addr × HO)} {T : List D} {TV : List V} {J : It} {ds : List D} {ys : List (Key × D)} {ρf : Ro} {Q : VK} (hjs : ∀ j ∈ js, j ∈ vs)
    (s : SR mg c σ H ρ T TV none .non) (hp : Pins c P) (G : Gives mg P T TV J ds) (hw : ∀ i ∈ vs, at_ ρ i = none) (e : dcLT g t fk fv vs ds [] ρ = some (ys, ρf))
    (k : ∀ a H', SR mg c σ H' ρf T TV (some (.t false (.dic ys))) (.ref a) → Q (.ref a) H') : ∀ D, H D = none → ∃ W : Nat → Nat → Hp → Prop, (∃ m, W 0 m (upd H D (.dK []))) ∧ ∀ i m H, W i m H →
      (J.stop i H ∧ Q (.ref D) H) ∨ (J.go i H ∧ ∃ Nx : Hp → Prop, (∀ H', Nx H' → ∃ m', m' < m ∧ W (i + 1) m' H') ∧ ∀ x H', J.yld i H x H' → tGr mg js g x (wipe σ vs) H' fun σ2 H2 => wipe σ2 vs = wipe σ vs ∧ tTst mg t σ2 H2 fun b H3 =>
        if b = true then tE mg fk σ2 H3 fun y H4 => tE mg fv σ2 H4 fun z H5 => ∃ kvs k, y = kV k ∧ H5 D = some (.dK kvs) ∧ kvs.length < sizeLine ∧ Nx (upd H5 D (.dK (putK kvs k z))) else Nx H3) := by
  intro D hD
  have h0 : c.H0 D = none := by obtain ⟨fp, g⟩ := s; exact g.new' hD
  have ok := s.ok
  let N : Nat → Hp → Prop := fun i H => ∃ ρ acc av q, SR mg (c.pk (D :: q) H) (wipe σ vs) H ρ T TV none .non ∧ H D = some (.dK av) ∧ OwnTk H acc av q ∧ (D :: q).Nodup ∧ (∀ a ∈ D :: q, c.H0 a = none) ∧ (∀ i ∈ vs, at_ ρ i = none) ∧ dcLT g t fk fv vs (ds.drop i) acc ρ = some (ys, ρf)
  refine ⟨fun i m H => i ≤ ds.length ∧ m = ds.length - i ∧ N i H, ⟨_, Nat.zero_le _, rfl, ρ, [], [], [], ?_, upd_same, ⟨rfl, rfl⟩, by simp, fun a ha => by rw [List.mem_singleton.mp ha]; exact h0, hw, e⟩, ?_⟩
  · obtain ⟨fp, g⟩ := s.wiped hw
    have := g.acc0 (o := .dK []) hD
    rw [Fx.acc_pk (H := H)] at this
    exact ⟨fp, this⟩
  · rintro i m H2 ⟨hi, rfl, ρ2, acc, av, q, s2, hat, ow, nd, hq, hw2, e2⟩
    have hp2 : Pins (c.pk (D :: q) H2) P := pins_pk hp hq
    by_cases hlt : i < ds.length
    · right
      refine ⟨G.go _ _ _ _ _ _ [] [] hp2 s2 i hlt, N (i + 1), fun H' q => ⟨ds.length - (i + 1), by omega, hlt, rfl, q⟩, fun x H' y => ?_⟩
      have hd : ds[i]? = some ds[i] := List.getElem?_eq_getElem hlt
      rw [List.drop_eq_getElem_cons hlt] at e2
      obtain ⟨ρ3, e3, e4⟩ := bind_some.mp (show (g ds[i] ρ2).bind _ = _ from e2)
      obtain ⟨⟨b, ρ4⟩, e5, e6⟩ := bind_some.mp e4
      have sy := G.yld _ _ _ _ [] [] hp2 rfl s2 i x H' _ hd y
      refine ⟨_, ρ2, T, TV, ds[i], ρ3, sy.1, e3, fun σ3 H3 ag s3 => ⟨?_, _, ρ3, _, _, b, ρ4, s3, e5, fun H4 s4 => ?_⟩⟩
      · rw [ag vs hjs, wipe_wipe]
      · have hag : ∀ {H5 : Hp} {ρ5 ρ6 : Ro} {cc : Fx} {r5 : Option A} {v5 : V} {T5 : List Tw.D} {V5 : List V}, SR mg cc σ3 H5 ρ5 T5 V5 r5 v5 → forget vs ρ5 = some ρ6 → SR mg cc (wipe σ vs) H5 ρ6 T5 V5 r5 v5 ∧ ∀ i ∈ vs, at_ ρ6 i = none := fun {H5 ρ5 ρ6 cc r5 v5 T5 V5} s5 e7 => by
          have hw6 := (forget_none e7).1
          have s6 := (s5.forget e7).wiped hw6
          rw [ag vs hjs, wipe_wipe] at s6
          exact ⟨s6, hw6⟩
        cases b with
        | false =>
          refine iteF ?_
          rw [if_neg (by simp)] at e6
          obtain ⟨ρ5, e7, e8⟩ := bind_some.mp e6
          obtain ⟨⟨fp5, g5⟩, hw5⟩ := hag s4 e7
          have pa : ∀ a ∈ D :: q, H4 a = H2 a := fun a ha => g5.pkAt ok hq ha
          have gw := g5.pkW (H' := H4) (v := .non) ok hq (fun _ _ => rfl) fun b hb => by
            rw [pa b hb]
            have := g5.z0 b (.inr hb)
            rw [Fx.pk_in hb] at this
            exact this
          exact ⟨ρ5, acc, av, q, ⟨_, gw⟩, by rw [pa D List.mem_cons_self]; exact hat, OwnTk.mono (fun a ha => pa a (List.mem_cons_of_mem _ ha)) ow, nd, hq, hw5, e8⟩
        | true =>
          refine iteT ?_
          rw [if_pos rfl] at e6
          obtain ⟨⟨y1, ρ5⟩, e7, e8⟩ := bind_some.mp e6
          obtain ⟨kk, e9, e10⟩ := bind_some.mp e8
          split at e10
          case isFalse => cases e10
          rename_i hk
          obtain ⟨hlf, hfr⟩ := hk
          obtain ⟨⟨z1, ρ6⟩, e11, e12⟩ := bind_some.mp e10
          obtain ⟨ρ7, e13, e14⟩ := bind_some.mp e12
          simp only at e14
          by_cases hlen : acc.length < 16777216
          case neg => rw [if_neg hlen] at e14; cases e14
          rw [if_pos hlen] at e14
          refine tE_dv s4 e7 fun u H5 s5 => ?_
          have hy : u = kV kk := by
            obtain ⟨fp5, g5⟩ := s5
            obtain ⟨w1, tw, eq, ry, rt⟩ := g5.tmp
            cases eq
            exact toKey_rep ry e9
          have s5' : SR mg (c.pk (D :: q) H2) σ3 H5 ρ5 T TV none .non := by
            obtain ⟨fp5, g5⟩ := s5
            exact ⟨fp5, g5.pops (xs := [y1]) (ys := [u]) rfl⟩
          refine tE_tv s5' e11 fun u2 H6 s6 => ?_
          obtain ⟨⟨fp, g7⟩, hw7⟩ := hag s6 e13
          obtain ⟨k1, k2, k3, k4, k5, k6⟩ := g7.grow (o := .dK (putK av kk u2)) (v := .non) ok nd hq
          have hput : putK av kk u2 = av ++ [(kk, u2)] := by
            unfold putK
            rw [← any_keys ow.keys, hfr]
            rfl
          refine ⟨av, kk, hy, k6.trans hat, by rw [← len_of_keys ow.keys, sizeLine_eq]; exact hlen, ρ7, acc ++ [(kk, z1)], putK av kk u2, q ++ fp none, k1, upd_same, ?_, k2, k3, hw7, e14⟩
          rw [hput] at k4 k5 ⊢
          exact (OwnTk.mono k5 ow).append (OwnTk.one k4)
    · left
      have en : ds.drop i = [] := List.drop_eq_nil_of_le (by omega)
      rw [en] at e2
      cases e2
      refine ⟨G.stop _ _ _ _ _ _ [] [] hp2 s2 i (by omega), k D H2 ?_⟩
      obtain ⟨fp, g⟩ := s2.unwiped hw2
      exact ⟨_, g.unpark ok hq (fun _ h => h) nd ⟨D, av, q, rfl, rfl, hat, ow⟩⟩
end
def dcT (w : WF) (g : GF) (t : TF) (fk fv : EF) (own : List Nat) : EF := fun ρ => (w ρ).bind fun x => (forget own x.2).bind fun ρ1 => (dcLT g t fk fv own x.1 [] ρ1).map fun y => (.t false (.dic y.1), y.2)
def dcTD (i : Nat) (m : Md) (g : GF) (t : TF) (fk fv : EF) (own : List Nat) : EF := fun ρ => (dv (var i) ρ).bind fun x => match x.1 with
  | .dic kvs => (forget own x.2).bind fun ρ1 => (dcLT g t fk fv own (m kvs) [] ρ1).map fun y => (.t false (.dic y.1), y.2)
  | _ => none
section
variable {X : Cx} {kx vx tg iter : Expr} {ifs : List Expr} {scope : Scope} {own : List (Str × Nat)} {pos : Pos} {w : WF} {js : List Nat} {g : GF} {t : TF} {fk fv : EF}
theorem e_dcT (hc : X.calm = true) (hN : X.N.Nodup) (hi : IW X tg iter w) (ok : BlkOk X.N X.env.scope scope own) (hjs : ∀ j ∈ js, j ∈ own.map (·.2))
    (hg : ∀ (s : Shared) (H : Hp) (C : Addr) (cl : List (Str × Addr)) (fp : List Addr), GI (X.blk s H scope (compEnvC scope cl C X.env) fp) tg js g) (ht : ∀ (s : Shared) (H : Hp) (C : Addr) (cl : List (Str × Addr)) (fp : List Addr), PTsI (X.blk s H scope (compEnvC scope cl C X.env) fp) ifs t)
    (hk : ∀ (s : Shared) (H : Hp) (C : Addr) (cl : List (Str × Addr)) (fp : List Addr), EI (X.blk s H scope (compEnvC scope cl C X.env) fp) kx fk)
    (he : ∀ (s : Shared) (H : Hp) (C : Addr) (cl : List (Str × Addr)) (fp : List Addr), EI (X.blk s H scope (compEnvC scope cl C X.env) fp) vx fv) (hs : ∀ x, foldedSetIterable iter X.env x = pure x := by intro _; rfl) :
    EI X (.DictComp kx vx [⟨tg, iter, ifs, 0⟩] scope pos) (dcT w g t fk fv (own.map (·.2))) := (pe_dc (g := tGr X.mg js g) (tt := tTst X.mg t) (tk := tE X.mg fk) (tv := tE X.mg fv) hc hN hi ok hg ht hk he hs).imp fun σ H Q h => by
  obtain ⟨c, ρ, ts, tv, r, ρ', s, e, k⟩ := h
  obtain ⟨⟨ds, ρ1⟩, e1, e2⟩ := bind_some.mp (show (w ρ).bind _ = _ from e)
  obtain ⟨ρ2, e3, e4⟩ := bind_some.mp e2
  obtain ⟨⟨ys, ρf⟩, e5, e6⟩ := map_some.mp e4
  cases e6
  refine ⟨c, ρ, ts, tv, ds, ρ1, s, e1, fun J H' c' T TV P s' hp G bk _ => ?_⟩
  exact dcT_go hjs (s'.forget e3) hp G (forget_none e3).1 e5 fun a H2 s2 => k _ H2 (bk _ _ _ _ _ s2)
theorem e_dcTD {i : Nat} {m : Md} (hc : X.calm = true) (hN : X.N.Nodup) (hi : DI X tg iter i m) (ok : BlkOk X.N X.env.scope scope own) (hjs : ∀ j ∈ js, j ∈ own.map (·.2))
    (hg : ∀ (s : Shared) (H : Hp) (C : Addr) (cl : List (Str × Addr)) (fp : List Addr), GI (X.blk s H scope (compEnvC scope cl C X.env) fp) tg js g) (ht : ∀ (s : Shared) (H : Hp) (C : Addr) (cl : List (Str × Addr)) (fp : List Addr), PTsI (X.blk s H scope (compEnvC scope cl C X.env) fp) ifs t)
    (hk : ∀ (s : Shared) (H : Hp) (C : Addr) (cl : List (Str × Addr)) (fp : List Addr), EI (X.blk s H scope (compEnvC scope cl C X.env) fp) kx fk)
    (he : ∀ (s : Shared) (H : Hp) (C : Addr) (cl : List (Str × Addr)) (fp : List Addr), EI (X.blk s H scope (compEnvC scope cl C X.env) fp) vx fv) (hs : ∀ x, foldedSetIterable iter X.env x = pure x := by intro _; rfl) :
    EI X (.DictComp kx vx [⟨tg, iter, ifs, 0⟩] scope pos) (dcTD i m g t fk fv (own.map (·.2))) := by
  obtain ⟨wi, hwi, hkk⟩ := hi.ex
  have base := pe_dc (g := tGr X.mg js g) (tt := tTst X.mg t) (tk := tE X.mg fk) (tv := tE X.mg fv) hc hN hwi ok hg ht hk he hs (pos := pos)
  refine (PE.or (pe_lock base) base).imp fun σ H Q h => ?_
  obtain ⟨c, ρ, ts, tv, r, ρ', s, e, k⟩ := h
  obtain ⟨⟨d, ρ1⟩, e1, e2⟩ := bind_some.mp (show (dv (var i) ρ).bind _ = _ from e)
  cases d with
  | dic kvs =>
    obtain ⟨ρ2, e3, e4⟩ := bind_some.mp e2
    obtain ⟨⟨ys, ρf⟩, e5, e6⟩ := map_some.mp e4
    cases e6
    refine lockE_go s e1 k fun c' H1 Q' L kd => hkk c' σ H1 ρ1 ts tv kvs _ L fun J P T TV s' hp G bk => ?_
    exact dcT_go hjs (s'.forget e3) hp G (forget_none e3).1 e5 fun a H2 s2 => kd _ H2 (bk _ _ _ _ _ s2)
  | _ => cases e2
end
end Tw
end
section
set_option maxRecDepth 100000
set_option maxHeartbeats 4000000
/-! what is done to a tree of the frame -/
namespace Tw
open PySem PySem.Spec PyProof.Rows L2

section
variable {mg : Str → Option Value} {c c' : Fx} {σ σ' : Sg} {Z : Addr → Prop} {H H' G : Hp} {ρ ρ' : Ro} {ts : List D} {tv : List V} {r : Option A} {v u : V} {fp : Pl → List Addr} {q : List Addr}
/-- the tree at hand goes into the tree of a slot -/
theorem Good.inject {i : Nat} {bb : Bool} {x x' y : D} {w : V} {q' : List Addr} (g : Good mg c σ H ρ ts tv (some (.t false y)) u fp) (hx : at_ ρ i = some (.t bb x)) (hw : atS σ i = some w)
    (hH : ∀ b, b ∉ fp (some i) → H' b = H b) (hn : ∀ b ∈ fp (some i), H' b ≠ none) (h : OwnT H' x' w q') (nd : q'.Nodup) (hq : ∀ a ∈ q', a ∈ fp (some i) ∨ a ∈ fp none) :
    Good mg c σ H' (ρ.set i (some (.t bb x'))) ts tv none v (fpS (fpN fp []) i q') := by
  have hat : at_ (ρ.set i (some (.t bb x'))) i = some (.t bb x') := by rw [at_set (at_lt hx), if_pos rfl]
  have hfi : ∀ p, (fpS (fpN fp []) i q') p = if p = none then [] else if p = some i then q' else fp p := fun p => by
    cases p with
    | none => rw [fpS_ne (by simp)]; rfl
    | some j =>
      rw [if_neg (by simp)]
      by_cases e : j = i
      · subst e; rw [fpS_self, if_pos rfl]
      · rw [fpS_ne (by simpa using e), if_neg (by simpa using e)]; rfl
  have oth : ∀ p a, p ≠ none → p ≠ some i → a ∈ fp p → a ∉ q' := fun p a h1 h2 ha hm => by
    rcases hq a hm with k | k
    · exact h2 (g.ap _ _ a ha k)
    · exact h1 (g.ap _ _ a ha k)
  refine g.remake (fun p => p = some i ∨ p = none) (by rw [List.length_set]; exact g.len) (fun b o e h => (hH b (h _ (.inl rfl))).trans e) (fun b hb => ?_) (fun p hp => ?_) (fun p z hp e' => ?_) (fun p hp e' => ?_) (fun p hp => ?_) (fun p p' a h1 h2 => ?_) (fun p a hp h => ?_) (fun p a h => ?_) (fun j hj h => ?_) (fun j z h e' hb' => ?_) (fun z e => by cases e) (fun j z h e' hb' => ?_)
  · by_cases k : b ∈ fp (some i)
    · exact hn b k
    · rw [hH b k]; exact hb
  · have h1 : p ≠ some i := fun e => hp (.inl e)
    have h2 : p ≠ none := fun e => hp (.inr e)
    refine ⟨?_, ?_, ?_⟩
    · rw [pl_set h1]; cases p with
      | none => exact absurd rfl h2
      | some j => rfl
    · cases p with
      | none => exact absurd rfl h2
      | some j => rfl
    · rw [hfi, if_neg h2, if_neg h1]
  · rcases hp with hp | hp
    · subst hp
      have : some (A.t bb x') = some z := hat.symm.trans e'
      cases this
      rw [fpS_self]
      exact ⟨w, hw, h⟩
    · subst hp; cases e'
  · rcases hp with hp | hp
    · subst hp
      rw [show plA none (ρ.set i (some (.t bb x'))) (some i) = at_ (ρ.set i (some (.t bb x'))) i from rfl, hat] at e'
      cases e'
    · subst hp; rw [hfi, if_pos rfl]
  · rcases hp with hp | hp
    · subst hp; rw [fpS_self]; exact nd
    · subst hp; rw [hfi, if_pos rfl]; exact List.nodup_nil
  · rw [hfi] at h1 h2
    by_cases a1 : p = none
    · rw [if_pos a1] at h1; cases h1
    · rw [if_neg a1] at h1
      by_cases a2 : p' = none
      · rw [if_pos a2] at h2; cases h2
      · rw [if_neg a2] at h2
        by_cases b1 : p = some i
        · by_cases b2 : p' = some i
          · rw [b1, b2]
          · rw [if_pos b1] at h1; rw [if_neg b2] at h2; exact absurd h1 (oth p' a a2 b2 h2)
        · rw [if_neg b1] at h1
          by_cases b2 : p' = some i
          · rw [if_pos b2] at h2; exact absurd h2 (oth p a a1 b1 h1)
          · rw [if_neg b2] at h2; exact g.ap _ _ a h1 h2
  · rcases hp with hp | hp
    · subst hp; rw [fpS_self] at h
      rcases hq a h with k | k
      · exact g.new _ a k
      · rcases g.new none a k with w | w
        · cases w
        · exact .inr w
    · subst hp; rw [hfi, if_pos rfl] at h; cases h
  · rw [hfi] at h
    split at h
    · cases h
    · split at h
      · rcases hq a h with k | k
        · exact .inl ⟨_, k⟩
        · exact .inl ⟨_, k⟩
      · exact .inl ⟨p, h⟩
  · rcases h with h | h
    · cases h
      obtain ⟨z, e1, e2⟩ := g.bst i hj
      rw [hx] at e1; cases e1
      exact ⟨_, hat, e2⟩
    · cases h
  · rcases h with h | h
    · cases h
      have : some (A.t bb x') = some z := hat.symm.trans e'
      cases this
      exact g.bvs i (.t bb x) hx hb'
    · cases h
  · rcases h with h | h
    · cases h
      have : some (A.t bb x') = some z := hat.symm.trans e'
      cases this
      exact g.bnb i (.t bb x) hx hb'
    · cases h

/-! ### members -/
def replD (kvs : List (Key × D)) (k : Key) (d : D) : List (Key × D) := kvs.map fun kv => if kv.1 = k then (kv.1, d) else kv
theorem repl_id {α : Type} {k : Key} {d : α} : ∀ {x : List (Key × α)}, k ∉ x.map (·.1) → (x.map fun kv => if kv.1 = k then (kv.1, d) else kv) = x
  | [], _ => rfl
  | (k', d') :: t, h => by
    simp only [List.map_cons, List.mem_cons, not_or] at h
    rw [List.map_cons, if_neg (fun e => h.1 e.symm), repl_id h.2]
theorem any_mem {α : Type} {k : Key} {x : List (Key × α)} : (x.any fun kv => decide (kv.1 = k)) = true ↔ k ∈ x.map (·.1) := by
  simp [List.any_eq_true]
theorem OwnTk.repl {k : Key} {d : D} {v : V} {p : List Addr} (hd : OwnT H d v p) (np : p.Nodup) : ∀ {x : List (Key × D)} {w : List (Key × V)} {q : List Addr}, (x.map (·.1)).Nodup → OwnTk H x w q → q.Nodup → (∀ a ∈ p, a ∉ q) →
    ∃ q', OwnTk H (x.map fun kv => if kv.1 = k then (kv.1, d) else kv) (w.map fun kv => if kv.1 = k then (kv.1, v) else kv) q' ∧ q'.Nodup ∧ ∀ a ∈ q', a ∈ q ∨ a ∈ p
  | [], w, q, _, ⟨e, f⟩, _, _ => by rw [e, f]; exact ⟨[], ⟨rfl, rfl⟩, List.nodup_nil, fun a h => by cases h⟩
  | (k', d') :: t, w, q, hk, ⟨y, w', p1, p2, e, f, r, s⟩, nq, dj => by
    subst e; subst f
    rw [List.map_cons, List.nodup_cons] at hk
    obtain ⟨n1, n2, n3⟩ := List.nodup_append.mp nq
    rw [List.map_cons, List.map_cons]
    by_cases h : k' = k
    · subst h
      have hw : k' ∉ w'.map (·.1) := by rw [← s.keys]; exact hk.1
      rw [if_pos rfl, if_pos rfl, repl_id hk.1, repl_id hw]
      refine ⟨p ++ p2, ⟨v, w', p, p2, rfl, rfl, hd, s⟩, List.nodup_append.mpr ⟨np, n2, fun a h1 b h2 e => dj a h1 (List.mem_append_right _ (e ▸ h2))⟩, fun a ha => ?_⟩
      rcases List.mem_append.mp ha with h | h
      · exact .inr h
      · exact .inl (List.mem_append_right _ h)
    · rw [if_neg h, if_neg h]
      obtain ⟨q2, o2, nd2, i2⟩ := OwnTk.repl hd np hk.2 s n2 fun a ha hm => dj a ha (List.mem_append_right _ hm)
      refine ⟨p1 ++ q2, ⟨y, _, p1, q2, rfl, rfl, r, o2⟩, List.nodup_append.mpr ⟨n1, nd2, fun a h1 b h2 e => ?_⟩, fun a ha => ?_⟩
      · subst e
        rcases i2 a h2 with h | h
        · exact n3 a h1 a h rfl
        · exact dj a h (List.mem_append_left _ h1)
      · rcases List.mem_append.mp ha with h | h
        · exact .inl (List.mem_append_left _ h)
        · rcases i2 a h with h | h
          · exact .inl (List.mem_append_right _ h)
          · exact .inr h
theorem OwnTk.put {k : Key} {d : D} {v : V} {p : List Addr} {x : List (Key × D)} {w : List (Key × V)} {q : List Addr} (h : OwnTk H x w q) (hk : (x.map (·.1)).Nodup) (nq : q.Nodup) (hd : OwnT H d v p) (np : p.Nodup) (dj : ∀ a ∈ p, a ∉ q) :
    ∃ q', OwnTk H (putD x k d) (putK w k v) q' ∧ q'.Nodup ∧ ∀ a ∈ q', a ∈ q ∨ a ∈ p := by
  unfold putD putK
  rw [any_keys h.keys]
  split
  · exact h.repl hd np hk nq dj
  · exact ⟨q ++ p, h.append (OwnTk.one hd), List.nodup_append.mpr ⟨nq, np, fun a h1 b h2 e => dj b h2 (e ▸ h1)⟩, fun a ha => List.mem_append.mp ha⟩
theorem OwnTk.del {k : Key} : ∀ {x : List (Key × D)} {w : List (Key × V)} {q : List Addr}, OwnTk H x w q → ∃ q', OwnTk H (delD x k) (dropK w k) q' ∧ q'.Sublist q
  | [], w, q, ⟨e, f⟩ => by rw [e, f]; exact ⟨[], ⟨rfl, rfl⟩, List.Sublist.refl _⟩
  | (k', d') :: t, w, q, ⟨y, w', p1, p2, e, f, r, s⟩ => by
    subst e; subst f
    obtain ⟨q2, o2, s2⟩ := OwnTk.del (k := k) s
    unfold delD dropK
    rw [List.filter_cons, List.filter_cons]
    by_cases h : k' = k
    · rw [if_neg (by simpa using h), if_neg (by simpa using h)]; exact ⟨q2, o2, s2.trans (List.sublist_append_right _ _)⟩
    · rw [if_pos (by simpa using h), if_pos (by simpa using h)]; exact ⟨p1 ++ q2, ⟨y, _, p1, q2, rfl, rfl, r, o2⟩, List.Sublist.append_left s2 p1⟩
theorem OwnTk.val {k : Key} {x : List (Key × D)} {w : List (Key × V)} {q : List Addr} (h : OwnTk H x w q) : (Tw.getD x k = none ∧ valV w k = none) ∨ ∃ d v, Tw.getD x k = some d ∧ valV w k = some v := by
  rcases (OwnTk.rep (mg := fun _ => none) (Z := fun _ => False) (fun _ _ h => h) h).get (k := k) with ⟨h1, h2⟩ | ⟨d, v, h1, h2, _⟩
  · exact .inl ⟨h1, h2⟩
  · exact .inr ⟨d, v, h1, h2⟩
theorem getD_cons {k k' : Key} {d : D} {t : List (Key × D)} : Tw.getD ((k', d) :: t) k = if k' = k then some d else Tw.getD t k := by
  unfold Tw.getD
  rw [List.find?_cons]
  by_cases h : k' = k
  · simp [h]
  · simp [h]
/-- a member, and the tree with another one in its place, at the same address -/
theorem OwnTk.child {k : Key} {d : D} : ∀ {x : List (Key × D)} {w : List (Key × V)} {q : List Addr}, Tw.getD x k = some d → (x.map (·.1)).Nodup → OwnTk H x w q → q.Nodup → ∃ v p, valV w k = some v ∧ OwnT H d v p ∧ p.Sublist q ∧
    ∀ H' d' p', (∀ b ∈ q, b ∉ p → H' b = H b) → OwnT H' d' v p' → p'.Nodup → (∀ a ∈ p', a ∈ p ∨ a ∉ q) → ∃ q', OwnTk H' (x.map fun kv => if kv.1 = k then (kv.1, d') else kv) w q' ∧ q'.Nodup ∧ ∀ a ∈ q', a ∈ q ∨ a ∈ p'
  | [], w, q, e, _, _, _ => by cases e
  | (k1, d1) :: t, w, q, e, hk, ⟨y, w', p1, p2, e1, f, r, s⟩, nq => by
    subst e1; subst f
    rw [List.map_cons, List.nodup_cons] at hk
    obtain ⟨n1, n2, n3⟩ := List.nodup_append.mp nq
    rw [getD_cons] at e
    by_cases h : k1 = k
    · subst h
      rw [if_pos rfl] at e
      cases e
      refine ⟨y, p1, valV_pos rfl, r, List.sublist_append_left _ _, fun H' d' p' hH o' np' hp' => ?_⟩
      rw [List.map_cons, if_pos rfl, repl_id hk.1]
      refine ⟨p' ++ p2, ⟨y, w', p', p2, rfl, rfl, o', OwnTk.mono (fun a ha => hH a (List.mem_append_right _ ha) fun hm => n3 a hm a ha rfl) s⟩, List.nodup_append.mpr ⟨np', n2, fun a h1 b h2 e => ?_⟩, fun a ha => ?_⟩
      · subst e
        rcases hp' a h1 with h | h
        · exact n3 a h a h2 rfl
        · exact h (List.mem_append_right _ h2)
      · rcases List.mem_append.mp ha with h | h
        · exact .inr h
        · exact .inl (List.mem_append_right _ h)
    · rw [if_neg h] at e
      obtain ⟨v, p, h1, h2, h3, h4⟩ := OwnTk.child e hk.2 s n2
      refine ⟨v, p, (valV_neg (p := (k1, y)) h).trans h1, h2, h3.trans (List.sublist_append_right _ _), fun H' d' p' hH o' np' hp' => ?_⟩
      have sub2 : ∀ a ∈ p, a ∈ p2 := fun a ha => h3.subset ha
      obtain ⟨q', o, nd', i'⟩ := h4 H' d' p' (fun b hb hn => hH b (List.mem_append_right _ hb) hn) o' np' fun a ha => by
        rcases hp' a ha with k | k
        · exact .inl k
        · exact .inr fun hm => k (List.mem_append_right _ hm)
      rw [List.map_cons, if_neg h]
      refine ⟨p1 ++ q', ⟨y, w', p1, q', rfl, rfl, OwnT.mono (fun a ha => hH a (List.mem_append_left _ ha) fun hm => n3 a ha a (sub2 a hm) rfl) r, o⟩, List.nodup_append.mpr ⟨n1, nd', fun a k1 b k2 e => ?_⟩, fun a ha => ?_⟩
      · subst e
        rcases i' a k2 with k | k
        · exact n3 a k1 a k rfl
        · rcases hp' a k with k | k
          · exact n3 a k1 a (sub2 a k) rfl
          · exact k (List.mem_append_left _ k1)
      · rcases List.mem_append.mp ha with k | k
        · exact .inl (List.mem_append_left _ k)
        · rcases i' a k with k | k
          · exact .inl (List.mem_append_right _ k)
          · exact .inr k
end

/-! ### keys -/
inductive KO where
  | sl (j : Nat)
  | cs (k : Key)
def keyA : Option A → Option Key
  | some (.d d) => if leafD d = true then toKey d else none
  | _ => none
def keyO : KO → Ro → Option Key
  | .sl j, ρ => keyA (at_ ρ j)
  | .cs k, _ => some k
def tKO : KO → TE
  | .sl j => tVar j
  | .cs k => tC (kV k)
def KI (X : Cx) (e : Expr) (ko : KO) : Prop := PE X e (tKO ko)
theorem keyA_some {x : Option A} {k : Key} (h : keyA x = some k) : ∃ d, x = some (.d d) ∧ toKey d = some k := by
  unfold keyA at h
  split at h
  · split at h
    · exact ⟨_, rfl, h⟩
    · cases h
  · cases h
section
variable {X : Cx} {a b value : Expr} {o p : Opd} {f : EF} {pos : Pos} {ko : KO}
theorem ko_sl (j : Nat) {x : Str} (hN : X.N[j]? = some x := by rfl) (hv : Vis X.env.scope x := by first | exact Or.inl rfl | exact Or.inr (Or.inl rfl) | exact Or.inr (Or.inr rfl)) (hd : (x == ("__debug__" : Str)) = false := by decide)
    (hcd : (x == ("__classdict__" : Str)) = false := by decide) : KI X (.Name x pos) (.sl j) := pe_var hN hv hd hcd
theorem ko_str {x : Str} {j} : KI X (.Constant (.str x) j pos) (.cs (.inr x)) := pe_str
theorem ko_int {i : Int} {j} : KI X (.Constant (.int i) j pos) (.cs (.inl i)) := pe_int
theorem tKO_go {mg : Str → Option Value} {c : Fx} {σ : Sg} {H : Hp} {ρ : Ro} {ts : List D} {tv : List V} {r : Option A} {v : V} {fp : Pl → List Addr} {k : Key} {Q : VK} (g : Good mg c σ H ρ ts tv r v fp) (e : keyO ko ρ = some k) (h : Q (kV k) H) : tKO ko σ H Q := by
  cases ko with
  | cs k' => cases e; exact h
  | sl j =>
    obtain ⟨d, e1, e2⟩ := keyA_some e
    obtain ⟨u, hu, _, rp⟩ := g.ent (some j) _ e1
    have := toKey_rep rp e2
    subst this
    exact ⟨_, atS_of.mp hu, h⟩
end

/-! ### x[k] = e, x.append(e), x.pop(k, None), f(x[k]) -/
def treeA : Option A → Option (Bool × D)
  | some (.t b x) => some (b, x)
  | _ => none
theorem treeA_some {x : Option A} {y : Bool × D} (h : treeA x = some y) : x = some (.t y.1 y.2) := by
  unfold treeA at h
  split at h
  · cases h; rfl
  · cases h
def dlst : D → Option (List D)
  | .lst xs => some xs
  | _ => none
theorem dlst_some {x : D} {xs : List D} (h : dlst x = some xs) : x = .lst xs := by cases x <;> cases h; rfl
theorem dicD_some {x : D} {kvs : List (Key × D)} (h : dicD x = some kvs) : x = .dic kvs := by cases x <;> cases h; rfl
def stT (i : Nat) (ko : KO) (f : EF) : SF := fun ρ => (tvl f ρ).bind fun v => (treeA (at_ v.2 i)).bind fun x => (dicD x.2).bind fun kvs => (keyO ko v.2).bind fun k =>
  if kvs.length < 16777216 ∧ (kvs.map (·.1)).Nodup then some (.nx, v.2.set i (some (.t x.1 (.dic (putD kvs k v.1))))) else none
def apT (i : Nat) (f : EF) : EF := fun ρ => (treeA (at_ ρ i)).bind fun x0 => (dlst x0.2).bind fun _ => (tvl f ρ).bind fun v => (treeA (at_ v.2 i)).bind fun x => (dlst x.2).bind fun xs =>
  if xs.length < 16777216 then some (.d .non, v.2.set i (some (.t x.1 (.lst (xs ++ [v.1]))))) else none
def popT (i : Nat) (ko : KO) : SF := fun ρ => (treeA (at_ ρ i)).bind fun x => (dicD x.2).bind fun kvs => (keyO ko ρ).map fun k => (.nx, if (Tw.getD kvs k).isSome = true then ρ.set i (some (.t x.1 (.dic (delD kvs k)))) else ρ)
def outC : A × A → Option D
  | (.d .non, .t true d) => some d
  | _ => none
theorem outC_some {z : A × A} {d : D} (h : outC z = some d) : z = (.d .non, .t true d) := by
  unfold outC at h
  split at h
  · cases h; rfl
  · cases h
def calC (i : Nat) (ko : KO) (F : F1) : EF := fun ρ => (treeA (at_ ρ i)).bind fun x => (dicD x.2).bind fun kvs => (keyO ko ρ).bind fun k => (Tw.getD kvs k).bind fun d =>
  if (kvs.map (·.1)).Nodup then (F (.t true d) []).bind fun z => (outC z).map fun d' => (.d .non, ρ.set i (some (.t x.1 (.dic (replD kvs k d'))))) else none
section
variable {X : Cx} {a b value : Expr} {o p : Opd} {f : EF} {pos : Pos} {ko : KO}
theorem s_storeT (i : Nat) {x : Str} {px pos' : Pos} (hu : X.A.units + 1 < cLine) (hv : EI X value f) (hi : KI X a ko) (hN : X.N[i]? = some x := by rfl) (hvs : Vis X.env.scope x := by first | exact Or.inl rfl | exact Or.inr (Or.inl rfl) | exact Or.inr (Or.inr rfl)) (hdb : (x == ("__debug__" : Str)) = false := by decide)
    (hcd : (x == ("__classdict__" : Str)) = false := by decide) (h1 : swapsWith value (some (.Subscript (.Name x px) a pos')) pos.line X.env = pure false := by rfl) : SI X (.Assign [.Subscript (.Name x px) a pos'] value pos) (stT i ko f) :=
  (ps_dput hu (pe_var hN hvs hdb hcd) hi hv h1).imp fun D σ H h => by
  obtain ⟨c, ρ, ts, tv, r, ρ', s, e, k⟩ := h
  obtain ⟨⟨d, ρ1⟩, e1, e⟩ := bind_some.mp (show (tvl f ρ).bind _ = _ from e)
  obtain ⟨⟨bb, x1⟩, e2, e⟩ := bind_some.mp e
  obtain ⟨kvs, e3, e⟩ := bind_some.mp e
  obtain ⟨kk, e4, e⟩ := bind_some.mp e
  split at e
  case isFalse => cases e
  rename_i hc
  cases e
  have hx := treeA_some e2
  obtain rfl := dicD_some e3
  refine tE_tv s e1 fun u H1 s1 => ?_
  obtain ⟨fp, g⟩ := s1
  obtain ⟨w, hw, p0, vs, q, rfl, hf, hp, ow⟩ := g.ent (some i) _ hx
  obtain ⟨u', e5, oy⟩ := g.ent none _ rfl
  cases e5
  have ndf := g.nd (some i)
  rw [hf] at ndf
  obtain ⟨nd1, nd2⟩ := List.nodup_cons.mp ndf
  refine ⟨.ref p0, atS_of.mp hw, tKO_go g e4 ⟨p0, _, rfl, DPut.k hp (by rw [← len_of_keys ow.keys, sizeLine_eq]; exact hc.1), ?_⟩⟩
  have hne : ∀ {a}, a ∈ fp none → a ≠ p0 := fun ha e => by
    cases g.ap none (some i) _ ha (by rw [hf, e]; exact List.mem_cons_self)
  have oy' : OwnT (upd H1 p0 (.dK (putK vs kk u))) d u (fp none) := OwnT.mono (fun a ha => upd_ne (hne ha)) oy
  have ow' : OwnTk (upd H1 p0 (.dK (putK vs kk u))) kvs vs q := OwnTk.mono (fun a ha => upd_ne fun e => nd1 (e ▸ ha)) ow
  obtain ⟨q', o', nd', i'⟩ := ow'.put (k := kk) hc.2 nd2 oy' (g.nd none) fun a ha hm => by
    cases g.ap none (some i) _ ha (by rw [hf]; exact List.mem_cons_of_mem _ hm)
  refine k σ _ ⟨_, g.inject (q' := p0 :: q') hx hw (fun b hb => upd_ne fun e => hb (by rw [hf, e]; exact List.mem_cons_self)) (fun b hb => ?_) ⟨p0, _, q', rfl, rfl, upd_same, o'⟩ (List.nodup_cons.mpr ⟨fun hm => ?_, nd'⟩) (fun a ha => ?_)⟩
  · by_cases e : b = p0
    · subst e; rw [upd_same]; simp
    · rw [upd_ne e]; exact g.alloc hb
  · rcases i' _ hm with h | h
    · exact nd1 h
    · exact hne h rfl
  · rcases List.mem_cons.mp ha with h | h
    · exact .inl (by rw [hf, h]; exact List.mem_cons_self)
    · rcases i' _ h with h | h
      · exact .inl (by rw [hf]; exact List.mem_cons_of_mem _ h)
      · exact .inr h
theorem e_appendT (i : Nat) {x : Str} {px apos cpos : Pos} (hb : EI X a f) (hN : X.N[i]? = some x := by rfl) (hv : Vis X.env.scope x := by first | exact Or.inl rfl | exact Or.inr (Or.inl rfl) | exact Or.inr (Or.inr rfl)) (hdb : (x == ("__debug__" : Str)) = false := by decide)
    (hcd : (x == ("__classdict__" : Str)) = false := by decide) (hbase : attributeBase (.Name x px) "append" X.env (eval (.Name x px) X.env) = eval (.Name x px) X.env := by rfl)
    (hfew : ((backTo cpos (starEach [a] X.env)).all (fun x => !x.1) && (backToKw cpos (keywordEach [] X.env)).all (fun x => x.1.isSome)
      && decide (([a] : List Expr).length + ([] : List Keyword).length + (if ([] : List Keyword).isEmpty then 0 else 1) < 30)) = true := by rfl)
    (hline : (apos.endLine == cpos.line) = true := by rfl) (hs : starEach [a] X.env = (false, eval a X.env) :: starEach [] X.env := by rfl) : EI X (.Call (.Attribute (.Name x px) "append" apos) [a] [] cpos) (apT i f) :=
  (pe_bm PySem.F.plainAttrs_list PySem.F.slot_list_append PySem.F.type_list_append mt_append (pe_var hN hv hdb hcd) (pa_cons hb pa_nil hs) hbase hfew hline hs).imp fun σ H Q h => by
  obtain ⟨c, ρ, ts, tv, r, ρ', s, e, k⟩ := h
  obtain ⟨⟨b0, x0⟩, e0, e⟩ := bind_some.mp (show (treeA (at_ ρ i)).bind _ = _ from e)
  obtain ⟨xs0, e01, e⟩ := bind_some.mp e
  obtain ⟨⟨d, ρ1⟩, e1, e⟩ := bind_some.mp e
  obtain ⟨⟨bb, x1⟩, e2, e⟩ := bind_some.mp e
  obtain ⟨xs, e3, e⟩ := bind_some.mp e
  split at e
  case isFalse => cases e
  rename_i hl
  cases e
  have hx0 := treeA_some e0
  obtain rfl := dlst_some e01
  have hx := treeA_some e2
  obtain rfl := dlst_some e3
  obtain ⟨w0, hw0, p0, vs0, q0, rfl, hf0, hp0, ow0⟩ : ∃ w, atS σ i = some w ∧ ∃ p0 vs q, w = .ref p0 ∧ True ∧ H p0 = some (.lst vs) ∧ OwnTs H xs0 vs q := by
    obtain ⟨fp, g⟩ := id s
    obtain ⟨w, hw, p0, vs, q, h1, h2, h3, h4⟩ := g.ent (some i) _ hx0
    exact ⟨w, hw, p0, vs, q, h1, trivial, h3, h4⟩
  refine ⟨.ref p0, atS_of.mp hw0, .inl ⟨rfl, _, .inl (.inl hp0)⟩, tE_tv s e1 fun u H1 s1 => ?_⟩
  obtain ⟨fp, g⟩ := s1
  obtain ⟨w, hw, p1, vs, q, rfl, hf, hp, ow⟩ := g.ent (some i) _ hx
  have hw' : some (V.ref p0) = some (V.ref p1) := hw0.symm.trans hw
  cases hw'
  obtain ⟨u', e5, oy⟩ := g.ent none _ rfl
  cases e5
  have ndf := g.nd (some i)
  rw [hf] at ndf
  obtain ⟨nd1, nd2⟩ := List.nodup_cons.mp ndf
  have hne : ∀ {a}, a ∈ fp none → a ≠ p0 := fun ha e => by
    cases g.ap none (some i) _ ha (by rw [hf, e]; exact List.mem_cons_self)
  refine ⟨_, vs, u, rfl, rfl, hp, by rw [← ow.len, sizeLine_eq]; exact hl, k _ _ ⟨_, (g.inject (H' := upd H1 p0 (.lst (vs ++ [u]))) (x' := .lst (xs ++ [d])) (v := .non) (q' := p0 :: (q ++ fp none)) hx hw (fun b hb => upd_ne fun e => hb (by rw [hf, e]; exact List.mem_cons_self)) (fun b hb => ?_) ⟨p0, _, q ++ fp none, rfl, rfl, upd_same, ?_⟩ (List.nodup_cons.mpr ⟨fun hm => ?_, ?_⟩) (fun a ha => ?_)).put (show Rep X.mg _ _ .non .non from rfl)⟩⟩
  · by_cases e : b = p0
    · subst e; rw [upd_same]; simp
    · rw [upd_ne e]; exact g.alloc hb
  · exact (OwnTs.mono (H := H1) (H' := upd H1 p0 (.lst (vs ++ [u]))) (fun a ha => upd_ne fun e => nd1 (e ▸ ha)) ow).append (OwnTs.one (OwnT.mono (fun a ha => upd_ne (hne ha)) oy))
  · rcases List.mem_append.mp hm with h | h
    · exact nd1 h
    · exact hne h rfl
  · exact List.nodup_append.mpr ⟨nd2, g.nd none, fun a h1 b h2 e => by
      cases g.ap none (some i) _ h2 (by rw [hf, ← e]; exact List.mem_cons_of_mem _ h1)⟩
  · rcases List.mem_cons.mp ha with h | h
    · exact .inl (by rw [hf, h]; exact List.mem_cons_self)
    · rcases List.mem_append.mp h with h | h
      · exact .inl (by rw [hf]; exact List.mem_cons_of_mem _ h)
      · exact .inr h
theorem s_popT (i : Nat) {x : Str} {px apos cpos : Pos} {pn : Pos} {jn} (hb : KI X a ko) (hN : X.N[i]? = some x := by rfl) (hv : Vis X.env.scope x := by first | exact Or.inl rfl | exact Or.inr (Or.inl rfl) | exact Or.inr (Or.inr rfl)) (hdb : (x == ("__debug__" : Str)) = false := by decide)
    (hcd : (x == ("__classdict__" : Str)) = false := by decide) (m : M2 X (.Name x px) "pop" apos a (.Constant .none jn pn) cpos := by exact ⟨rfl, rfl, rfl, rfl⟩) (hs : swapsWith (.Call (.Attribute (.Name x px) "pop" apos) [a, .Constant .none jn pn] [] cpos) none pos.line X.env = pure false := by rfl) :
    SI X (.Expr (.Call (.Attribute (.Name x px) "pop" apos) [a, .Constant .none jn pn] [] cpos) pos) (popT i ko) := (ps_expr (pe_dpop2 (pe_var hN hv hdb hcd) hb pe_non m) hs).imp fun D σ H h => by
  obtain ⟨c, ρ, ts, tv, r, ρ', s, e, k⟩ := h
  obtain ⟨⟨bb, x1⟩, e2, e⟩ := bind_some.mp (show (treeA (at_ ρ i)).bind _ = _ from e)
  obtain ⟨kvs, e3, e⟩ := bind_some.mp e
  obtain ⟨kk, e4, e⟩ := map_some.mp e
  cases e
  have hx := treeA_some e2
  obtain rfl := dicD_some e3
  obtain ⟨fp, g⟩ := s
  obtain ⟨w, hw, p0, vs, q, rfl, hf, hp, ow⟩ := g.ent (some i) _ hx
  have ndf := g.nd (some i)
  rw [hf] at ndf
  obtain ⟨nd1, nd2⟩ := List.nodup_cons.mp ndf
  refine ⟨.ref p0, atS_of.mp hw, p0, rfl, .inl ⟨vs, .inl hp⟩, tKO_go g e4 ⟨vs, kk, hp, rfl, fun v hv => ?_, fun hv => ?_⟩⟩
  · rcases ow.val (k := kk) with ⟨h1, h2⟩ | ⟨d, v', h1, h2⟩
    · rw [h2] at hv; cases hv
    · rw [h1] at k
      obtain ⟨q', o', s'⟩ := (OwnTk.mono (H' := upd H p0 (.dK (dropK vs kk))) (fun a ha => upd_ne fun e => nd1 (e ▸ ha)) ow).del (k := kk)
      refine k σ _ ⟨_, g.write (x' := .t bb (.dic (delD kvs kk))) (q := p0 :: q') hx hw (fun b o e hb => ?_) (fun b hb => ?_) rfl (List.nodup_cons.mpr ⟨fun hm => nd1 (s'.subset hm), s'.nodup nd2⟩) (fun a ha => .inl ?_) ⟨p0, _, q', rfl, rfl, upd_same, o'⟩⟩
      · have hne : b ≠ p0 := fun e => hb (by rw [hf, e]; exact List.mem_cons_self)
        rw [upd_ne hne]; exact e
      · by_cases e : b = p0
        · subst e; rw [upd_same]; simp
        · rw [upd_ne e]; exact hb
      · rw [hf]
        rcases List.mem_cons.mp ha with h | h
        · rw [h]; exact List.mem_cons_self
        · exact List.mem_cons_of_mem _ (s'.subset h)
  · rcases ow.val (k := kk) with ⟨h1, h2⟩ | ⟨d, v', h1, h2⟩
    · rw [h1] at k
      exact k σ H ⟨_, g⟩
    · rw [h2] at hv; cases hv
theorem e_callCh (i : Nat) {k' k : Nat} {ps : List Str} {x y : Str} {px p pp : Pos} {FF : F1} (cc : Cal1 X.prog X.w X.K X.mg X.base x ps k FF) (hr : Room k' X.A) (hu : X.A.units + 1 < cLine) (hi : KI X a ko) (hk : k ≤ k' := by omega) (hN : X.N[i]? = some y := by rfl)
    (hv : Vis X.env.scope y := by first | exact Or.inl rfl | exact Or.inr (Or.inl rfl) | exact Or.inr (Or.inr rfl)) (hn : NoSl a := by exact fun _ _ => rfl)
    (hd : (y == ("__debug__" : Str)) = false := by decide) (hcd : (y == ("__classdict__" : Str)) = false := by decide) (hg : Gl X x := by rfl)
    (hs1 : starEach [.Subscript (.Name y px) a pp] X.env = (false, eval (.Subscript (.Name y px) a pp) X.env) :: starEach [] X.env := by rfl)
    (hdb : (x == ("__debug__" : Str)) = false := by decide) (hpl : (backTo pos (starEach [] X.env)).any (·.1) = false := by rfl) : EI X (.Call (.Name x p) [.Subscript (.Name y px) a pp] [] pos) (calC i ko FF) := by
  obtain ⟨f, fd, m, kp, bi, G⟩ := cc
  refine (pe_call G (hr.mono hk) hg m kp bi .nil pass0 (pa_cons (pe_dget hu (pe_var hN hv hd hcd) hi hn) pa_nil hs1) hdb hs1 hpl).imp fun σ H Q h => ?_
  show tCons (tDGet (tVar i) (tKO ko)) tNil σ H fun vs H1 => sp1 X.mg FF (vs ++ []) H1 Q E0
  simp only [List.append_nil]
  obtain ⟨c, ρ, ts, tv, r, ρ', s, e, k⟩ := h
  obtain ⟨⟨bb, x1⟩, e2, e⟩ := bind_some.mp (show (treeA (at_ ρ i)).bind _ = _ from e)
  obtain ⟨kvs, e3, e⟩ := bind_some.mp e
  obtain ⟨kk, e4, e⟩ := bind_some.mp e
  obtain ⟨d, e5, e⟩ := bind_some.mp e
  split at e
  case isFalse => cases e
  rename_i hkn
  obtain ⟨z, e6, e⟩ := bind_some.mp e
  obtain ⟨d', e7, e⟩ := map_some.mp e
  cases e
  have hx := treeA_some e2
  obtain rfl := dicD_some e3
  obtain rfl := outC_some e7
  obtain ⟨fp, g⟩ := s
  obtain ⟨w, hw, p0, vs, q, rfl, hf, hp, ow⟩ := g.ent (some i) _ hx
  have ndf := g.nd (some i)
  rw [hf] at ndf
  obtain ⟨nd1, nd2⟩ := List.nodup_cons.mp ndf
  obtain ⟨v, p1, h1, h2, h3, h4⟩ := ow.child e5 hkn nd2
  refine ⟨.ref p0, atS_of.mp hw, tKO_go g e4 ⟨p0, v, rfl, .inl ⟨vs, kk, .inl hp, rfl, h1.symm⟩, ?_⟩⟩
  have sub1 : ∀ a ∈ p1, a ∈ fp (some i) := fun a ha => by rw [hf]; exact List.mem_cons_of_mem _ (h3.subset ha)
  refine ⟨Zof c fp, .t true d, v, p1, [], [], _, _, rfl, h2, rfl, h3.nodup nd2, fun b hb => .inr ⟨_, sub1 b hb⟩, fun b h => g.zal h, rfl, e6, ?_⟩
  intro v' H2 q2 fx' k1 k2 k3 k4 k5 k6 k7 k8 k9 k10 k11
  have p0n : p0 ∉ p1 := fun h => nd1 (h3.subset h)
  have hq2 : q2 = [] := k9.1
  subst hq2
  obtain ⟨q', o', nd', i'⟩ := h4 H2 d' fx' (fun b hb hn => by
      cases e : H b with
      | none => exact absurd e (ow.al b hb)
      | some o => exact k1 b o e hn) k8 k4 fun a ha => by
    rcases k3 a ha with h | h
    · exact .inl h
    · exact .inr fun hm => ow.al a hm h
  have fxn : ∀ a ∈ fx', a ≠ p0 := fun a ha e => by
    subst e
    rcases k3 a ha with h | h
    · exact p0n h
    · rw [hp] at h; cases h
  have hfin : ∀ a ∈ p0 :: q', a ∈ fp (some i) ∨ H a = none := fun a ha => by
    rcases List.mem_cons.mp ha with h | h
    · exact .inl (by rw [hf, h]; exact List.mem_cons_self)
    · rcases i' a h with h | h
      · exact .inl (by rw [hf]; exact List.mem_cons_of_mem _ h)
      · rcases k3 a h with h | h
        · exact .inl (sub1 a h)
        · exact .inr h
  refine k v' H2 ⟨_, g.called (x' := .t bb (.dic (replD kvs kk d'))) (fx' := p0 :: q') hx hw (fun b o e hb => k1 b o e fun hm => hb (sub1 b hm)) k2 hfin (List.nodup_cons.mpr ⟨fun hm => ?_, nd'⟩) (fun a ha => by cases ha) List.nodup_nil (fun a ha => by cases ha) rfl ⟨p0, vs, q', rfl, rfl, k1 p0 _ hp p0n, o'⟩ ⟨rfl, k9.2⟩ rfl⟩
  rcases i' _ hm with h | h
  · exact nd1 h
  · exact fxn _ h rfl
end
end Tw
end
section
set_option maxRecDepth 100000
set_option maxHeartbeats 4000000
/-! trees of the frame that are only looked at: the answer holds nothing of them -/
namespace Tw
open PySem PySem.Spec PyProof.Rows L2

def A.toPT : A → Option D
  | .t _ x => some x
  | a => a.toP
def peekP (ρ : Ro) (i : Nat) : Option D := (at_ ρ i).bind A.toPT
def resP (ρ : Ro) : Sum D Nat → Option D
  | .inl d => some d
  | .inr i => peekP ρ i
/-- an answer without data that stand elsewhere -/
def pureA : A → Bool
  | .d x => leafD x
  | .l false xs => xs.all leafD
  | .t false _ => true
  | _ => false
/-- what stands still, less the trees of the slots -/
def Zp (c : Fx) (fp : Pl → List Addr) (ρ : Ro) : Addr → Prop := fun b => Zof c fp b ∧ ∀ i bb x, at_ ρ i = some (.t bb x) → b ∉ fp (some i)
section
variable {mg : Str → Option Value} {c : Fx} {σ : Sg} {Z Z' : Addr → Prop} {H H' : Hp} {ρ ρ' : Ro} {ts : List D} {tv : List V} {r : Option A} {v u : V} {fp : Pl → List Addr} {q : List Addr}
theorem leaf_rep {d : D} {v : V} (h : leafD d = true) (r : Rep mg Z H d v) : Rep mg Z' H d v := by
  cases d <;> first | cases h; done | exact r
theorem leaf_reps : ∀ {xs : List D} {vs : List V}, xs.all leafD = true → Reps mg Z H xs vs → Reps mg Z' H xs vs
  | [], vs, _, r => r
  | d :: t, vs, h, ⟨v, w, e, r, s⟩ => by
    simp only [List.all_cons, Bool.and_eq_true] at h
    exact ⟨v, w, e, leaf_rep h.1 r, leaf_reps h.2 s⟩
theorem Own.pure {x : A} (hp : pureA x = true) (h : Own mg Z H x v q) : Own mg Z' H x v q := by
  cases x with
  | d y => exact ⟨h.1, leaf_rep hp h.2⟩
  | l b xs => cases b with
    | true => cases hp
    | false => obtain ⟨a, vs, e1, e2, e3, e4⟩ := h; exact ⟨a, vs, e1, e2, e3, leaf_reps hp e4⟩
  | k _ _ => cases hp
  | i _ _ _ => cases hp
  | t b y => exact h
theorem retP {x : A} {Q : VK} (hp : pureA x = true) (g : Good mg c σ H ρ ts tv none .non fp) (k : ∀ v H', SR mg c σ H' ρ ts tv (some x) v → Q v H') : Ret mg Z H x Q := fun v H' q s hq nd h hb => k v H' ⟨_, g.made s hq nd (h.pure hp) hb⟩
theorem zp_sub : ∀ a u, ¬ Zof c fp a → Rd H a u → ¬ Zp c fp ρ a ∧ Rd H a u := fun a u z h => ⟨fun w => z w.1, h⟩
theorem RepT.mono (h : ∀ a u, ¬ Z a → Rd H a u → ¬ Z' a ∧ Rd H a u) {d : D} {v : V} (r : RepT mg Z H d v) : RepT mg Z' H d v := by
  cases d with
  | lst ds => obtain ⟨a, vs, e, g, r⟩ := r; exact ⟨a, vs, e, g, r.mono h⟩
  | dic ds => obtain ⟨a, vs, e, g, r⟩ := r; exact ⟨a, vs, e, g, r.mono h⟩
  | _ => exact Rep.mono h r
theorem Good.treeRep {i : Nat} {bb : Bool} {x : D} (g : Good mg c σ H ρ ts tv r v fp) (e : at_ ρ i = some (.t bb x)) (hu : atS σ i = some u) : Rep mg (Zp c fp ρ) H x u := by
  obtain ⟨u', e1, o⟩ := g.ent (some i) _ e
  have e2 : some u = some u' := hu.symm.trans e1
  cases e2
  exact OwnT.rep (fun a ha w => w.2 i bb x e ha) o
theorem Good.peekP {i : Nat} {d : D} (g : Good mg c σ H ρ ts tv r v fp) (h : peekP ρ i = some d) (hu : atS σ i = some u) : RepT mg (Zp c fp ρ) H d u := by
  obtain ⟨x, e1, e2⟩ := bind_some.mp (show (at_ ρ i).bind A.toPT = some d from h)
  cases x with
  | t b y => cases e2; exact (g.treeRep e1 hu).t
  | _ => exact (g.peek (show (at_ ρ i).bind A.toP = some d from by rw [e1]; exact e2) hu).mono zp_sub
theorem Good.resP {a : Sum D Nat} {d : D} (g : Good mg c σ H ρ ts tv r v fp) (h : RA mg (Zof c fp) σ H a u) (e : resP ρ a = some d) : RepT mg (Zp c fp ρ) H d u := by
  cases a with
  | inl x => cases e; exact (Rep.mono zp_sub h).t
  | inr i => exact g.peekP e h
theorem Good.zpal (g : Good mg c σ H ρ ts tv r v fp) : ∀ p, Zp c fp ρ p → H p ≠ none := fun p h => g.zal h.1
end

/-! ### comparisons, isinstance, built-ins -/
def binP (o p : Opd) (op : D → D → Option A) : EF := fun ρ => (ev1 o ρ).bind fun x => (ev1 p x.2).bind fun y => (resP y.2 x.1).bind fun a => (resP y.2 y.1).bind fun b => (op a b).bind fun r => if pureA r = true then some (r, y.2) else none
def isiP (o : Opd) (T : String) : EF := fun ρ => (ev1 o ρ).bind fun x => (resP x.2 x.1).bind fun d => (tyD d).map fun t => (.d (.bl (subT t T)), x.2)
def ressP (ρ : Ro) : List (Sum D Nat) → Option (List D)
  | [] => some []
  | a :: r => (resP ρ a).bind fun x => (ressP ρ r).map fun y => x :: y
def appP (os : List Opd) (op : List D → Option A) : EF := fun ρ => (evs os ρ).bind fun x => (ressP x.2 x.1).bind fun ds => (op ds).bind fun r => if pureA r = true then some (r, x.2) else none
section
variable {mg : Str → Option Value} {σ : Sg} {H : Hp} {o p : Opd}
theorem tOpP_of {op : D → D → Option A} {Q : VK} (h : tE mg (binP o p op) σ H Q) : tOp (rD mg op) (tO mg o) (tO mg p) σ H Q := by
  obtain ⟨c, ρ, ts, tv, r, ρ', s, e, k⟩ := h
  obtain ⟨⟨x, ρ1⟩, e1, e⟩ := bind_some.mp (show (ev1 o ρ).bind _ = _ from e)
  obtain ⟨⟨y, ρ2⟩, e2, e⟩ := bind_some.mp e
  obtain ⟨a, e3, e⟩ := bind_some.mp e
  obtain ⟨b, e4, e⟩ := bind_some.mp e
  obtain ⟨rr, e5, e⟩ := bind_some.mp e
  split at e
  case isFalse => cases e
  rename_i hp
  cases e
  refine tO_go s e1 fun u H1 s1 hu => tO_go s1 e2 fun w H2 s2 hw => ?_
  obtain ⟨fp, g2⟩ := s2
  obtain ⟨g1, rb⟩ := g2.pop1 hw
  obtain ⟨g0, ra⟩ := g1.pop1 hu
  exact ⟨_, a, b, _, g0.zpal, g0.resP ra e3, g0.resP rb e4, e5, retP hp g0 k⟩
theorem ressP_go {c : Fx} {ρ : Ro} {ts : List D} {tv : List V} {r : Option A} {v : V} {fp : Pl → List Addr} (g : Good mg c σ H ρ ts tv r v fp) : ∀ {ss : List (Sum D Nat)} {vs : List V} {ds : List D}, RAs mg (Zof c fp) σ H ss vs → ressP ρ ss = some ds → RepTs mg (Zp c fp ρ) H ds vs
  | [], vs, ds, h, e => by cases e; exact h
  | a :: t, vs, ds, ⟨v, w, e1, h1, h2⟩, e => by
    obtain ⟨x, e2, e⟩ := bind_some.mp (show (Tw.resP ρ a).bind _ = _ from e)
    obtain ⟨y, e3, e⟩ := map_some.mp e
    cases e
    exact ⟨v, w, e1, g.resP h1 e2, ressP_go g h2 e3⟩
theorem appP_go {os : List Opd} {op : List D → Option A} {Q : VK} (h : tE mg (appP os op) σ H Q) : tAr mg os σ H fun vs H1 => rDs mg op vs H1 Q := by
  obtain ⟨c, ρ, ts, tv, r, ρ', s, e, k⟩ := h
  obtain ⟨⟨ss, ρ1⟩, e1, e⟩ := bind_some.mp (show (evs os ρ).bind _ = _ from e)
  obtain ⟨ds, e2, e⟩ := bind_some.mp e
  obtain ⟨x, e3, e⟩ := bind_some.mp e
  split at e
  case isFalse => cases e
  rename_i hp
  cases e
  exact ⟨c, ρ, ts, tv, ss, ρ1, s, e1, fun vs H' fp g ra => ⟨_, ds, _, g.zpal, ressP_go g ra e2, e3, retP hp g k⟩⟩
end
section
variable {X : Cx} {a b e : Expr} {es : List Expr} {o p : Opd} {os : List Opd} {pos p0 : Pos} {x : Str}
theorem e_cmpP {op : CmpOp} {F : D → D → Option A} (ho : OpD X (compareOp op) F) (ha : OI X a o) (hb : OI X b p) (hm : behindInMarks op b = false) : EI X (.Compare a [op] [b] pos) (binP o p F) :=
  (pe_cmpR ho ha hb hm).imp fun _ _ _ h => tOpP_of h
theorem t_cmpP {op : CmpOp} {F : D → D → Option A} (ho : OpD X (compareOp op) F) (ha : OI X a o) (hb : OI X b p) (hm : behindInMarks op b = false) : TI X (.Compare a [op] [b] pos) (asB (binP o p F)) :=
  (pt_cmpR ho ha hb hm).imp fun σ H Q h => tOpP_of (tB_of h)
theorem e_callBP {id : String} {op : List D → Option A} (hc : CallD X (.builtin id) op) (hm : X.mg x = none) (hv : bootBuiltins x = some (.builtin id)) (ha : AI X (e :: es) os) (hg : Gl X x := by rfl) (hn : x ≠ "__name__" := by decide) (hdb : (x == ("__debug__" : Str)) = false := by decide)
    (he : starEach (e :: es) X.env = (false, eval e X.env) :: starEach es X.env := by rfl) (hpl : (backTo pos (starEach es X.env)).any (·.1) = false := by rfl) : EI X (.Call (.Name x p0) (e :: es) [] pos) (appP os op) :=
  (pe_callB hc hg hm hv ha hn hdb he hpl).imp fun σ H Q h => appP_go h
theorem e_callTyP {id : String} {op : List D → Option A} (hc : CallD X (.type id) op) (hm : X.mg x = none) (hv : bootBuiltins x = some (.type id)) (ha : AI X (e :: es) os) (hg : Gl X x := by rfl) (hn : x ≠ "__name__" := by decide) (hdb : (x == ("__debug__" : Str)) = false := by decide)
    (he : starEach (e :: es) X.env = (false, eval e X.env) :: starEach es X.env := by rfl) (hpl : (backTo pos (starEach es X.env)).any (·.1) = false := by rfl) : EI X (.Call (.Name x p0) (e :: es) [] pos) (appP os op) :=
  (pe_callTy hc hg hm hv ha hn hdb he hpl).imp fun σ H Q h => appP_go h
theorem e_isiP {T : String} {x : Str} {p1 p2 pos : Pos} (ha : OI X a o) (hk : kitAll T = true) (hm : X.mg "isinstance" = none) (hm2 : X.mg x = none) (hv2 : bootBuiltins x = some (.type T)) (hn : x ≠ "__name__" := by decide) (hg : Gl X "isinstance" := by rfl) (hg2 : Gl X x := by rfl)
    (hdb : (x == ("__debug__" : Str)) = false := by decide) (he1 : starEach [a, .Name x p2] X.env = (false, eval a X.env) :: starEach [.Name x p2] X.env := by rfl) (he2 : starEach [.Name x p2] X.env = (false, eval (.Name x p2) X.env) :: starEach [] X.env := by rfl)
    (hpl : (backTo pos (starEach [.Name x p2] X.env)).any (·.1) = false := by rfl) : EI X (.Call (.Name "isinstance" p1) [a, .Name x p2] [] pos) (isiP o T) :=
  (pe_callB call_isi hg hm PyProof.Rows.boot_isinstance (pa_cons ha (pa_cons (pe_bltn hg2 hm2 hv2 (v := .ty T) rfl hn hdb) pa_nil he2) he1) (by decide) (by decide) he1 hpl).imp fun σ H Q h => by
  obtain ⟨c, ρ, ts, tv, r, ρ', s, e, k⟩ := h
  obtain ⟨⟨x1, ρ1⟩, e1, e⟩ := bind_some.mp (show (ev1 o ρ).bind _ = _ from e)
  obtain ⟨d, e2, e⟩ := bind_some.mp e
  obtain ⟨t, e3, e⟩ := map_some.mp e
  cases e
  refine tO_go s e1 fun w H1 s1 hw => ?_
  obtain ⟨fp, g1⟩ := s1
  obtain ⟨g0, ra⟩ := g1.pop1 hw
  exact ⟨w, .ty T, .type t, .type T, subT t T, rfl, .ty T, tyD_of (g0.resP ra e2) e3, kit_ty (kit_of_all hk (tyD_mem e3)), k _ _ ⟨_, g0.put (show Rep X.mg _ _ (.bl _) _ from rfl)⟩⟩
end

/-! ### calls whose arguments are only looked at -/
inductive PkO where
  | sl (i : Nat)
  | gt (i : Nat) (ko : KO)
  | ix (i : Nat) (ko : KO)
  | cs (x : D)
def datA : A → Option D
  | .d x => some x
  | .t _ x => some x
  | _ => none
def pkD : PkO → Ro → Option D
  | .sl i, ρ => (at_ ρ i).bind datA
  | .gt i ko, ρ => ((at_ ρ i).bind datA).bind fun x => (dicD x).bind fun kvs => (keyO ko ρ).map fun k => (Tw.getD kvs k).getD .non
  | .ix i ko, ρ => ((at_ ρ i).bind datA).bind fun x => (dicD x).bind fun kvs => (keyO ko ρ).bind fun k => Tw.getD kvs k
  | .cs x, _ => some x
def cstV : D → Option V
  | .non => some .non
  | .bl b => some (.bl b)
  | .int i => some (.int i)
  | .str x => some (.str x)
  | _ => none
def tPk : PkO → TE
  | .sl i => tVar i
  | .gt i ko => tDGet1 (tVar i) (tKO ko)
  | .ix i ko => tDGet (tVar i) (tKO ko)
  | .cs x => fun _ H Q => ∃ v, cstV x = some v ∧ Q v H
def pkDs : List PkO → Ro → Option (List D)
  | [], _ => some []
  | p :: r, ρ => (pkD p ρ).bind fun d => (pkDs r ρ).map fun ds => d :: ds
def tPks : List PkO → TA
  | [] => tNil
  | p :: r => tCons (tPk p) (tPks r)
def PkI (X : Cx) (e : Expr) (p : PkO) : Prop := PE X e (tPk p)
def PksI (X : Cx) (es : List Expr) (ps : List PkO) : Prop := PA X es (tPks ps)
def allCs : List PkO → Bool
  | [] => true
  | .cs x :: r => (cstV x).isSome && allCs r
  | _ :: r => allCs r
def calP (ps : List PkO) (F : F0) : EF := fun ρ => if allCs ps = true then (pkDs ps ρ).bind fun ds => (F ds).bind fun r => if pureA r = true then some (r, ρ) else none else none
section
variable {mg : Str → Option Value} {c : Fx} {σ : Sg} {H H' : Hp} {ρ ρ' : Ro} {ts : List D} {tv : List V} {r : Option A} {v u : V} {fp : Pl → List Addr} {q : List Addr}
theorem Good.dat {i : Nat} {d : D} (g : Good mg c σ H ρ ts tv r v fp) (h : (at_ ρ i).bind datA = some d) : ∃ u, atS σ i = some u ∧ Rep mg (Zp c fp ρ) H d u := by
  obtain ⟨x, e1, e2⟩ := bind_some.mp h
  obtain ⟨u, hu, o⟩ := g.ent (some i) x e1
  refine ⟨u, hu, ?_⟩
  cases x with
  | d y => cases e2; exact Rep.mono zp_sub o.2
  | t b y => cases e2; exact g.treeRep e1 hu
  | _ => cases e2
theorem tPk_go {p : PkO} {d : D} {Q : VK} (g : Good mg c σ H ρ ts tv r v fp) (hc : ∀ x, p = .cs x → (cstV x).isSome = true) (e : pkD p ρ = some d) (k : ∀ v, Rep mg (Zp c fp ρ) H d v → Q v H) : tPk p σ H Q := by
  cases p with
  | sl i => obtain ⟨u, hu, rp⟩ := g.dat e; exact ⟨u, atS_of.mp hu, k u rp⟩
  | cs x =>
    cases e
    obtain ⟨v, hv⟩ := Option.isSome_iff_exists.mp (hc d rfl)
    refine ⟨v, hv, k v ?_⟩
    cases d <;> cases hv <;> rfl
  | gt i ko =>
    obtain ⟨x, e1, e⟩ := bind_some.mp (show ((at_ ρ i).bind datA).bind _ = _ from e)
    obtain ⟨kvs, e2, e⟩ := bind_some.mp e
    obtain ⟨kk, e3, e4⟩ := map_some.mp e
    obtain rfl := dicD_some e2
    obtain ⟨u, hu, a, vs, rfl, hz, hr, rk⟩ := g.dat e1
    refine ⟨_, atS_of.mp hu, a, rfl, .inl ⟨vs, hr.l2⟩, tKO_go g e3 ⟨valV vs kk, .inl ⟨vs, kk, hr.l2, rfl, rfl⟩, k _ ?_⟩⟩
    subst e4
    rcases rk.get (k := kk) with ⟨h1, h2⟩ | ⟨d', v, h1, h2, h3⟩
    · rw [h1, h2]; rfl
    · rw [h1, h2]; exact h3
  | ix i ko =>
    obtain ⟨x, e1, e⟩ := bind_some.mp (show ((at_ ρ i).bind datA).bind _ = _ from e)
    obtain ⟨kvs, e2, e⟩ := bind_some.mp e
    obtain ⟨kk, e3, e4⟩ := bind_some.mp e
    obtain rfl := dicD_some e2
    obtain ⟨u, hu, a, vs, rfl, hz, hr, rk⟩ := g.dat e1
    rcases rk.get (k := kk) with ⟨h1, h2⟩ | ⟨d', v, h1, h2, h3⟩
    · rw [h1] at e4; cases e4
    · rw [h1] at e4; cases e4
      exact ⟨_, atS_of.mp hu, tKO_go g e3 ⟨a, v, rfl, .inl ⟨vs, kk, hr.l2, rfl, h2.symm⟩, k v h3⟩⟩
theorem tPks_go (g : Good mg c σ H ρ ts tv r v fp) : ∀ {ps : List PkO} {ds : List D} {Q : List V → Hp → Prop}, allCs ps = true → pkDs ps ρ = some ds → (∀ vs, Reps mg (Zp c fp ρ) H ds vs → Q vs H) → tPks ps σ H Q
  | [], ds, Q, _, e, k => by cases e; exact k [] rfl
  | p :: r, ds, Q, hc, e, k => by
    obtain ⟨d, e1, e⟩ := bind_some.mp (show (pkD p ρ).bind _ = _ from e)
    obtain ⟨ds', e2, e⟩ := map_some.mp e
    cases e
    refine tPk_go g (fun x hx => ?_) e1 fun w hw => tPks_go g (ps := r) ?_ e2 fun vs hvs => k (w :: vs) ⟨w, vs, rfl, hw, hvs⟩
    · subst hx
      simp only [allCs, Bool.and_eq_true] at hc
      exact hc.1
    · cases p <;> first | exact hc | (simp only [allCs, Bool.and_eq_true] at hc; exact hc.2)
end
section
variable {X : Cx} {k k' : Nat} {ps : List Str} {x : Str} {p0 pos : Pos} {a e : Expr} {es : List Expr} {F : F0} {p : PkO} {pks : List PkO} {ko : KO}
theorem pk_sl (i : Nat) {x : Str} (hN : X.N[i]? = some x := by rfl) (hv : Vis X.env.scope x := by first | exact Or.inl rfl | exact Or.inr (Or.inl rfl) | exact Or.inr (Or.inr rfl)) (hd : (x == ("__debug__" : Str)) = false := by decide)
    (hcd : (x == ("__classdict__" : Str)) = false := by decide) : PkI X (.Name x pos) (.sl i) := pe_var hN hv hd hcd
theorem pk_gt (i : Nat) {x : Str} {px apos cpos : Pos} (hu : X.A.units + 1 < cLine) (hb : KI X a ko) (hN : X.N[i]? = some x := by rfl) (hv : Vis X.env.scope x := by first | exact Or.inl rfl | exact Or.inr (Or.inl rfl) | exact Or.inr (Or.inr rfl)) (hd : (x == ("__debug__" : Str)) = false := by decide)
    (hcd : (x == ("__classdict__" : Str)) = false := by decide) (m : M1 X (.Name x px) "get" apos a cpos := by exact ⟨rfl, rfl, rfl, rfl⟩) : PkI X (.Call (.Attribute (.Name x px) "get" apos) [a] [] cpos) (.gt i ko) := pe_dget1 hu (pe_var hN hv hd hcd) hb m
theorem pk_ix (i : Nat) {x : Str} {px : Pos} (hu : X.A.units + 1 < cLine) (hb : KI X a ko) (hN : X.N[i]? = some x := by rfl) (hv : Vis X.env.scope x := by first | exact Or.inl rfl | exact Or.inr (Or.inl rfl) | exact Or.inr (Or.inr rfl)) (hd : (x == ("__debug__" : Str)) = false := by decide)
    (hcd : (x == ("__classdict__" : Str)) = false := by decide) (hn : NoSl a := by exact fun _ _ => rfl) : PkI X (.Subscript (.Name x px) a pos) (.ix i ko) := pe_dget hu (pe_var hN hv hd hcd) hb hn
theorem pks_nil : PksI X [] [] := pa_nil
theorem pks_cons (ha : PkI X e p) (hr : PksI X es pks) (hs : starEach (e :: es) X.env = (false, eval e X.env) :: starEach es X.env := by rfl) : PksI X (e :: es) (p :: pks) := pa_cons ha hr hs
theorem e_callPk (c : Cal X.prog X.w X.K X.mg X.base x ps k F) (hr : Room k' X.A) (ha : PksI X (e :: es) pks) (hk : k ≤ k' := by omega) (hg : Gl X x := by rfl)
    (hdb : (x == ("__debug__" : Str)) = false := by decide) (he : starEach (e :: es) X.env = (false, eval e X.env) :: starEach es X.env := by rfl) (hpl : (backTo pos (starEach es X.env)).any (·.1) = false := by rfl) : EI X (.Call (.Name x p0) (e :: es) [] pos) (calP pks F) := by
  obtain ⟨f, fd, m, kp, bi, G⟩ := c
  refine (pe_call G (hr.mono hk) hg m kp bi .nil pass0 ha hdb he hpl).imp fun σ H Q h => ?_
  show tPks pks σ H fun vs H1 => sp0 X.mg F (vs ++ []) H1 Q E0
  simp only [List.append_nil]
  obtain ⟨c, ρ, ts, tv, r, ρ', s, e, kk⟩ := h
  unfold calP at e
  split at e
  case isFalse => cases e
  rename_i hcs
  obtain ⟨ds, e1, e⟩ := bind_some.mp e
  obtain ⟨r1, e2, e⟩ := bind_some.mp e
  split at e
  case isFalse => cases e
  rename_i hp
  cases e
  obtain ⟨fp, g⟩ := s
  exact tPks_go g hcs e1 fun vs hvs => ⟨_, ds, _, g.zpal, hvs, e2, retP hp g kk⟩
end
end Tw
end
section
set_option maxRecDepth 100000
set_option maxHeartbeats 4000000
/-! the calculus for trees of the frame -/
namespace Tw
open PySem PySem.Spec PyProof.Rows L2

@[simp] theorem toD_t' (x : D) : (A.t false x).toD = some x := rfl
@[simp] theorem bor_t (b : Bool) (x : D) : (A.t b x).bor = b := rfl
@[simp] theorem lend_t (b : Bool) (x : D) : (A.t b x).lend = some (.t true x) := rfl
@[simp] theorem mark_t (b c : Bool) (x : D) : (A.t b x).mark c = .t c x := rfl
@[simp] theorem toPT_t (b : Bool) (x : D) : (A.t b x).toPT = some x := rfl
@[simp] theorem toPT_d (x : D) : (A.d x).toPT = some x := rfl
@[simp] theorem toPT_l (b : Bool) (x : List D) : (A.l b x).toPT = some (.lst x) := rfl
@[simp] theorem toPT_k (b : Bool) (x : List (Key × D)) : (A.k b x).toPT = some (.dic x) := rfl
@[simp] theorem datA_t (b : Bool) (x : D) : datA (A.t b x) = some x := rfl
@[simp] theorem datA_d' (x : D) : datA (A.d x) = some x := rfl
@[simp] theorem toT_t (b : Bool) (x : D) : (A.t b x).toT = .t b x := rfl
@[simp] theorem toT_d (x : D) : (A.d x).toT = if leafD x = true then .t false x else .d x := rfl
@[simp] theorem toT_l (xs : List D) : (A.l false xs).toT = if xs.all leafD = true then .t false (.lst xs) else .l false xs := rfl
@[simp] theorem toT_k : (A.k false []).toT = .t false (.dic []) := rfl
@[simp] theorem trA_t (x : D) : trA (.t false x) = some x := rfl
@[simp] theorem treeA_t (b : Bool) (x : D) : treeA (some (.t b x)) = some (b, x) := rfl
@[simp] theorem dlst_lst (xs : List D) : dlst (.lst xs) = some xs := rfl
@[simp] theorem leaf_non : leafD .non = true := rfl
@[simp] theorem leaf_bl (b : Bool) : leafD (.bl b) = true := rfl
@[simp] theorem leaf_int (b : Int) : leafD (.int b) = true := rfl
@[simp] theorem leaf_str (b : Str) : leafD (.str b) = true := rfl
@[simp] theorem leaf_lst (b : List D) : leafD (.lst b) = false := rfl
@[simp] theorem leaf_dic (b : List (Key × D)) : leafD (.dic b) = false := rfl
@[simp] theorem pure_t (x : D) : pureA (.t false x) = true := rfl
@[simp] theorem pure_d (x : D) : pureA (.d x) = leafD x := rfl
@[simp] theorem pure_l (xs : List D) : pureA (.l false xs) = xs.all leafD := rfl
@[simp] theorem keyO_cs (k : Key) (ρ : Ro) : keyO (.cs k) ρ = some k := rfl
@[simp] theorem keyO_sl (j : Nat) (ρ : Ro) : keyO (.sl j) ρ = keyA (at_ ρ j) := rfl
@[simp] theorem keyA_str (x : Str) : keyA (some (.d (.str x))) = some (.inr x) := rfl
@[simp] theorem outC_t (x : D) : outC (.d .non, .t true x) = some x := rfl
@[simp] theorem allCs_nil : allCs [] = true := rfl
@[simp] theorem allCs_sl (i : Nat) (r : List PkO) : allCs (.sl i :: r) = allCs r := rfl
@[simp] theorem allCs_gt (i : Nat) (ko : KO) (r : List PkO) : allCs (.gt i ko :: r) = allCs r := rfl
@[simp] theorem allCs_ix (i : Nat) (ko : KO) (r : List PkO) : allCs (.ix i ko :: r) = allCs r := rfl
section
variable {ρ : Ro}
@[simp ↓] theorem WP_tvl {f : EF} {Q : D × Ro → Prop} : WP (tvl f ρ) Q ↔ WP (f ρ) fun x => WP (trA x.1.toT) fun d => Q (d, x.2) := by unfold tvl; simp only [WP_bind, WP_map]
@[simp ↓] theorem WP_toT {f : EF} {Q : A × Ro → Prop} : WP (toT f ρ) Q ↔ WP (f ρ) fun x => Q (x.1.toT, x.2) := by unfold toT; simp only [WP_map]
@[simp ↓] theorem WP_stT {i : Nat} {ko : KO} {f : EF} {Q : Out × Ro → Prop} : WP (stT i ko f ρ) Q ↔ WP (tvl f ρ) fun v => WP (treeA (at_ v.2 i)) fun x => WP (dicD x.2) fun kvs => WP (keyO ko v.2) fun k =>
    (kvs.length < 16777216 ∧ (kvs.map (·.1)).Nodup) ∧ Q (.nx, v.2.set i (some (.t x.1 (.dic (putD kvs k v.1))))) := by
  unfold stT
  simp only [WP_bind, WP_ite, WP_some, WP_none, imp_false, Classical.not_not]
  exact ⟨fun h => h.mono fun _ h => h.mono fun _ h => h.mono fun _ h => h.mono fun _ h => ⟨h.2, h.1 h.2⟩, fun h => h.mono fun _ h => h.mono fun _ h => h.mono fun _ h => h.mono fun _ h => ⟨fun _ => h.2, h.1⟩⟩
@[simp ↓] theorem WP_apT {i : Nat} {f : EF} {Q : A × Ro → Prop} : WP (apT i f ρ) Q ↔ WP (treeA (at_ ρ i)) fun x0 => WP (dlst x0.2) fun _ => WP (tvl f ρ) fun v => WP (treeA (at_ v.2 i)) fun x => WP (dlst x.2) fun xs =>
    xs.length < 16777216 ∧ Q (.d .non, v.2.set i (some (.t x.1 (.lst (xs ++ [v.1]))))) := by
  unfold apT
  simp only [WP_bind, WP_ite, WP_some, WP_none, imp_false, Classical.not_not]
  exact ⟨fun h => h.mono fun _ h => h.mono fun _ h => h.mono fun _ h => h.mono fun _ h => h.mono fun _ h => ⟨h.2, h.1 h.2⟩, fun h => h.mono fun _ h => h.mono fun _ h => h.mono fun _ h => h.mono fun _ h => h.mono fun _ h => ⟨fun _ => h.2, h.1⟩⟩
@[simp ↓] theorem WP_popT {i : Nat} {ko : KO} {Q : Out × Ro → Prop} : WP (popT i ko ρ) Q ↔ WP (treeA (at_ ρ i)) fun x => WP (dicD x.2) fun kvs => WP (keyO ko ρ) fun k => Q (.nx, if (Tw.getD kvs k).isSome = true then ρ.set i (some (.t x.1 (.dic (delD kvs k)))) else ρ) := by
  unfold popT
  simp only [WP_bind, WP_map]
@[simp ↓] theorem WP_calC {i : Nat} {ko : KO} {F : F1} {Q : A × Ro → Prop} : WP (calC i ko F ρ) Q ↔ WP (treeA (at_ ρ i)) fun x => WP (dicD x.2) fun kvs => WP (keyO ko ρ) fun k => WP (Tw.getD kvs k) fun d => (kvs.map (·.1)).Nodup ∧ WP (F (.t true d) []) fun z => WP (outC z) fun d' =>
    Q (.d .non, ρ.set i (some (.t x.1 (.dic (replD kvs k d'))))) := by
  unfold calC
  simp only [WP_bind, WP_map, WP_ite, WP_none, imp_false, Classical.not_not]
  exact ⟨fun h => h.mono fun _ h => h.mono fun _ h => h.mono fun _ h => h.mono fun _ h => ⟨h.2, h.1 h.2⟩, fun h => h.mono fun _ h => h.mono fun _ h => h.mono fun _ h => h.mono fun _ h => ⟨fun _ => h.2, h.1⟩⟩
@[simp] theorem resP_inl (d : D) : resP ρ (.inl d) = some d := rfl
@[simp ↓] theorem WP_resP_inl {d : D} {Q : D → Prop} : WP (resP ρ (.inl d)) Q ↔ Q d := by simp only [resP_inl, WP_some]
@[simp ↓] theorem WP_resP_inr {i : Nat} {Q : D → Prop} : WP (resP ρ (.inr i)) Q ↔ WP (at_ ρ i) fun x => WP x.toPT Q := by
  show WP ((at_ ρ i).bind A.toPT) Q ↔ _
  simp only [WP_bind]
theorem pite {α : Type} {r : α} {p : Prop} [Decidable p] {Q : α → Prop} : WP (if p then some r else none) Q ↔ p ∧ Q r := by
  by_cases h : p
  · simp [h]
  · simp [h]
@[simp ↓] theorem WP_binP {o p : Opd} {op : D → D → Option A} {Q : A × Ro → Prop} : WP (binP o p op ρ) Q ↔ WP (ev1 o ρ) fun x => WP (ev1 p x.2) fun y => WP (resP y.2 x.1) fun a => WP (resP y.2 y.1) fun b => WP (op a b) fun r => pureA r = true ∧ Q (r, y.2) := by
  unfold binP
  simp only [WP_bind, pite]
@[simp ↓] theorem WP_isiP {o : Opd} {T : String} {Q : A × Ro → Prop} : WP (isiP o T ρ) Q ↔ WP (ev1 o ρ) fun x => WP (resP x.2 x.1) fun d => WP (tyD d) fun t => Q (.d (.bl (subT t T)), x.2) := by unfold isiP; simp only [WP_bind, WP_map]
@[simp ↓] theorem WP_ressP_nil {Q : List D → Prop} : WP (ressP ρ []) Q ↔ Q [] := WP_some
@[simp ↓] theorem WP_ressP_cons {a : Sum D Nat} {r : List (Sum D Nat)} {Q : List D → Prop} : WP (ressP ρ (a :: r)) Q ↔ WP (resP ρ a) fun x => WP (ressP ρ r) fun y => Q (x :: y) := by
  show WP ((resP ρ a).bind _) Q ↔ _
  simp only [WP_bind, WP_map]
@[simp ↓] theorem WP_appP {os : List Opd} {op : List D → Option A} {Q : A × Ro → Prop} : WP (appP os op ρ) Q ↔ WP (evs os ρ) fun x => WP (ressP x.2 x.1) fun ds => WP (op ds) fun r => pureA r = true ∧ Q (r, x.2) := by
  unfold appP
  simp only [WP_bind, pite]
@[simp ↓] theorem WP_pk_sl {i : Nat} {Q : D → Prop} : WP (pkD (.sl i) ρ) Q ↔ WP (at_ ρ i) fun x => WP (datA x) Q := by
  show WP ((at_ ρ i).bind datA) Q ↔ _
  simp only [WP_bind]
@[simp ↓] theorem WP_pk_gt {i : Nat} {ko : KO} {Q : D → Prop} : WP (pkD (.gt i ko) ρ) Q ↔ WP (at_ ρ i) fun x => WP (datA x) fun d => WP (dicD d) fun kvs => WP (keyO ko ρ) fun k => Q ((Tw.getD kvs k).getD .non) := by
  show WP (((at_ ρ i).bind datA).bind _) Q ↔ _
  simp only [WP_bind, WP_map]
@[simp ↓] theorem WP_pk_ix {i : Nat} {ko : KO} {Q : D → Prop} : WP (pkD (.ix i ko) ρ) Q ↔ WP (at_ ρ i) fun x => WP (datA x) fun d => WP (dicD d) fun kvs => WP (keyO ko ρ) fun k => WP (Tw.getD kvs k) Q := by
  show WP (((at_ ρ i).bind datA).bind _) Q ↔ _
  simp only [WP_bind, WP_map]
@[simp ↓] theorem WP_pkDs_nil {Q : List D → Prop} : WP (pkDs [] ρ) Q ↔ Q [] := WP_some
@[simp ↓] theorem WP_pkDs_cons {p : PkO} {r : List PkO} {Q : List D → Prop} : WP (pkDs (p :: r) ρ) Q ↔ WP (pkD p ρ) fun d => WP (pkDs r ρ) fun ds => Q (d :: ds) := by
  show WP ((pkD p ρ).bind _) Q ↔ _
  simp only [WP_bind, WP_map]
@[simp ↓] theorem WP_calP {ps : List PkO} {F : F0} {Q : A × Ro → Prop} : WP (calP ps F ρ) Q ↔ allCs ps = true ∧ WP (pkDs ps ρ) fun ds => WP (F ds) fun r => pureA r = true ∧ Q (r, ρ) := by
  unfold calP
  by_cases h : allCs ps = true
  · simp only [h, if_true, WP_bind, pite, true_and]
  · simp [h]
@[simp ↓] theorem WP_lcT {w : WF} {g : GF} {t : TF} {f : EF} {own : List Nat} {Q : A × Ro → Prop} : WP (lcT w g t f own ρ) Q ↔ WP (w ρ) fun x => WP (forget own x.2) fun ρ1 => WP (lcLT g t f own x.1 [] ρ1) fun y => Q (.t false (.lst y.1), y.2) := by unfold lcT; simp only [WP_bind, WP_map]
@[simp ↓] theorem WP_dcT {w : WF} {g : GF} {t : TF} {fk fv : EF} {own : List Nat} {Q : A × Ro → Prop} : WP (dcT w g t fk fv own ρ) Q ↔ WP (w ρ) fun x => WP (forget own x.2) fun ρ1 => WP (dcLT g t fk fv own x.1 [] ρ1) fun y => Q (.t false (.dic y.1), y.2) := by unfold dcT; simp only [WP_bind, WP_map]
@[simp ↓] theorem WP_dcTD {i : Nat} {m : Md} {g : GF} {t : TF} {fk fv : EF} {own : List Nat} {Q : A × Ro → Prop} : WP (dcTD i m g t fk fv own ρ) Q ↔ WP (dv (var i) ρ) fun x => WP (dicD x.1) fun kvs => WP (forget own x.2) fun ρ1 => WP (dcLT g t fk fv own (m kvs) [] ρ1) fun y => Q (.t false (.dic y.1), y.2) := by
  unfold dcTD
  simp only [WP_bind]
  refine iff_of_eq (congrArg _ (funext fun x => ?_))
  obtain ⟨d, ρ'⟩ := x
  cases d <;> simp [dicD]
theorem lcT_map {g : GF} {t : TF} {f : EF} {own : List Nat} {Q : List D × Ro → Prop} (h : D → D) : ∀ {ds acc : List D}, (∀ d ∈ ds, WP (g d ρ) fun ρ1 => WP (t ρ1) fun x => x.1 = true ∧ WP (tvl f x.2) fun y => y.1 = h d ∧ WP (forget own y.2) fun ρ2 => ρ2 = ρ) →
    acc.length + ds.length < 16777216 → Q (acc ++ ds.map h, ρ) → WP (lcLT g t f own ds acc ρ) Q
  | [], acc, _, _, q => by
    rw [List.map_nil, List.append_nil] at q
    exact ⟨_, rfl, q⟩
  | d :: r, acc, H, hl, q => by
    show WP ((g d ρ).bind _) Q
    simp only [List.length_cons] at hl
    rw [WP_bind]
    refine (H d List.mem_cons_self).mono fun ρ1 h1 => ?_
    rw [WP_bind]
    refine h1.mono fun x ⟨e, h2⟩ => ?_
    simp only [e, if_true]
    rw [WP_bind]
    refine h2.mono fun y ⟨e2, h3⟩ => ?_
    rw [WP_bind]
    refine h3.mono fun ρ2 e3 => ?_
    rw [e3, if_pos (by omega)]
    refine lcT_map h (fun d' hd' => H d' (List.mem_cons_of_mem _ hd')) (by simp; omega) ?_
    rw [List.append_assoc, e2]
    exact q
theorem dcT_map {g : GF} {t : TF} {fk fv : EF} {own : List Nat} {Q : List (Key × D) × Ro → Prop} (kf : D → Str) (h : D → D) : ∀ {ds : List D} {acc : List (Key × D)}, (∀ d ∈ ds, WP (g d ρ) fun ρ1 => WP (t ρ1) fun x => x.1 = true ∧ WP (dv fk x.2) fun y => y.1 = .str (kf d) ∧ WP (tvl fv y.2) fun z => z.1 = h d ∧ WP (forget own z.2) fun ρ2 => ρ2 = ρ) →
    (ds.map kf).Nodup → (∀ d ∈ ds, Sum.inr (kf d) ∉ acc.map (·.1)) → acc.length + ds.length < 16777216 → Q (acc ++ ds.map fun d => (Sum.inr (kf d), h d), ρ) → WP (dcLT g t fk fv own ds acc ρ) Q
  | [], acc, _, _, _, _, q => by
    rw [List.map_nil, List.append_nil] at q
    exact ⟨_, rfl, q⟩
  | d :: r, acc, H, nd, hf, hl, q => by
    show WP ((g d ρ).bind _) Q
    simp only [List.length_cons] at hl
    rw [List.map_cons, List.nodup_cons] at nd
    rw [WP_bind]
    refine (H d List.mem_cons_self).mono fun ρ1 h1 => ?_
    rw [WP_bind]
    refine h1.mono fun x ⟨e, h2⟩ => ?_
    simp only [e, if_true]
    rw [WP_bind]
    refine h2.mono fun y ⟨e2, h3⟩ => ?_
    have hk : toKey y.1 = some (.inr (kf d)) := by rw [e2]; rfl
    rw [WP_bind, hk, WP_some]
    have hn : (acc.any fun kv => decide (kv.1 = Sum.inr (kf d))) = false := by
      cases hq : acc.any fun kv => decide (kv.1 = Sum.inr (kf d)) with
      | false => rfl
      | true => exact absurd (any_mem.mp hq) (hf d List.mem_cons_self)
    rw [if_pos ⟨by rw [e2]; rfl, hn⟩, WP_bind]
    refine h3.mono fun z ⟨e3, h4⟩ => ?_
    rw [WP_bind]
    refine h4.mono fun ρ2 e4 => ?_
    rw [e4, if_pos (by omega)]
    refine dcT_map kf h (fun d' hd' => H d' (List.mem_cons_of_mem _ hd')) nd.2 (fun d' hd' hm => ?_) (by simp; omega) ?_
    · rw [List.map_append, List.mem_append] at hm
      rcases hm with hm | hm
      · exact hf d' (List.mem_cons_of_mem _ hd') hm
      · simp only [List.map_cons, List.map_nil, List.mem_singleton, Sum.inr.injEq] at hm
        exact nd.1 (hm ▸ List.mem_map_of_mem hd')
    · rw [List.append_assoc, e3]
      exact q
end
end Tw
end
section
set_option maxRecDepth 100000
set_option maxHeartbeats 4000000
namespace Tw
open PySem PySem.Spec PyProof.Rows L2
def S_copiedT (F_copiedT : F0) : SF := (seqS (ifS (asB (isiE (.pk 0) "dict")) (retS (toT (dcTD 0 mItems (tupG 2 (consG (nameG 1) (consG (nameG 2) nilG))) tstY (var 1) (cal0 [(.ev (var 2))] (F_copiedT)) [1, 2]))) nxS) (retS (toT (ifE (asB (isiE (.pk 0) "list")) (app [(.pk 0)] listD) (var 0)))))
def G_copiedT : Nat → F0
  | 0 => fun _ => none
  | n + 1 => run0 3 1 (S_copiedT (G_copiedT n))
def S_mergedT (F_mergedT : F0) (F_copiedT : F0) : SF := (seqS (ifS (notT (asB (isiE (.pk 1) "dict"))) (retS (toT (cal0 [(.ev (var 1))] (F_copiedT)))) nxS) (seqS (setS 2 (toT (ifE (asB (isiE (.pk 0) "dict")) (cal0 [(.ev (var 0))] (F_copiedT)) dic0))) (seqS (forD 1 mItems (tupG 2 (consG (nameG 3) (consG (nameG 4) nilG))) (ifS (asB (bin (.pk 4) (.ev (cst .non)) isN)) (popT 2 (.sl 3)) (stT 2 (.sl 3) (calP [(.gt 2 (.sl 3)), (.sl 4)] (F_mergedT)))) [3, 4]) (retV 2))))
def G_mergedT : Nat → F0
  | 0 => fun _ => none
  | n + 1 => run0 5 2 (S_mergedT (G_mergedT n) (G_copiedT n))
def S_after_allT (F_mergedT : F0) (F_copiedT : F0) : SF := (seqS (setS 2 (toT (cal0 [(.ev (var 0))] (F_copiedT)))) (seqS (forS (seqW (var 1)) (nameG 3) (setS 2 (toT (calP [(.sl 2), (.sl 3)] (F_mergedT)))) [3]) (retV 2)))
def G_after_allT (n : Nat) : F0 := run0 4 2 (S_after_allT (G_mergedT n) (G_copiedT n))
def S_runT (F_after_allT : F0) (F_check_row : F0) (F_check : F0) : SF := (seqS (exprS (cal0 [(.ev (var 0))] (F_check))) (seqS (exprS (cal0 [(.ev (var 1))] (F_check_row))) (retS (toT (cal0 [(.ev (var 0)), (.ev (var 1))] (F_after_allT))))))
def G_runT (n : Nat) : F0 := run0 2 2 (S_runT (G_after_allT n) (G_check_row n) (G_check n))
def S_actedT (F_actedT : F0) (F_copiedT : F0) : SF := (seqS (ifS (asB (bin (.ev (fldE "Effect" "kind" (.pk 0))) (.ev (cst (.str "keep"))) eqS)) (retS (toT (cal0 [(.ev (var 1))] (F_copiedT)))) nxS) (seqS (ifS (asB (bin (.ev (fldE "Effect" "kind" (.pk 0))) (.ev (cst (.str "set"))) eqS)) (retS (toT (ifE (asB (isiE (.ev (fldE "Effect" "atom" (.pk 0))) "tuple")) (app [(.ev (fldE "Effect" "atom" (.pk 0)))] listD) (fldE "Effect" "atom" (.pk 0))))) nxS) (seqS (setS 2 (toT (ifE (andT (asB (bin (.ev (fldE "Effect" "kind" (.pk 0))) (.ev (cst (.str "merge"))) eqS)) (asB (isiE (.pk 1) "dict"))) (cal0 [(.ev (var 1))] (F_copiedT)) dic0))) (seqS (forS (seqW (fldE "Effect" "members" (.pk 0))) (tupG 2 (consG (nameG 3) (consG (nameG 4) nilG))) (ifS (asB (bin (.ev (fldE "Effect" "kind" (.pk 4))) (.ev (cst (.str "drop"))) eqS)) (popT 2 (.sl 3)) (stT 2 (.sl 3) (calP [(.sl 4), (.gt 2 (.sl 3))] (F_actedT)))) [3, 4]) (retV 2)))))
def G_actedT : Nat → F0
  | 0 => fun _ => none
  | n + 1 => run0 5 2 (S_actedT (G_actedT n) (G_copiedT n))
def S_EffectU_callUT (F_actedT : F0) (F_check : F0) : SF := (seqS (exprS (cal0 [(.ev (var 1))] (F_check))) (retS (toT (cal0 [(.ev (var 0)), (.ev (var 1))] (F_actedT)))))
def G_EffectU_callUT (n : Nat) : F0 := run0 2 2 (S_EffectU_callUT (G_actedT n) (G_check n))
def S_appliedT (F_mergedT : F0) (F_check : F0) : SF := (seqS (exprS (cal0 [(.ev (var 0))] (F_check))) (seqS (exprS (cal0 [(.ev (var 1))] (F_check))) (retS (toT (cal0 [(.ev (var 0)), (.ev (var 1))] (F_mergedT))))))
def G_appliedT (n : Nat) : F0 := run0 2 2 (S_appliedT (G_mergedT n) (G_check n))
end Tw
end
section
set_option maxRecDepth 100000
set_option maxHeartbeats 4000000
/-! what the tree versions of the package's defs answer -/
namespace Tw
open PySem PySem.Spec PyProof.Rows L2

theorem plain_leaf {d : D} (h : plainB d = true) : leafD d = true := by cases d <;> first | (cases h; done) | rfl
theorem plains_leaf {xs : List D} (h : ∀ x ∈ xs, plainB x = true) : xs.all leafD = true := List.all_eq_true.mpr fun x hx => plain_leaf (h x hx)
theorem keys_nd {ms : List (Str × D)} (nd : ND ms) : ((dctE ms).map (·.1)).Nodup := inr_nodup nd
theorem copiedT_w : ∀ {m n : Nat} {d : D}, Doc n d → n < m → WP (G_copiedT m [d]) fun r => r = .t false d
  | 0, n, d, _, h => absurd h (Nat.not_lt_zero _)
  | m + 1, n, d, hd, hm => by
    show WP (run0 3 1 _ _) _
    rw [WP_run0]
    unfold S_copiedT
    cases hd with
    | atom h =>
      rcases atom_cases h with hp | ⟨xs, rfl⟩
      · cases d <;> first | (cases hp; done) | (simp; done)
      · have := plains_leaf (atom_lst h).1
        simp [this]
    | @dic n' ms h64 nd hmm =>
      simp
      refine dcT_map (fun d => match d with | .pr [.str k, _] => k | _ => "") (fun d => match d with | .pr [_, x] => x | _ => .non) (fun d hd => ?_) ?_ (by simp) (by simp; omega) ?_
      · obtain ⟨p, hp, rfl⟩ := List.mem_map.mp hd
        simp
        refine (copiedT_w (m := m) (hmm p hp) (by omega)).mono fun r h1 => ?_
        subst h1
        simp
      · rw [List.map_map]
        exact nd
      · simp [dctE, Function.comp_def]
theorem isN_nonB (d : D) : isN d .non = some (.d (.bl (nonB d))) := by cases d <;> rfl
theorem mergedT_loop {ks : List Str} (h32 : ks.length < 32) {m n : Nat} {pms : List (Str × D)} (nd : ND pms) (hk : ∀ p ∈ pms, p.1 ∈ ks) (hmm : ∀ p ∈ pms, DocK ks n p.2)
    (ih : ∀ {d p : D}, DocK ks n d → DocK ks n p → WP (G_mergedT m [d, p]) fun r => ∃ e, r = .t false e ∧ DocK ks n e ∧ den e = act (effR (den p)) (den d))
    {d0 : D} {ms0 : List (Str × D)} {f0 : Str → T} (h0 : MInv ks n f0 pms [] ms0) {Q : Out × Ro → Prop} (q : ∀ ms, MInv ks n f0 pms (pms.map (·.1)) ms → Q (.nx, [some (.d d0), some (.d (.dic (dctE pms))), some (.t false (.dic (dctE ms))), none, none])) :
    WP (loopS (tupG 2 (consG (nameG 3) (consG (nameG 4) nilG))) (ifS (asB (bin (.pk 4) (.ev (cst .non)) isN)) (popT 2 (.sl 3)) (stT 2 (.sl 3) (calP [(.gt 2 (.sl 3)), (.sl 4)] (G_mergedT m)))) [3, 4] (pms.map fun p => D.pr [.str p.1, p.2]) [some (.d d0), some (.d (.dic (dctE pms))), some (.t false (.dic (dctE ms0))), none, none]) Q := by
  refine loop_inv (fun pre ρ => ∃ (l : List (Str × D)) (ms : List (Str × D)), pre = l.map (fun p => D.pr [.str p.1, p.2]) ∧ ρ = [some (.d d0), some (.d (.dic (dctE pms))), some (.t false (.dic (dctE ms))), none, none] ∧ MInv ks n f0 pms (l.map (·.1)) ms) ⟨[], ms0, rfl, rfl, h0⟩ ?_ ?_
  · rintro pre d suf _ hds ⟨l, ms, rfl, rfl, inv⟩
    obtain ⟨l1, p, l2, e1, e2, rfl, rfl⟩ := map_split hds
    have el : l.map (·.1) = l1.map (·.1) := by
      have : (l.map fun p => D.pr [.str p.1, p.2]).map (fun d => match d with | .pr [.str k, _] => k | _ => "") = (l1.map fun p => D.pr [.str p.1, p.2]).map (fun d => match d with | .pr [.str k, _] => k | _ => "") := by rw [e2]
      simpa [Function.comp_def] using this
    obtain ⟨hl, hpre⟩ := split_key nd e1
    rw [← el] at hpre
    have hp : p ∈ pms := by rw [e1]; simp
    have next : ∀ ms', MInv ks n f0 pms (l.map (·.1) ++ [p.1]) ms' → ∃ l' : List (Str × D), l.map (fun p => D.pr [.str p.1, p.2]) ++ [D.pr [.str p.1, p.2]] = l'.map (fun p => D.pr [.str p.1, p.2]) ∧ ∃ ms : List (Str × D), dctE ms' = dctE ms ∧ MInv ks n f0 pms (l'.map (·.1)) ms := fun ms' h => ⟨l ++ [p], by simp, ms', rfl, by rw [List.map_append]; exact h⟩
    have hms : (dctE ms).length < 16777216 := by have := len_ks inv.nd inv.hk; rw [show (dctE ms).length = ms.length by simp [dctE]]; omega
    simp [isN_nonB]
    refine ⟨fun hn => ?_, fun hn => ?_⟩
    · cases hg : lkE ms p.1 with
      | none =>
        simp
        exact next _ (inv.skip hl hn hg)
      | some x =>
        simp [del_dct]
        exact next _ (inv.del hl hn)
    · refine (ih (get_doc inv p.1) (hmm p hp)).mono ?_
      rintro r ⟨e, rfl, h3, h4⟩
      simp [put_dct]
      exact ⟨⟨by simpa [dctE] using hms, keys_nd inv.nd⟩, next _ (inv.put hl hn hpre (hk p hp) h3 h4)⟩
  · rintro _ ⟨l, ms, e, rfl, inv⟩
    have el : l.map (·.1) = pms.map (·.1) := by
      have : (l.map fun p => D.pr [.str p.1, p.2]).map (fun d => match d with | .pr [.str k, _] => k | _ => "") = (pms.map fun p => D.pr [.str p.1, p.2]).map (fun d => match d with | .pr [.str k, _] => k | _ => "") := by rw [e]
      simpa [Function.comp_def] using this
    rw [el] at inv
    exact q ms inv
theorem mergedT_w {ks : List Str} (h32 : ks.length < 32) : ∀ {m n : Nat} {d p : D}, DocK ks n d → DocK ks n p → n + 1 < m → WP (G_mergedT m [d, p]) fun r => ∃ e, r = .t false e ∧ DocK ks n e ∧ den e = act (effR (den p)) (den d)
  | 0, n, d, p, _, _, h => absurd h (Nat.not_lt_zero _)
  | m + 1, n, d, p, hd, hp, hm => by
    show WP (run0 5 2 _ _) _
    rw [WP_run0]
    unfold S_mergedT
    cases hp with
    | atom h =>
      obtain ⟨t, ht, hs⟩ := atomB_ty h
      simp [ht, hs]
      refine (copiedT_w (m := m) (.atom (n := 0) h) (by omega)).mono fun r h1 => ?_
      subst h1
      simp
      exact ⟨.atom h, by rw [den_nodic (atomB_nodic h)]; rfl⟩
    | @dic n pms nd hk hmm =>
      have fin : ∀ (f0 : Str → T) (ms : List (Str × D)), MInv ks n f0 pms (pms.map (·.1)) ms → (∀ k, f0 k = (den d).ch k) → DocK ks (n + 1) (.dic (dctE ms)) ∧ den (.dic (dctE ms)) = act (effR (den (.dic (dctE pms)))) (den d) := fun f0 ms inv hf => by
        refine ⟨.dic inv.nd inv.hk inv.hm, ?_⟩
        rw [inv.fin, den_dct]
        show T.obj _ = T.obj _
        congr 1
        funext k
        rw [hf k]
      have ih : ∀ {d p : D}, DocK ks n d → DocK ks n p → WP (G_mergedT m [d, p]) fun r => ∃ e, r = .t false e ∧ DocK ks n e ∧ den e = act (effR (den p)) (den d) := fun hd hp => mergedT_w h32 hd hp (by omega)
      cases hd with
      | atom h =>
        obtain ⟨t, ht, hs⟩ := atomB_ty h
        simp [ht, hs]
        refine mergedT_loop h32 nd hk hmm ih (ms0 := []) (f0 := fun _ => .miss) (MInv.start nd_nil (by simp) (by simp) fun k => rfl) fun ms inv => ?_
        simp
        exact fin _ ms inv fun k => by rw [den_nodic (atomB_nodic h)]; rfl
      | @dic _ ms0 nd0 hk0 hm0 =>
        simp
        refine (copiedT_w (m := m) ((DocK.dic nd0 hk0 hm0).doc h32) (by omega)).mono fun r h1 => ?_
        subst h1
        simp
        refine mergedT_loop h32 nd hk hmm ih (ms0 := ms0) (f0 := fun k => denO (lkE ms0 k)) (MInv.start nd0 hk0 hm0 fun k => rfl) fun ms inv => ?_
        simp
        exact fin _ ms inv fun k => by rw [den_dct]; rfl
theorem check_w {m n : Nat} {d : D} (hd : Doc n d) (hn : n ≤ 8) (hm : 8 < m) (hp : prtD d ≤ 200) {Q : A → Prop} (q : Q (.d .non)) : WP (G_check m [d]) Q := ⟨_, check_spec hd hn hm hp, q⟩
theorem appliedT_w {ks : List Str} (h32 : ks.length < 32) {m n : Nat} {d p : D} (hd : DocK ks n d) (hp : DocK ks n p) (hn : n ≤ 8) (hm : 9 < m) (h1 : prtD d ≤ 200) (h2 : prtD p ≤ 200) : WP (G_appliedT m [d, p]) fun r => ∃ e, r = .t false e ∧ DocK ks n e ∧ den e = act (effR (den p)) (den d) := by
  unfold G_appliedT
  rw [WP_run0]
  unfold S_appliedT
  simp
  refine check_w (hd.doc h32) hn (by omega) h1 ?_
  refine check_w (hp.doc h32) hn (by omega) h2 ?_
  refine (mergedT_w h32 hd hp (by omega)).mono ?_
  rintro r ⟨e, rfl, h3, h4⟩
  simp
  exact ⟨h3, h4⟩
theorem after_allT_w {ks : List Str} (h32 : ks.length < 32) {m n : Nat} (hm : n + 1 < m) {d L : D} {xs : List D} (hL : itemsOf L = some xs) (hd : DocK ks n d) (hx : ∀ x ∈ xs, DocK ks n x) : WP (G_after_allT m [d, L]) fun r => ∃ e, r = .t false e ∧ DocK ks n e ∧ den e = runT (den d) (xs.map den) := by
  unfold G_after_allT
  rw [WP_run0]
  unfold S_after_allT
  simp
  refine (copiedT_w (m := m) (hd.doc h32) (by omega)).mono fun r h1 => ?_
  subst h1
  simp [hL]
  refine loop_inv (fun pre ρ => ∃ e, ρ = [some (.d d), some (.d L), some (.t false e), none] ∧ DocK ks n e ∧ den e = runT (den d) (pre.map den)) ⟨d, rfl, hd, rfl⟩ ?_ ?_
  · rintro pre x suf _ hds ⟨e, rfl, h3, h4⟩
    have hxm : x ∈ xs := by rw [hds]; simp
    simp
    refine (mergedT_w h32 h3 (hx x hxm) hm).mono ?_
    rintro r ⟨e', rfl, g3, g4⟩
    simp
    refine ⟨g3, ?_⟩
    rw [g4, h4]
    unfold runT
    rw [List.foldl_append]
    rfl
  · rintro _ ⟨e, rfl, h3, h4⟩
    simp
    exact ⟨h3, h4⟩
theorem runT_w {ks : List Str} (h32 : ks.length < 32) {m n : Nat} (hm : 9 < m) (hn : n ≤ 8) {d L : D} {xs : List D} (hL : itemsOf L = some xs) (hd : DocK ks n d) (hp : prtD d ≤ 200) (hx : Row ks n xs) : WP (G_runT m [d, L]) fun r => ∃ e, r = .t false e ∧ DocK ks n e ∧ den e = runT (den d) (xs.map den) := by
  unfold G_runT
  rw [WP_run0]
  unfold S_runT
  simp
  refine check_w (hd.doc h32) hn (by omega) hp ?_
  refine ⟨_, check_row h32 hL (by omega) hn hx, ?_⟩
  simp
  refine (after_allT_w h32 (by omega) hL hd hx.doc).mono ?_
  rintro r ⟨e, rfl, h3, h4⟩
  simp
  exact ⟨h3, h4⟩
end Tw
end
section
set_option maxRecDepth 100000
set_option maxHeartbeats 4000000
/-! documents and rows that are shown -/
namespace Tw
open PySem PySem.Spec PyProof.Rows L2

/-- an atom that is short when it is shown -/
def SmD (a : D) : Prop := ∃ p, pyD a = some p ∧ p.showable = true ∧ p.shown.length ≤ 40 ∧ p.depth ≤ 2
def BndD : Nat → Nat
  | 0 => 40
  | n + 1 => 60 + 3 * (BndD n + 12)
def ShD (n : Nat) (d : D) : Prop := ∃ p, pyD d = some p ∧ p.showable = true ∧ p.shown.length ≤ BndD n ∧ p.depth ≤ n + 2
theorem BndD_pos : ∀ n, 40 ≤ BndD n
  | 0 => Nat.le_refl _
  | n + 1 => by unfold BndD; omega
theorem mem_shd {n : Nat} : ∀ {ms : List (Str × D)}, (∀ p ∈ ms, (reprText p.1).length ≤ 8) → (∀ p ∈ ms, ShD n p.2) → ∃ q, pyDk (dctE ms) = some q ∧ PyData.showableKv q = true ∧
    ((PyData.shownKv q).map (·.length)).sum ≤ ms.length * (BndD n + 10) ∧ (PyData.shownKv q).length = ms.length ∧ PyData.depthKv q ≤ n + 2
  | [], _, _ => ⟨[], rfl, by simp [PyData.showableKv], by simp [PyData.shownKv], by simp [PyData.shownKv], by simp [PyData.depthKv]⟩
  | p :: r, hk, h => by
    obtain ⟨q, e1, e2, e3, e4, e5⟩ := mem_shd (fun p hp => hk p (List.mem_cons_of_mem _ hp)) fun p hp => h p (List.mem_cons_of_mem _ hp)
    obtain ⟨x, x1, x2, x3, x4⟩ := h p List.mem_cons_self
    have hk1 := hk p List.mem_cons_self
    refine ⟨(.str p.1, x) :: q, ?_, ?_, ?_, ?_, ?_⟩
    · show (pyD p.2).bind _ = _
      rw [x1, Option.bind_some, show pyDk (List.map _ r) = pyDk (dctE r) from rfl, e1]
      rfl
    · simp [PyData.showableKv, PyData.showable, x2, e2]
    · simp only [PyData.shownKv, PyData.shown, List.map_cons, List.sum_cons, List.length_cons, Str.length_append]
      have : (": " : Str).length = 2 := by decide +kernel
      rw [Nat.add_mul]
      omega
    · simp only [PyData.shownKv, List.length_cons, e4]
    · simp only [PyData.depthKv, PyData.depth]
      omega
theorem shd_of {ks : List Str} (h3 : ks.length ≤ 3) (hks : ∀ k ∈ ks, (reprText k).length ≤ 8) {n : Nat} {d : D} (h : DocK ks n d) : AtT SmD (den d) → ShD n d := by
  induction h with
  | @atom n d h =>
    intro ha
    rw [den_nodic (atomB_nodic h)] at ha
    cases ha with
    | atom ha =>
      obtain ⟨p, p1, p2, p3, p4⟩ := ha
      have := BndD_pos n
      exact ⟨p, p1, p2, by omega, by omega⟩
  | @dic n ms nd hk hm ih =>
    intro ha
    rw [den_dct] at ha
    obtain ⟨q, e1, e2, e3, e4, e5⟩ := mem_shd (n := n) (fun p hp => hks _ (hk p hp)) fun p hp => ih p hp (by
      cases ha with
      | obj ha =>
        have := ha p.1
        simp only [lkE_find nd hp] at this
        exact this)
    refine ⟨.dict q, ?_, ?_, ?_, ?_⟩
    · show (pyDk (dctE ms)).map _ = _
      rw [e1]
      rfl
    · simp only [PyData.showable]; exact e2
    · simp only [PyData.shown]
      have t := dictText_len_le (PyData.shownKv q)
      have hl : ms.length ≤ 3 := by have := len_ks nd hk; omega
      have hmul : ms.length * (BndD n + 10) ≤ 3 * (BndD n + 10) := Nat.mul_le_mul_right _ hl
      unfold BndD
      omega
    · simp only [PyData.depth]
      omega
theorem bnd9 : ∀ {n : Nat}, n ≤ 9 → BndD n ≤ 3000000
  | 0, _ | 1, _ | 2, _ | 3, _ | 4, _ | 5, _ | 6, _ | 7, _ | 8, _ | 9, _ => by decide
  | n + 10, h => by omega
theorem repr_doc {ks : List Str} (h3 : ks.length ≤ 3) (hks : ∀ k ∈ ks, (reprText k).length ≤ 8) {n : Nat} (hn : n ≤ 9) {d : D} (h : DocK ks n d) (ha : AtT SmD (den d)) : ∃ y, reprD [d] = some (.d (.str y)) := by
  obtain ⟨p, p1, p2, p3, p4⟩ := shd_of h3 hks h ha
  refine ⟨p.shown, ?_⟩
  show (pyD d).bind _ = _
  have := bnd9 hn
  rw [p1, Option.bind_some, if_pos ⟨p2, by rw [sizeLine_eq]; omega, by omega⟩]
theorem list_shd {n : Nat} : ∀ {xs : List D}, (∀ x ∈ xs, ShD n x) → ∃ q, pyDs xs = some q ∧ PyData.showableAll q = true ∧ ((PyData.shownAll q).map (·.length)).sum ≤ xs.length * BndD n ∧ (PyData.shownAll q).length = xs.length ∧ PyData.depthAll q ≤ n + 2
  | [], _ => ⟨[], rfl, by simp [PyData.showableAll], by simp [PyData.shownAll], by simp [PyData.shownAll], by simp [PyData.depthAll]⟩
  | d :: r, h => by
    obtain ⟨q, e1, e2, e3, e4, e5⟩ := list_shd fun p hp => h p (List.mem_cons_of_mem _ hp)
    obtain ⟨x, x1, x2, x3, x4⟩ := h d List.mem_cons_self
    refine ⟨x :: q, ?_, ?_, ?_, ?_, ?_⟩
    · simp [pyDs, x1, e1]
    · simp [PyData.showableAll, x2, e2]
    · simp only [PyData.shownAll, List.map_cons, List.sum_cons, List.length_cons]
      rw [Nat.add_mul]
      omega
    · simp only [PyData.shownAll, List.length_cons, e4]
    · simp only [PyData.depthAll]
      omega
theorem repr_row {ks : List Str} (h3 : ks.length ≤ 3) (hks : ∀ k ∈ ks, (reprText k).length ≤ 8) {n : Nat} (hn : n ≤ 4) {xs : List D} (hl : xs.length ≤ 200) (h : ∀ x ∈ xs, DocK ks n x) (ha : ∀ x ∈ xs, AtT SmD (den x)) : ∃ y, reprD [.lst xs] = some (.d (.str y)) := by
  obtain ⟨q, e1, e2, e3, e4, e5⟩ := list_shd (n := n) fun x hx => shd_of h3 hks (h x hx) (ha x hx)
  have b4 : BndD n ≤ 12000 := by
    match n, hn with
    | 0, _ | 1, _ | 2, _ | 3, _ | 4, _ => decide
  have hm : xs.length * BndD n ≤ 200 * 12000 := Nat.mul_le_mul hl b4
  have t := listText_len_le (PyData.shownAll q)
  refine ⟨(PyData.list q).shown, ?_⟩
  show (pyD (.lst xs)).bind _ = _
  rw [show pyD (.lst xs) = (pyDs xs).map .list from rfl, e1, Option.map_some, Option.bind_some]
  refine if_pos ⟨?_, ?_, ?_⟩
  · simp only [PyData.showable]; exact e2
  · simp only [PyData.shown]; rw [sizeLine_eq]; omega
  · simp only [PyData.depth]; omega
/-! ### equal and not equal -/
theorem neG_same {n m : Nat} {a b : D} (ha : Doc n a) (hb : Doc m b) (hn : n < 90) (e : den a = den b) : neG a b = some (.d (.bl false)) := by
  obtain ⟨r, e1, e2⟩ := neG_den ha hb hn
  cases r with
  | false => exact e1
  | true => exact absurd e (e2.mp rfl)
theorem neG_str2 (a b : Str) : neG (.tup [.str a, .str b]) (.tup [.str a, .str b]) = some (.d (.bl false)) := by
  simp [neG, hgt, hgts, eqO, eqOs, eqB, kn]
theorem neG_str1 (a : Str) : neG (.str a) (.str a) = some (.d (.bl false)) := by
  simp [neG, hgt, hgts, eqO, eqOs, eqB, kn]
end Tw
end
section
set_option maxRecDepth 100000
set_option maxHeartbeats 4000000
/-! an effect that is called, with answers that are trees of the frame -/
namespace Tw
open PySem PySem.Spec PyProof.Rows L2

@[simp] theorem insD_effD (k : Str) (a : D) (ms : List (Str × D)) : insD (effD k a ms) = some (("Effect" : Str), [(("kind" : Str), .str k), ("atom", a), ("members", .tup (ms.map pairE))]) := rfl
@[simp] theorem toD_effD (k : Str) (a : D) (ms : List (Str × D)) : (A.d (effD k a ms)).toD = some (effD k a ms) := rfl
/-- the members, while an effect happens to them: pre is done -/
structure AInv (ks : List Str) (n : Nat) (f0 : Str → T) (m : Str → E) (pre : List Str) (ms : List (Str × D)) : Prop where
  nd : ND ms
  hk : ∀ p ∈ ms, p.1 ∈ ks
  hm : ∀ p ∈ ms, DocK ks n p.2
  hv : ∀ k, denO (lkE ms k) = if k ∈ pre then act (m k) (f0 k) else f0 k
section
variable {ks : List Str} {n : Nat} {f0 : Str → T} {m : Str → E} {ms : List (Str × D)} {pre : List Str}
theorem AInv.start (nd : ND ms) (hk : ∀ p ∈ ms, p.1 ∈ ks) (hm : ∀ p ∈ ms, DocK ks n p.2) (h : ∀ k, denO (lkE ms k) = f0 k) : AInv ks n f0 m [] ms := ⟨nd, hk, hm, fun k => by simp [h]⟩
theorem AInv.del (h : AInv ks n f0 m pre ms) {k0 : Str} (hd : m k0 = .drop) : AInv ks n f0 m (pre ++ [k0]) (delE ms k0) := by
  refine ⟨del_nd h.nd, fun q hq => h.hk q (del_mem hq), fun q hq => h.hm q (del_mem hq), fun k => ?_⟩
  rw [del_lk]
  by_cases hk : k = k0
  · subst hk
    rw [if_pos rfl, if_pos (by simp), hd]
    rfl
  · rw [if_neg hk, h.hv k]
    simp [hk]
theorem AInv.skip (h : AInv ks n f0 m pre ms) {k0 : Str} (hd : m k0 = .drop) (hm : lkE ms k0 = none) : AInv ks n f0 m (pre ++ [k0]) ms := by
  refine ⟨h.nd, h.hk, h.hm, fun k => ?_⟩
  by_cases hk : k = k0
  · subst hk
    rw [if_pos (by simp), hd, hm]
    rfl
  · rw [h.hv k]
    simp [hk]
theorem AInv.put (h : AInv ks n f0 m pre ms) {k0 : Str} (hpre : k0 ∉ pre) (hkp : k0 ∈ ks) {v : D} (hv : DocK ks n v) (e : den v = act (m k0) (f0 k0)) : AInv ks n f0 m (pre ++ [k0]) (setE ms k0 v) := by
  refine ⟨set_nd h.nd, fun q hq => (set_mem hq).elim (h.hk q) fun e => by rw [e]; exact hkp, fun q hq => (set_mem hq).elim (h.hm q) fun e => by rw [e]; exact hv, fun k => ?_⟩
  rw [set_lk]
  by_cases hk : k = k0
  · subst hk
    rw [if_pos rfl, if_pos (by simp)]
    exact e
  · rw [if_neg hk, h.hv k]
    simp [hk]
theorem AInv.get (h : AInv ks n f0 m pre ms) (k : Str) : DocK ks n ((lkE ms k).getD .non) := by
  cases e : lkE ms k with
  | none => exact .atom rfl
  | some d => exact h.hm _ (lkE_mem e)
end
/-- a missing member is acted on as None -/
theorem act_non {e : E} (h1 : e ≠ .keep) (h2 : e ≠ .drop) : act e (.atom .non) = act e .miss := by
  cases e with
  | keep => exact absurd rfl h1
  | drop => exact absurd rfl h2
  | _ => rfl
theorem AInv.at {ks : List Str} {n : Nat} {f0 : Str → T} {m : Str → E} {ms : List (Str × D)} {pre : List Str} (h : AInv ks n f0 m pre ms) {k : Str} (hpre : k ∉ pre) (h1 : m k ≠ .keep) (h2 : m k ≠ .drop) : act (m k) (den ((lkE ms k).getD .non)) = act (m k) (f0 k) := by
  have := h.hv k
  rw [if_neg hpre] at this
  rw [← this]
  cases e : lkE ms k with
  | none => exact act_non h1 h2
  | some d => rfl
def knd (d : D) : Str := match d with | .ins _ ((_, .str k) :: _) => k | _ => ""
theorem kind_drop {ks : List Str} {n : Nat} {e : E} {d : D} (h : Ef ks n e d) : ∃ k a ms, d = effD k a ms ∧ (k = "drop" ↔ e = .drop) := by
  have := kd_ne
  cases h with
  | keep => exact ⟨_, _, _, rfl, by simp; decide +kernel⟩
  | drop => exact ⟨_, _, _, rfl, by simp⟩
  | set h => exact ⟨_, _, _, rfl, by simp; decide +kernel⟩
  | merge => exact ⟨_, _, _, rfl, by simp; decide +kernel⟩
  | build => exact ⟨_, _, _, rfl, by simp; decide +kernel⟩
theorem actedT_loop {ks : List Str} (h32 : ks.length < 32) {f n l : Nat} {m : Str → E} {ems : List (Str × D)} (nd : ND ems) (hk : ∀ p ∈ ems, p.1 ∈ ks) (hm : ∀ p ∈ ems, Ef ks l (m p.1) p.2) (hne : ∀ p ∈ ems, m p.1 ≠ .keep)
    (ih : ∀ p ∈ ems, m p.1 ≠ .drop → ∀ {d : D}, DocK ks n d → WP (G_actedT f [p.2, d]) fun r => ∃ x, r = .t false x ∧ DocK ks n x ∧ den x = act (m p.1) (den d))
    {o d0 : D} {ms0 : List (Str × D)} {f0 : Str → T} (h0 : AInv ks n f0 m [] ms0) {Q : Out × Ro → Prop} (q : ∀ ms, AInv ks n f0 m (ems.map (·.1)) ms → Q (.nx, [some (.d o), some (.d d0), some (.t false (.dic (dctE ms))), none, none])) :
    WP (loopS (tupG 2 (consG (nameG 3) (consG (nameG 4) nilG))) (ifS (asB (bin (.ev (fldE "Effect" "kind" (.pk 4))) (.ev (cst (.str "drop"))) eqS)) (popT 2 (.sl 3)) (stT 2 (.sl 3) (calP [(.sl 4), (.gt 2 (.sl 3))] (G_actedT f)))) [3, 4] (ems.map pairE) [some (.d o), some (.d d0), some (.t false (.dic (dctE ms0))), none, none]) Q := by
  refine loop_inv (fun pre ρ => ∃ (l : List (Str × D)) (ms : List (Str × D)), pre = l.map pairE ∧ ρ = [some (.d o), some (.d d0), some (.t false (.dic (dctE ms))), none, none] ∧ AInv ks n f0 m (l.map (·.1)) ms) ⟨[], ms0, rfl, rfl, h0⟩ ?_ ?_
  · rintro pre d suf _ hds ⟨l, ms, rfl, rfl, inv⟩
    obtain ⟨l1, p, l2, e1, e2, rfl, rfl⟩ := map_split hds
    have el : l.map (·.1) = l1.map (·.1) := by
      have : (l.map pairE).map (fun d => match d with | .tup [.str k, _] => k | _ => "") = (l1.map pairE).map (fun d => match d with | .tup [.str k, _] => k | _ => "") := by rw [e2]
      simpa [Function.comp_def, pairE] using this
    obtain ⟨hl, hpre⟩ := split_key nd e1
    rw [← el] at hpre
    have hp : p ∈ ems := by rw [e1]; simp
    have next : ∀ ms', AInv ks n f0 m (l.map (·.1) ++ [p.1]) ms' → ∃ l' : List (Str × D), l.map pairE ++ [pairE p] = l'.map pairE ∧ ∃ ms : List (Str × D), dctE ms' = dctE ms ∧ AInv ks n f0 m (l'.map (·.1)) ms := fun ms' h => ⟨l ++ [p], by simp, ms', rfl, by rw [List.map_append]; exact h⟩
    have hms : ms.length < 16777216 := by have := len_ks inv.nd inv.hk; omega
    obtain ⟨kd, ka, kms, hpe, hdr⟩ := kind_drop (hm p hp)
    have hpp : pairE p = .tup [.str p.1, effD kd ka kms] := by unfold pairE; rw [hpe]
    rw [hpp] at next ⊢
    simp [lk_kind, hdr]
    refine ⟨fun hn => ?_, fun hn => ?_⟩
    · cases hg : lkE ms p.1 with
      | none =>
        simp
        exact next _ (inv.skip hn hg)
      | some x =>
        simp [del_dct]
        exact next _ (inv.del hn)
    · rw [← hpe]
      refine (ih p hp hn (inv.get p.1)).mono ?_
      rintro r ⟨e, rfl, h3, h4⟩
      simp [put_dct]
      rw [hpe]
      refine ⟨⟨by simpa [dctE] using hms, keys_nd inv.nd⟩, next _ (inv.put hpre (hk p hp) h3 ?_)⟩
      rw [h4, inv.at hpre (hne p hp) hn]
  · rintro _ ⟨l, ms, e, rfl, inv⟩
    have el : l.map (·.1) = ems.map (·.1) := by
      have : (l.map pairE).map (fun d => match d with | .tup [.str k, _] => k | _ => "") = (ems.map pairE).map (fun d => match d with | .tup [.str k, _] => k | _ => "") := by rw [e]
      simpa [Function.comp_def, pairE] using this
    rw [el] at inv
    exact q ms inv
theorem AInv.fin {ks : List Str} {n : Nat} {f0 : Str → T} {m : Str → E} {ms ems : List (Str × D)} (h : AInv ks n f0 m (ems.map (·.1)) ms) (hr : ∀ k, k ∉ ems.map (·.1) → act (m k) (f0 k) = f0 k) : den (.dic (dctE ms)) = .obj fun k => act (m k) (f0 k) := by
  rw [den_dct]
  congr 1
  funext k
  rw [h.hv k]
  split
  · rfl
  · exact (hr k ‹_›).symm
theorem thaw_atom {a : D} (h : atomB a = true) : (∃ xs, a = .lst xs ∧ frA a = .tup xs ∧ xs.all leafD = true) ∨ (leafD a = true ∧ frA a = a ∧ ∀ xs, a ≠ .tup xs) := by
  rcases atom_cases h with hp | ⟨xs, rfl⟩
  · exact .inr ⟨plain_leaf hp, by cases a <;> first | (cases hp; done) | rfl, by cases a <;> first | (cases hp; done) | (intro xs h; cases h)⟩
  · exact .inl ⟨xs, rfl, rfl, plains_leaf (atom_lst h).1⟩
theorem tyD_atom' {a : D} (h : atomB a = true) (hl : leafD a = true) : ∃ t, tyD (frA a) = some t ∧ subT t "tuple" = false := by
  cases a <;> first | (cases h; done) | (cases hl; done) | exact ⟨_, rfl, by decide +kernel⟩
theorem kd_ne' : ¬ (("drop" : Str) = "keep") ∧ ¬ (("set" : Str) = "keep") ∧ ¬ (("merge" : Str) = "keep") ∧ ¬ (("build" : Str) = "keep") ∧ ¬ (("set" : Str) = "drop") ∧ ¬ (("merge" : Str) = "drop") ∧ ¬ (("build" : Str) = "drop") ∧ ¬ (("merge" : Str) = "set") ∧ ¬ (("build" : Str) = "set") ∧ ¬ (("build" : Str) = "merge") := by decide +kernel
theorem actedT_w {ks : List Str} (h32 : ks.length < 32) : ∀ {f l n : Nat} {e : E} {o d : D}, Ef ks l e o → Wf e → e ≠ .drop → DocK ks n d → l ≤ n → n + 1 < f → WP (G_actedT f [o, d]) fun r => ∃ x, r = .t false x ∧ DocK ks n x ∧ den x = act e (den d)
  | 0, l, n, e, o, d, _, _, _, _, _, h => absurd h (Nat.not_lt_zero _)
  | f + 1, l, n, e, o, d, ho, wf, hnd, hd, hln, hf => by
    have kk := kd_ne
    have kk' := kd_ne'
    show WP (run0 5 2 _ _) _
    rw [WP_run0]
    unfold S_actedT
    cases ho with
    | keep =>
      simp [lk_kind]
      refine (copiedT_w (m := f) (hd.doc h32) (by omega)).mono fun r h1 => ?_
      subst h1
      simp
      exact ⟨hd, rfl⟩
    | drop => exact absurd rfl hnd
    | @set l a h =>
      rcases thaw_atom h with ⟨xs, rfl, e1, e2⟩ | ⟨e1, e2, e3⟩
      · simp [lk_kind, lk_atom, kk, kk', e1, e2]
        exact ⟨.atom h, rfl⟩
      · obtain ⟨t, ht, hst⟩ := tyD_atom' h e1
        rw [e2] at ht
        simp [lk_kind, lk_atom, kk, kk', e1, e2, ht, hst]
        exact ⟨.atom h, by rw [den_nodic (atomB_nodic h)]; rfl⟩
    | @merge l m ems nd so hk hne hm hout =>
      obtain ⟨n', rfl⟩ : ∃ n', n = n' + 1 := ⟨n - 1, by omega⟩
      have wm : ∀ k, Wf (m k) := fun k => match wf with | .merge h => h k | .bd h => nomatch h
      have ih : ∀ p ∈ ems, m p.1 ≠ .drop → ∀ {d : D}, DocK ks n' d → WP (G_actedT f [p.2, d]) fun r => ∃ x, r = .t false x ∧ DocK ks n' x ∧ den x = act (m p.1) (den d) := fun p hp hd _ h => actedT_w h32 (hm p hp) (wm p.1) hd h (by omega) (by omega)
      have fin : ∀ (f0 : Str → T) (ms : List (Str × D)), AInv ks n' f0 m (ems.map (·.1)) ms → (∀ k, f0 k = (den d).ch k) → DocK ks (n' + 1) (.dic (dctE ms)) ∧ den (.dic (dctE ms)) = act (.merge m) (den d) := fun f0 ms inv hf => by
        refine ⟨.dic inv.nd inv.hk inv.hm, ?_⟩
        rw [inv.fin fun k hk => by rw [hout k hk]; rfl]
        show T.obj _ = T.obj _
        congr 1
        funext k
        rw [hf k]
      cases hd with
      | atom h =>
        obtain ⟨t, ht, hs⟩ := atomB_ty h
        simp [lk_kind, lk_mem, kk, kk', ht, hs]
        refine actedT_loop h32 nd hk hm hne ih (ms0 := []) (f0 := fun _ => .miss) (AInv.start nd_nil (by simp) (by simp) fun k => rfl) fun ms inv => ?_
        simp
        exact fin _ ms inv fun k => by rw [den_nodic (atomB_nodic h)]; rfl
      | @dic _ ms0 nd0 hk0 hm0 =>
        simp [lk_kind, lk_mem, kk, kk']
        refine (copiedT_w (m := f) ((DocK.dic nd0 hk0 hm0).doc h32) (by omega)).mono fun r h1 => ?_
        subst h1
        simp
        refine actedT_loop h32 nd hk hm hne ih (ms0 := ms0) (f0 := fun k => denO (lkE ms0 k)) (AInv.start nd0 hk0 hm0 fun k => rfl) fun ms inv => ?_
        simp
        exact fin _ ms inv fun k => by rw [den_dct]; rfl
    | @build l m ems nd so hk hne hm hout =>
      obtain ⟨n', rfl⟩ : ∃ n', n = n' + 1 := ⟨n - 1, by omega⟩
      have wb : ∀ k, Bd (m k) := fun k => match wf with | .bd (.build h) => h k
      have wm : ∀ k, Wf (m k) := fun k => .bd (wb k)
      have hne' : ∀ p ∈ ems, m p.1 ≠ .keep := fun p _ h => by
        have := wb p.1
        rw [h] at this
        cases this
      have ih : ∀ p ∈ ems, m p.1 ≠ .drop → ∀ {d : D}, DocK ks n' d → WP (G_actedT f [p.2, d]) fun r => ∃ x, r = .t false x ∧ DocK ks n' x ∧ den x = act (m p.1) (den d) := fun p hp hd _ h => actedT_w h32 (hm p hp) (wm p.1) hd h (by omega) (by omega)
      simp [lk_kind, lk_mem, kk, kk']
      refine actedT_loop h32 nd hk hm hne' ih (ms0 := []) (f0 := fun _ => .miss) (AInv.start nd_nil (by simp) (by simp) fun k => rfl) fun ms inv => ?_
      simp
      refine ⟨.dic inv.nd inv.hk inv.hm, ?_⟩
      rw [inv.fin fun k hk => by rw [hout k hk]; rfl]
      rfl
/-- an effect is called -/
theorem callT_w {ks : List Str} (h32 : ks.length < 32) {f l n : Nat} {e : E} {o d : D} (ho : Ef ks l e o) (wf : Wf e) (hnd : e ≠ .drop) (hd : DocK ks n d) (hn : n ≤ 8) (hl : l ≤ 9) (hf : 10 < f) (hp : prtD d ≤ 200) :
    WP (G_EffectU_callUT f [o, d]) fun r => ∃ x, r = .t false x ∧ DocK ks 9 x ∧ den x = act e (den d) := by
  unfold G_EffectU_callUT
  rw [WP_run0]
  unfold S_EffectU_callUT
  simp
  refine check_w (hd.doc h32) hn (by omega) hp ?_
  refine (actedT_w h32 ho wf hnd (hd.mono (by omega : n ≤ 9)) hl (by omega)).mono ?_
  rintro r ⟨x, rfl, h1, h2⟩
  simp
  exact ⟨h1, h2⟩
theorem effs_ne_drop (ps : List T) (h : ∀ p ∈ ps, p ≠ .miss) : effs ps ≠ .drop := by
  have key : ∀ (ps : List T) (e : E), e ≠ .drop → (∀ p ∈ ps, p ≠ .miss) → ps.foldl (fun e p => jn e (effR p)) e ≠ .drop := by
    intro ps
    induction ps with
    | nil => intro e he _; exact he
    | cons p r ih =>
      intro e he hp
      refine ih _ ?_ fun q hq => hp q (List.mem_cons_of_mem _ hq)
      have := hp p List.mem_cons_self
      cases p with
      | miss => exact absurd rfl this
      | atom a => cases e <;> simp [effR, jn]
      | obj m => cases e <;> simp [effR, jn]
  exact key ps .keep (by simp) h
end Tw
end
section
set_option maxRecDepth 100000
set_option maxHeartbeats 4000000
namespace Tw
open PySem PySem.Spec PyProof.Rows L2
def S_law_spoil (F_law_spoil : F1) : SF := (ifS (asB (isiP (.pk 0) "dict")) (seqS (forS (seqW (appP [(.pk 0)] listD)) (nameG 1) (exprS (calC 0 (.sl 1) (F_law_spoil))) [1]) (stT 0 (.cs (.inr "spoilt")) (cst (.int 1)))) (ifS (asB (isiP (.pk 0) "list")) (exprS (apT 0 (cst (.str "spoilt")))) nxS))
def G_law_spoil : Nat → F1
  | 0 => fun _ _ => none
  | n + 1 => run1 2 1 (S_law_spoil (G_law_spoil n))
def S_law_copied (F_law_copied : F0) : SF := (seqS (ifS (asB (isiE (.pk 0) "dict")) (retS (app [(.ev (lcD 0 mKeys (nameG 1) tstY (tupE [(.ev (var 1)), (.ev (cal0 [(.ev (bin (.pk 0) (.pk 1) ixX))] (F_law_copied)))]) [1]))] dictD)) nxS) (retS (ifE (asB (isiE (.pk 0) "list")) (app [(.pk 0)] listD) (var 0))))
def G_law_copied : Nat → F0
  | 0 => fun _ => none
  | n + 1 => run0 2 1 (S_law_copied (G_law_copied n))
def S_law_after (F_law_after : F0) (F_law_copied : F0) : SF := (seqS (ifS (notT (asB (isiE (.pk 1) "dict"))) (retS (cal0 [(.ev (var 1))] (F_law_copied))) nxS) (seqS (setS 2 (ifE (asB (isiE (.pk 0) "dict")) (cal0 [(.ev (var 0))] (F_law_copied)) dic0)) (seqS (forD 1 mKeys (nameG 3) (ifS (asB (bin (.ev (bin (.pk 1) (.pk 3) ixX)) (.ev (cst .non)) notN)) (stS 2 (.pk 3) (cal0 [(.ev (getE (.pk 2) (.pk 3))), (.ev (bin (.pk 1) (.pk 3) ixX))] (F_law_after))) (ifS (asB (bin (.pk 3) (.pk 2) (inK false))) (setS 2 (app [(.ev (lcD 2 mKeys (nameG 4) (asB (bin (.pk 4) (.pk 3) neS)) (tupE [(.ev (var 4)), (.ev (bin (.pk 2) (.pk 4) ixX))]) [4]))] dictD)) nxS)) [3, 4]) (retV 2))))
def G_law_after : Nat → F0
  | 0 => fun _ => none
  | n + 1 => run0 5 2 (S_law_after (G_law_after n) (G_law_copied n))
def S_law_run (F_law_after : F0) : SF := (seqS (forS (seqW (var 1)) (nameG 2) (setS 0 (cal0 [(.ev (var 0)), (.ev (var 2))] (F_law_after))) [2]) (retV 0))
def G_law_run (n : Nat) : F0 := run0 3 2 (S_law_run (G_law_after n))
def S_law_digit  : SF := (seqS (ifS (asB (bin (.ev (bin (.pk 0) (.ev (cst (.int 0))) ixX)) (.ev (cst (.int 0))) gtI)) (seqS (setS 2 (bin (.ev (bin (.pk 0) (.ev (cst (.int 0))) ixX)) (.pk 1) modI)) (seqS (stS 0 (.ev (cst (.int 0))) (bin (.ev (bin (.pk 0) (.ev (cst (.int 0))) ixX)) (.pk 1) fdivI)) (retV 2))) nxS) (seqS (setS 3 (bin (.ev (bin (.pk 0) (.ev (cst (.int 1))) ixX)) (.ev (bin (.ev (bin (.ev (bin (.pk 0) (.ev (cst (.int 1))) ixX)) (.ev (cst (.int 1009))) fdivI)) (.ev (cst (.int 69621))) addX)) mulI)) (seqS (stS 0 (.ev (cst (.int 1))) (bin (.ev (bin (.ev (bin (.pk 3) (.ev (bin (.pk 0) (.ev (cst (.int 2))) ixX)) addX)) (.ev (cst (.int 2147483629))) modI)) (.ev (cst (.int 7))) addX)) (retS (bin (.ev (bin (.ev (bin (.pk 0) (.ev (cst (.int 1))) ixX)) (.ev (cst (.int 97))) fdivI)) (.pk 1) modI)))))
def G_law_digit (n : Nat) : F1 := run1 4 2 (S_law_digit )
def S_law_atom (F_law_digit : F1) : SF := (retS (bin (.ev (lstE [(.ev (cst (.int 0))), (.ev (cst (.int 1))), (.ev (cst (.int 2))), (.ev (un (cst (.int 7)) negI)), (.ev (cst (.str "a"))), (.ev (cst (.str "b"))), (.ev (cst (.str ""))), (.ev (lstE [])), (.ev (lstE [(.ev (cst (.int 1))), (.ev (cst (.str "a")))])), (.ev (lstE [(.ev (cst .non)), (.ev (cst (.int 1)))]))])) (.ev (cal1 0 [(.ev (cst (.int 10)))] (F_law_digit))) ixX))
def G_law_atom (n : Nat) : F1 := run1 1 1 (S_law_atom (G_law_digit n))
def S_law_patch (F_law_digit : F1) (F_law_patch : F1) (F_law_atom : F1) : SF := (seqS (setS 2 (cal1 0 [(.ev (cst (.int 5)))] (F_law_digit))) (seqS (ifS (asB (bin (.pk 2) (.ev (cst (.int 0))) eqS)) (retS (cst .non)) nxS) (seqS (ifS (orT (asB (bin (.pk 2) (.ev (cst (.int 1))) eqS)) (asB (bin (.pk 1) (.ev (cst (.int 0))) eqS))) (retS (cal1 0 [] (F_law_atom))) nxS) (seqS (setS 3 dic0) (seqS (forS (rng1W (cal1 0 [(.ev (cst (.int 3)))] (F_law_digit))) (nameG 4) (stS 3 (.ev (bin (.ev (lstE [(.ev (cst (.str "a"))), (.ev (cst (.str "b"))), (.ev (cst (.str "c")))])) (.ev (cal1 0 [(.ev (cst (.int 3)))] (F_law_digit))) ixX)) (cal1 0 [(.ev (bin (.pk 1) (.ev (cst (.int 1))) subI))] (F_law_patch))) [4]) (retV 3))))))
def G_law_patch : Nat → F1
  | 0 => fun _ _ => none
  | n + 1 => run1 5 2 (S_law_patch (G_law_digit n) (G_law_patch n) (G_law_atom n))
def S_law_row (F_law_digit : F1) (F_law_patch : F1) : SF := (seqS (setS 3 (lstE [])) (seqS (forS (rng1W (cal1 0 [(.ev (var 1))] (F_law_digit))) (nameG 4) (ifS (andT (asB (bin (.pk 3) (.ev (lstE [])) neG)) (asB (bin (.ev (cal1 0 [(.ev (cst (.int 3)))] (F_law_digit))) (.ev (cst (.int 0))) eqS))) (exprS (appE 3 (.ev (bin (.pk 3) (.ev (cal1 0 [(.ev (app [(.pk 3)] lenD))] (F_law_digit))) ixX)))) (exprS (appE 3 (.ev (cal1 0 [(.ev (var 2))] (F_law_patch)))))) [4]) (retV 3)))
def G_law_row (n : Nat) : F1 := run1 5 3 (S_law_row (G_law_digit n) (G_law_patch n))
def S_law_state  : SF := (seqS (setS 0 (app [(.pk 0)] absD)) (retS (lstE [(.ev (bin (.pk 0) (.ev (app [(.ev (bin (.pk 0) (.ev (bin (.ev (cst (.int 10))) (.ev (cst (.int 18))) powI)) geI))] intC)) mulI)), (.ev (bin (.ev (bin (.pk 0) (.ev (cst (.int 2147483629))) modI)) (.ev (cst (.int 7))) addX)), (.ev (bin (.pk 0) (.ev (cst (.int 2147483587))) modI))])))
def G_law_state (n : Nat) : F0 := run0 1 1 (S_law_state )
def S_law (F_runT : F0) (F_law_spoil : F1) (F_law_run : F0) (F_EffectU_callUT : F0) (F_effect : F0) (F_law_digit : F1) (F_law_patch : F1) (F_law_row : F1) (F_law_state : F0) : SF := (seqS (forS (seqW (slL (.ev (bin (.pk 0) (.ev (lstE [(.ev (cst (.int 0)))])) addX)) .no (.ev (cst (.int 4))))) (nameG 1) (seqS (setS 2 (cal0 [(.ev (var 1))] (F_law_state))) (seqS (parS 3 4 (.ev (cal1 2 [(.ev (cst (.int 3)))] (F_law_patch))) (.ev (cal1 2 [(.ev (cst (.int 29))), (.ev (cst (.int 2)))] (F_law_row)))) (seqS (setS 5 (tupE [(.ev (app [(.pk 3)] reprD)), (.ev (app [(.pk 4)] reprD))])) (seqS (setS 6 (cal0 [(.ev (var 3)), (.ev (var 4))] (F_law_run))) (seqS (setS 7 (toT (cal0 [(.ev (var 3)), (.ev (bin (.ev (lstE [(.ev (var 4)), (.ev (app [(.pk 4)] tupleD))])) (.ev (cal1 2 [(.ev (cst (.int 2)))] (F_law_digit))) ixX))] (F_runT)))) (seqS (setS 8 (cal0 [(.ev (var 4))] (F_effect))) (seqS (ifS (orT (asB (bin (.ev (callI "Effect" (var 8) [(.ev (var 3))] (F_EffectU_callUT))) (.pk 6) neG)) (asB (binP (.pk 7) (.pk 6) neG))) (retS (cst (.bl false))) nxS) (seqS (setS 9 (slL (.pk 4) .no (.ev (cst (.int 14))))) (seqS (ifS (orT (asB (bin (.ev (calP [(.sl 7), (.sl 4)] (F_runT))) (.pk 6) neG)) (asB (bin (.ev (cal0 [(.ev (var 3)), (.ev (bin (.pk 9) (.pk 9) addX))] (F_runT))) (.ev (cal0 [(.ev (var 3)), (.ev (var 9))] (F_law_run))) neG))) (retS (cst (.bl false))) nxS) (seqS (exprS (cal1 7 [] (F_law_spoil))) (seqS (setS 10 (toT (cal0 [(.ev (var 3)), (.ev (lstE []))] (F_runT)))) (seqS (exprS (cal1 10 [] (F_law_spoil))) (ifS (orT (asB (bin (.ev (tupE [(.ev (app [(.pk 3)] reprD)), (.ev (app [(.pk 4)] reprD))])) (.pk 5) neG)) (asB (bin (.ev (cal0 [(.ev (var 3)), (.ev (var 4))] (F_runT))) (.pk 6) neG))) (retS (cst (.bl false))) nxS))))))))))))) [1, 2, 5, 6, 7, 8, 9, 10, 3, 4]) (retS (cst (.bl true))))
def G_law (n : Nat) : F0 := run0 11 1 (S_law (G_runT n) (G_law_spoil n) (G_law_run n) (G_EffectU_callUT n) (G_effect n) (G_law_digit n) (G_law_patch n) (G_law_row n) (G_law_state n))
end Tw
end
section
set_option maxRecDepth 100000
set_option maxHeartbeats 4000000
/-! the draws of law k05 -/
namespace Tw
open PySem PySem.Spec PyProof.Rows L2

theorem digit_w (n : Nat) {s : A} (hs : St3 true s) {k : Int} (h0 : 0 < k) (h1 : k < 1073741824) : WP (G_law_digit n s [.int k]) fun y => ∃ r : Int, y.1 = .d (.int r) ∧ 0 ≤ r ∧ r < k ∧ St3 true y.2 := by
  obtain ⟨x, y, z, rfl, hy0, hy1⟩ := hs
  unfold G_law_digit
  rw [WP_run1]
  unfold S_law_digit
  simp
  refine ⟨fun _ => ⟨h0, ⟨h0, h1⟩, Int.emod_nonneg _ (by omega), Int.emod_lt_of_pos _ h0, _, _, _, rfl, hy0, hy1⟩, fun _ => ⟨.inl (by omega), h0, Int.emod_nonneg _ (by omega), Int.emod_lt_of_pos _ h0, _, _, _, rfl, ?_, ?_⟩⟩
  · have := Int.emod_nonneg (y * (y / 1009 + 69621) + z) (show (2147483629 : Int) ≠ 0 by omega); omega
  · have := Int.emod_lt_of_pos (y * (y / 1009 + 69621) + z) (show (0 : Int) < 2147483629 by omega); omega
theorem state_w (n : Nat) (i : Int) : WP (G_law_state n [.int i]) fun r => St3 false r := by
  unfold G_law_state
  rw [WP_run0]
  unfold S_law_state
  simp
  generalize (if i < 0 then -i else i) = j
  refine ⟨.inr ?_, _, _, _, rfl, ?_, ?_⟩
  · split <;> omega
  · have := Int.emod_nonneg j (show (2147483629 : Int) ≠ 0 by omega); omega
  · have := Int.emod_lt_of_pos j (show (0 : Int) < 2147483629 by omega); omega
theorem atom_w (n : Nat) {s : A} (hs : St3 true s) : WP (G_law_atom n s []) fun y => ∃ d, y.1 = .d d ∧ atomB d = true ∧ SmD d ∧ St3 true y.2 := by
  obtain ⟨x, y, z, rfl, hy⟩ := hs
  unfold G_law_atom
  rw [WP_run1]
  unfold S_law_atom
  simp
  refine (digit_w n ⟨x, y, z, rfl, hy⟩ (by omega) (by omega)).mono ?_
  rintro ⟨_, _⟩ ⟨r, rfl, h0, h1, x, y, z, rfl, hy⟩
  simp
  refine WP_atI h0 (by simpa using h1) fun d hd => ?_
  simp only [List.mem_cons, List.not_mem_nil, or_false] at hd
  refine ⟨?_, ?_, _, _, _, rfl, hy⟩
  · rcases hd with rfl | rfl | rfl | rfl | rfl | rfl | rfl | rfl | rfl | rfl <;> rfl
  · rcases hd with rfl | rfl | rfl | rfl | rfl | rfl | rfl | rfl | rfl | rfl <;> exact ⟨_, rfl, by first | (simp only [PyData.showable, PyData.showableAll]; done) | (simp only [PyData.showable, PyData.showableAll]; decide +kernel), by first | (simp only [PyData.shown, PyData.shownAll]; done) | (simp only [PyData.shown, PyData.shownAll]; decide +kernel), by first | (simp only [PyData.depth, PyData.depthAll]; done) | (simp only [PyData.depth, PyData.depthAll]; decide)⟩
end Tw
end
section
set_option maxRecDepth 100000
set_option maxHeartbeats 4000000
/-! patches and rows of law k05 -/
namespace Tw
open PySem PySem.Spec PyProof.Rows L2

def abc : List Str := ["a", "b", "c"]
def pmax : Nat → Nat
  | 0 => 1
  | m + 1 => 1 + 2 * pmax m
theorem sum_le {α : Type} {f : α → Nat} {c : Nat} : ∀ {l : List α}, (∀ x ∈ l, f x ≤ c) → (l.map f).sum ≤ l.length * c
  | [], _ => by simp
  | x :: r, h => by
    rw [List.map_cons, List.sum_cons, List.length_cons, Nat.add_mul]
    have := h x List.mem_cons_self
    have := sum_le (l := r) fun y hy => h y (List.mem_cons_of_mem _ hy)
    omega
theorem pmax_pos : ∀ m, 1 ≤ pmax m
  | 0 => Nat.le_refl 1
  | m + 1 => by simp [pmax]
/-- the members of a drawn patch -/
structure MsOk (m : Nat) (ms : List (Str × D)) : Prop where
  nd : ND ms
  hk : ∀ p ∈ ms, p.1 ∈ abc
  hm : ∀ p ∈ ms, DocK abc m p.2
  hp : ∀ p ∈ ms, prtD p.2 ≤ pmax m
  ha : ∀ p ∈ ms, AtT SmD (den p.2)
theorem MsOk.set {m : Nat} {ms : List (Str × D)} (h : MsOk m ms) {k : Str} {v : D} (hk : k ∈ abc) (hv : DocK abc m v) (hp : prtD v ≤ pmax m) (ha : AtT SmD (den v)) : MsOk m (setE ms k v) :=
  ⟨set_nd h.nd, fun p hp => (set_mem hp).elim (h.hk p) fun e => by rw [e]; exact hk, fun p hp => (set_mem hp).elim (h.hm p) fun e => by rw [e]; exact hv, fun p hq => (set_mem hq).elim (h.hp p) fun e => by rw [e]; exact hp, fun p hq => (set_mem hq).elim (h.ha p) fun e => by rw [e]; exact ha⟩
theorem at_atom {d : D} (h : atomB d = true) (k : SmD d) : AtT SmD (den d) := by
  rw [den_nodic (atomB_nodic h)]
  exact .atom k
theorem sml_non : SmD .non := ⟨.none, rfl, by simp [PyData.showable], by simp only [PyData.shown]; decide +kernel, by simp [PyData.depth]⟩
theorem atom_at (m : Nat) {n : Nat} {s : A} (hs : St3 true s) : WP (G_law_atom n s []) fun y => y.2.bor = true ∧ (A.mark true y.2).bor = true ∧ ∃ d, y.1.toD = some d ∧ y.1.bor = false ∧ DocK abc m d ∧ prtD d ≤ pmax m ∧ AtT SmD (den d) ∧ St3 true (A.mark true y.2) :=
  (atom_w n hs).mono fun ⟨v, t⟩ ⟨d, e, h1, h2, h3⟩ => by
    cases e
    refine ⟨h3.bor, h3.mark.bor, d, rfl, rfl, .atom h1, ?_, at_atom h1 h2, h3.mark⟩
    have := pmax_pos m
    cases d <;> first | (cases h1; done) | (simp [prtD]; omega)
theorem patch_w : ∀ (m : Nat) (f : Nat) {s : A}, m < f → St3 true s → WP (G_law_patch f s [.int (m : Int)]) fun y => ∃ d, y.1.toD = some d ∧ y.1.bor = false ∧ DocK abc m d ∧ prtD d ≤ pmax m ∧ AtT SmD (den d) ∧ St3 true y.2 := by
  intro m
  induction m with
  | zero =>
    intro f s hf hs
    obtain ⟨f, rfl⟩ : ∃ g, f = g + 1 := ⟨f - 1, by omega⟩
    obtain ⟨x, y, z, rfl, hy⟩ := hs
    show WP (run1 5 2 _ _ _) _
    rw [WP_run1]
    unfold S_law_patch
    simp
    refine (digit_w f ⟨x, y, z, rfl, hy⟩ (by omega) (by omega)).mono ?_
    rintro ⟨_, _⟩ ⟨r, rfl, h0, h1, x, y, z, rfl, hy⟩
    simp
    exact ⟨fun _ => ⟨.atom rfl, Nat.le_refl 1, at_atom rfl sml_non, x, y, z, rfl, hy⟩, fun _ => atom_at 0 ⟨x, y, z, rfl, hy⟩⟩
  | succ m ih =>
    intro f s hf hs
    obtain ⟨f, rfl⟩ : ∃ g, f = g + 1 := ⟨f - 1, by omega⟩
    obtain ⟨x, y, z, rfl, hy⟩ := hs
    show WP (run1 5 2 _ _ _) _
    rw [WP_run1]
    unfold S_law_patch
    simp
    refine (digit_w f ⟨x, y, z, rfl, hy⟩ (by omega) (by omega)).mono ?_
    rintro ⟨_, _⟩ ⟨r, rfl, h0, h1, x, y, z, rfl, hy⟩
    simp
    refine ⟨fun _ => ⟨.atom rfl, by have := pmax_pos (m + 1); simpa [prtD] using this, at_atom rfl sml_non, x, y, z, rfl, hy⟩, fun _ => ⟨fun _ => atom_at _ ⟨x, y, z, rfl, hy⟩, fun _ => ⟨fun _ => atom_at _ ⟨x, y, z, rfl, hy⟩, fun _ => ?_⟩⟩⟩
    refine (digit_w f ⟨x, y, z, rfl, hy⟩ (by omega) (by omega)).mono ?_
    rintro ⟨_, _⟩ ⟨q, rfl, h2, h3, x, y, z, rfl, hy⟩
    simp
    refine ⟨⟨by omega, by omega⟩, loop_inv (fun pre ρ => ∃ x y z ms, ρ = [some (stV true x y z), some (A.d (D.int (↑m + 1))), some (A.d (D.int r)), some (A.k false (dctE ms)), none] ∧ (0 ≤ y ∧ y < 4294967296) ∧ MsOk m ms ∧ ms.length ≤ pre.length)
      ⟨x, y, z, [], rfl, hy, ⟨nd_nil, by simp, by simp, by simp, by simp⟩, by simp⟩ ?_ ?_⟩
    · rintro pre d suf _ hds ⟨x, y, z, ms, rfl, hy, ok, hl⟩
      simp
      refine (ih f (by omega) ⟨x, y, z, rfl, hy⟩).mono ?_
      rintro ⟨v, _⟩ ⟨e, h4, h5, h6, h7, h10, x, y, z, rfl, hy⟩
      simp [h4]
      refine (digit_w f ⟨x, y, z, rfl, hy⟩ (by omega) (by omega)).mono ?_
      rintro ⟨_, _⟩ ⟨t, rfl, h8, h9, x, y, z, rfl, hy⟩
      simp
      refine WP_atI h8 (by simpa using h9) fun d hd => ?_
      have : ∃ k, d = .str k ∧ k ∈ abc := by
        simp only [List.mem_cons, List.not_mem_nil, or_false] at hd
        rcases hd with rfl | rfl | rfl <;> exact ⟨_, rfl, by simp [abc]⟩
      obtain ⟨k, rfl, hka⟩ := this
      have hlen : pre.length < 3 := by
        have := congrArg List.length hds
        rw [rngL_len] at this
        simp at this
        omega
      simp
      exact ⟨by omega, x, y, z, setE ms k e, ⟨rfl, rfl⟩, hy, ok.set hka h6 h7 h10, by have := set_len (ms := ms) (k := k) (v := e); omega⟩
    · rintro _ ⟨x, y, z, ms, rfl, hy, ok, hl⟩
      simp
      refine ⟨.dic ok.nd ok.hk ok.hm, ?_, at_den ok.ha, x, y, z, rfl, hy⟩
      show 1 + prtK (dctE ms) ≤ 1 + 2 * pmax m
      rw [← prtK_sum]
      have h5 := sum_le ok.hp
      rw [rngL_len] at hl
      have : ms.length * pmax m ≤ 2 * pmax m := Nat.mul_le_mul_right _ (by omega)
      omega
end Tw
end
section
set_option maxRecDepth 100000
set_option maxHeartbeats 4000000
/-! rows of law k05 -/
namespace Tw
open PySem PySem.Spec PyProof.Rows L2

/-- the patches of a drawn row -/
structure Ps (m : Nat) (xs : List D) : Prop where
  doc : ∀ x ∈ xs, DocK abc m x
  prt : ∀ x ∈ xs, prtD x ≤ pmax m
  atm : ∀ x ∈ xs, AtT SmD (den x)
section
variable {m : Nat}
theorem Ps.nil : Ps m [] := ⟨by simp, by simp, by simp⟩
theorem Ps.sub {xs ys : List D} (h : Ps m xs) (hs : ∀ y ∈ ys, y ∈ xs) : Ps m ys := ⟨fun y hy => h.doc y (hs y hy), fun y hy => h.prt y (hs y hy), fun y hy => h.atm y (hs y hy)⟩
theorem Ps.app {xs ys : List D} (h : Ps m xs) (k : Ps m ys) : Ps m (xs ++ ys) := ⟨fun y hy => (List.mem_append.mp hy).elim (h.doc y) (k.doc y), fun y hy => (List.mem_append.mp hy).elim (h.prt y) (k.prt y), fun y hy => (List.mem_append.mp hy).elim (h.atm y) (k.atm y)⟩
theorem Ps.one {x : D} (h1 : DocK abc m x) (h2 : prtD x ≤ pmax m) (h3 : AtT SmD (den x)) : Ps m [x] := ⟨fun y hy => by rw [List.mem_singleton.mp hy]; exact h1, fun y hy => by rw [List.mem_singleton.mp hy]; exact h2, fun y hy => by rw [List.mem_singleton.mp hy]; exact h3⟩
theorem Ps.hgts {xs : List D} (h : Ps m xs) (hm : m ≤ 8) : hgts xs < 100 := Nat.lt_of_le_of_lt (hgts_le (n := 9) fun d hd => Nat.le_trans (hgt_doc ((h.doc d hd).doc (by simp [abc]))) (by omega)) (by omega)
theorem neG_nil {xs : List D} (h : hgts xs < 100) : neG (.lst xs) (.lst []) = some (.d (.bl (!xs.isEmpty))) := by
  unfold neG
  rw [if_pos (by simp [hgt]; omega)]
  cases xs with
  | nil => simp [eqO, eqOs]
  | cons x r => simp [eqO]
theorem row_w (hm8 : m ≤ 8) {f : Nat} (hf : m < f) {s : A} (hs : St3 true s) : WP (G_law_row f s [.int 29, .int (m : Int)]) fun y => ∃ xs, y.1 = .l false xs ∧ Ps m xs ∧ xs.length ≤ 28 ∧ St3 true y.2 := by
  obtain ⟨x, y, z, rfl, hy⟩ := hs
  unfold G_law_row
  rw [WP_run1]
  unfold S_law_row
  simp
  refine (digit_w f ⟨x, y, z, rfl, hy⟩ (by omega) (by omega)).mono ?_
  rintro ⟨_, _⟩ ⟨r, rfl, h0, h1, x, y, z, rfl, hy⟩
  simp
  refine ⟨⟨by omega, by omega⟩, loop_inv (fun pre ρ => ∃ x y z xs, ρ = [some (stV true x y z), some (A.d (D.int 29)), some (A.d (D.int (m : Int))), some (A.l false xs), none] ∧ (0 ≤ y ∧ y < 4294967296) ∧ Ps m xs ∧ xs.length ≤ pre.length)
      ⟨x, y, z, [], rfl, hy, Ps.nil, by simp⟩ ?_ ?_⟩
  · rintro pre d suf _ hds ⟨x, y, z, xs, rfl, hy, ps, hl⟩
    have hlen : pre.length < 29 := by
      have := congrArg List.length hds
      rw [rngL_len] at this
      simp at this
      omega
    simp [neG_nil (ps.hgts hm8)]
    refine ⟨fun hne => ?_, fun he => ?_⟩
    · refine (digit_w f ⟨x, y, z, rfl, hy⟩ (by omega) (by omega)).mono ?_
      rintro ⟨_, _⟩ ⟨r2, rfl, h2, h3, x, y, z, rfl, hy⟩
      simp
      refine ⟨fun _ => ?_, fun _ => ?_⟩
      · have hp : 0 < xs.length := List.length_pos_iff.mpr hne
        refine (digit_w f ⟨x, y, z, rfl, hy⟩ (by omega) (by omega)).mono ?_
        rintro ⟨_, _⟩ ⟨r3, rfl, h4, h5, x, y, z, rfl, hy⟩
        simp
        refine WP_atI h4 h5 fun d hd => ?_
        exact ⟨fun _ => ⟨x, y, z, xs ++ [d], ⟨rfl, rfl⟩, hy, ps.app (ps.sub (by simpa using hd)), by simp; omega⟩, by omega⟩
      · refine (patch_w m f hf ⟨x, y, z, rfl, hy⟩).mono ?_
        rintro ⟨v, _⟩ ⟨e, h4, h5, h6, h7, h10, x, y, z, rfl, hy⟩
        simp [h4]
        exact ⟨fun _ => ⟨x, y, z, xs ++ [e], ⟨rfl, rfl⟩, hy, ps.app (.one h6 h7 h10), by simp; omega⟩, by omega⟩
    · refine (patch_w m f hf ⟨x, y, z, rfl, hy⟩).mono ?_
      rintro ⟨v, _⟩ ⟨e, h4, h5, h6, h7, h10, x, y, z, rfl, hy⟩
      simp [h4]
      exact ⟨fun _ => ⟨x, y, z, xs ++ [e], ⟨rfl, rfl⟩, hy, ps.app (.one h6 h7 h10), by simp; omega⟩, by omega⟩
  · rintro _ ⟨x, y, z, xs, rfl, hy, ps, hl⟩
    rw [rngL_len] at hl
    simp
    exact ⟨ps, by omega, x, y, z, rfl, hy⟩
theorem cut_mem {α : Type} {xs : List α} {lo hi : Option Int} {x : α} (h : x ∈ cutD xs lo hi) : x ∈ xs := List.mem_of_mem_drop (List.mem_of_mem_take h)
theorem cut_len {α : Type} (xs : List α) (lo hi : Option Int) : (cutD xs lo hi).length ≤ xs.length := by
  unfold cutD
  rw [List.length_take, List.length_drop]
  omega
theorem Ps.cut {xs : List D} (h : Ps m xs) (lo hi : Option Int) : Ps m (cutD xs lo hi) := h.sub fun _ hy => cut_mem hy
theorem Ps.rev {xs : List D} (h : Ps m xs) : Ps m xs.reverse := h.sub fun _ hy => List.mem_reverse.mp hy
end
end Tw
end
section
set_option maxRecDepth 100000
set_option maxHeartbeats 4000000
/-! law k30: running a row by the law's own rules -/
namespace Tw
open PySem PySem.Spec PyProof.Rows L2

@[simp] theorem thaw_toP (d : D) : (thaw d).toP = some d := by cases d <;> rfl
@[simp] theorem thaw_toPT (d : D) : (thaw d).toPT = some d := by cases d <;> rfl
theorem copied_w : ∀ {m n : Nat} {d : D}, Doc n d → n < m → WP (G_law_copied m [d]) fun r => r = thaw d
  | 0, n, d, _, h => absurd h (Nat.not_lt_zero _)
  | m + 1, n, d, hd, hm => by
    show WP (run0 2 1 _ _) _
    rw [WP_run0]
    unfold S_law_copied
    cases hd with
    | atom h =>
      cases d <;> first | (cases h; done) | (simp [thaw]; done)
    | @dic n' ms h64 nd hmm =>
      simp
      refine lc_map (fun d => match d with | .str k => pairE (k, (lkE ms k).getD .non) | _ => .non) (fun d hd => ?_) (by simp; omega) ?_
      · obtain ⟨p, hp, rfl⟩ := List.mem_map.mp hd
        have hl := lkE_find nd hp
        simp [hl]
        refine (copied_w (m := m) (hmm p hp) (by omega)).mono fun r h1 => ?_
        subst h1
        simp [pairE]
      · have : (ms.map fun p => D.str p.1).map (fun d => match d with | .str k => pairE (k, (lkE ms k).getD .non) | _ => .non) = ms.map pairE := by
          rw [List.map_map]
          refine List.map_congr_left fun p hp => ?_
          simp [lkE_find nd hp, pairE]
        rw [this, WP_dictD nd]
theorem after_loop {ks : List Str} (h32 : ks.length < 32) {m n : Nat} {pms : List (Str × D)} (nd : ND pms) (hk : ∀ p ∈ pms, p.1 ∈ ks) (hmm : ∀ p ∈ pms, DocK ks n p.2)
    (ih : ∀ {d p : D}, DocK ks n d → DocK ks n p → WP (G_law_after m [d, p]) fun r => ∃ e, r.toD = some e ∧ r.bor = false ∧ (r.toP = some e ∧ r.toPT = some e) ∧ DocK ks n e ∧ den e = act (effR (den p)) (den d))
    {d0 : D} {ms0 : List (Str × D)} {f0 : Str → T} (h0 : MInv ks n f0 pms [] ms0) {Q : Out × Ro → Prop} (q : ∀ ms, MInv ks n f0 pms (pms.map (·.1)) ms → Q (.nx, [some (.d d0), some (.d (.dic (dctE pms))), some (.k false (dctE ms)), none, none])) :
    WP (loopS (nameG 3) (ifS (asB (bin (.ev (bin (.pk 1) (.pk 3) ixX)) (.ev (cst .non)) notN)) (stS 2 (.pk 3) (cal0 [(.ev (getE (.pk 2) (.pk 3))), (.ev (bin (.pk 1) (.pk 3) ixX))] (G_law_after m))) (ifS (asB (bin (.pk 3) (.pk 2) (inK false))) (setS 2 (app [(.ev (lcD 2 mKeys (nameG 4) (asB (bin (.pk 4) (.pk 3) neS)) (tupE [(.ev (var 4)), (.ev (bin (.pk 2) (.pk 4) ixX))]) [4]))] dictD)) nxS)) [3, 4] (pms.map fun p => D.str p.1) [some (.d d0), some (.d (.dic (dctE pms))), some (.k false (dctE ms0)), none, none]) Q := by
  refine loop_inv (fun pre ρ => ∃ (l : List (Str × D)) (ms : List (Str × D)), pre = l.map (fun p => D.str p.1) ∧ ρ = [some (.d d0), some (.d (.dic (dctE pms))), some (.k false (dctE ms)), none, none] ∧ MInv ks n f0 pms (l.map (·.1)) ms) ⟨[], ms0, rfl, rfl, h0⟩ ?_ ?_
  · rintro pre d suf _ hds ⟨l, ms, rfl, rfl, inv⟩
    obtain ⟨l1, p, l2, e1, e2, rfl, rfl⟩ := map_split hds
    have el : l.map (·.1) = l1.map (·.1) := by
      have : (l.map fun p => D.str p.1).map (fun d => match d with | .str k => k | _ => "") = (l1.map fun p => D.str p.1).map (fun d => match d with | .str k => k | _ => "") := by rw [e2]
      simpa [Function.comp_def] using this
    obtain ⟨hl, hpre⟩ := split_key nd e1
    rw [← el] at hpre
    have hp : p ∈ pms := by rw [e1]; simp
    have next : ∀ ms', MInv ks n f0 pms (l.map (·.1) ++ [p.1]) ms' → ∃ l' : List (Str × D), l.map (fun p => D.str p.1) ++ [D.str p.1] = l'.map (fun p => D.str p.1) ∧ ∃ ms : List (Str × D), dctE ms' = dctE ms ∧ MInv ks n f0 pms (l'.map (·.1)) ms := fun ms' h => ⟨l ++ [p], by simp, ms', rfl, by rw [List.map_append]; exact h⟩
    have hms : ms.length < 16777216 := by have := len_ks inv.nd inv.hk; omega
    simp [hl]
    refine ⟨fun hn => ?_, fun hn => ⟨fun hs => ?_, fun hs => ?_⟩⟩
    · refine (ih (get_doc inv p.1) (hmm p hp)).mono ?_
      rintro r ⟨e, h1, h2, _, h3, h4⟩
      simp [h1, hms]
      exact next _ (inv.put hl (by rw [← nonD_nonB]; exact hn) hpre (hk p hp) h3 h4)
    · refine lc_filt (fun d => match d with | .str k => decide (k ≠ p.1) | _ => false) (fun d => match d with | .str k => pairE (k, (lkE ms k).getD .non) | _ => .non) (fun d hd => ?_) (by simp; omega) ?_
      · obtain ⟨q, hq, rfl⟩ := List.mem_map.mp hd
        have hlq := lkE_find inv.nd hq
        simp [hlq]
        exact fun _ => rfl
      · have hf : ((ms.map fun p => D.str p.1).filter fun d => match d with | .str k => decide (k ≠ p.1) | _ => false).map (fun d => match d with | .str k => pairE (k, (lkE ms k).getD .non) | _ => .non) = (delE ms p.1).map pairE := by
          rw [List.filter_map, List.map_map]
          unfold delE
          refine List.map_congr_left fun q hq => ?_
          have := lkE_find inv.nd (List.mem_filter.mp hq).1
          simp [this, pairE]
        rw [hf]
        show WP (dictD [.lst ((delE ms p.1).map pairE)]) _
        rw [WP_dictD (del_nd inv.nd)]
        simp
        exact next _ (inv.del hl (by rw [← nonD_nonB]; exact hn))
    · exact next _ (inv.skip hl (by rw [← nonD_nonB]; exact hn) hs)
  · rintro _ ⟨l, ms, e, rfl, inv⟩
    have el : l.map (·.1) = pms.map (·.1) := by
      have : (l.map fun p => D.str p.1).map (fun d => match d with | .str k => k | _ => "") = (pms.map fun p => D.str p.1).map (fun d => match d with | .str k => k | _ => "") := by rw [e]
      simpa [Function.comp_def] using this
    rw [el] at inv
    exact q ms inv
theorem after_w {ks : List Str} (h32 : ks.length < 32) : ∀ {m n : Nat} {d p : D}, DocK ks n d → DocK ks n p → n + 1 < m → WP (G_law_after m [d, p]) fun r => ∃ e, r.toD = some e ∧ r.bor = false ∧ (r.toP = some e ∧ r.toPT = some e) ∧ DocK ks n e ∧ den e = act (effR (den p)) (den d)
  | 0, n, d, p, _, _, h => absurd h (Nat.not_lt_zero _)
  | m + 1, n, d, p, hd, hp, hm => by
    show WP (run0 5 2 _ _) _
    rw [WP_run0]
    unfold S_law_after
    cases hp with
    | atom h =>
      obtain ⟨t, ht, hs⟩ := atomB_ty h
      simp [ht, hs]
      refine (copied_w (m := m) (.atom (n := 0) h) (by omega)).mono fun r h1 => ?_
      subst h1
      simp
      exact ⟨.atom h, by rw [den_nodic (atomB_nodic h)]; rfl⟩
    | @dic n pms nd hk hmm =>
      have fin : ∀ (f0 : Str → T) (ms : List (Str × D)), MInv ks n f0 pms (pms.map (·.1)) ms → (∀ k, f0 k = (den d).ch k) → DocK ks (n + 1) (.dic (dctE ms)) ∧ den (.dic (dctE ms)) = act (effR (den (.dic (dctE pms)))) (den d) := fun f0 ms inv hf => by
        refine ⟨.dic inv.nd inv.hk inv.hm, ?_⟩
        rw [inv.fin, den_dct]
        show T.obj _ = T.obj _
        congr 1
        funext k
        rw [hf k]
      have ih : ∀ {d p : D}, DocK ks n d → DocK ks n p → WP (G_law_after m [d, p]) fun r => ∃ e, r.toD = some e ∧ r.bor = false ∧ (r.toP = some e ∧ r.toPT = some e) ∧ DocK ks n e ∧ den e = act (effR (den p)) (den d) := fun hd hp => after_w h32 hd hp (by omega)
      cases hd with
      | atom h =>
        obtain ⟨t, ht, hs⟩ := atomB_ty h
        simp [ht, hs]
        refine after_loop h32 nd hk hmm ih (ms0 := []) (f0 := fun _ => .miss) (MInv.start nd_nil (by simp) (by simp) fun k => rfl) fun ms inv => ?_
        simp
        exact fin _ ms inv fun k => by rw [den_nodic (atomB_nodic h)]; rfl
      | @dic _ ms0 nd0 hk0 hm0 =>
        simp
        refine (copied_w (m := m) ((DocK.dic nd0 hk0 hm0).doc h32) (by omega)).mono fun r h1 => ?_
        subst h1
        refine after_loop h32 nd hk hmm ih (ms0 := ms0) (f0 := fun k => denO (lkE ms0 k)) (MInv.start nd0 hk0 hm0 fun k => rfl) fun ms inv => ?_
        simp
        exact fin _ ms inv fun k => by rw [den_dct]; rfl
theorem run_w {ks : List Str} (h32 : ks.length < 32) {m n : Nat} (hm : n + 1 < m) {d : D} {xs : List D} (hd : DocK ks n d) (hx : ∀ x ∈ xs, DocK ks n x) : WP (G_law_run m [d, .lst xs]) fun r => ∃ e, r.toD = some e ∧ r.bor = false ∧ (r.toP = some e ∧ r.toPT = some e) ∧ DocK ks n e ∧ den e = runT (den d) (xs.map den) := by
  unfold G_law_run
  rw [WP_run0]
  unfold S_law_run
  simp
  refine loop_inv (fun pre ρ => ∃ a e, ρ = [some a, some (.d (.lst xs)), none] ∧ a.toD = some e ∧ a.bor = false ∧ (a.toP = some e ∧ a.toPT = some e) ∧ DocK ks n e ∧ den e = runT (den d) (pre.map den)) ⟨_, d, rfl, rfl, rfl, ⟨rfl, rfl⟩, hd, rfl⟩ ?_ ?_
  · rintro pre x suf _ hds ⟨a, e, rfl, h1, h2, hP, h3, h4⟩
    have hxm : x ∈ xs := by rw [hds]; simp
    simp [h1]
    refine (after_w h32 h3 (hx x hxm) hm).mono ?_
    rintro r ⟨e', g1, g2, gP, g3, g4⟩
    simp [g2]
    refine ⟨e', g1, gP, g3, ?_⟩
    rw [g4, h4]
    unfold runT
    rw [List.foldl_append]
    rfl
  · rintro _ ⟨a, e, rfl, h1, h2, hP, h3, h4⟩
    simp [h2]
    exact ⟨e, h1, hP, h3, h4⟩
end Tw
end
section
set_option maxRecDepth 100000
set_option maxHeartbeats 4000000
/-! changes inside a document; law k05 -/
namespace Tw
open PySem PySem.Spec PyProof.Rows L2

theorem listD_dct (ms : List (Str × D)) : listD [.dic (dctE ms)] = some (.l false (ms.map fun p => D.str p.1)) := by
  have : listD [.dic (dctE ms)] = some (.l false (mKeys (dctE ms))) := rfl
  rw [this, mKeys_dct]
def rep1 (ms : List (Str × D)) (k : Str) (v : D) : List (Str × D) := ms.map fun p => if p.1 = k then (p.1, v) else p
theorem replD_dct (ms : List (Str × D)) (k : Str) (v : D) : replD (dctE ms) (.inr k) v = dctE (rep1 ms k v) := by
  unfold replD rep1 dctE
  rw [List.map_map, List.map_map]
  refine List.map_congr_left fun p _ => ?_
  by_cases h : p.1 = k <;> simp [h]
theorem rep1_keys (ms : List (Str × D)) (k : Str) (v : D) : (rep1 ms k v).map (·.1) = ms.map (·.1) := by
  unfold rep1
  rw [List.map_map]
  refine List.map_congr_left fun p _ => ?_
  by_cases h : p.1 = k <;> simp [h]
theorem rep1_mem {ms : List (Str × D)} {k : Str} {v : D} {p : Str × D} (h : p ∈ rep1 ms k v) (hk : p.1 ≠ k) : p ∈ ms := by
  obtain ⟨q, hq, rfl⟩ := List.mem_map.mp h
  by_cases e : q.1 = k
  · rw [if_pos e] at hk; exact absurd e hk
  · rw [if_neg e]; exact hq
theorem spoil_w : ∀ {m n : Nat} {d : D}, Doc n d → n < m → WP (G_law_spoil m (.t true d) []) fun z => ∃ d', z = (.d .non, .t true d')
  | 0, n, d, _, h => absurd h (Nat.not_lt_zero _)
  | m + 1, n, d, hd, hm => by
    show WP (run1 2 1 _ _ _) _
    rw [WP_run1]
    unfold S_law_spoil
    cases hd with
    | atom h =>
      rcases atom_cases h with hp | ⟨xs, rfl⟩
      · cases d <;> first | (cases hp; done) | (simp; done)
      · have hx := (atom_lst h).2
        simp
        omega
    | @dic n' ms h64 nd hmm =>
      simp [listD_dct]
      refine loop_inv (fun pre ρ => ∃ (l : List (Str × D)) (ms' : List (Str × D)), pre = l.map (fun p => D.str p.1) ∧ ρ = [some (.t true (.dic (dctE ms'))), none] ∧ ms'.map (·.1) = ms.map (·.1) ∧ ∀ p ∈ ms', p.1 ∉ l.map (·.1) → p ∈ ms) ⟨[], ms, rfl, rfl, rfl, fun _ h _ => h⟩ ?_ ?_
      · rintro pre d suf _ hds ⟨l, ms', rfl, rfl, hk, hin⟩
        obtain ⟨l1, p, l2, e1, e2, rfl, rfl⟩ := map_split hds
        have el : l.map (·.1) = l1.map (·.1) := by
          have : (l.map fun p => D.str p.1).map (fun d => match d with | .str k => k | _ => "") = (l1.map fun p => D.str p.1).map (fun d => match d with | .str k => k | _ => "") := by rw [e2]
          simpa [Function.comp_def] using this
        obtain ⟨hl, hpre⟩ := split_key nd e1
        have hp : p ∈ ms := by rw [e1]; simp
        have nd' : ND ms' := by unfold ND; rw [hk]; exact nd
        have hpk : p.1 ∈ ms'.map (·.1) := by rw [hk]; exact List.mem_map_of_mem hp
        obtain ⟨x, hx⟩ := lkE_some hpk
        have hxm := hin _ (lkE_mem hx) (by rw [el]; exact hpre)
        simp [hx]
        refine ⟨keys_nd nd', (spoil_w (m := m) (hmm _ hxm) (by omega)).mono ?_⟩
        rintro _ ⟨d', rfl⟩
        simp [replD_dct]
        have fin : ∀ q ∈ rep1 ms' p.1 d', q.1 ∉ (l ++ [p]).map (·.1) → q ∈ ms := fun q hq hn => by
          rw [List.map_append, List.mem_append] at hn
          have hne : q.1 ≠ p.1 := fun e => hn (.inr (by rw [e]; simp))
          exact hin _ (rep1_mem hq hne) fun hm => hn (.inl hm)
        have keys := (rep1_keys ms' p.1 d').trans hk
        refine ⟨l ++ [p], by simp, rep1 ms' p.1 d', rfl, keys, ?_⟩
        intro a b hab hn
        refine fin (a, b) hab fun hm => ?_
        obtain ⟨q, hq, e⟩ := List.mem_map.mp hm
        have e : q.1 = a := e
        subst e
        rcases List.mem_append.mp hq with h | h
        · exact hn q.2 (by simp [h])
        · exact hn q.2 (by simp [List.mem_singleton.mp h])
      · rintro _ ⟨l, ms', e, rfl, hk, hin⟩
        have hl : ms'.length = ms.length := by simpa using congrArg List.length hk
        have nd' : ND ms' := by unfold ND; rw [hk]; exact nd
        simp [put_dct]
        exact ⟨by simpa [dctE] using (by omega : ms'.length < 16777216), keys_nd nd'⟩

end Tw
end
section
set_option maxRecDepth 100000
set_option maxHeartbeats 4000000
/-! law k05 holds -/
namespace Tw
open PySem PySem.Spec PyProof.Rows L2

theorem abc32 : abc.length < 32 := by simp [abc]
theorem abc_short : ∀ k ∈ abc, (reprText k).length ≤ 8 := by
  intro k hk
  simp only [abc, List.mem_cons, List.not_mem_nil, or_false] at hk
  rcases hk with rfl | rfl | rfl <;> decide +kernel
theorem sum_cap {xs : List D} (h : ∀ x ∈ xs, prtD x ≤ 7) (hl : xs.length ≤ 28) : (xs.map prtD).sum ≤ 200 := by
  have := sum_le h
  have : xs.length * 7 ≤ 28 * 7 := Nat.mul_le_mul_right _ hl
  omega
theorem row3 {xs : List D} (h : Ps 2 xs) (hl : xs.length ≤ 28) : Row abc 3 xs := ⟨fun x hx => (h.doc x hx).mono (by omega), sum_cap (fun x hx => h.prt x hx) hl⟩
theorem again (t : T) (xs ys : List T) (h : ∀ x ∈ xs, x ∈ ys) : runT t (xs ++ ys) = runT t ys := cover_all h t
theorem part_mem {xs : List D} {x : D} (h : x ∈ cutD xs none (some 14)) : x ∈ xs := cut_mem h
theorem part_len (xs : List D) : (cutD xs none (some 14)).length ≤ 14 := by
  have h : HT.sIx xs.length xs.length (some 14) = min 14 xs.length := HT.sIx_nat _ _ 14
  unfold cutD
  rw [List.length_take, List.length_drop, h]
  omega
def pcap : Nat → Nat
  | 0 => 1
  | n + 1 => 1 + 3 * pcap n
theorem pcap_pos : ∀ n, 1 ≤ pcap n
  | 0 => Nat.le_refl 1
  | n + 1 => by simp [pcap]
theorem prt_doc {n : Nat} {d : D} (h : DocK abc n d) : prtD d ≤ pcap n := by
  induction h with
  | @atom n d h =>
    have := pcap_pos n
    cases d <;> first | (cases h; done) | (simp [prtD]; omega)
  | @dic n ms nd hk hm ih =>
    show 1 + prtK (dctE ms) ≤ 1 + 3 * pcap n
    rw [← prtK_sum]
    have h5 := sum_le ih
    have hl : ms.length ≤ 3 := len_ks nd hk
    have : ms.length * pcap n ≤ 3 * pcap n := Nat.mul_le_mul_right _ hl
    omega
theorem law_true (ns : List Int) (h : ns.length ≤ 63) : G_law 16 [.lst (ns.map .int)] = some (.d (.bl true)) := by
  have key : WP (G_law 16 [.lst (ns.map .int)]) fun r => r = .d (.bl true) := by
    unfold G_law
    rw [WP_run0]
    unfold S_law
    simp
    refine ⟨by omega, loop_inv (fun pre ρ => ρ = [some (A.d (.lst (ns.map .int))), none, none, none, none, none, none, none, none, none, none]) rfl ?_ ?_⟩
    · rintro pre d suf _ hds rfl
      have hd : ∃ i : Int, d = .int i := by
        have : d ∈ cutD (ns.map D.int ++ [D.int 0]) none (some 4) := by rw [hds]; simp
        have := cut_mem this
        rcases List.mem_append.mp this with h | h
        · obtain ⟨i, _, rfl⟩ := List.mem_map.mp h; exact ⟨i, rfl⟩
        · exact ⟨0, List.mem_singleton.mp h⟩
      obtain ⟨i, rfl⟩ := hd
      simp
      refine (state_w 16 i).mono ?_
      rintro _ ⟨x, y, z, rfl, hy⟩
      simp
      refine (patch_w 3 16 (by omega) ⟨x, y, z, rfl, hy⟩).mono ?_
      rintro ⟨v, _⟩ ⟨d, h1, h2, hd, hdp, hda, x, y, z, rfl, hy⟩
      have hdp : prtD d ≤ 15 := hdp
      simp [h1]
      refine (row_w (m := 2) (by omega) (by omega) ⟨x, y, z, rfl, hy⟩).mono ?_
      rintro ⟨_, _⟩ ⟨xs, rfl, px, lx, x, y, z, rfl, hy⟩
      have rw3 := row3 px lx
      obtain ⟨sd, r1⟩ := repr_doc (ks := abc) (by simp [abc]) abc_short (by omega : 3 ≤ 9) hd hda
      obtain ⟨sr, r2⟩ := repr_row (ks := abc) (by simp [abc]) abc_short (by omega : 2 ≤ 4) (by omega : xs.length ≤ 200) px.doc px.atm
      simp [r1, r2]
      refine (run_w abc32 (n := 3) (by omega) hd rw3.doc).mono ?_
      rintro a ⟨due, a1, a2, ⟨a5, a6⟩, a3, a4⟩
      simp [a1, a2]
      refine (digit_w 16 ⟨x, y, z, rfl, hy⟩ (by omega) (by omega)).mono ?_
      rintro ⟨_, _⟩ ⟨r, rfl, g0, g1, x, y, z, rfl, hy⟩
      simp
      refine WP_atI g0 (by simpa using g1) fun L hL => ?_
      have hLi : itemsOf L = some xs := by
        simp only [List.mem_cons, List.not_mem_nil, or_false] at hL
        rcases hL with rfl | rfl <;> rfl
      refine (runT_w abc32 (by omega) (by omega : 3 ≤ 8) hLi hd (by omega) rw3).mono ?_
      rintro _ ⟨e, rfl, f1, f2⟩
      obtain ⟨b1, o1, w1, t1, bb1, ef1⟩ := effect_row (m := 16) (L := .lst xs) abc32 rfl (by omega) (by omega) (by omega) rw3
      have hne : effs (xs.map den) ≠ .drop := effs_ne_drop _ fun p hp => by
        obtain ⟨x, _, rfl⟩ := List.mem_map.mp hp
        exact den_ne x
      have eq1 := neG_same (f1.doc abc32) (a3.doc abc32) (by omega : 3 < 90) (f2.trans a4.symm)
      obtain ⟨kd, ka, kms, rfl⟩ := ef1.shape
      simp [w1, t1, bb1, a1, a5, a6, eq1]
      refine (callT_w abc32 ef1 (wf_effs _) hne hd (by omega) (by omega) (by omega) (by omega)).mono ?_
      rintro _ ⟨e2, rfl, f3, f4⟩
      have eq2 := neG_same (f3.doc abc32) (a3.doc abc32) (by omega : 9 < 90) (by rw [f4, act_effs, a4])
      simp [a1, a5, a6, eq1, eq2]
      have pe : prtD e ≤ 40 := prt_doc f1
      refine (runT_w (L := .lst xs) abc32 (by omega) (by omega : 3 ≤ 8) rfl f1 (by omega) rw3).mono ?_
      rintro _ ⟨e3, rfl, f5, f6⟩
      have eq3 := neG_same (f5.doc abc32) (a3.doc abc32) (by omega : 3 < 90) (by
        rw [f6, f2, a4, ← runT_append]
        exact again _ _ _ fun x h => h)
      have hpm : ∀ x ∈ cutD xs none (some 14), x ∈ xs := fun x h => cut_mem h
      have px2 := px.cut none (some 14)
      have l14 := part_len xs
      have rw4 : Row abc 3 (cutD xs none (some 14) ++ cutD xs none (some 14)) := row3 (px2.app px2) (by rw [List.length_append]; omega)
      simp [a1, a5, a6, eq3]
      refine ⟨by omega, ?_⟩
      refine (runT_w (L := .lst (cutD xs none (some 14) ++ cutD xs none (some 14))) abc32 (by omega) (by omega : 3 ≤ 8) rfl hd (by omega) rw4).mono ?_
      rintro _ ⟨e4, rfl, f7, f8⟩
      simp
      refine (run_w abc32 (n := 3) (by omega) hd fun x hx => rw3.doc x (hpm x hx)).mono ?_
      rintro b ⟨due2, c1, c2, ⟨c5, c6⟩, c3, c4⟩
      have eq4 := neG_same (f7.doc abc32) (c3.doc abc32) (by omega : 3 < 90) (by
        rw [f8, c4, List.map_append]
        exact again _ _ _ fun x h => h)
      simp [c1, eq4]
      refine (spoil_w (m := 16) (n := 3) (f1.doc abc32) (by omega)).mono ?_
      rintro _ ⟨d', rfl⟩
      simp
      refine (runT_w (L := .lst []) (xs := []) abc32 (by omega) (by omega : 3 ≤ 8) rfl hd (by omega) ⟨by simp, by simp⟩).mono ?_
      rintro _ ⟨e5, rfl, f9, f10⟩
      simp
      refine (spoil_w (m := 16) (n := 3) (f9.doc abc32) (by omega)).mono ?_
      rintro _ ⟨d'', rfl⟩
      simp [r1, r2, neG_str2]
      refine (runT_w (L := .lst xs) abc32 (by omega) (by omega : 3 ≤ 8) rfl hd (by omega) rw3).mono ?_
      rintro _ ⟨e6, rfl, f11, f12⟩
      have eq6 := neG_same (f11.doc abc32) (a3.doc abc32) (by omega : 3 < 90) (f12.trans a4.symm)
      simp [a1, a5, a6, eq6]
    · rintro _ rfl
      simp
  obtain ⟨r, e, rfl⟩ := key
  exact e
end Tw
end
section
set_option maxRecDepth 100000
set_option maxHeartbeats 4000000
namespace Tw
open PySem PySem.Spec PyProof.Rows L2
def top (i : Nat) : Stmt := PySem.Challenge.pw_twopatches_k05_rows_run.main.body.getD i (.Pass ⟨0, 0, 0, 0⟩)
abbrev st_copiedT : Stmt := (top 15)
abbrev st_mergedT : Stmt := (top 16)
abbrev st_after_allT : Stmt := (top 17)
abbrev st_parts_of : Stmt := (top 12)
abbrev st_depth_of : Stmt := (top 11)
abbrev st_is_plain : Stmt := (top 8)
abbrev st_is_atom : Stmt := (top 9)
abbrev st_wrong_path : Stmt := (top 10)
abbrev st_check : Stmt := (top 13)
abbrev st_check_row : Stmt := (top 14)
abbrev st_runT : Stmt := (top 18)
abbrev st_law_spoil : Stmt := (top 39)
abbrev st_law_copied : Stmt := (top 36)
abbrev st_law_after : Stmt := (top 37)
abbrev st_law_run : Stmt := (top 38)
abbrev st_actedT : Stmt := (top 26)
abbrev st_EffectU_callUT : Stmt := (inClass (top 20) 4)
abbrev st_EffectU_initU : Stmt := (inClass (top 20) 0)
abbrev st_drop : Stmt := (top 22)
abbrev st_of_patch : Stmt := (top 23)
abbrev st_keep : Stmt := (top 21)
abbrev st_built : Stmt := (top 24)
abbrev st_joined : Stmt := (top 25)
abbrev st_whole : Stmt := (top 27)
abbrev st_effect : Stmt := (top 28)
abbrev st_law_digit : Stmt := (top 32)
abbrev st_law_atom : Stmt := (top 33)
abbrev st_law_patch : Stmt := (top 34)
abbrev st_law_row : Stmt := (top 35)
abbrev st_law_state : Stmt := (top 31)
abbrev st_law : Stmt := (top 40)
theorem bo_abs : bootBuiltins "abs" = some (.builtin "abs") := by decide +kernel
theorem bo_all : bootBuiltins "all" = some (.builtin "all") := by decide +kernel
theorem bo_bool : bootBuiltins "bool" = some (.type "bool") := by decide +kernel
theorem bo_dict : bootBuiltins "dict" = some (.type "dict") := by decide +kernel
theorem bo_int : bootBuiltins "int" = some (.type "int") := by decide +kernel
theorem bo_len : bootBuiltins "len" = some (.builtin "len") := by decide +kernel
theorem bo_list : bootBuiltins "list" = some (.type "list") := by decide +kernel
theorem bo_max : bootBuiltins "max" = some (.builtin "max") := by decide +kernel
theorem bo_repr : bootBuiltins "repr" = some (.builtin "repr") := by decide +kernel
theorem bo_sorted : bootBuiltins "sorted" = some (.builtin "sorted") := by decide +kernel
theorem bo_str : bootBuiltins "str" = some (.type "str") := by decide +kernel
theorem bo_sum : bootBuiltins "sum" = some (.builtin "sum") := by decide +kernel
theorem bo_tuple : bootBuiltins "tuple" = some (.type "tuple") := by decide +kernel
theorem ka_bool : kitAll "bool" = true := by decide +kernel
theorem ka_dict : kitAll "dict" = true := by decide +kernel
theorem ka_int : kitAll "int" = true := by decide +kernel
theorem ka_list : kitAll "list" = true := by decide +kernel
theorem ka_str : kitAll "str" = true := by decide +kernel
theorem ka_tuple : kitAll "tuple" = true := by decide +kernel
structure Txt (K : PySem.W.Frag) (mg : Str → Option Value) : Prop where
  m_copiedT : DefT K mg "copied" st_copiedT ["value"]
  m_mergedT : DefT K mg "merged" st_mergedT ["document", "patch"]
  m_after_allT : DefT K mg "after_all" st_after_allT ["document", "row"]
  m_parts_of : DefT K mg "parts_of" st_parts_of ["value"]
  m_depth_of : DefT K mg "depth_of" st_depth_of ["value"]
  m_is_plain : DefT K mg "is_plain" st_is_plain ["value"]
  m_is_atom : DefT K mg "is_atom" st_is_atom ["value"]
  m_wrong_path : DefT K mg "wrong_path" st_wrong_path ["value", "path"]
  m_check : DefT K mg "check" st_check ["value"]
  m_check_row : DefT K mg "check_row" st_check_row ["row"]
  m_runT : DefT K mg "run" st_runT ["document", "row"]
  m_law_spoil : DefT K mg "_law_spoil" st_law_spoil ["_law_value"]
  m_law_copied : DefT K mg "_law_copied" st_law_copied ["_law_value"]
  m_law_after : DefT K mg "_law_after" st_law_after ["_law_document", "_law_patch_here"]
  m_law_run : DefT K mg "_law_run" st_law_run ["_law_document", "_law_row_here"]
  m_actedT : DefT K mg "acted" st_actedT ["one", "document"]
  m_EffectU_callUT : MetT K mg "Effect" "__call__" "Effect.__call__" st_EffectU_callUT ["self", "document"]
  m_EffectU_initU : MetT K mg "Effect" "__init__" "Effect.__init__" st_EffectU_initU ["self", "kind", "atom", "members"]
  m_drop : DefT K mg "drop" st_drop []
  m_of_patch : DefT K mg "of_patch" st_of_patch ["patch", "is_member"]
  m_keep : DefT K mg "keep" st_keep []
  m_built : DefT K mg "built" st_built ["one"]
  m_joined : DefT K mg "joined" st_joined ["first", "second"]
  m_whole : DefT K mg "whole" st_whole ["row"]
  m_effect : DefT K mg "effect" st_effect ["row"]
  m_law_digit : DefT K mg "_law_digit" st_law_digit ["_law_state_here", "_law_base"]
  m_law_atom : DefT K mg "_law_atom" st_law_atom ["_law_s"]
  m_law_patch : DefT K mg "_law_patch" st_law_patch ["_law_s", "_law_deep"]
  m_law_row : DefT K mg "_law_row" st_law_row ["_law_s", "_law_most", "_law_deep"]
  m_law_state : DefT K mg "_law_state" st_law_state ["_law_source"]
  m_law : DefT K mg "law" st_law ["_law_script"]
  b_abs : mg "abs" = none
  b_all : mg "all" = none
  b_bool : mg "bool" = none
  b_dict : mg "dict" = none
  b_int : mg "int" = none
  b_isinstance : mg "isinstance" = none
  b_len : mg "len" = none
  b_list : mg "list" = none
  b_max : mg "max" = none
  b_range : mg "range" = none
  b_repr : mg "repr" = none
  b_sorted : mg "sorted" = none
  b_str : mg "str" = none
  b_sum : mg "sum" = none
  b_tuple : mg "tuple" = none
  g_MOST_DEPTH : ∃ t, mg "MOST_DEPTH" = some (.int 8 t)
  g_MOST_PARTS : ∃ t, mg "MOST_PARTS" = some (.int 200 t)
  fl_Effect_atom : FldT K mg "Effect" "atom"
  fl_Effect_kind : FldT K mg "Effect" "kind"
  fl_Effect_members : FldT K mg "Effect" "members"
  mk_Effect : ∀ C, mg "Effect" = some (.ref C) → PySem.W.makesIn K C = true ∧ PySem.W.keepIn K (.ref C) = true
section
variable {P : Program} {w : World} {K : PySem.W.Frag} {mg : Str → Option Value} {base : Heap}
theorem hu_ofG2 {A : Around} {k : Nat} (h : Room k A) : A.units + 102 < cLine := by have := h.un; omega
theorem hu_ofG {A : Around} {k : Nat} (h : Room k A) : A.units + 101 < cLine := by have := h.un; omega
theorem sc_copiedT : FnScope ["value", "key", "member"] ["value"] (defScope st_copiedT) := ⟨rfl, rfl, rfl, by decide +kernel, rfl, by decide +kernel, by decide +kernel⟩
theorem bd_copiedT (T : Txt K mg) {k : Nat} {k0 : Nat} {F_copiedT : F0} (C_copiedT : Cal P w K mg base "copied" ["value"] (k0) F_copiedT) (h0 : k0 + 0 ≤ k) : BodyOk P w K mg base "copied" st_copiedT ["value", "key", "member"] k (S_copiedT F_copiedT) := by
  intro f cdv A outer s H E hr
  have hn := sc_copiedT.nd
  exact (b_cons (s_if (t_val (e_isi (o_pk 0) ka_dict T.b_isinstance T.b_dict bo_dict)) (b_one (s_ret (e_toT (e_dcTD rfl hn (d_items 0) (own := [("key", 1), ("member", 2)]) (blkOk_by (by kernel_rfl)) (by decide) (fun _ _ _ _ _ => (g_tup rfl (gs_cons (g_name 1 hn) (gs_cons (g_name 2 hn) gs_nil)))) (fun _ _ _ _ _ => c_nil) (fun _ _ _ _ _ => (e_var 1)) (fun _ _ _ _ _ => (e_callC C_copiedT hr (a_cons (o_ev (e_var 2)) a_nil))))))) b_nil) (b_one (s_ret (e_toT (e_if (t_val (e_isi (o_pk 0) ka_list T.b_isinstance T.b_list bo_list)) (e_callTy (cD_list rfl) T.b_list bo_list (a_cons (o_pk 0) a_nil)) (e_var 0))))))
theorem ok_copiedT (T : Txt K mg) : ∀ n : Nat, Cal P w K mg base "copied" ["value"] (1 + n) (G_copiedT n)
  | 0 => Cal.none T.m_copiedT
  | n + 1 => Cal.mk T.m_copiedT sc_copiedT (bd_copiedT T (k := 1 + n) (ok_copiedT T n) (by omega))
theorem sc_mergedT : FnScope ["document", "patch", "found", "key", "member"] ["document", "patch"] (defScope st_mergedT) := ⟨rfl, rfl, rfl, by decide +kernel, rfl, by decide +kernel, by decide +kernel⟩
theorem bd_mergedT (T : Txt K mg) {k : Nat} {k0 : Nat} {k1 : Nat} {F_mergedT : F0} {F_copiedT : F0} (C_mergedT : Cal P w K mg base "merged" ["document", "patch"] (k0) F_mergedT) (h0 : k0 + 0 ≤ k) (C_copiedT : Cal P w K mg base "copied" ["value"] (k1) F_copiedT) (h1 : k1 + 0 ≤ k) : BodyOk P w K mg base "merged" st_mergedT ["document", "patch", "found", "key", "member"] k (S_mergedT F_mergedT F_copiedT) := by
  intro f cdv A outer s H E hr
  have hn := sc_mergedT.nd
  exact (b_cons (s_if (t_not (t_val (e_isi (o_pk 1) ka_dict T.b_isinstance T.b_dict bo_dict))) (b_one (s_ret (e_toT (e_callC C_copiedT hr (a_cons (o_ev (e_var 1)) a_nil))))) b_nil) (b_cons (s_set 2 hn (e_toT (e_if (t_val (e_isi (o_pk 0) ka_dict T.b_isinstance T.b_dict bo_dict)) (e_callC C_copiedT hr (a_cons (o_ev (e_var 0)) a_nil)) e_dic0))) (b_cons (s_forD [3, 4] rfl PassesOwn.never (d_items 1) (g_tup rfl (gs_cons (g_name 3 hn) (gs_cons (g_name 4 hn) gs_nil))) (b_one (s_if (t_cmp o_isN (o_pk 4) (o_ev e_non) (by rfl)) (b_one (s_popT 2 (ko_sl 3))) (b_one (s_storeT 2 (hu_of hr) (e_callPk C_mergedT hr (pks_cons (pk_gt 2 (hu_of hr) (ko_sl 3)) (pks_cons (pk_sl 4) pks_nil))) (ko_sl 3)))))) (b_one (s_retV 2)))))
theorem ok_mergedT (T : Txt K mg) : ∀ n : Nat, Cal P w K mg base "merged" ["document", "patch"] (2 + n) (G_mergedT n)
  | 0 => Cal.none T.m_mergedT
  | n + 1 => Cal.mk T.m_mergedT sc_mergedT (bd_mergedT T (k := 2 + n) (ok_mergedT T n) (by omega) (ok_copiedT T n) (by omega))
theorem sc_after_allT : FnScope ["document", "row", "found", "patch"] ["document", "row"] (defScope st_after_allT) := ⟨rfl, rfl, rfl, by decide +kernel, rfl, by decide +kernel, by decide +kernel⟩
theorem bd_after_allT (T : Txt K mg) {k : Nat} {k0 : Nat} {k1 : Nat} {F_mergedT : F0} {F_copiedT : F0} (C_mergedT : Cal P w K mg base "merged" ["document", "patch"] (k0) F_mergedT) (h0 : k0 + 0 ≤ k) (C_copiedT : Cal P w K mg base "copied" ["value"] (k1) F_copiedT) (h1 : k1 + 0 ≤ k) : BodyOk P w K mg base "after_all" st_after_allT ["document", "row", "found", "patch"] k (S_after_allT F_mergedT F_copiedT) := by
  intro f cdv A outer s H E hr
  have hn := sc_after_allT.nd
  exact (b_cons (s_set 2 hn (e_toT (e_callC C_copiedT hr (a_cons (o_ev (e_var 0)) a_nil)))) (b_cons (s_for [3] rfl PassesOwn.never (w_seq (e_var 1)) (g_name 3 hn) (b_one (s_set 2 hn (e_toT (e_callPk C_mergedT hr (pks_cons (pk_sl 2) (pks_cons (pk_sl 3) pks_nil))))))) (b_one (s_retV 2))))
theorem ok_after_allT (T : Txt K mg) (n : Nat) : Cal P w K mg base "after_all" ["document", "row"] (3 + n) (G_after_allT n) := Cal.mk T.m_after_allT sc_after_allT (bd_after_allT T (k := 2 + n) (ok_mergedT T n) (by omega) (ok_copiedT T n) (by omega))
theorem sc_parts_of : FnScope ["value", "member"] ["value"] (defScope st_parts_of) := ⟨rfl, rfl, rfl, by decide +kernel, rfl, by decide +kernel, by decide +kernel⟩
theorem bd_parts_of (T : Txt K mg) {k : Nat} {k0 : Nat} {F_parts_of : F0} (C_parts_of : Cal P w K mg base "parts_of" ["value"] (k0) F_parts_of) (h0 : k0 + 0 ≤ k) : BodyOk P w K mg base "parts_of" st_parts_of ["value", "member"] k (S_parts_of F_parts_of) := by
  intro f cdv A outer s H E hr
  have hn := sc_parts_of.nd
  exact (b_cons (s_if (t_not (t_val (e_isi (o_pk 0) ka_dict T.b_isinstance T.b_dict bo_dict))) (b_one (s_ret e_int)) b_nil) (b_one (s_ret (e_bin o_addX (o_ev e_int) (o_ev (e_callB (cD_sum rfl) T.b_sum bo_sum (a_cons (o_ev (e_lcD rfl hn (d_vals 0) (own := [("member", 1)]) (blkOk_by (by kernel_rfl)) (by decide) (fun _ _ _ _ _ => (g_name 1 hn)) (fun _ _ _ _ _ => c_nil) (fun _ _ _ _ _ => (e_callC C_parts_of hr (a_cons (o_ev (e_var 1)) a_nil))))) a_nil)))))))
theorem ok_parts_of (T : Txt K mg) : ∀ n : Nat, Cal P w K mg base "parts_of" ["value"] (1 + n) (G_parts_of n)
  | 0 => Cal.none T.m_parts_of
  | n + 1 => Cal.mk T.m_parts_of sc_parts_of (bd_parts_of T (k := 1 + n) (ok_parts_of T n) (by omega))
theorem sc_depth_of : FnScope ["value", "member"] ["value"] (defScope st_depth_of) := ⟨rfl, rfl, rfl, by decide +kernel, rfl, by decide +kernel, by decide +kernel⟩
theorem bd_depth_of (T : Txt K mg) {k : Nat} {k0 : Nat} {F_depth_of : F0} (C_depth_of : Cal P w K mg base "depth_of" ["value"] (k0) F_depth_of) (h0 : k0 + 0 ≤ k) : BodyOk P w K mg base "depth_of" st_depth_of ["value", "member"] k (S_depth_of F_depth_of) := by
  intro f cdv A outer s H E hr
  have hn := sc_depth_of.nd
  exact (b_cons (s_if (t_not (t_val (e_isi (o_pk 0) ka_dict T.b_isinstance T.b_dict bo_dict))) (b_one (s_ret e_int)) b_nil) (b_one (s_ret (e_bin o_addX (o_ev e_int) (o_ev (e_callB (cD_max rfl) T.b_max bo_max (a_cons (o_ev (e_bin o_addX (o_ev (e_lst (a_cons (o_ev e_int) a_nil))) (o_ev (e_lcD rfl hn (d_vals 0) (own := [("member", 1)]) (blkOk_by (by kernel_rfl)) (by decide) (fun _ _ _ _ _ => (g_name 1 hn)) (fun _ _ _ _ _ => c_nil) (fun _ _ _ _ _ => (e_callC C_depth_of hr (a_cons (o_ev (e_var 1)) a_nil))))))) a_nil)))))))
theorem ok_depth_of (T : Txt K mg) : ∀ n : Nat, Cal P w K mg base "depth_of" ["value"] (1 + n) (G_depth_of n)
  | 0 => Cal.none T.m_depth_of
  | n + 1 => Cal.mk T.m_depth_of sc_depth_of (bd_depth_of T (k := 1 + n) (ok_depth_of T n) (by omega))
theorem sc_is_plain : FnScope ["value"] ["value"] (defScope st_is_plain) := ⟨rfl, rfl, rfl, by decide +kernel, rfl, by decide +kernel, by decide +kernel⟩
theorem bd_is_plain (T : Txt K mg) {k : Nat}    : BodyOk P w K mg base "is_plain" st_is_plain ["value"] k (S_is_plain ) := by
  intro f cdv A outer s H E hr
  have hn := sc_is_plain.nd
  exact (b_cons (s_if (t_w (w_or (t_cmp o_isN (o_pk 0) (o_ev e_non) (by rfl)) (w_or1 (t_val (e_isi (o_pk 0) ka_str T.b_isinstance T.b_str bo_str))))) (b_one (s_ret e_bl)) b_nil) (b_one (s_ret (e_and (e_isi (o_pk 0) ka_int T.b_isinstance T.b_int bo_int) (e_one (e_not (e_isi (o_pk 0) ka_bool T.b_isinstance T.b_bool bo_bool)))))))
theorem ok_is_plain (T : Txt K mg) (n : Nat) : Cal P w K mg base "is_plain" ["value"] (1 + n) (G_is_plain n) := Cal.mk T.m_is_plain sc_is_plain (bd_is_plain T (k := 0 + n) )
theorem sc_is_atom : FnScope ["value", "one"] ["value"] (defScope st_is_atom) := ⟨rfl, rfl, rfl, by decide +kernel, rfl, by decide +kernel, by decide +kernel⟩
theorem bd_is_atom (T : Txt K mg) {k : Nat} {k0 : Nat} {F_is_plain : F0} (C_is_plain : Cal P w K mg base "is_plain" ["value"] (k0) F_is_plain) (h0 : k0 + 0 ≤ k) : BodyOk P w K mg base "is_atom" st_is_atom ["value", "one"] k (S_is_atom F_is_plain) := by
  intro f cdv A outer s H E hr
  have hn := sc_is_atom.nd
  exact (b_cons (s_if (t_val (e_isi (o_pk 0) ka_list T.b_isinstance T.b_list bo_list)) (b_one (s_ret (e_callB (cD_all rfl) T.b_all bo_all (a_cons (o_ev (e_lc rfl hn (w_seq (e_var 0)) (own := [("one", 1)]) (blkOk_by (by kernel_rfl)) (by decide) (fun _ _ _ _ _ => (g_name 1 hn)) (fun _ _ _ _ _ => c_nil) (fun _ _ _ _ _ => (e_callC C_is_plain hr (a_cons (o_ev (e_var 1)) a_nil))))) a_nil)))) b_nil) (b_one (s_ret (e_callC C_is_plain hr (a_cons (o_ev (e_var 0)) a_nil)))))
theorem ok_is_atom (T : Txt K mg) (n : Nat) : Cal P w K mg base "is_atom" ["value"] (2 + n) (G_is_atom n) := Cal.mk T.m_is_atom sc_is_atom (bd_is_atom T (k := 1 + n) (ok_is_plain T n) (by omega))
theorem sc_wrong_path : FnScope ["value", "path", "key", "found"] ["value", "path"] (defScope st_wrong_path) := ⟨rfl, rfl, rfl, by decide +kernel, rfl, by decide +kernel, by decide +kernel⟩
theorem bd_wrong_path (T : Txt K mg) {k : Nat} {k0 : Nat} {k1 : Nat} {F_wrong_path : F0} {F_is_atom : F0} (C_wrong_path : Cal P w K mg base "wrong_path" ["value", "path"] (k0) F_wrong_path) (h0 : k0 + 0 ≤ k) (C_is_atom : Cal P w K mg base "is_atom" ["value"] (k1) F_is_atom) (h1 : k1 + 0 ≤ k) : BodyOk P w K mg base "wrong_path" st_wrong_path ["value", "path", "key", "found"] k (S_wrong_path F_wrong_path F_is_atom) := by
  intro f cdv A outer s H E hr
  have hn := sc_wrong_path.nd
  exact (b_cons (s_if (t_val (e_callC C_is_atom hr (a_cons (o_ev (e_var 0)) a_nil))) (b_one (s_ret e_non)) b_nil) (b_cons (s_if (t_w (w_or (t_not (t_val (e_isi (o_pk 0) ka_dict T.b_isinstance T.b_dict bo_dict))) (w_or1 (t_not (t_val (e_callB (cD_all rfl) T.b_all bo_all (a_cons (o_ev (e_lcD rfl hn (d_keys 0) (own := [("key", 2)]) (blkOk_by (by kernel_rfl)) (by decide) (fun _ _ _ _ _ => (g_name 2 hn)) (fun _ _ _ _ _ => c_nil) (fun _ _ _ _ _ => (e_isi (o_pk 2) ka_str T.b_isinstance T.b_str bo_str)))) a_nil))))))) (b_one (s_retV 1)) b_nil) (b_cons (s_for [3] rfl PassesOwn.never (w_seq (e_callB (cD_sorted rfl) T.b_sorted bo_sorted (a_cons (o_pk 0) a_nil))) (g_name 2 hn) (b_cons (s_set 3 hn (e_callC C_wrong_path hr (a_cons (o_ev (e_ix (hu_of hr) (o_pk 0) (o_pk 2))) (a_cons (o_ev (e_bin o_addX (o_pk 1) (o_ev (e_tup (a_cons (o_ev (e_var 2)) a_nil))))) a_nil)))) (b_one (s_if (t_cmp o_notN (o_pk 3) (o_ev e_non) (by rfl)) (b_one (s_retV 3)) b_nil)))) (b_one (s_ret e_non)))))
theorem ok_wrong_path (T : Txt K mg) : ∀ n : Nat, Cal P w K mg base "wrong_path" ["value", "path"] (3 + n) (G_wrong_path n)
  | 0 => Cal.none T.m_wrong_path
  | n + 1 => Cal.mk T.m_wrong_path sc_wrong_path (bd_wrong_path T (k := 3 + n) (ok_wrong_path T n) (by omega) (ok_is_atom T n) (by omega))
theorem sc_check : FnScope ["value", "path"] ["value"] (defScope st_check) := ⟨rfl, rfl, rfl, by decide +kernel, rfl, by decide +kernel, by decide +kernel⟩
theorem bd_check (T : Txt K mg) {k : Nat} {k0 : Nat} {k1 : Nat} {k2 : Nat} {F_parts_of : F0} {F_depth_of : F0} {F_wrong_path : F0} (C_parts_of : Cal P w K mg base "parts_of" ["value"] (k0) F_parts_of) (h0 : k0 + 0 ≤ k) (C_depth_of : Cal P w K mg base "depth_of" ["value"] (k1) F_depth_of) (h1 : k1 + 0 ≤ k) (C_wrong_path : Cal P w K mg base "wrong_path" ["value", "path"] (k2) F_wrong_path) (h2 : k2 + 0 ≤ k) : BodyOk P w K mg base "check" st_check ["value", "path"] k (S_check F_parts_of F_depth_of F_wrong_path) := by
  intro f cdv A outer s H E hr
  have hn := sc_check.nd
  exact (b_cons (s_set 1 hn (e_callC C_wrong_path hr (a_cons (o_ev (e_var 0)) (a_cons (o_ev (e_tup a_nil)) a_nil)))) (b_cons (s_if (t_cmp o_notN (o_pk 1) (o_ev e_non) (by rfl)) (b_one s_never) b_nil) (b_cons (s_if (t_cmp o_gtI (o_ev (e_callC C_depth_of hr (a_cons (o_ev (e_var 0)) a_nil))) (o_ev (e_gintC T.g_MOST_DEPTH)) (by rfl)) (b_one s_never) b_nil) (b_one (s_if (t_cmp o_gtI (o_ev (e_callC C_parts_of hr (a_cons (o_ev (e_var 0)) a_nil))) (o_ev (e_gintC T.g_MOST_PARTS)) (by rfl)) (b_one s_never) b_nil)))))
theorem ok_check (T : Txt K mg) (n : Nat) : Cal P w K mg base "check" ["value"] (4 + n) (G_check n) := Cal.mk T.m_check sc_check (bd_check T (k := 3 + n) (ok_parts_of T n) (by omega) (ok_depth_of T n) (by omega) (ok_wrong_path T n) (by omega))
theorem sc_check_row : FnScope ["row", "patch"] ["row"] (defScope st_check_row) := ⟨rfl, rfl, rfl, by decide +kernel, rfl, by decide +kernel, by decide +kernel⟩
theorem bd_check_row (T : Txt K mg) {k : Nat} {k0 : Nat} {k1 : Nat} {F_parts_of : F0} {F_check : F0} (C_parts_of : Cal P w K mg base "parts_of" ["value"] (k0) F_parts_of) (h0 : k0 + 0 ≤ k) (C_check : Cal P w K mg base "check" ["value"] (k1) F_check) (h1 : k1 + 0 ≤ k) : BodyOk P w K mg base "check_row" st_check_row ["row", "patch"] k (S_check_row F_parts_of F_check) := by
  intro f cdv A outer s H E hr
  have hn := sc_check_row.nd
  exact (b_cons (s_for [] rfl PassesOwn.never (w_seq (e_var 0)) (g_name 1 hn) (b_one (s_expr (e_callC C_check hr (a_cons (o_ev (e_var 1)) a_nil))))) (b_one (s_if (t_cmp o_gtI (o_ev (e_callB (cD_sum rfl) T.b_sum bo_sum (a_cons (o_ev (e_lc rfl hn (w_seq (e_var 0)) (own := [("patch", 1)]) (blkOk_by (by kernel_rfl)) (by decide) (fun _ _ _ _ _ => (g_name 1 hn)) (fun _ _ _ _ _ => c_nil) (fun _ _ _ _ _ => (e_callC C_parts_of hr (a_cons (o_ev (e_var 1)) a_nil))))) a_nil))) (o_ev (e_gintC T.g_MOST_PARTS)) (by rfl)) (b_one s_never) b_nil)))
theorem ok_check_row (T : Txt K mg) (n : Nat) : Cal P w K mg base "check_row" ["row"] (5 + n) (G_check_row n) := Cal.mk T.m_check_row sc_check_row (bd_check_row T (k := 4 + n) (ok_parts_of T n) (by omega) (ok_check T n) (by omega))
theorem sc_runT : FnScope ["document", "row"] ["document", "row"] (defScope st_runT) := ⟨rfl, rfl, rfl, by decide +kernel, rfl, by decide +kernel, by decide +kernel⟩
theorem bd_runT (T : Txt K mg) {k : Nat} {k0 : Nat} {k1 : Nat} {k2 : Nat} {F_after_allT : F0} {F_check_row : F0} {F_check : F0} (C_after_allT : Cal P w K mg base "after_all" ["document", "row"] (k0) F_after_allT) (h0 : k0 + 0 ≤ k) (C_check_row : Cal P w K mg base "check_row" ["row"] (k1) F_check_row) (h1 : k1 + 0 ≤ k) (C_check : Cal P w K mg base "check" ["value"] (k2) F_check) (h2 : k2 + 0 ≤ k) : BodyOk P w K mg base "run" st_runT ["document", "row"] k (S_runT F_after_allT F_check_row F_check) := by
  intro f cdv A outer s H E hr
  have hn := sc_runT.nd
  exact (b_cons (s_expr (e_callC C_check hr (a_cons (o_ev (e_var 0)) a_nil))) (b_cons (s_expr (e_callC C_check_row hr (a_cons (o_ev (e_var 1)) a_nil))) (b_one (s_ret (e_toT (e_callC C_after_allT hr (a_cons (o_ev (e_var 0)) (a_cons (o_ev (e_var 1)) a_nil))))))))
theorem ok_runT (T : Txt K mg) (n : Nat) : Cal P w K mg base "run" ["document", "row"] (6 + n) (G_runT n) := Cal.mk T.m_runT sc_runT (bd_runT T (k := 5 + n) (ok_after_allT T n) (by omega) (ok_check_row T n) (by omega) (ok_check T n) (by omega))
theorem sc_law_spoil : FnScope ["_law_value", "_law_key"] ["_law_value"] (defScope st_law_spoil) := ⟨rfl, rfl, rfl, by decide +kernel, rfl, by decide +kernel, by decide +kernel⟩
theorem bd_law_spoil (T : Txt K mg) {k : Nat} {k0 : Nat} {F_law_spoil : F1} (C_law_spoil : Cal1 P w K mg base "_law_spoil" ["_law_value"] (k0) F_law_spoil) (h0 : k0 + 0 ≤ k) : BodyOk P w K mg base "_law_spoil" st_law_spoil ["_law_value", "_law_key"] k (S_law_spoil F_law_spoil) := by
  intro f cdv A outer s H E hr
  have hn := sc_law_spoil.nd
  exact (b_one (s_if (t_val (e_isiP (o_pk 0) ka_dict T.b_isinstance T.b_dict bo_dict)) (b_cons (s_for [1] rfl PassesOwn.never (w_seq (e_callTyP (cD_list rfl) T.b_list bo_list (a_cons (o_pk 0) a_nil))) (g_name 1 hn) (b_one (s_expr (e_callCh 0 C_law_spoil hr (hu_of hr) (ko_sl 1))))) (b_one (s_storeT 0 (hu_of hr) e_int ko_str))) (b_one (s_if (t_val (e_isiP (o_pk 0) ka_list T.b_isinstance T.b_list bo_list)) (b_one (s_expr (e_appendT 0 e_str))) b_nil))))
theorem ok_law_spoil (T : Txt K mg) : ∀ n : Nat, Cal1 P w K mg base "_law_spoil" ["_law_value"] (1 + n) (G_law_spoil n)
  | 0 => Cal1.none T.m_law_spoil
  | n + 1 => Cal1.mk T.m_law_spoil sc_law_spoil (bd_law_spoil T (k := 1 + n) (ok_law_spoil T n) (by omega))
theorem sc_law_copied : FnScope ["_law_value", "_law_key"] ["_law_value"] (defScope st_law_copied) := ⟨rfl, rfl, rfl, by decide +kernel, rfl, by decide +kernel, by decide +kernel⟩
theorem bd_law_copied (T : Txt K mg) {k : Nat} {k0 : Nat} {F_law_copied : F0} (C_law_copied : Cal P w K mg base "_law_copied" ["_law_value"] (k0) F_law_copied) (h0 : k0 + 0 ≤ k) : BodyOk P w K mg base "_law_copied" st_law_copied ["_law_value", "_law_key"] k (S_law_copied F_law_copied) := by
  intro f cdv A outer s H E hr
  have hn := sc_law_copied.nd
  exact (b_cons (s_if (t_val (e_isi (o_pk 0) ka_dict T.b_isinstance T.b_dict bo_dict)) (b_one (s_ret (e_callTy (cD_dict rfl) T.b_dict bo_dict (a_cons (o_ev (e_lcD rfl hn (d_keys 0) (own := [("_law_key", 1)]) (blkOk_by (by kernel_rfl)) (by decide) (fun _ _ _ _ _ => (g_name 1 hn)) (fun _ _ _ _ _ => c_nil) (fun _ _ _ _ _ => (e_tup (a_cons (o_ev (e_var 1)) (a_cons (o_ev (e_callC C_law_copied hr (a_cons (o_ev (e_ix (hu_of hr) (o_pk 0) (o_pk 1))) a_nil))) a_nil)))))) a_nil)))) b_nil) (b_one (s_ret (e_if (t_val (e_isi (o_pk 0) ka_list T.b_isinstance T.b_list bo_list)) (e_callTy (cD_list rfl) T.b_list bo_list (a_cons (o_pk 0) a_nil)) (e_var 0)))))
theorem ok_law_copied (T : Txt K mg) : ∀ n : Nat, Cal P w K mg base "_law_copied" ["_law_value"] (1 + n) (G_law_copied n)
  | 0 => Cal.none T.m_law_copied
  | n + 1 => Cal.mk T.m_law_copied sc_law_copied (bd_law_copied T (k := 1 + n) (ok_law_copied T n) (by omega))
theorem sc_law_after : FnScope ["_law_document", "_law_patch_here", "_law_found", "_law_key", "_law_other"] ["_law_document", "_law_patch_here"] (defScope st_law_after) := ⟨rfl, rfl, rfl, by decide +kernel, rfl, by decide +kernel, by decide +kernel⟩
theorem bd_law_after (T : Txt K mg) {k : Nat} {k0 : Nat} {k1 : Nat} {F_law_after : F0} {F_law_copied : F0} (C_law_after : Cal P w K mg base "_law_after" ["_law_document", "_law_patch_here"] (k0) F_law_after) (h0 : k0 + 0 ≤ k) (C_law_copied : Cal P w K mg base "_law_copied" ["_law_value"] (k1) F_law_copied) (h1 : k1 + 0 ≤ k) : BodyOk P w K mg base "_law_after" st_law_after ["_law_document", "_law_patch_here", "_law_found", "_law_key", "_law_other"] k (S_law_after F_law_after F_law_copied) := by
  intro f cdv A outer s H E hr
  have hn := sc_law_after.nd
  exact (b_cons (s_if (t_not (t_val (e_isi (o_pk 1) ka_dict T.b_isinstance T.b_dict bo_dict))) (b_one (s_ret (e_callC C_law_copied hr (a_cons (o_ev (e_var 1)) a_nil)))) b_nil) (b_cons (s_set 2 hn (e_if (t_val (e_isi (o_pk 0) ka_dict T.b_isinstance T.b_dict bo_dict)) (e_callC C_law_copied hr (a_cons (o_ev (e_var 0)) a_nil)) e_dic0)) (b_cons (s_forD [3, 4] rfl PassesOwn.never (d_keys 1) (g_name 3 hn) (b_one (s_if (t_cmp o_notN (o_ev (e_ix (hu_of hr) (o_pk 1) (o_pk 3))) (o_ev e_non) (by rfl)) (b_one (s_store 2 (hu_of hr) (e_callC C_law_after hr (a_cons (o_ev (e_get (hu_of hr) (o_pk 2) (o_pk 3))) (a_cons (o_ev (e_ix (hu_of hr) (o_pk 1) (o_pk 3))) a_nil))) (o_pk 3))) (b_one (s_if (t_inK (hu_of hr) (o_pk 3) (o_pk 2)) (b_one (s_set 2 hn (e_callTy (cD_dict rfl) T.b_dict bo_dict (a_cons (o_ev (e_lcD rfl hn (d_keys 2) (own := [("_law_other", 4)]) (blkOk_by (by kernel_rfl)) (by decide) (fun _ _ _ _ _ => (g_name 4 hn)) (fun _ _ _ _ _ => (c_one (t_cmp o_neS (o_pk 4) (o_pk 3) (by rfl)))) (fun _ _ _ _ _ => (e_tup (a_cons (o_ev (e_var 4)) (a_cons (o_ev (e_ix (hu_of hr) (o_pk 2) (o_pk 4))) a_nil)))))) a_nil)))) b_nil))))) (b_one (s_retV 2)))))
theorem ok_law_after (T : Txt K mg) : ∀ n : Nat, Cal P w K mg base "_law_after" ["_law_document", "_law_patch_here"] (2 + n) (G_law_after n)
  | 0 => Cal.none T.m_law_after
  | n + 1 => Cal.mk T.m_law_after sc_law_after (bd_law_after T (k := 2 + n) (ok_law_after T n) (by omega) (ok_law_copied T n) (by omega))
theorem sc_law_run : FnScope ["_law_document", "_law_row_here", "_law_patch_here"] ["_law_document", "_law_row_here"] (defScope st_law_run) := ⟨rfl, rfl, rfl, by decide +kernel, rfl, by decide +kernel, by decide +kernel⟩
theorem bd_law_run (T : Txt K mg) {k : Nat} {k0 : Nat} {F_law_after : F0} (C_law_after : Cal P w K mg base "_law_after" ["_law_document", "_law_patch_here"] (k0) F_law_after) (h0 : k0 + 0 ≤ k) : BodyOk P w K mg base "_law_run" st_law_run ["_law_document", "_law_row_here", "_law_patch_here"] k (S_law_run F_law_after) := by
  intro f cdv A outer s H E hr
  have hn := sc_law_run.nd
  exact (b_cons (s_for [2] rfl PassesOwn.never (w_seq (e_var 1)) (g_name 2 hn) (b_one (s_set 0 hn (e_callC C_law_after hr (a_cons (o_ev (e_var 0)) (a_cons (o_ev (e_var 2)) a_nil)))))) (b_one (s_retV 0)))
theorem ok_law_run (T : Txt K mg) (n : Nat) : Cal P w K mg base "_law_run" ["_law_document", "_law_row_here"] (3 + n) (G_law_run n) := Cal.mk T.m_law_run sc_law_run (bd_law_run T (k := 2 + n) (ok_law_after T n) (by omega))
theorem sc_actedT : FnScope ["one", "document", "found", "key", "member"] ["one", "document"] (defScope st_actedT) := ⟨rfl, rfl, rfl, by decide +kernel, rfl, by decide +kernel, by decide +kernel⟩
theorem bd_actedT (T : Txt K mg) {k : Nat} {k0 : Nat} {k1 : Nat} {F_actedT : F0} {F_copiedT : F0} (C_actedT : Cal P w K mg base "acted" ["one", "document"] (k0) F_actedT) (h0 : k0 + 0 ≤ k) (C_copiedT : Cal P w K mg base "copied" ["value"] (k1) F_copiedT) (h1 : k1 + 0 ≤ k) : BodyOk P w K mg base "acted" st_actedT ["one", "document", "found", "key", "member"] k (S_actedT F_actedT F_copiedT) := by
  intro f cdv A outer s H E hr
  have hn := sc_actedT.nd
  exact (b_cons (s_if (t_cmp o_eqS (o_ev (e_fldC T.fl_Effect_kind (o_pk 0))) (o_ev e_str) (by rfl)) (b_one (s_ret (e_toT (e_callC C_copiedT hr (a_cons (o_ev (e_var 1)) a_nil))))) b_nil) (b_cons (s_if (t_cmp o_eqS (o_ev (e_fldC T.fl_Effect_kind (o_pk 0))) (o_ev e_str) (by rfl)) (b_one (s_ret (e_toT (e_if (t_val (e_isi (o_ev (e_fldC T.fl_Effect_atom (o_pk 0))) ka_tuple T.b_isinstance T.b_tuple bo_tuple)) (e_callTy (cD_list rfl) T.b_list bo_list (a_cons (o_ev (e_fldC T.fl_Effect_atom (o_pk 0))) a_nil)) (e_fldC T.fl_Effect_atom (o_pk 0)))))) b_nil) (b_cons (s_set 2 hn (e_toT (e_if (t_w (w_and (t_cmp o_eqS (o_ev (e_fldC T.fl_Effect_kind (o_pk 0))) (o_ev e_str) (by rfl)) (w_and1 (t_val (e_isi (o_pk 1) ka_dict T.b_isinstance T.b_dict bo_dict))))) (e_callC C_copiedT hr (a_cons (o_ev (e_var 1)) a_nil)) e_dic0))) (b_cons (s_for [3, 4] rfl PassesOwn.never (w_seq (e_fldC T.fl_Effect_members (o_pk 0))) (g_tup rfl (gs_cons (g_name 3 hn) (gs_cons (g_name 4 hn) gs_nil))) (b_one (s_if (t_cmp o_eqS (o_ev (e_fldC T.fl_Effect_kind (o_pk 4))) (o_ev e_str) (by rfl)) (b_one (s_popT 2 (ko_sl 3))) (b_one (s_storeT 2 (hu_of hr) (e_callPk C_actedT hr (pks_cons (pk_sl 4) (pks_cons (pk_gt 2 (hu_of hr) (ko_sl 3)) pks_nil))) (ko_sl 3)))))) (b_one (s_retV 2))))))
theorem ok_actedT (T : Txt K mg) : ∀ n : Nat, Cal P w K mg base "acted" ["one", "document"] (2 + n) (G_actedT n)
  | 0 => Cal.none T.m_actedT
  | n + 1 => Cal.mk T.m_actedT sc_actedT (bd_actedT T (k := 2 + n) (ok_actedT T n) (by omega) (ok_copiedT T n) (by omega))
theorem sc_EffectU_callUT : FnScope ["self", "document"] ["self", "document"] (defScope st_EffectU_callUT) := ⟨rfl, rfl, rfl, by decide +kernel, rfl, by decide +kernel, by decide +kernel⟩
theorem bd_EffectU_callUT (T : Txt K mg) {k : Nat} {k0 : Nat} {k1 : Nat} {F_actedT : F0} {F_check : F0} (C_actedT : Cal P w K mg base "acted" ["one", "document"] (k0) F_actedT) (h0 : k0 + 0 ≤ k) (C_check : Cal P w K mg base "check" ["value"] (k1) F_check) (h1 : k1 + 0 ≤ k) : BodyOk P w K mg base "Effect.__call__" st_EffectU_callUT ["self", "document"] k (S_EffectU_callUT F_actedT F_check) := by
  intro f cdv A outer s H E hr
  have hn := sc_EffectU_callUT.nd
  exact (b_cons (s_expr (e_callC C_check hr (a_cons (o_ev (e_var 1)) a_nil))) (b_one (s_ret (e_toT (e_callC C_actedT hr (a_cons (o_ev (e_var 0)) (a_cons (o_ev (e_var 1)) a_nil)))))))
theorem ok_EffectU_callUT (T : Txt K mg) (n : Nat) : CalM P w K mg base "Effect" "__call__" ["self", "document"] (5 + n) (G_EffectU_callUT n) := CalM.mk T.m_EffectU_callUT sc_EffectU_callUT (bd_EffectU_callUT T (k := 4 + n) (ok_actedT T n) (by omega) (ok_check T n) (by omega))
theorem sc_EffectU_initU : FnScope ["self", "kind", "atom", "members", "found", "key", "one"] ["self", "kind", "atom", "members"] (defScope st_EffectU_initU) := ⟨rfl, rfl, rfl, by decide +kernel, rfl, by decide +kernel, by decide +kernel⟩
theorem bd_EffectU_initU (T : Txt K mg) {k : Nat}    : BodyOk P w K mg base "Effect.__init__" st_EffectU_initU ["self", "kind", "atom", "members", "found", "key", "one"] k (S_EffectU_initU ) := by
  intro f cdv A outer s H E hr
  have hn := sc_EffectU_initU.nd
  exact (b_cons (s_fldC 0 T.fl_Effect_kind (e_var 1)) (b_cons (s_fldC 0 T.fl_Effect_atom (e_if (t_val (e_isi (o_pk 2) ka_list T.b_isinstance T.b_list bo_list)) (e_callTy cD_tuple T.b_tuple bo_tuple (a_cons (o_pk 2) a_nil)) (e_var 2))) (b_cons (s_set 4 hn (e_callTy (cD_dict rfl) T.b_dict bo_dict (a_cons (o_ev (e_lc rfl hn (w_seq (e_var 3)) (own := [("key", 5), ("one", 6)]) (blkOk_by (by kernel_rfl)) (by decide) (fun _ _ _ _ _ => (g_tup rfl (gs_cons (g_name 5 hn) (gs_cons (g_name 6 hn) gs_nil)))) (fun _ _ _ _ _ => c_nil) (fun _ _ _ _ _ => (e_tup (a_cons (o_ev (e_var 5)) (a_cons (o_ev (e_var 6)) a_nil)))))) a_nil))) (b_one (s_fldC 0 T.fl_Effect_members (e_callTy cD_tuple T.b_tuple bo_tuple (a_cons (o_ev (e_lc rfl hn (w_seq (e_callB (cD_sorted rfl) T.b_sorted bo_sorted (a_cons (o_pk 4) a_nil))) (own := [("key", 5)]) (blkOk_by (by kernel_rfl)) (by decide) (fun _ _ _ _ _ => (g_name 5 hn)) (fun _ _ _ _ _ => c_nil) (fun _ _ _ _ _ => (e_tup (a_cons (o_ev (e_var 5)) (a_cons (o_ev (e_ix (hu_of hr) (o_pk 4) (o_pk 5))) a_nil)))))) a_nil)))))))
theorem ok_EffectU_initU (T : Txt K mg) (n : Nat) : CalI P w K mg base "Effect" ["self", "kind", "atom", "members"] (1 + n) (G_EffectU_initU n) := CalI.mk T.m_EffectU_initU T.mk_Effect sc_EffectU_initU (bd_EffectU_initU T (k := 0 + n) )
theorem sc_drop : FnScope [] [] (defScope st_drop) := ⟨rfl, rfl, rfl, by decide +kernel, rfl, by decide +kernel, by decide +kernel⟩
theorem bd_drop (T : Txt K mg) {k : Nat} {k0 : Nat} {F_EffectU_initU : F1} (C_EffectU_initU : CalI P w K mg base "Effect" ["self", "kind", "atom", "members"] (k0) F_EffectU_initU) (h0 : k0 + 1 ≤ k) : BodyOk P w K mg base "drop" st_drop [] k (S_drop F_EffectU_initU) := by
  intro f cdv A outer s H E hr
  have hn := sc_drop.nd
  exact (b_one (s_ret (e_makeC C_EffectU_initU hr (a_cons (o_ev e_str) (a_cons (o_ev e_non) (a_cons (o_ev (e_lst a_nil)) a_nil))))))
theorem ok_drop (T : Txt K mg) (n : Nat) : Cal P w K mg base "drop" [] (3 + n) (G_drop n) := Cal.mk T.m_drop sc_drop (bd_drop T (k := 2 + n) (ok_EffectU_initU T n) (by omega))
theorem sc_of_patch : FnScope ["patch", "is_member", "key", "member"] ["patch", "is_member"] (defScope st_of_patch) := ⟨rfl, rfl, rfl, by decide +kernel, rfl, by decide +kernel, by decide +kernel⟩
theorem bd_of_patch (T : Txt K mg) {k : Nat} {k0 : Nat} {k1 : Nat} {k2 : Nat} {F_EffectU_initU : F1} {F_drop : F0} {F_of_patch : F0} (C_EffectU_initU : CalI P w K mg base "Effect" ["self", "kind", "atom", "members"] (k0) F_EffectU_initU) (h0 : k0 + 1 ≤ k) (C_drop : Cal P w K mg base "drop" [] (k1) F_drop) (h1 : k1 + 0 ≤ k) (C_of_patch : Cal P w K mg base "of_patch" ["patch", "is_member"] (k2) F_of_patch) (h2 : k2 + 0 ≤ k) : BodyOk P w K mg base "of_patch" st_of_patch ["patch", "is_member", "key", "member"] k (S_of_patch F_EffectU_initU F_drop F_of_patch) := by
  intro f cdv A outer s H E hr
  have hn := sc_of_patch.nd
  exact (b_cons (s_if (t_val (e_isi (o_pk 0) ka_dict T.b_isinstance T.b_dict bo_dict)) (b_one (s_ret (e_makeC C_EffectU_initU hr (a_cons (o_ev e_str) (a_cons (o_ev e_non) (a_cons (o_ev (e_lcD rfl hn (d_items 0) (own := [("key", 2), ("member", 3)]) (blkOk_by (by kernel_rfl)) (by decide) (fun _ _ _ _ _ => (g_tup rfl (gs_cons (g_name 2 hn) (gs_cons (g_name 3 hn) gs_nil)))) (fun _ _ _ _ _ => c_nil) (fun _ _ _ _ _ => (e_tup (a_cons (o_ev (e_var 2)) (a_cons (o_ev (e_callC C_of_patch hr (a_cons (o_ev (e_var 3)) (a_cons (o_ev e_bl) a_nil)))) a_nil)))))) a_nil)))))) b_nil) (b_cons (s_if (t_w (w_and (t_cmp o_isN (o_pk 0) (o_ev e_non) (by rfl)) (w_and1 (t_val (e_var 1))))) (b_one (s_ret (e_call0C C_drop hr))) b_nil) (b_one (s_ret (e_makeC C_EffectU_initU hr (a_cons (o_ev e_str) (a_cons (o_ev (e_var 0)) (a_cons (o_ev (e_lst a_nil)) a_nil))))))))
theorem ok_of_patch (T : Txt K mg) : ∀ n : Nat, Cal P w K mg base "of_patch" ["patch", "is_member"] (4 + n) (G_of_patch n)
  | 0 => Cal.none T.m_of_patch
  | n + 1 => Cal.mk T.m_of_patch sc_of_patch (bd_of_patch T (k := 4 + n) (ok_EffectU_initU T n) (by omega) (ok_drop T n) (by omega) (ok_of_patch T n) (by omega))
theorem sc_keep : FnScope [] [] (defScope st_keep) := ⟨rfl, rfl, rfl, by decide +kernel, rfl, by decide +kernel, by decide +kernel⟩
theorem bd_keep (T : Txt K mg) {k : Nat} {k0 : Nat} {F_EffectU_initU : F1} (C_EffectU_initU : CalI P w K mg base "Effect" ["self", "kind", "atom", "members"] (k0) F_EffectU_initU) (h0 : k0 + 1 ≤ k) : BodyOk P w K mg base "keep" st_keep [] k (S_keep F_EffectU_initU) := by
  intro f cdv A outer s H E hr
  have hn := sc_keep.nd
  exact (b_one (s_ret (e_makeC C_EffectU_initU hr (a_cons (o_ev e_str) (a_cons (o_ev e_non) (a_cons (o_ev (e_lst a_nil)) a_nil))))))
theorem ok_keep (T : Txt K mg) (n : Nat) : Cal P w K mg base "keep" [] (3 + n) (G_keep n) := Cal.mk T.m_keep sc_keep (bd_keep T (k := 2 + n) (ok_EffectU_initU T n) (by omega))
theorem sc_built : FnScope ["one", "members", "key", "member"] ["one"] (defScope st_built) := ⟨rfl, rfl, rfl, by decide +kernel, rfl, by decide +kernel, by decide +kernel⟩
theorem bd_built (T : Txt K mg) {k : Nat} {k0 : Nat} {k1 : Nat} {F_EffectU_initU : F1} {F_built : F0} (C_EffectU_initU : CalI P w K mg base "Effect" ["self", "kind", "atom", "members"] (k0) F_EffectU_initU) (h0 : k0 + 1 ≤ k) (C_built : Cal P w K mg base "built" ["one"] (k1) F_built) (h1 : k1 + 0 ≤ k) : BodyOk P w K mg base "built" st_built ["one", "members", "key", "member"] k (S_built F_EffectU_initU F_built) := by
  intro f cdv A outer s H E hr
  have hn := sc_built.nd
  exact (b_cons (s_if (t_cmp o_inL (o_ev (e_fldC T.fl_Effect_kind (o_pk 0))) (o_ev (e_tup (a_cons (o_ev e_str) (a_cons (o_ev e_str) a_nil)))) (by rfl)) (b_one (s_ret e_non)) b_nil) (b_cons (s_if (t_cmp o_neS (o_ev (e_fldC T.fl_Effect_kind (o_pk 0))) (o_ev e_str) (by rfl)) (b_one (s_retV 0)) b_nil) (b_cons (s_setLc 1 rfl hn (w_seq (e_fldC T.fl_Effect_members (o_pk 0))) (own := [("key", 2), ("member", 3)]) (blkOk_by (by kernel_rfl)) (by decide) (fun _ _ _ _ _ => (g_tup rfl (gs_cons (g_name 2 hn) (gs_cons (g_name 3 hn) gs_nil)))) (fun _ _ _ _ _ => c_nil) (fun _ _ _ _ _ => (e_tup (a_cons (o_ev (e_var 2)) (a_cons (o_ev (e_callC C_built hr (a_cons (o_ev (e_var 3)) a_nil))) a_nil)))) (by rfl)) (b_one (s_ret (e_makeC C_EffectU_initU hr (a_cons (o_ev e_str) (a_cons (o_ev e_non) (a_cons (o_ev (e_lc rfl hn (w_seq (e_var 1)) (own := [("key", 2), ("member", 3)]) (blkOk_by (by kernel_rfl)) (by decide) (fun _ _ _ _ _ => (g_tup rfl (gs_cons (g_name 2 hn) (gs_cons (g_name 3 hn) gs_nil)))) (fun _ _ _ _ _ => (c_one (t_cmp o_notN (o_pk 3) (o_ev e_non) (by rfl)))) (fun _ _ _ _ _ => (e_tup (a_cons (o_ev (e_var 2)) (a_cons (o_ev (e_var 3)) a_nil)))))) a_nil)))))))))
theorem ok_built (T : Txt K mg) : ∀ n : Nat, Cal P w K mg base "built" ["one"] (3 + n) (G_built n)
  | 0 => Cal.none T.m_built
  | n + 1 => Cal.mk T.m_built sc_built (bd_built T (k := 3 + n) (ok_EffectU_initU T n) (by omega) (ok_built T n) (by omega))
theorem sc_joined : FnScope ["first", "second", "missing", "ours", "theirs", "members", "key", "one"] ["first", "second"] (defScope st_joined) := ⟨rfl, rfl, rfl, by decide +kernel, rfl, by decide +kernel, by decide +kernel⟩
theorem bd_joined (T : Txt K mg) {k : Nat} {k0 : Nat} {k1 : Nat} {k2 : Nat} {k3 : Nat} {k4 : Nat} {F_EffectU_initU : F1} {F_joined : F0} {F_keep : F0} {F_drop : F0} {F_built : F0} (C_EffectU_initU : CalI P w K mg base "Effect" ["self", "kind", "atom", "members"] (k0) F_EffectU_initU) (h0 : k0 + 1 ≤ k) (C_joined : Cal P w K mg base "joined" ["first", "second"] (k1) F_joined) (h1 : k1 + 0 ≤ k) (C_keep : Cal P w K mg base "keep" [] (k2) F_keep) (h2 : k2 + 0 ≤ k) (C_drop : Cal P w K mg base "drop" [] (k3) F_drop) (h3 : k3 + 0 ≤ k) (C_built : Cal P w K mg base "built" ["one"] (k4) F_built) (h4 : k4 + 0 ≤ k) : BodyOk P w K mg base "joined" st_joined ["first", "second", "missing", "ours", "theirs", "members", "key", "one"] k (S_joined F_EffectU_initU F_joined F_keep F_drop F_built) := by
  intro f cdv A outer s H E hr
  have hn := sc_joined.nd
  exact (b_cons (s_if (t_cmp o_eqS (o_ev (e_fldC T.fl_Effect_kind (o_pk 1))) (o_ev e_str) (by rfl)) (b_one (s_retV 0)) b_nil) (b_cons (s_if (t_w (w_or (t_cmp o_neS (o_ev (e_fldC T.fl_Effect_kind (o_pk 1))) (o_ev e_str) (by rfl)) (w_or1 (t_cmp o_eqS (o_ev (e_fldC T.fl_Effect_kind (o_pk 0))) (o_ev e_str) (by rfl))))) (b_one (s_retV 1)) b_nil) (b_cons (s_if (t_cmp o_inL (o_ev (e_fldC T.fl_Effect_kind (o_pk 0))) (o_ev (e_tup (a_cons (o_ev e_str) (a_cons (o_ev e_str) a_nil)))) (by rfl)) (b_one (s_ret (e_callC C_built hr (a_cons (o_ev (e_var 1)) a_nil)))) b_nil) (b_cons (s_set 2 hn (e_if (t_cmp o_eqS (o_ev (e_fldC T.fl_Effect_kind (o_pk 0))) (o_ev e_str) (by rfl)) (e_call0C C_keep hr) (e_call0C C_drop hr))) (b_cons (s_asg (e_tup (a_cons (o_ev (e_callTy (cD_dict rfl) T.b_dict bo_dict (a_cons (o_ev (e_fldC T.fl_Effect_members (o_pk 0))) a_nil))) (a_cons (o_ev (e_callTy (cD_dict rfl) T.b_dict bo_dict (a_cons (o_ev (e_fldC T.fl_Effect_members (o_pk 1))) a_nil))) a_nil))) (g_tup rfl (gs_cons (g_name 3 hn) (gs_cons (g_name 4 hn) gs_nil)))) (b_cons (s_setLcD 5 rfl hn (d_keys 4) (own := [("key", 6)]) (blkOk_by (by kernel_rfl)) (by decide) (fun _ _ _ _ _ => (g_name 6 hn)) (fun _ _ _ _ _ => c_nil) (fun _ _ _ _ _ => (e_tup (a_cons (o_ev (e_var 6)) (a_cons (o_ev (e_callC C_joined hr (a_cons (o_ev (e_get2 (hu_of hr) (o_pk 3) (o_pk 6) (o_ev (e_var 2)))) (a_cons (o_ev (e_ix (hu_of hr) (o_pk 4) (o_pk 6))) a_nil)))) a_nil)))) (by rfl)) (b_cons (s_set 5 hn (e_bin o_addX (o_pk 5) (o_ev (e_lc rfl hn (w_seq (e_fldC T.fl_Effect_members (o_pk 0))) (own := [("key", 6), ("one", 7)]) (blkOk_by (by kernel_rfl)) (by decide) (fun _ _ _ _ _ => (g_tup rfl (gs_cons (g_name 6 hn) (gs_cons (g_name 7 hn) gs_nil)))) (fun _ _ _ _ _ => (c_one (t_ninK (hu_of hr) (o_pk 6) (o_pk 4)))) (fun _ _ _ _ _ => (e_tup (a_cons (o_ev (e_var 6)) (a_cons (o_ev (e_var 7)) a_nil)))))))) (b_cons (s_if (t_cmp o_eqS (o_ev (e_fldC T.fl_Effect_kind (o_pk 0))) (o_ev e_str) (by rfl)) (b_one (s_setLc 5 rfl hn (w_seq (e_var 5)) (own := [("key", 6), ("one", 7)]) (blkOk_by (by kernel_rfl)) (by decide) (fun _ _ _ _ _ => (g_tup rfl (gs_cons (g_name 6 hn) (gs_cons (g_name 7 hn) gs_nil)))) (fun _ _ _ _ _ => (c_one (t_cmp o_neS (o_ev (e_fldC T.fl_Effect_kind (o_pk 7))) (o_ev e_str) (by rfl)))) (fun _ _ _ _ _ => (e_tup (a_cons (o_ev (e_var 6)) (a_cons (o_ev (e_var 7)) a_nil)))) (by rfl))) b_nil) (b_one (s_ret (e_makeC C_EffectU_initU hr (a_cons (o_ev (e_fldC T.fl_Effect_kind (o_pk 0))) (a_cons (o_ev e_non) (a_cons (o_ev (e_var 5)) a_nil))))))))))))))
theorem ok_joined (T : Txt K mg) : ∀ n : Nat, Cal P w K mg base "joined" ["first", "second"] (4 + n) (G_joined n)
  | 0 => Cal.none T.m_joined
  | n + 1 => Cal.mk T.m_joined sc_joined (bd_joined T (k := 4 + n) (ok_EffectU_initU T n) (by omega) (ok_joined T n) (by omega) (ok_keep T n) (by omega) (ok_drop T n) (by omega) (ok_built T n) (by omega))
theorem sc_whole : FnScope ["row", "found", "patch"] ["row"] (defScope st_whole) := ⟨rfl, rfl, rfl, by decide +kernel, rfl, by decide +kernel, by decide +kernel⟩
theorem bd_whole (T : Txt K mg) {k : Nat} {k0 : Nat} {k1 : Nat} {k2 : Nat} {F_of_patch : F0} {F_joined : F0} {F_keep : F0} (C_of_patch : Cal P w K mg base "of_patch" ["patch", "is_member"] (k0) F_of_patch) (h0 : k0 + 0 ≤ k) (C_joined : Cal P w K mg base "joined" ["first", "second"] (k1) F_joined) (h1 : k1 + 0 ≤ k) (C_keep : Cal P w K mg base "keep" [] (k2) F_keep) (h2 : k2 + 0 ≤ k) : BodyOk P w K mg base "whole" st_whole ["row", "found", "patch"] k (S_whole F_of_patch F_joined F_keep) := by
  intro f cdv A outer s H E hr
  have hn := sc_whole.nd
  exact (b_cons (s_set 1 hn (e_call0C C_keep hr)) (b_cons (s_for [2] rfl PassesOwn.never (w_seq (e_var 0)) (g_name 2 hn) (b_one (s_set 1 hn (e_callC C_joined hr (a_cons (o_ev (e_var 1)) (a_cons (o_ev (e_callC C_of_patch hr (a_cons (o_ev (e_var 2)) (a_cons (o_ev e_bl) a_nil)))) a_nil)))))) (b_one (s_retV 1))))
theorem ok_whole (T : Txt K mg) (n : Nat) : Cal P w K mg base "whole" ["row"] (5 + n) (G_whole n) := Cal.mk T.m_whole sc_whole (bd_whole T (k := 4 + n) (ok_of_patch T n) (by omega) (ok_joined T n) (by omega) (ok_keep T n) (by omega))
theorem sc_effect : FnScope ["row"] ["row"] (defScope st_effect) := ⟨rfl, rfl, rfl, by decide +kernel, rfl, by decide +kernel, by decide +kernel⟩
theorem bd_effect (T : Txt K mg) {k : Nat} {k0 : Nat} {k1 : Nat} {F_whole : F0} {F_check_row : F0} (C_whole : Cal P w K mg base "whole" ["row"] (k0) F_whole) (h0 : k0 + 0 ≤ k) (C_check_row : Cal P w K mg base "check_row" ["row"] (k1) F_check_row) (h1 : k1 + 0 ≤ k) : BodyOk P w K mg base "effect" st_effect ["row"] k (S_effect F_whole F_check_row) := by
  intro f cdv A outer s H E hr
  have hn := sc_effect.nd
  exact (b_cons (s_expr (e_callC C_check_row hr (a_cons (o_ev (e_var 0)) a_nil))) (b_one (s_ret (e_callC C_whole hr (a_cons (o_ev (e_var 0)) a_nil)))))
theorem ok_effect (T : Txt K mg) (n : Nat) : Cal P w K mg base "effect" ["row"] (6 + n) (G_effect n) := Cal.mk T.m_effect sc_effect (bd_effect T (k := 5 + n) (ok_whole T n) (by omega) (ok_check_row T n) (by omega))
theorem sc_law_digit : FnScope ["_law_state_here", "_law_base", "_law_found", "_law_mixed"] ["_law_state_here", "_law_base"] (defScope st_law_digit) := ⟨rfl, rfl, rfl, by decide +kernel, rfl, by decide +kernel, by decide +kernel⟩
theorem bd_law_digit (T : Txt K mg) {k : Nat}    : BodyOk P w K mg base "_law_digit" st_law_digit ["_law_state_here", "_law_base", "_law_found", "_law_mixed"] k (S_law_digit ) := by
  intro f cdv A outer s H E hr
  have hn := sc_law_digit.nd
  exact (b_cons (s_if (t_cmp o_gtI (o_ev (e_ix (hu_of hr) (o_pk 0) (o_ev e_int))) (o_ev e_int) (by rfl)) (b_cons (s_set 2 hn (e_bin o_modI (o_ev (e_ix (hu_of hr) (o_pk 0) (o_ev e_int))) (o_pk 1))) (b_cons (s_store 0 (hu_of hr) (e_bin o_fdivI (o_ev (e_ix (hu_of hr) (o_pk 0) (o_ev e_int))) (o_pk 1)) (o_ev e_int)) (b_one (s_retV 2)))) b_nil) (b_cons (s_set 3 hn (e_bin o_mulI (o_ev (e_ix (hu_of hr) (o_pk 0) (o_ev e_int))) (o_ev (e_bin o_addX (o_ev (e_bin o_fdivI (o_ev (e_ix (hu_of hr) (o_pk 0) (o_ev e_int))) (o_ev e_int))) (o_ev e_int))))) (b_cons (s_store 0 (hu_of hr) (e_bin o_addX (o_ev (e_bin o_modI (o_ev (e_bin o_addX (o_pk 3) (o_ev (e_ix (hu_of hr) (o_pk 0) (o_ev e_int))))) (o_ev e_int))) (o_ev e_int)) (o_ev e_int)) (b_one (s_ret (e_bin o_modI (o_ev (e_bin o_fdivI (o_ev (e_ix (hu_of hr) (o_pk 0) (o_ev e_int))) (o_ev e_int))) (o_pk 1)))))))
theorem ok_law_digit (T : Txt K mg) (n : Nat) : Cal1 P w K mg base "_law_digit" ["_law_state_here", "_law_base"] (1 + n) (G_law_digit n) := Cal1.mk T.m_law_digit sc_law_digit (bd_law_digit T (k := 0 + n) )
theorem sc_law_atom : FnScope ["_law_s"] ["_law_s"] (defScope st_law_atom) := ⟨rfl, rfl, rfl, by decide +kernel, rfl, by decide +kernel, by decide +kernel⟩
theorem bd_law_atom (T : Txt K mg) {k : Nat} {k0 : Nat} {F_law_digit : F1} (C_law_digit : Cal1 P w K mg base "_law_digit" ["_law_state_here", "_law_base"] (k0) F_law_digit) (h0 : k0 + 0 ≤ k) : BodyOk P w K mg base "_law_atom" st_law_atom ["_law_s"] k (S_law_atom F_law_digit) := by
  intro f cdv A outer s H E hr
  have hn := sc_law_atom.nd
  exact (b_one (s_ret (e_ix (hu_of hr) (o_ev (e_lst (a_cons (o_ev e_int) (a_cons (o_ev e_int) (a_cons (o_ev e_int) (a_cons (o_ev (e_neg e_int)) (a_cons (o_ev e_str) (a_cons (o_ev e_str) (a_cons (o_ev e_str) (a_cons (o_ev (e_lst a_nil)) (a_cons (o_ev (e_lst (a_cons (o_ev e_int) (a_cons (o_ev e_str) a_nil)))) (a_cons (o_ev (e_lst (a_cons (o_ev e_non) (a_cons (o_ev e_int) a_nil)))) a_nil)))))))))))) (o_ev (e_call1C 0 C_law_digit hr (a_cons (o_ev e_int) a_nil))))))
theorem ok_law_atom (T : Txt K mg) (n : Nat) : Cal1 P w K mg base "_law_atom" ["_law_s"] (2 + n) (G_law_atom n) := Cal1.mk T.m_law_atom sc_law_atom (bd_law_atom T (k := 1 + n) (ok_law_digit T n) (by omega))
theorem sc_law_patch : FnScope ["_law_s", "_law_deep", "_law_way", "_law_found", "_law_turn"] ["_law_s", "_law_deep"] (defScope st_law_patch) := ⟨rfl, rfl, rfl, by decide +kernel, rfl, by decide +kernel, by decide +kernel⟩
theorem bd_law_patch (T : Txt K mg) {k : Nat} {k0 : Nat} {k1 : Nat} {k2 : Nat} {F_law_digit : F1} {F_law_patch : F1} {F_law_atom : F1} (C_law_digit : Cal1 P w K mg base "_law_digit" ["_law_state_here", "_law_base"] (k0) F_law_digit) (h0 : k0 + 0 ≤ k) (C_law_patch : Cal1 P w K mg base "_law_patch" ["_law_s", "_law_deep"] (k1) F_law_patch) (h1 : k1 + 0 ≤ k) (C_law_atom : Cal1 P w K mg base "_law_atom" ["_law_s"] (k2) F_law_atom) (h2 : k2 + 0 ≤ k) : BodyOk P w K mg base "_law_patch" st_law_patch ["_law_s", "_law_deep", "_law_way", "_law_found", "_law_turn"] k (S_law_patch F_law_digit F_law_patch F_law_atom) := by
  intro f cdv A outer s H E hr
  have hn := sc_law_patch.nd
  exact (b_cons (s_set 2 hn (e_call1C 0 C_law_digit hr (a_cons (o_ev e_int) a_nil))) (b_cons (s_if (t_cmp o_eqS (o_pk 2) (o_ev e_int) (by rfl)) (b_one (s_ret e_non)) b_nil) (b_cons (s_if (t_w (w_or (t_cmp o_eqS (o_pk 2) (o_ev e_int) (by rfl)) (w_or1 (t_cmp o_eqS (o_pk 1) (o_ev e_int) (by rfl))))) (b_one (s_ret (e_call1C 0 C_law_atom hr a_nil))) b_nil) (b_cons (s_set 3 hn e_dic0) (b_cons (s_for [4] rfl PassesOwn.never (w_rng1 T.b_range (e_call1C 0 C_law_digit hr (a_cons (o_ev e_int) a_nil))) (g_name 4 hn) (b_one (s_store 3 (hu_of hr) (e_call1C 0 C_law_patch hr (a_cons (o_ev (e_bin o_subI (o_pk 1) (o_ev e_int))) a_nil)) (o_ev (e_ix (hu_of hr) (o_ev (e_lst (a_cons (o_ev e_str) (a_cons (o_ev e_str) (a_cons (o_ev e_str) a_nil))))) (o_ev (e_call1C 0 C_law_digit hr (a_cons (o_ev e_int) a_nil)))))))) (b_one (s_retV 3)))))))
theorem ok_law_patch (T : Txt K mg) : ∀ n : Nat, Cal1 P w K mg base "_law_patch" ["_law_s", "_law_deep"] (3 + n) (G_law_patch n)
  | 0 => Cal1.none T.m_law_patch
  | n + 1 => Cal1.mk T.m_law_patch sc_law_patch (bd_law_patch T (k := 3 + n) (ok_law_digit T n) (by omega) (ok_law_patch T n) (by omega) (ok_law_atom T n) (by omega))
theorem sc_law_row : FnScope ["_law_s", "_law_most", "_law_deep", "_law_found", "_law_turn"] ["_law_s", "_law_most", "_law_deep"] (defScope st_law_row) := ⟨rfl, rfl, rfl, by decide +kernel, rfl, by decide +kernel, by decide +kernel⟩
theorem bd_law_row (T : Txt K mg) {k : Nat} {k0 : Nat} {k1 : Nat} {F_law_digit : F1} {F_law_patch : F1} (C_law_digit : Cal1 P w K mg base "_law_digit" ["_law_state_here", "_law_base"] (k0) F_law_digit) (h0 : k0 + 0 ≤ k) (C_law_patch : Cal1 P w K mg base "_law_patch" ["_law_s", "_law_deep"] (k1) F_law_patch) (h1 : k1 + 0 ≤ k) : BodyOk P w K mg base "_law_row" st_law_row ["_law_s", "_law_most", "_law_deep", "_law_found", "_law_turn"] k (S_law_row F_law_digit F_law_patch) := by
  intro f cdv A outer s H E hr
  have hn := sc_law_row.nd
  exact (b_cons (s_set 3 hn (e_lst a_nil)) (b_cons (s_for [4] rfl PassesOwn.never (w_rng1 T.b_range (e_call1C 0 C_law_digit hr (a_cons (o_ev (e_var 1)) a_nil))) (g_name 4 hn) (b_one (s_if (t_w (w_and (t_cmp (o_neG (hu_ofG hr)) (o_pk 3) (o_ev (e_lst a_nil)) (by rfl)) (w_and1 (t_cmp o_eqS (o_ev (e_call1C 0 C_law_digit hr (a_cons (o_ev e_int) a_nil))) (o_ev e_int) (by rfl))))) (b_one (s_expr (e_append 3 (o_ev (e_ix (hu_of hr) (o_pk 3) (o_ev (e_call1C 0 C_law_digit hr (a_cons (o_ev (e_callB cD_len T.b_len bo_len (a_cons (o_pk 3) a_nil))) a_nil)))))))) (b_one (s_expr (e_append 3 (o_ev (e_call1C 0 C_law_patch hr (a_cons (o_ev (e_var 2)) a_nil))))))))) (b_one (s_retV 3))))
theorem ok_law_row (T : Txt K mg) (n : Nat) : Cal1 P w K mg base "_law_row" ["_law_s", "_law_most", "_law_deep"] (4 + n) (G_law_row n) := Cal1.mk T.m_law_row sc_law_row (bd_law_row T (k := 3 + n) (ok_law_digit T n) (by omega) (ok_law_patch T n) (by omega))
theorem sc_law_state : FnScope ["_law_source"] ["_law_source"] (defScope st_law_state) := ⟨rfl, rfl, rfl, by decide +kernel, rfl, by decide +kernel, by decide +kernel⟩
theorem bd_law_state (T : Txt K mg) {k : Nat}    : BodyOk P w K mg base "_law_state" st_law_state ["_law_source"] k (S_law_state ) := by
  intro f cdv A outer s H E hr
  have hn := sc_law_state.nd
  exact (b_cons (s_set 0 hn (e_callB cD_abs T.b_abs bo_abs (a_cons (o_pk 0) a_nil))) (b_one (s_ret (e_lst (a_cons (o_ev (e_bin o_mulI (o_pk 0) (o_ev (e_callTy cD_int T.b_int bo_int (a_cons (o_ev (e_cmp o_geI (o_pk 0) (o_ev (e_bin o_powI (o_ev e_int) (o_ev e_int))) (by rfl))) a_nil))))) (a_cons (o_ev (e_bin o_addX (o_ev (e_bin o_modI (o_pk 0) (o_ev e_int))) (o_ev e_int))) (a_cons (o_ev (e_bin o_modI (o_pk 0) (o_ev e_int))) a_nil)))))))
theorem ok_law_state (T : Txt K mg) (n : Nat) : Cal P w K mg base "_law_state" ["_law_source"] (1 + n) (G_law_state n) := Cal.mk T.m_law_state sc_law_state (bd_law_state T (k := 0 + n) )
theorem sc_law : FnScope ["_law_script", "_law_number", "_law_s", "_law_document", "_law_row_here", "_law_kept", "_law_due", "_law_found", "_law_one", "_law_part", "_law_same_again"] ["_law_script"] (defScope st_law) := ⟨rfl, rfl, rfl, by decide +kernel, rfl, by decide +kernel, by decide +kernel⟩
theorem bd_law (T : Txt K mg) {k : Nat} {k0 : Nat} {k1 : Nat} {k2 : Nat} {k3 : Nat} {k4 : Nat} {k5 : Nat} {k6 : Nat} {k7 : Nat} {k8 : Nat} {F_runT : F0} {F_law_spoil : F1} {F_law_run : F0} {F_EffectU_callUT : F0} {F_effect : F0} {F_law_digit : F1} {F_law_patch : F1} {F_law_row : F1} {F_law_state : F0} (C_runT : Cal P w K mg base "run" ["document", "row"] (k0) F_runT) (h0 : k0 + 0 ≤ k) (C_law_spoil : Cal1 P w K mg base "_law_spoil" ["_law_value"] (k1) F_law_spoil) (h1 : k1 + 0 ≤ k) (C_law_run : Cal P w K mg base "_law_run" ["_law_document", "_law_row_here"] (k2) F_law_run) (h2 : k2 + 0 ≤ k) (C_EffectU_callUT : CalM P w K mg base "Effect" "__call__" ["self", "document"] (k3) F_EffectU_callUT) (h3 : k3 + 0 ≤ k) (C_effect : Cal P w K mg base "effect" ["row"] (k4) F_effect) (h4 : k4 + 0 ≤ k) (C_law_digit : Cal1 P w K mg base "_law_digit" ["_law_state_here", "_law_base"] (k5) F_law_digit) (h5 : k5 + 0 ≤ k) (C_law_patch : Cal1 P w K mg base "_law_patch" ["_law_s", "_law_deep"] (k6) F_law_patch) (h6 : k6 + 0 ≤ k) (C_law_row : Cal1 P w K mg base "_law_row" ["_law_s", "_law_most", "_law_deep"] (k7) F_law_row) (h7 : k7 + 0 ≤ k) (C_law_state : Cal P w K mg base "_law_state" ["_law_source"] (k8) F_law_state) (h8 : k8 + 0 ≤ k) : BodyG P w K mg base "law" st_law ["_law_script", "_law_number", "_law_s", "_law_document", "_law_row_here", "_law_kept", "_law_due", "_law_found", "_law_one", "_law_part", "_law_same_again"] k (S_law F_runT F_law_spoil F_law_run F_EffectU_callUT F_effect F_law_digit F_law_patch F_law_row F_law_state) := by
  intro f cdv A outer s H E hg hr
  have hn := sc_law.nd
  exact (b_cons (s_for [1, 2, 5, 6, 7, 8, 9, 10, 3, 4] rfl PassesOwn.never (w_seq (e_slL (o_ev (e_bin o_addX (o_pk 0) (o_ev (e_lst (a_cons (o_ev e_int) a_nil))))) q_no (q_ev e_int))) (g_name 1 hn) (b_cons (s_set 2 hn (e_callC C_law_state hr (a_cons (o_ev (e_var 1)) a_nil))) (b_cons (s_par 3 4 rfl hn (a_cons (o_ev (e_call1C 2 C_law_patch hr (a_cons (o_ev e_int) a_nil))) (a_cons (o_ev (e_call1C 2 C_law_row hr (a_cons (o_ev e_int) (a_cons (o_ev e_int) a_nil)))) a_nil))) (b_cons (s_set 5 hn (e_tup (a_cons (o_ev (e_callB (cD_repr hg (hu_ofG2 hr)) T.b_repr bo_repr (a_cons (o_pk 3) a_nil))) (a_cons (o_ev (e_callB (cD_repr hg (hu_ofG2 hr)) T.b_repr bo_repr (a_cons (o_pk 4) a_nil))) a_nil)))) (b_cons (s_set 6 hn (e_callC C_law_run hr (a_cons (o_ev (e_var 3)) (a_cons (o_ev (e_var 4)) a_nil)))) (b_cons (s_set 7 hn (e_toT (e_callC C_runT hr (a_cons (o_ev (e_var 3)) (a_cons (o_ev (e_ix (hu_of hr) (o_ev (e_lst (a_cons (o_ev (e_var 4)) (a_cons (o_ev (e_callTy cD_tuple T.b_tuple bo_tuple (a_cons (o_pk 4) a_nil))) a_nil)))) (o_ev (e_call1C 2 C_law_digit hr (a_cons (o_ev e_int) a_nil))))) a_nil))))) (b_cons (s_set 8 hn (e_callC C_effect hr (a_cons (o_ev (e_var 4)) a_nil))) (b_cons (s_if (t_w (w_or (t_cmp (o_neG (hu_ofG hr)) (o_ev (e_callIC C_EffectU_callUT T.m_EffectU_callUT hr (e_var 8) (a_cons (o_ev (e_var 3)) a_nil))) (o_pk 6) (by rfl)) (w_or1 (t_cmpP (o_neG (hu_ofG hr)) (o_pk 7) (o_pk 6) (by rfl))))) (b_one (s_ret e_bl)) b_nil) (b_cons (s_set 9 hn (e_slL (o_pk 4) q_no (q_ev e_int))) (b_cons (s_if (t_w (w_or (t_cmp (o_neG (hu_ofG hr)) (o_ev (e_callPk C_runT hr (pks_cons (pk_sl 7) (pks_cons (pk_sl 4) pks_nil)))) (o_pk 6) (by rfl)) (w_or1 (t_cmp (o_neG (hu_ofG hr)) (o_ev (e_callC C_runT hr (a_cons (o_ev (e_var 3)) (a_cons (o_ev (e_bin o_addX (o_pk 9) (o_pk 9))) a_nil)))) (o_ev (e_callC C_law_run hr (a_cons (o_ev (e_var 3)) (a_cons (o_ev (e_var 9)) a_nil)))) (by rfl))))) (b_one (s_ret e_bl)) b_nil) (b_cons (s_expr (e_call1C 7 C_law_spoil hr a_nil)) (b_cons (s_set 10 hn (e_toT (e_callC C_runT hr (a_cons (o_ev (e_var 3)) (a_cons (o_ev (e_lst a_nil)) a_nil))))) (b_cons (s_expr (e_call1C 10 C_law_spoil hr a_nil)) (b_one (s_if (t_w (w_or (t_cmp (o_neG (hu_ofG hr)) (o_ev (e_tup (a_cons (o_ev (e_callB (cD_repr hg (hu_ofG2 hr)) T.b_repr bo_repr (a_cons (o_pk 3) a_nil))) (a_cons (o_ev (e_callB (cD_repr hg (hu_ofG2 hr)) T.b_repr bo_repr (a_cons (o_pk 4) a_nil))) a_nil)))) (o_pk 5) (by rfl)) (w_or1 (t_cmp (o_neG (hu_ofG hr)) (o_ev (e_callC C_runT hr (a_cons (o_ev (e_var 3)) (a_cons (o_ev (e_var 4)) a_nil)))) (o_pk 6) (by rfl))))) (b_one (s_ret e_bl)) b_nil))))))))))))))) (b_one (s_ret e_bl)))
theorem ok_law (T : Txt K mg) (n : Nat) : CalG P w K mg base "law" ["_law_script"] (7 + n) (G_law n) := CalG.mk T.m_law sc_law (bd_law T (k := 6 + n) (ok_runT T n) (by omega) (ok_law_spoil T n) (by omega) (ok_law_run T n) (by omega) (ok_EffectU_callUT T n) (by omega) (ok_effect T n) (by omega) (ok_law_digit T n) (by omega) (ok_law_patch T n) (by omega) (ok_law_row T n) (by omega) (ok_law_state T n) (by omega))
theorem fin_law (T : Txt K mg) (n : Nat) {f : Addr} {fd : FuncData} (F : Fun K "law" "law" st_law f fd) : FnG P w K mg base (7 + n) f fd ["_law_script"] (sp0 mg (G_law n)) := (okG0 F sc_law (by decide) (bd_law T (k := 6 + n) (ok_runT T n) (by omega) (ok_law_spoil T n) (by omega) (ok_law_run T n) (by omega) (ok_EffectU_callUT T n) (by omega) (ok_effect T n) (by omega) (ok_law_digit T n) (by omega) (ok_law_patch T n) (by omega) (ok_law_row T n) (by omega) (ok_law_state T n) (by omega))).up (by omega)
end
end Tw
end
set_option maxRecDepth 100000
set_option maxHeartbeats 4000000
namespace Tw
open PySem PySem.Spec PyProof.Rows L2
theorem sp_of {mg : Str → Option Value} {vs : List V} {H : Hp} {Q : VK} {E : XK} (h : spLaw vs H Q E) : sp0 mg (G_law 16) vs H Q E := by
  obtain ⟨a, ns, rfl, hr, hl, q⟩ := h
  refine ⟨fun _ => False, [.lst (ns.map D.int)], .d (.bl true), fun _ h => h.elim, ⟨_, _, rfl, ⟨a, _, rfl, fun h => h, hr, ints_rep ns⟩, rfl⟩, law_true ns hl, ?_⟩
  intro v H' fp _ _ _ own _
  have : v = .bl true := own.2
  rw [this]
  exact q H' 
theorem all_mk {l : PySem.W.OpenLaw} {w : World} {K : PySem.W.Frag} {h : Heap} {mg : Str → Option Value} {fa : Addr} (X : K.In h) (G : h.Ns mainGlobals mg) (hfa : mg "law" = some (.ref fa))
    {C_Effect : Addr}
    {f0 : Addr} {od0 an0 : Option Addr} {sl0 : Array (Option Value)} {oc0 kV0 dc0 pm0 cd0 ct0 : Value}
    {f1 : Addr} {od1 an1 : Option Addr} {sl1 : Array (Option Value)} {oc1 kV1 dc1 pm1 cd1 ct1 : Value}
    {f2 : Addr} {od2 an2 : Option Addr} {sl2 : Array (Option Value)} {oc2 kV2 dc2 pm2 cd2 ct2 : Value}
    {f3 : Addr} {od3 an3 : Option Addr} {sl3 : Array (Option Value)} {oc3 kV3 dc3 pm3 cd3 ct3 : Value}
    {f4 : Addr} {od4 an4 : Option Addr} {sl4 : Array (Option Value)} {oc4 kV4 dc4 pm4 cd4 ct4 : Value}
    {f5 : Addr} {od5 an5 : Option Addr} {sl5 : Array (Option Value)} {oc5 kV5 dc5 pm5 cd5 ct5 : Value}
    {f6 : Addr} {od6 an6 : Option Addr} {sl6 : Array (Option Value)} {oc6 kV6 dc6 pm6 cd6 ct6 : Value}
    {f7 : Addr} {od7 an7 : Option Addr} {sl7 : Array (Option Value)} {oc7 kV7 dc7 pm7 cd7 ct7 : Value}
    {f8 : Addr} {od8 an8 : Option Addr} {sl8 : Array (Option Value)} {oc8 kV8 dc8 pm8 cd8 ct8 : Value}
    {f9 : Addr} {od9 an9 : Option Addr} {sl9 : Array (Option Value)} {oc9 kV9 dc9 pm9 cd9 ct9 : Value}
    {f10 : Addr} {od10 an10 : Option Addr} {sl10 : Array (Option Value)} {oc10 kV10 dc10 pm10 cd10 ct10 : Value}
    {f11 : Addr} {od11 an11 : Option Addr} {sl11 : Array (Option Value)} {oc11 kV11 dc11 pm11 cd11 ct11 : Value}
    {f12 : Addr} {od12 an12 : Option Addr} {sl12 : Array (Option Value)} {oc12 kV12 dc12 pm12 cd12 ct12 : Value}
    {f13 : Addr} {od13 an13 : Option Addr} {sl13 : Array (Option Value)} {oc13 kV13 dc13 pm13 cd13 ct13 : Value}
    {f14 : Addr} {od14 an14 : Option Addr} {sl14 : Array (Option Value)} {oc14 kV14 dc14 pm14 cd14 ct14 : Value}
    {f15 : Addr} {od15 an15 : Option Addr} {sl15 : Array (Option Value)} {oc15 kV15 dc15 pm15 cd15 ct15 : Value}
    {f16 : Addr} {od16 an16 : Option Addr} {sl16 : Array (Option Value)} {oc16 kV16 dc16 pm16 cd16 ct16 : Value}
    {f17 : Addr} {od17 an17 : Option Addr} {sl17 : Array (Option Value)} {oc17 kV17 dc17 pm17 cd17 ct17 : Value}
    {f18 : Addr} {od18 an18 : Option Addr} {sl18 : Array (Option Value)} {oc18 kV18 dc18 pm18 cd18 ct18 : Value}
    {f19 : Addr} {od19 an19 : Option Addr} {sl19 : Array (Option Value)} {oc19 kV19 dc19 pm19 cd19 ct19 : Value}
    {f20 : Addr} {od20 an20 : Option Addr} {sl20 : Array (Option Value)} {oc20 kV20 dc20 pm20 cd20 ct20 : Value}
    {f21 : Addr} {od21 an21 : Option Addr} {sl21 : Array (Option Value)} {oc21 kV21 dc21 pm21 cd21 ct21 : Value}
    {f22 : Addr} {od22 an22 : Option Addr} {sl22 : Array (Option Value)} {oc22 kV22 dc22 pm22 cd22 ct22 : Value}
    {f23 : Addr} {od23 an23 : Option Addr} {sl23 : Array (Option Value)} {oc23 kV23 dc23 pm23 cd23 ct23 : Value}
    {f24 : Addr} {od24 an24 : Option Addr} {sl24 : Array (Option Value)} {oc24 kV24 dc24 pm24 cd24 ct24 : Value}
    {f25 : Addr} {od25 an25 : Option Addr} {sl25 : Array (Option Value)} {oc25 kV25 dc25 pm25 cd25 ct25 : Value}
    {f26 : Addr} {od26 an26 : Option Addr} {sl26 : Array (Option Value)} {oc26 kV26 dc26 pm26 cd26 ct26 : Value}
    {f27 : Addr} {od27 an27 : Option Addr} {sl27 : Array (Option Value)} {oc27 kV27 dc27 pm27 cd27 ct27 : Value}
    {f28 : Addr} {od28 an28 : Option Addr} {sl28 : Array (Option Value)} {oc28 kV28 dc28 pm28 cd28 ct28 : Value}
    {f29 : Addr} {od29 an29 : Option Addr} {sl29 : Array (Option Value)} {oc29 kV29 dc29 pm29 cd29 ct29 : Value}
    {f30 : Addr} {od30 an30 : Option Addr} {sl30 : Array (Option Value)} {oc30 kV30 dc30 pm30 cd30 ct30 : Value}
    {t_MOST_PARTS : Tok}
    {t_MOST_DEPTH : Tok}
    (aC_Effect : PySem.W.nsIn K mainGlobals "Effect" = some (some (.ref C_Effect)))
    (a0 : PySem.W.nsIn K mainGlobals "copied" = some (some (.ref f0)))
    (l0 : K.lookup f0 = some ⟨oc0, od0, .func (PySem.W.fnOf "copied" "copied" (defArgs st_copiedT) (defBody st_copiedT) (defScope st_copiedT) .none kV0 dc0 pm0 an0 cd0 ct0), sl0⟩)
    (c0 : PySem.W.codeIn K cd0 "copied" = true)
    (k0 : PySem.W.keepIn K (.ref f0) = true)
    (a1 : PySem.W.nsIn K mainGlobals "merged" = some (some (.ref f1)))
    (l1 : K.lookup f1 = some ⟨oc1, od1, .func (PySem.W.fnOf "merged" "merged" (defArgs st_mergedT) (defBody st_mergedT) (defScope st_mergedT) .none kV1 dc1 pm1 an1 cd1 ct1), sl1⟩)
    (c1 : PySem.W.codeIn K cd1 "merged" = true)
    (k1 : PySem.W.keepIn K (.ref f1) = true)
    (a2 : PySem.W.nsIn K mainGlobals "after_all" = some (some (.ref f2)))
    (l2 : K.lookup f2 = some ⟨oc2, od2, .func (PySem.W.fnOf "after_all" "after_all" (defArgs st_after_allT) (defBody st_after_allT) (defScope st_after_allT) .none kV2 dc2 pm2 an2 cd2 ct2), sl2⟩)
    (c2 : PySem.W.codeIn K cd2 "after_all" = true)
    (k2 : PySem.W.keepIn K (.ref f2) = true)
    (a3 : PySem.W.nsIn K mainGlobals "parts_of" = some (some (.ref f3)))
    (l3 : K.lookup f3 = some ⟨oc3, od3, .func (PySem.W.fnOf "parts_of" "parts_of" (defArgs st_parts_of) (defBody st_parts_of) (defScope st_parts_of) .none kV3 dc3 pm3 an3 cd3 ct3), sl3⟩)
    (c3 : PySem.W.codeIn K cd3 "parts_of" = true)
    (k3 : PySem.W.keepIn K (.ref f3) = true)
    (a4 : PySem.W.nsIn K mainGlobals "depth_of" = some (some (.ref f4)))
    (l4 : K.lookup f4 = some ⟨oc4, od4, .func (PySem.W.fnOf "depth_of" "depth_of" (defArgs st_depth_of) (defBody st_depth_of) (defScope st_depth_of) .none kV4 dc4 pm4 an4 cd4 ct4), sl4⟩)
    (c4 : PySem.W.codeIn K cd4 "depth_of" = true)
    (k4 : PySem.W.keepIn K (.ref f4) = true)
    (a5 : PySem.W.nsIn K mainGlobals "is_plain" = some (some (.ref f5)))
    (l5 : K.lookup f5 = some ⟨oc5, od5, .func (PySem.W.fnOf "is_plain" "is_plain" (defArgs st_is_plain) (defBody st_is_plain) (defScope st_is_plain) .none kV5 dc5 pm5 an5 cd5 ct5), sl5⟩)
    (c5 : PySem.W.codeIn K cd5 "is_plain" = true)
    (k5 : PySem.W.keepIn K (.ref f5) = true)
    (a6 : PySem.W.nsIn K mainGlobals "is_atom" = some (some (.ref f6)))
    (l6 : K.lookup f6 = some ⟨oc6, od6, .func (PySem.W.fnOf "is_atom" "is_atom" (defArgs st_is_atom) (defBody st_is_atom) (defScope st_is_atom) .none kV6 dc6 pm6 an6 cd6 ct6), sl6⟩)
    (c6 : PySem.W.codeIn K cd6 "is_atom" = true)
    (k6 : PySem.W.keepIn K (.ref f6) = true)
    (a7 : PySem.W.nsIn K mainGlobals "wrong_path" = some (some (.ref f7)))
    (l7 : K.lookup f7 = some ⟨oc7, od7, .func (PySem.W.fnOf "wrong_path" "wrong_path" (defArgs st_wrong_path) (defBody st_wrong_path) (defScope st_wrong_path) .none kV7 dc7 pm7 an7 cd7 ct7), sl7⟩)
    (c7 : PySem.W.codeIn K cd7 "wrong_path" = true)
    (k7 : PySem.W.keepIn K (.ref f7) = true)
    (a8 : PySem.W.nsIn K mainGlobals "check" = some (some (.ref f8)))
    (l8 : K.lookup f8 = some ⟨oc8, od8, .func (PySem.W.fnOf "check" "check" (defArgs st_check) (defBody st_check) (defScope st_check) .none kV8 dc8 pm8 an8 cd8 ct8), sl8⟩)
    (c8 : PySem.W.codeIn K cd8 "check" = true)
    (k8 : PySem.W.keepIn K (.ref f8) = true)
    (a9 : PySem.W.nsIn K mainGlobals "check_row" = some (some (.ref f9)))
    (l9 : K.lookup f9 = some ⟨oc9, od9, .func (PySem.W.fnOf "check_row" "check_row" (defArgs st_check_row) (defBody st_check_row) (defScope st_check_row) .none kV9 dc9 pm9 an9 cd9 ct9), sl9⟩)
    (c9 : PySem.W.codeIn K cd9 "check_row" = true)
    (k9 : PySem.W.keepIn K (.ref f9) = true)
    (a10 : PySem.W.nsIn K mainGlobals "run" = some (some (.ref f10)))
    (l10 : K.lookup f10 = some ⟨oc10, od10, .func (PySem.W.fnOf "run" "run" (defArgs st_runT) (defBody st_runT) (defScope st_runT) .none kV10 dc10 pm10 an10 cd10 ct10), sl10⟩)
    (c10 : PySem.W.codeIn K cd10 "run" = true)
    (k10 : PySem.W.keepIn K (.ref f10) = true)
    (a11 : PySem.W.nsIn K mainGlobals "_law_spoil" = some (some (.ref f11)))
    (l11 : K.lookup f11 = some ⟨oc11, od11, .func (PySem.W.fnOf "_law_spoil" "_law_spoil" (defArgs st_law_spoil) (defBody st_law_spoil) (defScope st_law_spoil) .none kV11 dc11 pm11 an11 cd11 ct11), sl11⟩)
    (c11 : PySem.W.codeIn K cd11 "_law_spoil" = true)
    (k11 : PySem.W.keepIn K (.ref f11) = true)
    (a12 : PySem.W.nsIn K mainGlobals "_law_copied" = some (some (.ref f12)))
    (l12 : K.lookup f12 = some ⟨oc12, od12, .func (PySem.W.fnOf "_law_copied" "_law_copied" (defArgs st_law_copied) (defBody st_law_copied) (defScope st_law_copied) .none kV12 dc12 pm12 an12 cd12 ct12), sl12⟩)
    (c12 : PySem.W.codeIn K cd12 "_law_copied" = true)
    (k12 : PySem.W.keepIn K (.ref f12) = true)
    (a13 : PySem.W.nsIn K mainGlobals "_law_after" = some (some (.ref f13)))
    (l13 : K.lookup f13 = some ⟨oc13, od13, .func (PySem.W.fnOf "_law_after" "_law_after" (defArgs st_law_after) (defBody st_law_after) (defScope st_law_after) .none kV13 dc13 pm13 an13 cd13 ct13), sl13⟩)
    (c13 : PySem.W.codeIn K cd13 "_law_after" = true)
    (k13 : PySem.W.keepIn K (.ref f13) = true)
    (a14 : PySem.W.nsIn K mainGlobals "_law_run" = some (some (.ref f14)))
    (l14 : K.lookup f14 = some ⟨oc14, od14, .func (PySem.W.fnOf "_law_run" "_law_run" (defArgs st_law_run) (defBody st_law_run) (defScope st_law_run) .none kV14 dc14 pm14 an14 cd14 ct14), sl14⟩)
    (c14 : PySem.W.codeIn K cd14 "_law_run" = true)
    (k14 : PySem.W.keepIn K (.ref f14) = true)
    (a15 : PySem.W.nsIn K mainGlobals "acted" = some (some (.ref f15)))
    (l15 : K.lookup f15 = some ⟨oc15, od15, .func (PySem.W.fnOf "acted" "acted" (defArgs st_actedT) (defBody st_actedT) (defScope st_actedT) .none kV15 dc15 pm15 an15 cd15 ct15), sl15⟩)
    (c15 : PySem.W.codeIn K cd15 "acted" = true)
    (k15 : PySem.W.keepIn K (.ref f15) = true)
    (a16 : PySem.W.findIn K (.ref C_Effect) "__call__" = some (some (.ref f16)))
    (i16 : PySem.W.isFn K (.ref f16) = true)
    (l16 : K.lookup f16 = some ⟨oc16, od16, .func (PySem.W.fnOf "__call__" "Effect.__call__" (defArgs st_EffectU_callUT) (defBody st_EffectU_callUT) (defScope st_EffectU_callUT) .none kV16 dc16 pm16 an16 cd16 ct16), sl16⟩)
    (c16 : PySem.W.codeIn K cd16 "Effect.__call__" = true)
    (k16 : PySem.W.keepIn K (.ref f16) = true)
    (a17 : PySem.W.findIn K (.ref C_Effect) "__init__" = some (some (.ref f17)))
    (i17 : PySem.W.isFn K (.ref f17) = true)
    (l17 : K.lookup f17 = some ⟨oc17, od17, .func (PySem.W.fnOf "__init__" "Effect.__init__" (defArgs st_EffectU_initU) (defBody st_EffectU_initU) (defScope st_EffectU_initU) .none kV17 dc17 pm17 an17 cd17 ct17), sl17⟩)
    (c17 : PySem.W.codeIn K cd17 "Effect.__init__" = true)
    (k17 : PySem.W.keepIn K (.ref f17) = true)
    (a18 : PySem.W.nsIn K mainGlobals "drop" = some (some (.ref f18)))
    (l18 : K.lookup f18 = some ⟨oc18, od18, .func (PySem.W.fnOf "drop" "drop" (defArgs st_drop) (defBody st_drop) (defScope st_drop) .none kV18 dc18 pm18 an18 cd18 ct18), sl18⟩)
    (c18 : PySem.W.codeIn K cd18 "drop" = true)
    (k18 : PySem.W.keepIn K (.ref f18) = true)
    (a19 : PySem.W.nsIn K mainGlobals "of_patch" = some (some (.ref f19)))
    (l19 : K.lookup f19 = some ⟨oc19, od19, .func (PySem.W.fnOf "of_patch" "of_patch" (defArgs st_of_patch) (defBody st_of_patch) (defScope st_of_patch) .none kV19 dc19 pm19 an19 cd19 ct19), sl19⟩)
    (c19 : PySem.W.codeIn K cd19 "of_patch" = true)
    (k19 : PySem.W.keepIn K (.ref f19) = true)
    (a20 : PySem.W.nsIn K mainGlobals "keep" = some (some (.ref f20)))
    (l20 : K.lookup f20 = some ⟨oc20, od20, .func (PySem.W.fnOf "keep" "keep" (defArgs st_keep) (defBody st_keep) (defScope st_keep) .none kV20 dc20 pm20 an20 cd20 ct20), sl20⟩)
    (c20 : PySem.W.codeIn K cd20 "keep" = true)
    (k20 : PySem.W.keepIn K (.ref f20) = true)
    (a21 : PySem.W.nsIn K mainGlobals "built" = some (some (.ref f21)))
    (l21 : K.lookup f21 = some ⟨oc21, od21, .func (PySem.W.fnOf "built" "built" (defArgs st_built) (defBody st_built) (defScope st_built) .none kV21 dc21 pm21 an21 cd21 ct21), sl21⟩)
    (c21 : PySem.W.codeIn K cd21 "built" = true)
    (k21 : PySem.W.keepIn K (.ref f21) = true)
    (a22 : PySem.W.nsIn K mainGlobals "joined" = some (some (.ref f22)))
    (l22 : K.lookup f22 = some ⟨oc22, od22, .func (PySem.W.fnOf "joined" "joined" (defArgs st_joined) (defBody st_joined) (defScope st_joined) .none kV22 dc22 pm22 an22 cd22 ct22), sl22⟩)
    (c22 : PySem.W.codeIn K cd22 "joined" = true)
    (k22 : PySem.W.keepIn K (.ref f22) = true)
    (a23 : PySem.W.nsIn K mainGlobals "whole" = some (some (.ref f23)))
    (l23 : K.lookup f23 = some ⟨oc23, od23, .func (PySem.W.fnOf "whole" "whole" (defArgs st_whole) (defBody st_whole) (defScope st_whole) .none kV23 dc23 pm23 an23 cd23 ct23), sl23⟩)
    (c23 : PySem.W.codeIn K cd23 "whole" = true)
    (k23 : PySem.W.keepIn K (.ref f23) = true)
    (a24 : PySem.W.nsIn K mainGlobals "effect" = some (some (.ref f24)))
    (l24 : K.lookup f24 = some ⟨oc24, od24, .func (PySem.W.fnOf "effect" "effect" (defArgs st_effect) (defBody st_effect) (defScope st_effect) .none kV24 dc24 pm24 an24 cd24 ct24), sl24⟩)
    (c24 : PySem.W.codeIn K cd24 "effect" = true)
    (k24 : PySem.W.keepIn K (.ref f24) = true)
    (a25 : PySem.W.nsIn K mainGlobals "_law_digit" = some (some (.ref f25)))
    (l25 : K.lookup f25 = some ⟨oc25, od25, .func (PySem.W.fnOf "_law_digit" "_law_digit" (defArgs st_law_digit) (defBody st_law_digit) (defScope st_law_digit) .none kV25 dc25 pm25 an25 cd25 ct25), sl25⟩)
    (c25 : PySem.W.codeIn K cd25 "_law_digit" = true)
    (k25 : PySem.W.keepIn K (.ref f25) = true)
    (a26 : PySem.W.nsIn K mainGlobals "_law_atom" = some (some (.ref f26)))
    (l26 : K.lookup f26 = some ⟨oc26, od26, .func (PySem.W.fnOf "_law_atom" "_law_atom" (defArgs st_law_atom) (defBody st_law_atom) (defScope st_law_atom) .none kV26 dc26 pm26 an26 cd26 ct26), sl26⟩)
    (c26 : PySem.W.codeIn K cd26 "_law_atom" = true)
    (k26 : PySem.W.keepIn K (.ref f26) = true)
    (a27 : PySem.W.nsIn K mainGlobals "_law_patch" = some (some (.ref f27)))
    (l27 : K.lookup f27 = some ⟨oc27, od27, .func (PySem.W.fnOf "_law_patch" "_law_patch" (defArgs st_law_patch) (defBody st_law_patch) (defScope st_law_patch) .none kV27 dc27 pm27 an27 cd27 ct27), sl27⟩)
    (c27 : PySem.W.codeIn K cd27 "_law_patch" = true)
    (k27 : PySem.W.keepIn K (.ref f27) = true)
    (a28 : PySem.W.nsIn K mainGlobals "_law_row" = some (some (.ref f28)))
    (l28 : K.lookup f28 = some ⟨oc28, od28, .func (PySem.W.fnOf "_law_row" "_law_row" (defArgs st_law_row) (defBody st_law_row) (defScope st_law_row) .none kV28 dc28 pm28 an28 cd28 ct28), sl28⟩)
    (c28 : PySem.W.codeIn K cd28 "_law_row" = true)
    (k28 : PySem.W.keepIn K (.ref f28) = true)
    (a29 : PySem.W.nsIn K mainGlobals "_law_state" = some (some (.ref f29)))
    (l29 : K.lookup f29 = some ⟨oc29, od29, .func (PySem.W.fnOf "_law_state" "_law_state" (defArgs st_law_state) (defBody st_law_state) (defScope st_law_state) .none kV29 dc29 pm29 an29 cd29 ct29), sl29⟩)
    (c29 : PySem.W.codeIn K cd29 "_law_state" = true)
    (k29 : PySem.W.keepIn K (.ref f29) = true)
    (a30 : PySem.W.nsIn K mainGlobals "law" = some (some (.ref f30)))
    (l30 : K.lookup f30 = some ⟨oc30, od30, .func (PySem.W.fnOf "law" "law" (defArgs st_law) (defBody st_law) (defScope st_law) .none kV30 dc30 pm30 an30 cd30 ct30), sl30⟩)
    (c30 : PySem.W.codeIn K cd30 "law" = true)
    (k30 : PySem.W.keepIn K (.ref f30) = true)
    (pg_Effect : PySem.W.plainGet K C_Effect Str.empty = true)
    (hd_Effect : PySem.W.hasDictIn K C_Effect = true)
    (po_Effect : PySem.W.plainOver K C_Effect = true)
    (sa_Effect : PySem.W.findIn K (.ref C_Effect) "__setattr__" = some (some (.builtin "object.__setattr__")))
    (fl_Effect_atom : PySem.W.findIn K (.ref C_Effect) "atom" = some none)
    (fl_Effect_kind : PySem.W.findIn K (.ref C_Effect) "kind" = some none)
    (fl_Effect_members : PySem.W.findIn K (.ref C_Effect) "members" = some none)
    (mk_Effect : PySem.W.makesIn K C_Effect = true)
    (kc_Effect : PySem.W.keepIn K (.ref C_Effect) = true)
    (z_abs : PySem.W.nsIn K mainGlobals "abs" = some none)
    (z_all : PySem.W.nsIn K mainGlobals "all" = some none)
    (z_bool : PySem.W.nsIn K mainGlobals "bool" = some none)
    (z_dict : PySem.W.nsIn K mainGlobals "dict" = some none)
    (z_int : PySem.W.nsIn K mainGlobals "int" = some none)
    (z_isinstance : PySem.W.nsIn K mainGlobals "isinstance" = some none)
    (z_len : PySem.W.nsIn K mainGlobals "len" = some none)
    (z_list : PySem.W.nsIn K mainGlobals "list" = some none)
    (z_max : PySem.W.nsIn K mainGlobals "max" = some none)
    (z_range : PySem.W.nsIn K mainGlobals "range" = some none)
    (z_repr : PySem.W.nsIn K mainGlobals "repr" = some none)
    (z_sorted : PySem.W.nsIn K mainGlobals "sorted" = some none)
    (z_str : PySem.W.nsIn K mainGlobals "str" = some none)
    (z_sum : PySem.W.nsIn K mainGlobals "sum" = some none)
    (z_tuple : PySem.W.nsIn K mainGlobals "tuple" = some none)
    (g_MOST_PARTS : PySem.W.nsIn K mainGlobals "MOST_PARTS" = some (some (.int 200 t_MOST_PARTS)))
    (g_MOST_DEPTH : PySem.W.nsIn K mainGlobals "MOST_DEPTH" = some (some (.int 8 t_MOST_DEPTH)))
    : ∃ fd : FuncData, (∀ (s : Shared) (v : Value), BindsTo s fd ⟨[v], []⟩ [("_law_script", v)]) ∧ ∀ base : Heap, K.In base → base.Ns mainGlobals mg → FnG l.prog w K mg base 23 fa fd ["_law_script"] spLaw := by
  have e := hfa.symm.trans (PySem.W.mg_of X G a30)
  cases e
  have F0 := fun_mk (st := st_copiedT) l0 c0 k0
  have F1 := fun_mk (st := st_mergedT) l1 c1 k1
  have F2 := fun_mk (st := st_after_allT) l2 c2 k2
  have F3 := fun_mk (st := st_parts_of) l3 c3 k3
  have F4 := fun_mk (st := st_depth_of) l4 c4 k4
  have F5 := fun_mk (st := st_is_plain) l5 c5 k5
  have F6 := fun_mk (st := st_is_atom) l6 c6 k6
  have F7 := fun_mk (st := st_wrong_path) l7 c7 k7
  have F8 := fun_mk (st := st_check) l8 c8 k8
  have F9 := fun_mk (st := st_check_row) l9 c9 k9
  have F10 := fun_mk (st := st_runT) l10 c10 k10
  have F11 := fun_mk (st := st_law_spoil) l11 c11 k11
  have F12 := fun_mk (st := st_law_copied) l12 c12 k12
  have F13 := fun_mk (st := st_law_after) l13 c13 k13
  have F14 := fun_mk (st := st_law_run) l14 c14 k14
  have F15 := fun_mk (st := st_actedT) l15 c15 k15
  have F16 := fun_mk (st := st_EffectU_callUT) l16 c16 k16
  have F17 := fun_mk (st := st_EffectU_initU) l17 c17 k17
  have F18 := fun_mk (st := st_drop) l18 c18 k18
  have F19 := fun_mk (st := st_of_patch) l19 c19 k19
  have F20 := fun_mk (st := st_keep) l20 c20 k20
  have F21 := fun_mk (st := st_built) l21 c21 k21
  have F22 := fun_mk (st := st_joined) l22 c22 k22
  have F23 := fun_mk (st := st_whole) l23 c23 k23
  have F24 := fun_mk (st := st_effect) l24 c24 k24
  have F25 := fun_mk (st := st_law_digit) l25 c25 k25
  have F26 := fun_mk (st := st_law_atom) l26 c26 k26
  have F27 := fun_mk (st := st_law_patch) l27 c27 k27
  have F28 := fun_mk (st := st_law_row) l28 c28 k28
  have F29 := fun_mk (st := st_law_state) l29 c29 k29
  have F30 := fun_mk (st := st_law) l30 c30 k30
  have b0 := F0.binds (ps := ["value"]) fun _ _ _ _ _ _ us hl => match us, hl with | [_], _ => rfl
  have b1 := F1.binds (ps := ["document", "patch"]) fun _ _ _ _ _ _ us hl => match us, hl with | [_, _], _ => rfl
  have b2 := F2.binds (ps := ["document", "row"]) fun _ _ _ _ _ _ us hl => match us, hl with | [_, _], _ => rfl
  have b3 := F3.binds (ps := ["value"]) fun _ _ _ _ _ _ us hl => match us, hl with | [_], _ => rfl
  have b4 := F4.binds (ps := ["value"]) fun _ _ _ _ _ _ us hl => match us, hl with | [_], _ => rfl
  have b5 := F5.binds (ps := ["value"]) fun _ _ _ _ _ _ us hl => match us, hl with | [_], _ => rfl
  have b6 := F6.binds (ps := ["value"]) fun _ _ _ _ _ _ us hl => match us, hl with | [_], _ => rfl
  have b7 := F7.binds (ps := ["value", "path"]) fun _ _ _ _ _ _ us hl => match us, hl with | [_, _], _ => rfl
  have b8 := F8.binds (ps := ["value"]) fun _ _ _ _ _ _ us hl => match us, hl with | [_], _ => rfl
  have b9 := F9.binds (ps := ["row"]) fun _ _ _ _ _ _ us hl => match us, hl with | [_], _ => rfl
  have b10 := F10.binds (ps := ["document", "row"]) fun _ _ _ _ _ _ us hl => match us, hl with | [_, _], _ => rfl
  have b11 := F11.binds (ps := ["_law_value"]) fun _ _ _ _ _ _ us hl => match us, hl with | [_], _ => rfl
  have b12 := F12.binds (ps := ["_law_value"]) fun _ _ _ _ _ _ us hl => match us, hl with | [_], _ => rfl
  have b13 := F13.binds (ps := ["_law_document", "_law_patch_here"]) fun _ _ _ _ _ _ us hl => match us, hl with | [_, _], _ => rfl
  have b14 := F14.binds (ps := ["_law_document", "_law_row_here"]) fun _ _ _ _ _ _ us hl => match us, hl with | [_, _], _ => rfl
  have b15 := F15.binds (ps := ["one", "document"]) fun _ _ _ _ _ _ us hl => match us, hl with | [_, _], _ => rfl
  have b16 := F16.binds (ps := ["self", "document"]) fun _ _ _ _ _ _ us hl => match us, hl with | [_, _], _ => rfl
  have b17 := F17.binds (ps := ["self", "kind", "atom", "members"]) fun _ _ _ _ _ _ us hl => match us, hl with | [_, _, _, _], _ => rfl
  have b18 := F18.binds (ps := []) fun _ _ _ _ _ _ us hl => match us, hl with | [], _ => rfl
  have b19 := F19.binds (ps := ["patch", "is_member"]) fun _ _ _ _ _ _ us hl => match us, hl with | [_, _], _ => rfl
  have b20 := F20.binds (ps := []) fun _ _ _ _ _ _ us hl => match us, hl with | [], _ => rfl
  have b21 := F21.binds (ps := ["one"]) fun _ _ _ _ _ _ us hl => match us, hl with | [_], _ => rfl
  have b22 := F22.binds (ps := ["first", "second"]) fun _ _ _ _ _ _ us hl => match us, hl with | [_, _], _ => rfl
  have b23 := F23.binds (ps := ["row"]) fun _ _ _ _ _ _ us hl => match us, hl with | [_], _ => rfl
  have b24 := F24.binds (ps := ["row"]) fun _ _ _ _ _ _ us hl => match us, hl with | [_], _ => rfl
  have b25 := F25.binds (ps := ["_law_state_here", "_law_base"]) fun _ _ _ _ _ _ us hl => match us, hl with | [_, _], _ => rfl
  have b26 := F26.binds (ps := ["_law_s"]) fun _ _ _ _ _ _ us hl => match us, hl with | [_], _ => rfl
  have b27 := F27.binds (ps := ["_law_s", "_law_deep"]) fun _ _ _ _ _ _ us hl => match us, hl with | [_, _], _ => rfl
  have b28 := F28.binds (ps := ["_law_s", "_law_most", "_law_deep"]) fun _ _ _ _ _ _ us hl => match us, hl with | [_, _, _], _ => rfl
  have b29 := F29.binds (ps := ["_law_source"]) fun _ _ _ _ _ _ us hl => match us, hl with | [_], _ => rfl
  have b30 := F30.binds (ps := ["_law_script"]) fun _ _ _ _ _ _ us hl => match us, hl with | [_], _ => rfl
  have mC_Effect := PySem.W.mg_of X G aC_Effect
  have cl_Effect : Cls K C_Effect := ⟨pg_Effect, hd_Effect, po_Effect, sa_Effect⟩
  have T : Txt K mg := ⟨⟨_, _, PySem.W.mg_of X G a0, F0, b0⟩,
    ⟨_, _, PySem.W.mg_of X G a1, F1, b1⟩,
    ⟨_, _, PySem.W.mg_of X G a2, F2, b2⟩,
    ⟨_, _, PySem.W.mg_of X G a3, F3, b3⟩,
    ⟨_, _, PySem.W.mg_of X G a4, F4, b4⟩,
    ⟨_, _, PySem.W.mg_of X G a5, F5, b5⟩,
    ⟨_, _, PySem.W.mg_of X G a6, F6, b6⟩,
    ⟨_, _, PySem.W.mg_of X G a7, F7, b7⟩,
    ⟨_, _, PySem.W.mg_of X G a8, F8, b8⟩,
    ⟨_, _, PySem.W.mg_of X G a9, F9, b9⟩,
    ⟨_, _, PySem.W.mg_of X G a10, F10, b10⟩,
    ⟨_, _, PySem.W.mg_of X G a11, F11, b11⟩,
    ⟨_, _, PySem.W.mg_of X G a12, F12, b12⟩,
    ⟨_, _, PySem.W.mg_of X G a13, F13, b13⟩,
    ⟨_, _, PySem.W.mg_of X G a14, F14, b14⟩,
    ⟨_, _, PySem.W.mg_of X G a15, F15, b15⟩,
    ⟨_, _, _, mC_Effect, cl_Effect, ⟨a16, i16, k16⟩, F16, b16⟩,
    ⟨_, _, _, mC_Effect, cl_Effect, ⟨a17, i17, k17⟩, F17, b17⟩,
    ⟨_, _, PySem.W.mg_of X G a18, F18, b18⟩,
    ⟨_, _, PySem.W.mg_of X G a19, F19, b19⟩,
    ⟨_, _, PySem.W.mg_of X G a20, F20, b20⟩,
    ⟨_, _, PySem.W.mg_of X G a21, F21, b21⟩,
    ⟨_, _, PySem.W.mg_of X G a22, F22, b22⟩,
    ⟨_, _, PySem.W.mg_of X G a23, F23, b23⟩,
    ⟨_, _, PySem.W.mg_of X G a24, F24, b24⟩,
    ⟨_, _, PySem.W.mg_of X G a25, F25, b25⟩,
    ⟨_, _, PySem.W.mg_of X G a26, F26, b26⟩,
    ⟨_, _, PySem.W.mg_of X G a27, F27, b27⟩,
    ⟨_, _, PySem.W.mg_of X G a28, F28, b28⟩,
    ⟨_, _, PySem.W.mg_of X G a29, F29, b29⟩,
    ⟨_, _, PySem.W.mg_of X G a30, F30, b30⟩,
    PySem.W.mg_none_of X G z_abs,
    PySem.W.mg_none_of X G z_all,
    PySem.W.mg_none_of X G z_bool,
    PySem.W.mg_none_of X G z_dict,
    PySem.W.mg_none_of X G z_int,
    PySem.W.mg_none_of X G z_isinstance,
    PySem.W.mg_none_of X G z_len,
    PySem.W.mg_none_of X G z_list,
    PySem.W.mg_none_of X G z_max,
    PySem.W.mg_none_of X G z_range,
    PySem.W.mg_none_of X G z_repr,
    PySem.W.mg_none_of X G z_sorted,
    PySem.W.mg_none_of X G z_str,
    PySem.W.mg_none_of X G z_sum,
    PySem.W.mg_none_of X G z_tuple,
    ⟨_, PySem.W.mg_of X G g_MOST_DEPTH⟩,
    ⟨_, PySem.W.mg_of X G g_MOST_PARTS⟩,
    ⟨_, mC_Effect, cl_Effect, fl_Effect_atom⟩,
    ⟨_, mC_Effect, cl_Effect, fl_Effect_kind⟩,
    ⟨_, mC_Effect, cl_Effect, fl_Effect_members⟩,
    (fun C hC => by cases hC.symm.trans mC_Effect; exact ⟨mk_Effect, kc_Effect⟩)⟩
  refine ⟨_, fun s v => .of_eq rfl, fun base _ _ => (fin_law (P := l.prog) (w := w) (base := base) T 16 F30).less fun vs H Q E q => sp_of q⟩
theorem walk {l : PySem.W.OpenLaw} {q : Program} {loose : List Str} {XP : (Str → Option Value) → Heap → Prop} {YP : World → Heap → Prop} {d : DefRec} {K : Params → PySem.W.Frag} (hn : l.most = some 63) (hdf : d.params.defaults = [])
    (hY : ∀ (w : World) (h : Heap), YP w h → (K w.params).In h) (hL : ∀ w : World, noL (K w.params) = true)
    (F : ∀ (w : World) (mg : Str → Option Value) (fa : Addr) (h : Heap), (K w.params).In h → h.Ns mainGlobals mg → mg d.name = some (.ref fa) →
      ∃ fd : FuncData, (∀ (s : Shared) (u : Value), BindsTo s fd ⟨[u], []⟩ [("_law_script", u)]) ∧ ∀ base : Heap, (K w.params).In base → base.Ns mainGlobals mg → FnG l.prog w (K w.params) mg base 23 fa fd ["_law_script"] spLaw) :
    PySem.W.WalkO q loose XP YP l.row.toRowW d [] (fun f vs => PySem.call f vs) :=
  walk_g (k := 23) hn hdf ⟨rfl, by decide, by decide⟩ hY hL F
end Tw
open PySem PySem.W PyProof.Rows
set_option maxRecDepth 100000 in
set_option maxHeartbeats 0 in
theorem PySem.Challenge.cw_twopatches_k05_rows_run_holds : PySem.Challenge.rw_twopatches_k05_rows_run.Holds := by
  w_on; o_law; k_head; (case hw => w_witness2)
  k_fill
  refine Tw.walk (l := PySem.Challenge.rw_twopatches_k05_rows_run) rfl rfl (fun w h Y => PySem.W.kIn_of Y) ?hL ?F
  case hL => intro w; rfl
  case F =>
    intro w mg fa h KX G hmg
    refine' Tw.all_mk KX G hmg ?aC_Effect ?a0 ?l0 ?c0 ?k0 ?a1 ?l1 ?c1 ?k1 ?a2 ?l2 ?c2 ?k2 ?a3 ?l3 ?c3 ?k3 ?a4 ?l4 ?c4 ?k4 ?a5 ?l5 ?c5 ?k5 ?a6 ?l6 ?c6 ?k6 ?a7 ?l7 ?c7 ?k7 ?a8 ?l8 ?c8 ?k8 ?a9 ?l9 ?c9 ?k9 ?a10 ?l10 ?c10 ?k10 ?a11 ?l11 ?c11 ?k11 ?a12 ?l12 ?c12 ?k12 ?a13 ?l13 ?c13 ?k13 ?a14 ?l14 ?c14 ?k14 ?a15 ?l15 ?c15 ?k15 ?a16 ?i16 ?l16 ?c16 ?k16 ?a17 ?i17 ?l17 ?c17 ?k17 ?a18 ?l18 ?c18 ?k18 ?a19 ?l19 ?c19 ?k19 ?a20 ?l20 ?c20 ?k20 ?a21 ?l21 ?c21 ?k21 ?a22 ?l22 ?c22 ?k22 ?a23 ?l23 ?c23 ?k23 ?a24 ?l24 ?c24 ?k24 ?a25 ?l25 ?c25 ?k25 ?a26 ?l26 ?c26 ?k26 ?a27 ?l27 ?c27 ?k27 ?a28 ?l28 ?c28 ?k28 ?a29 ?l29 ?c29 ?k29 ?a30 ?l30 ?c30 ?k30 ?pg_Effect ?hd_Effect ?po_Effect ?sa_Effect ?fl_Effect_atom ?fl_Effect_kind ?fl_Effect_members ?mk_Effect ?kc_Effect ?z_abs ?z_all ?z_bool ?z_dict ?z_int ?z_isinstance ?z_len ?z_list ?z_max ?z_range ?z_repr ?z_sorted ?z_str ?z_sum ?z_tuple ?g_MOST_PARTS ?g_MOST_DEPTH
    (case aC_Effect => k_is)
    (case a0 => k_is)
    (case l0 => k_is)
    (case c0 => k_is)
    (case k0 => k_is)
    (case a1 => k_is)
    (case l1 => k_is)
    (case c1 => k_is)
    (case k1 => k_is)
    (case a2 => k_is)
    (case l2 => k_is)
    (case c2 => k_is)
    (case k2 => k_is)
    (case a3 => k_is)
    (case l3 => k_is)
    (case c3 => k_is)
    (case k3 => k_is)
    (case a4 => k_is)
    (case l4 => k_is)
    (case c4 => k_is)
    (case k4 => k_is)
    (case a5 => k_is)
    (case l5 => k_is)
    (case c5 => k_is)
    (case k5 => k_is)
    (case a6 => k_is)
    (case l6 => k_is)
    (case c6 => k_is)
    (case k6 => k_is)
    (case a7 => k_is)
    (case l7 => k_is)
    (case c7 => k_is)
    (case k7 => k_is)
    (case a8 => k_is)
    (case l8 => k_is)
    (case c8 => k_is)
    (case k8 => k_is)
    (case a9 => k_is)
    (case l9 => k_is)
    (case c9 => k_is)
    (case k9 => k_is)
    (case a10 => k_is)
    (case l10 => k_is)
    (case c10 => k_is)
    (case k10 => k_is)
    (case a11 => k_is)
    (case l11 => k_is)
    (case c11 => k_is)
    (case k11 => k_is)
    (case a12 => k_is)
    (case l12 => k_is)
    (case c12 => k_is)
    (case k12 => k_is)
    (case a13 => k_is)
    (case l13 => k_is)
    (case c13 => k_is)
    (case k13 => k_is)
    (case a14 => k_is)
    (case l14 => k_is)
    (case c14 => k_is)
    (case k14 => k_is)
    (case a15 => k_is)
    (case l15 => k_is)
    (case c15 => k_is)
    (case k15 => k_is)
    (case a16 => k_is)
    (case i16 => k_is)
    (case l16 => k_is)
    (case c16 => k_is)
    (case k16 => k_is)
    (case a17 => k_is)
    (case i17 => k_is)
    (case l17 => k_is)
    (case c17 => k_is)
    (case k17 => k_is)
    (case a18 => k_is)
    (case l18 => k_is)
    (case c18 => k_is)
    (case k18 => k_is)
    (case a19 => k_is)
    (case l19 => k_is)
    (case c19 => k_is)
    (case k19 => k_is)
    (case a20 => k_is)
    (case l20 => k_is)
    (case c20 => k_is)
    (case k20 => k_is)
    (case a21 => k_is)
    (case l21 => k_is)
    (case c21 => k_is)
    (case k21 => k_is)
    (case a22 => k_is)
    (case l22 => k_is)
    (case c22 => k_is)
    (case k22 => k_is)
    (case a23 => k_is)
    (case l23 => k_is)
    (case c23 => k_is)
    (case k23 => k_is)
    (case a24 => k_is)
    (case l24 => k_is)
    (case c24 => k_is)
    (case k24 => k_is)
    (case a25 => k_is)
    (case l25 => k_is)
    (case c25 => k_is)
    (case k25 => k_is)
    (case a26 => k_is)
    (case l26 => k_is)
    (case c26 => k_is)
    (case k26 => k_is)
    (case a27 => k_is)
    (case l27 => k_is)
    (case c27 => k_is)
    (case k27 => k_is)
    (case a28 => k_is)
    (case l28 => k_is)
    (case c28 => k_is)
    (case k28 => k_is)
    (case a29 => k_is)
    (case l29 => k_is)
    (case c29 => k_is)
    (case k29 => k_is)
    (case a30 => k_is)
    (case l30 => k_is)
    (case c30 => k_is)
    (case k30 => k_is)
    (case pg_Effect => k_is)
    (case hd_Effect => k_is)
    (case po_Effect => k_is)
    (case sa_Effect => k_is)
    (case fl_Effect_atom => k_is)
    (case fl_Effect_kind => k_is)
    (case fl_Effect_members => k_is)
    (case mk_Effect => k_is)
    (case kc_Effect => k_is)
    (case z_abs => k_is)
    (case z_all => k_is)
    (case z_bool => k_is)
    (case z_dict => k_is)
    (case z_int => k_is)
    (case z_isinstance => k_is)
    (case z_len => k_is)
    (case z_list => k_is)
    (case z_max => k_is)
    (case z_range => k_is)
    (case z_repr => k_is)
    (case z_sorted => k_is)
    (case z_str => k_is)
    (case z_sum => k_is)
    (case z_tuple => k_is)
    (case g_MOST_PARTS => k_is)
    (case g_MOST_DEPTH => k_is)
