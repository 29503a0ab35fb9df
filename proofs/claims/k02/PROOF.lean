import PyProof.Rows.All
import Wide.All
import OpenK.AllK
import Wide.FinOn
import HandS.ForMost
import HandS.Wide
import HandS.Deep
import HandS.Walk
import HandS.Flow
import HandS.WordsDict
import PyProof.StrOps2
import PyProof.DictCopy
import HandS.TupAny
import PySem.Challenge.RW_oncenames_k02_worths

section
set_option Elab.async false
set_option linter.all false
set_option maxRecDepth 100000
/-! Oc1: what stands in the heap as data (Rp), the slots by data (Rel), what a step keeps (Fr). -/
namespace Oc
open PySem L2

/-- data: None, truths, whole numbers, texts, lists, tuples, dicts by numbers and texts (dk), by tuples of such (dt) -/
inductive D where
  | non | bl (b : Bool) | int (i : Int) | str (x : Str) | lst (l : List D) | tup (l : List D) | dk (l : List (Key × D)) | dt (l : List (List Key × D))
def kD : Key → D
  | .inl i => .int i
  | .inr s => .str s
mutual
/-- as the library's data (a dict is none) -/
def py : D → PyData
  | .non => .none
  | .bl b => .bool b
  | .int i => .int i
  | .str x => .str x
  | .lst l => .list (pyA l)
  | .tup l => .tuple (pyA l)
  | .dk _ => .dict []
  | .dt _ => .dict []
def pyA : List D → List PyData
  | [] => []
  | d :: l => py d :: pyA l
end

mutual
/-- v is the data d, all of it in F -/
inductive Rp (K : PySem.W.Frag) (F : Hp) : V → D → Prop
  | non : Rp K F .non .non
  | bl (b : Bool) : Rp K F (.bl b) (.bl b)
  | int (i : Int) : Rp K F (.int i) (.int i)
  | str (x : Str) : Rp K F (.str x) (.str x)
  | lst {a : Addr} {xs : List V} {ds : List D} : F a = some (.lst xs) → RpA K F xs ds → Rp K F (.ref a) (.lst ds)
  | tup {a : Addr} {xs : List V} {ds : List D} : F a = some (.tup xs) → RpA K F xs ds → Rp K F (.ref a) (.tup ds)
  | dK {a : Addr} {ks : List (Key × V)} {es : List (Key × D)} : F a = some (.dK ks) → RpK K F ks es → Rp K F (.ref a) (.dk es)
  | dT {a : Addr} {ks : List (List Key × V)} {es : List (List Key × D)} : F a = some (.dT ks) → RpT K F ks es → Rp K F (.ref a) (.dt es)
inductive RpA (K : PySem.W.Frag) (F : Hp) : List V → List D → Prop
  | nil : RpA K F [] []
  | cons {v : V} {vs : List V} {d : D} {ds : List D} : Rp K F v d → RpA K F vs ds → RpA K F (v :: vs) (d :: ds)
inductive RpK (K : PySem.W.Frag) (F : Hp) : List (Key × V) → List (Key × D) → Prop
  | nil : RpK K F [] []
  | cons {k : Key} {v : V} {vs : List (Key × V)} {d : D} {ds : List (Key × D)} : Rp K F v d → RpK K F vs ds → RpK K F ((k, v) :: vs) ((k, d) :: ds)
inductive RpT (K : PySem.W.Frag) (F : Hp) : List (List Key × V) → List (List Key × D) → Prop
  | nil : RpT K F [] []
  | cons {k : List Key} {v : V} {vs : List (List Key × V)} {d : D} {ds : List (List Key × D)} : Rp K F v d → RpT K F vs ds → RpT K F ((k, v) :: vs) ((k, d) :: ds)
end

/-- all that stands in H stands in H' -/
abbrev Ex (H H' : Hp) : Prop := Same H H'
section
variable {K : PySem.W.Frag} {F F' H H' : Hp} {v : V} {d : D}
theorem ex_t {a : Addr} {xs : List V} (e : Ex H H') (h : SqT K H a xs) : SqT K H' a xs := by
  rcases h with (h | ⟨o, h⟩) | h
  · exact .inl (.inl (e _ _ h))
  · exact .inl (.inr ⟨o, e _ _ h⟩)
  · exact .inr h
theorem Rp.mono (e : Ex F F') (h : Rp K F v d) : Rp K F' v d :=
  Rp.rec (motive_1 := fun v d _ => Rp K F' v d) (motive_2 := fun xs ds _ => RpA K F' xs ds) (motive_3 := fun xs ds _ => RpK K F' xs ds) (motive_4 := fun xs ds _ => RpT K F' xs ds)
    .non .bl .int .str (fun h _ ih => .lst (e _ _ h) ih) (fun h _ ih => .tup (e _ _ h) ih) (fun h _ ih => .dK (e _ _ h) ih) (fun h _ ih => .dT (e _ _ h) ih)
    .nil (fun _ _ a b => .cons a b) .nil (fun _ _ a b => .cons a b) .nil (fun _ _ a b => .cons a b) h
theorem RpA.mono (e : Ex F F') {xs : List V} {ds : List D} (h : RpA K F xs ds) : RpA K F' xs ds := by
  induction xs generalizing ds with
  | nil => cases h; exact .nil
  | cons x xs ih => cases h with | cons a b => exact .cons (a.mono e) (ih b)
theorem RpK.mono (e : Ex F F') {xs : List (Key × V)} {ds : List (Key × D)} (h : RpK K F xs ds) : RpK K F' xs ds := by
  induction xs generalizing ds with
  | nil => cases h; exact .nil
  | cons x xs ih => cases h with | cons a b => exact .cons (a.mono e) (ih b)
theorem RpT.mono (e : Ex F F') {xs : List (List Key × V)} {ds : List (List Key × D)} (h : RpT K F xs ds) : RpT K F' xs ds := by
  induction xs generalizing ds with
  | nil => cases h; exact .nil
  | cons x xs ih => cases h with | cons a b => exact .cons (a.mono e) (ih b)
theorem RpA.length {xs : List V} {ds : List D} (h : RpA K F xs ds) : xs.length = ds.length := by
  induction xs generalizing ds with
  | nil => cases h; rfl
  | cons x xs ih => cases h with | cons a b => simp [ih b]
theorem RpA.get {xs : List V} {ds : List D} (h : RpA K F xs ds) {i : Nat} {d : D} (hd : ds[i]? = some d) : ∃ v, xs[i]? = some v ∧ Rp K F v d := by
  induction xs generalizing ds i with
  | nil => cases h; simp at hd
  | cons x xs ih =>
    cases h with
    | cons a b =>
      cases i with
      | zero => exact ⟨x, rfl, by simp at hd; subst hd; exact a⟩
      | succ i => obtain ⟨v, h1, h2⟩ := ih b (i := i) (by simpa using hd); exact ⟨v, by simpa using h1, h2⟩
theorem RpA.app {xs ys : List V} {ds es : List D} (h : RpA K F xs ds) (g : RpA K F ys es) : RpA K F (xs ++ ys) (ds ++ es) := by
  induction xs generalizing ds with
  | nil => cases h; exact g
  | cons x xs ih => cases h with | cons a b => exact .cons a (ih b)
theorem RpA.take {xs : List V} {ds : List D} (h : RpA K F xs ds) (n : Nat) : RpA K F (xs.take n) (ds.take n) := by
  induction xs generalizing ds n with
  | nil => cases h; simp; exact .nil
  | cons x xs ih =>
    cases h with
    | cons a b =>
      cases n with
      | zero => exact .nil
      | succ n => exact .cons a (ih b n)
theorem RpA.drop {xs : List V} {ds : List D} (h : RpA K F xs ds) (n : Nat) : RpA K F (xs.drop n) (ds.drop n) := by
  induction xs generalizing ds n with
  | nil => cases h; simp; exact .nil
  | cons x xs ih =>
    cases h with
    | cons a b =>
      cases n with
      | zero => exact .cons a b
      | succ n => exact ih b n
theorem RpA.set {xs : List V} {ds : List D} (h : RpA K F xs ds) (hv : Rp K F v d) (n : Nat) : RpA K F (xs.set n v) (ds.set n d) := by
  induction xs generalizing ds n with
  | nil => cases h; exact .nil
  | cons x xs ih =>
    cases h with
    | cons a b =>
      cases n with
      | zero => exact .cons hv b
      | succ n => exact .cons a (ih b n)
theorem RpA.erase {xs : List V} {ds : List D} (h : RpA K F xs ds) (n : Nat) : RpA K F (xs.eraseIdx n) (ds.eraseIdx n) := by
  induction xs generalizing ds n with
  | nil => cases h; exact .nil
  | cons x xs ih =>
    cases h with
    | cons a b =>
      cases n with
      | zero => exact b
      | succ n => exact .cons a (ih b n)
theorem RpA.reverse {xs : List V} {ds : List D} (h : RpA K F xs ds) : RpA K F xs.reverse ds.reverse := by
  induction xs generalizing ds with
  | nil => cases h; exact .nil
  | cons x xs ih => cases h with | cons a b => simp only [List.reverse_cons]; exact (ih b).app (.cons a .nil)
theorem RpA.ints : ∀ (ns : List Int), RpA K F (ns.map V.int) (ns.map D.int)
  | [] => .nil
  | n :: r => .cons (.int n) (RpA.ints r)

/-- data without dicts, as the layer's own data -/
theorem Rp.dp (h : Rp K F v d) : (py d).canLay0 = true → Dp K F v (py d) :=
  Rp.rec (motive_1 := fun v d _ => (py d).canLay0 = true → Dp K F v (py d)) (motive_2 := fun xs ds _ => PyData.canLayAll0 (pyA ds) = true → DpAll K F xs (pyA ds)) (motive_3 := fun _ _ _ => True) (motive_4 := fun _ _ _ => True)
    (fun _ => .non) (fun b _ => .bl b) (fun b _ => .int b) (fun b _ => .str b) (fun h _ ih c => .lst (.inl (.inl h)) (ih (by simpa [py, PyData.canLay0] using c))) (fun h _ ih c => .tup (.inl (.inl h)) (ih (by simpa [py, PyData.canLay0] using c)))
    (fun _ _ _ c => by simp [py, PyData.canLay0] at c) (fun _ _ _ c => by simp [py, PyData.canLay0] at c) (fun _ => .nil)
    (fun _ _ a b c => by
      rw [pyA, PyData.canLayAll0, Bool.and_eq_true] at c
      exact .cons (a c.1) (b c.2)) trivial (fun _ _ _ _ => trivial) trivial (fun _ _ _ _ => trivial) h
end

/-- what an object holds, by data -/
inductive CellO (K : PySem.W.Frag) (F : Hp) : HO → D → Prop
  | tup {xs : List V} {ds : List D} : RpA K F xs ds → CellO K F (.tup xs) (.tup ds)
  | lst {xs : List V} {ds : List D} : RpA K F xs ds → CellO K F (.lst xs) (.lst ds)
  | dK {ks : List (Key × V)} {es : List (Key × D)} : RpK K F ks es → CellO K F (.dK ks) (.dk es)
  | dT {ks : List (List Key × V)} {es : List (List Key × D)} : RpT K F ks es → CellO K F (.dT ks) (.dt es)
section
variable {K : PySem.W.Frag} {F F' H H' : Hp} {v : V} {d : D} {o : HO} {p : Addr}
theorem CellO.mono (e : Ex F F') (h : CellO K F o d) : CellO K F' o d := by
  cases h with
  | tup h => exact .tup (h.mono e)
  | lst h => exact .lst (h.mono e)
  | dK h => exact .dK (h.mono e)
  | dT h => exact .dT (h.mono e)
theorem CellO.rp (h : CellO K F o d) (e : F p = some o) : Rp K F (.ref p) d := by
  cases h with
  | tup h => exact .tup e h
  | lst h => exact .lst e h
  | dK h => exact .dK e h
  | dT h => exact .dT e h
theorem CellO.rp' (h : CellO K F o d) (e : F' p = some o) (x : Ex F F') : Rp K F' (.ref p) d := (h.mono x).rp e
end

/-- a slot by data: not told; data that stands still; an object of its own (t: 0 made here, j + 1 the parameter j's) -/
inductive Slot where
  | un
  | fro (d : D)
  | own (t : Nat) (d : D)
abbrev Env := List Slot
/-- what an expression gives: data that stands still, or a new object -/
inductive RV where
  | val (d : D)
  | cell (d : D)

def Owns (σ : L2.St) (env : Env) (i : Nat) (p : Addr) : Prop := (∃ t d, env[i]? = some (.own t d)) ∧ σ[i]? = some (some (.ref p))
/-- what a slot's own object holds; from 1000 on: it is locked (a dict that a loop walks) -/
def CellL (K : PySem.W.Frag) (F : Hp) (t : Nat) (o : HO) (d : D) : Prop := (t < 1000 ∧ CellO K F o d) ∨ (1000 ≤ t ∧ ∃ o' u, o = .frz o' u ∧ CellO K F u d)
theorem CellL.mono {K : PySem.W.Frag} {F F' : Hp} {t : Nat} {o : HO} {d : D} (e : Ex F F') (h : CellL K F t o d) : CellL K F' t o d := by
  rcases h with ⟨a, h⟩ | ⟨a, o', u, b, h⟩
  · exact .inl ⟨a, h.mono e⟩
  · exact .inr ⟨a, o', u, b, h.mono e⟩
theorem CellL.of {K : PySem.W.Frag} {F : Hp} {t : Nat} {o : HO} {d : D} (h : CellL K F t o d) (ht : t < 1000) : CellO K F o d := by
  rcases h with ⟨a, h⟩ | ⟨a, h⟩
  · exact h
  · omega
def SlotAt (K : PySem.W.Frag) (F H : Hp) (ps : List V) (x : Option V) : Slot → Prop
  | .un => True
  | .fro d => ∃ v, x = some v ∧ Rp K F v d
  | .own t d => ∃ p o, x = some (.ref p) ∧ F p = none ∧ H p = some o ∧ CellL K F t o d ∧ ∀ j, t % 1000 = j + 1 → ps[j]? = some (.ref p)
structure Rel (K : PySem.W.Frag) (F H : Hp) (ps : List V) (σ : L2.St) (env : Env) : Prop where
  sub : Ex F H
  len : σ.length = env.length
  at_ : ∀ (i : Nat) (s : Slot), env[i]? = some s → ∃ x, σ[i]? = some x ∧ SlotAt K F H ps x s
  dis : ∀ i j p, Owns σ env i p → Owns σ env j p → i = j
/-- what is kept from one state to a later one -/
structure Fr (σ : L2.St) (env : Env) (F H : Hp) (σ' : L2.St) (env' : Env) (F' H' : Hp) : Prop where
  ff : Ex F F'
  kh : ∀ a o, H a = some o → (∀ i, ¬ Owns σ env i a) → H' a = some o
  kf : ∀ a o, F a = none → H a = some o → (∀ i, ¬ Owns σ env i a) → F' a = none
  nw : ∀ i a, Owns σ' env' i a → H a = none ∨ ∃ j, Owns σ env j a
section
variable {K : PySem.W.Frag} {ps : List V} {F F1 F2 H H1 H2 : Hp} {σ σ1 σ2 : L2.St} {env env1 env2 : Env} {v : V} {d : D}
theorem Fr.refl : Fr σ env F H σ env F H := ⟨Same.refl _, fun _ _ h _ => h, fun _ _ h _ _ => h, fun i _ h => .inr ⟨i, h⟩⟩
theorem Fr.trans (a : Fr σ env F H σ1 env1 F1 H1) (b : Fr σ1 env1 F1 H1 σ2 env2 F2 H2) : Fr σ env F H σ2 env2 F2 H2 := by
  have nn : ∀ x o, H x = some o → (∀ i, ¬ Owns σ env i x) → ∀ i, ¬ Owns σ1 env1 i x := fun x o h n i q => by
    rcases a.nw i x q with z | ⟨j, z⟩
    · rw [h] at z; cases z
    · exact n j z
  refine ⟨a.ff.trans b.ff, fun x o h n => b.kh x o (a.kh x o h n) (nn x o h n), fun x o hf h n => b.kf x o (a.kf x o hf h n) (a.kh x o h n) (nn x o h n), fun i x q => ?_⟩
  rcases b.nw i x q with z | ⟨j, z⟩
  · refine Classical.byContradiction fun c => ?_
    have c1 : H x ≠ none := fun e => c (.inl e)
    obtain ⟨o, ho⟩ : ∃ o, H x = some o := by
      cases e : H x with
      | none => exact absurd e c1
      | some o => exact ⟨o, rfl⟩
    have := a.kh x o ho fun i q => c (.inr ⟨i, q⟩)
    rw [this] at z; cases z
  · exact a.nw j x z
/-- the result of an expression -/
def Res (K : PySem.W.Frag) (σ : L2.St) (env : Env) (H : Hp) (env' : Env) (F' H' : Hp) (v : V) : RV → Prop
  | .val d => Rp K F' v d
  | .cell d => ∃ p o, v = .ref p ∧ F' p = none ∧ H' p = some o ∧ CellO K F' o d ∧ (∀ i, ¬ Owns σ env' i p) ∧ (H p = none ∨ ∃ j, Owns σ env j p)
end
abbrev EV := Env → Option (D × Env)
abbrev EX := Env → Option (RV × Env)
abbrev EB := Env → Option (Bool × Env)
/-- the reading t of an expression gives what f tells, data that stands still -/
def SV (K : PySem.W.Frag) (ps : List V) (t : TE) (f : EV) : Prop := ∀ (σ : L2.St) (H F : Hp) (env : Env) (d : D) (env' : Env), Rel K F H ps σ env → f env = some (d, env') →
  ∀ Q : VK, (∀ v F' H', Rel K F' H' ps σ env' → Fr σ env F H σ env' F' H' → Rp K F' v d → Q v H') → t σ H Q
def SX (K : PySem.W.Frag) (ps : List V) (t : TE) (f : EX) : Prop := ∀ (σ : L2.St) (H F : Hp) (env : Env) (r : RV) (env' : Env), Rel K F H ps σ env → f env = some (r, env') →
  ∀ Q : VK, (∀ v F' H', Rel K F' H' ps σ env' → Fr σ env F H σ env' F' H' → Res K σ env H env' F' H' v r → Q v H') → t σ H Q
def SB (K : PySem.W.Frag) (ps : List V) (t : TT) (f : EB) : Prop := ∀ (σ : L2.St) (H F : Hp) (env : Env) (b : Bool) (env' : Env), Rel K F H ps σ env → f env = some (b, env') →
  ∀ Q : Bool → Hp → Prop, (∀ F' H', Rel K F' H' ps σ env' → Fr σ env F H σ env' F' H' → Q b H') → t σ H Q

/-! ### moves of the state -/
section
variable {K : PySem.W.Frag} {ps : List V} {F F1 F2 H H1 H2 : Hp} {σ σ1 σ2 : L2.St} {env env1 env2 : Env} {v : V} {d : D} {p : Addr} {o : HO} {i : Nat}
theorem Rel.slot (r : Rel K F H ps σ env) {s : Slot} (h : env[i]? = some s) : ∃ x, σ[i]? = some x ∧ SlotAt K F H ps x s := r.at_ i s h
theorem not_owns_none (r : Rel K F H ps σ env) (h : H p = none) (i : Nat) : ¬ Owns σ env i p := by
  rintro ⟨⟨t, d, e⟩, e2⟩
  obtain ⟨x, h1, p', o, h2, h3, h4, _⟩ := r.at_ i _ e
  rw [e2] at h1
  cases h1
  cases h2
  rw [h] at h4; cases h4
/-- a thing that no slot owns and F does not hold is laid into F -/
theorem Rel.lay (r : Rel K F H ps σ env) (hF : F p = none) (hH : H p = some o) (no : ∀ i, ¬ Owns σ env i p) : Rel K (upd F p o) H ps σ env ∧ Ex F (upd F p o) := by
  have ex : Ex F (upd F p o) := fun a u e => by rw [upd_ne (ne_of_none e hF)]; exact e
  refine ⟨⟨fun a u e => ?_, r.len, fun i s e => ?_, r.dis⟩, ex⟩
  · by_cases ha : a = p
    · subst ha; rw [upd_same] at e; rw [hH]; exact e
    · rw [upd_ne ha] at e; exact r.sub a u e
  · obtain ⟨x, h1, h2⟩ := r.at_ i s e
    refine ⟨x, h1, ?_⟩
    cases s with
    | un => trivial
    | fro d => obtain ⟨v, e1, e2⟩ := h2; exact ⟨v, e1, e2.mono ex⟩
    | own t d =>
      obtain ⟨q, u, e1, e2, e3, e4, e5⟩ := h2
      refine ⟨q, u, e1, ?_, e3, e4.mono ex, e5⟩
      rw [upd_ne]
      · exact e2
      · intro z
        subst z
        exact no i ⟨⟨t, d, e⟩, by rw [h1, e1]⟩
/-- a new object is laid: it stands in H, not in F -/
theorem Rel.new (r : Rel K F H ps σ env) (hH : H p = none) : Rel K F (upd H p o) ps σ env := by
  have ex : Ex H (upd H p o) := fun a u e => by rw [upd_ne (ne_of_none e hH)]; exact e
  refine ⟨r.sub.trans ex, r.len, fun i s e => ?_, r.dis⟩
  obtain ⟨x, h1, h2⟩ := r.at_ i s e
  refine ⟨x, h1, ?_⟩
  cases s with
  | un => trivial
  | fro d => exact h2
  | own t d => obtain ⟨q, u, e1, e2, e3, e4, e5⟩ := h2; exact ⟨q, u, e1, e2, ex _ _ e3, e4, e5⟩
theorem Rel.free (r : Rel K F H ps σ env) (hH : H p = none) : F p = none := r.sub.free hH
theorem Fr.new (r : Rel K F H ps σ env) (hH : H p = none) : Fr σ env F H σ env F (upd H p o) :=
  ⟨Same.refl _, fun a u e _ => by rw [upd_ne (ne_of_none e hH)]; exact e, fun _ _ h _ _ => h, fun i _ h => .inr ⟨i, h⟩⟩
/-- the result of an expression stands still from now on -/
theorem Res.frz (r : Rel K F1 H1 ps σ env1) (f : Fr σ env F H σ env1 F1 H1) {x : RV} (h : Res K σ env H env1 F1 H1 v x) :
    ∃ F', Rel K F' H1 ps σ env1 ∧ Fr σ env F H σ env1 F' H1 ∧ Rp K F' v (match x with | .val d => d | .cell d => d) := by
  cases x with
  | val d => exact ⟨F1, r, f, h⟩
  | cell d =>
    obtain ⟨p, o, rfl, h1, h2, h3, h4, h5⟩ := h
    obtain ⟨r1, ex⟩ := r.lay h1 h2 h4
    refine ⟨_, r1, ⟨f.ff.trans ex, f.kh, fun a u e1 e2 e3 => ?_, f.nw⟩, h3.rp' upd_same ex⟩
    have := f.kf a u e1 e2 e3
    rw [upd_ne]
    · exact this
    · rintro rfl
      rcases h5 with z | ⟨j, z⟩
      · rw [z] at e2; cases e2
      · exact e3 j z
end
def fz (f : EX) : EV := fun env => match f env with
  | some (.val d, e) => some (d, e)
  | some (.cell d, e) => some (d, e)
  | none => none
def vx (f : EV) : EX := fun env => match f env with
  | some (d, e) => some (.val d, e)
  | none => none
section
variable {K : PySem.W.Frag} {ps : List V} {t : TE}
theorem SX.v {f : EX} (h : SX K ps t f) : SV K ps t (fz f) := fun σ H F env d env' r e Q q => by
  unfold fz at e
  cases e1 : f env with
  | none => rw [e1] at e; cases e
  | some x =>
    obtain ⟨x, e2⟩ := x
    rw [e1] at e
    refine h σ H F env x e2 r e1 Q fun v F' H' r' f' rs => ?_
    obtain ⟨F2, r2, f2, q2⟩ := rs.frz r' f'
    cases x <;> (cases e; exact q v F2 H' r2 f2 q2)
theorem SV.x {f : EV} (h : SV K ps t f) : SX K ps t (vx f) := fun σ H F env d env' r e Q q => by
  unfold vx at e
  cases e1 : f env with
  | none => rw [e1] at e; cases e
  | some x =>
    obtain ⟨x, e2⟩ := x
    rw [e1] at e
    cases e
    exact h σ H F env x _ r e1 Q fun v F' H' r' f' rs => q v F' H' r' f' rs
end
end Oc
end

section
set_option Elab.async false
set_option linter.all false
set_option maxRecDepth 100000
set_option maxHeartbeats 1000000
/-! Oc2: expressions by data. -/
namespace Oc
open PySem L2

/-! ### what may be read of a value now -/
def Sh (K : PySem.W.Frag) (F H : Hp) (x : V) : D → Prop
  | .lst ds => ∃ p xs, x = .ref p ∧ Rd H p (.lst xs) ∧ RpA K F xs ds
  | .dk es => ∃ p ks, x = .ref p ∧ Rd H p (.dK ks) ∧ RpK K F ks es
  | .dt es => ∃ p ks, x = .ref p ∧ Rd H p (.dT ks) ∧ RpT K F ks es
  | d => Rp K F x d
section
variable {K : PySem.W.Frag} {F F' H H' : Hp} {v x : V} {d : D} {o : HO} {p : Addr}
theorem Rp.sh (h : Rp K F x d) (e : Ex F H) : Sh K F H x d := by
  cases h with
  | lst a b => exact ⟨_, _, rfl, .inl (e _ _ a), b⟩
  | dK a b => exact ⟨_, _, rfl, .inl (e _ _ a), b⟩
  | dT a b => exact ⟨_, _, rfl, .inl (e _ _ a), b⟩
  | non => exact .non
  | bl b => exact .bl b
  | int b => exact .int b
  | str b => exact .str b
  | tup a b => exact .tup a b
theorem CellO.sh (h : CellO K F o d) (e : H p = some o) (nt : ∀ l, d ≠ .tup l) : Sh K F H (.ref p) d := by
  cases h with
  | tup b => exact absurd rfl (nt _)
  | lst b => exact ⟨_, _, rfl, .inl e, b⟩
  | dK b => exact ⟨_, _, rfl, .inl e, b⟩
  | dT b => exact ⟨_, _, rfl, .inl e, b⟩
theorem CellO.shL {o' : Obj} (h : CellO K F o d) (e : H p = some (.frz o' o)) (nt : ∀ l, d ≠ .tup l) : Sh K F H (.ref p) d := by
  cases h with
  | tup b => exact absurd rfl (nt _)
  | lst b => exact ⟨_, _, rfl, .inr ⟨_, e⟩, b⟩
  | dK b => exact ⟨_, _, rfl, .inr ⟨_, e⟩, b⟩
  | dT b => exact ⟨_, _, rfl, .inr ⟨_, e⟩, b⟩
theorem RpA.dp {xs : List V} {ds : List D} (h : RpA K F xs ds) (c : PyData.canLayAll0 (pyA ds) = true) : DpAll K F xs (pyA ds) := by
  induction xs generalizing ds with
  | nil => cases h; exact .nil
  | cons x xs ih =>
    cases h with
    | cons a b =>
      rw [pyA, PyData.canLayAll0, Bool.and_eq_true] at c
      exact .cons (a.dp c.1) (ih b c.2)
theorem Sh.dp (h : Sh K F H x d) (e : Ex F H) (c : (py d).canLay0 = true) : Dp K H x (py d) := by
  cases d with
  | lst ds =>
    obtain ⟨p, xs, rfl, h1, h2⟩ := h
    exact .lst (.inl h1) ((h2.mono e).dp (by simpa [py, PyData.canLay0] using c))
  | dk es => simp [py, PyData.canLay0] at c
  | dt es => simp [py, PyData.canLay0] at c
  | non => exact (Rp.mono e h).dp c
  | bl b => exact (Rp.mono e h).dp c
  | int b => exact (Rp.mono e h).dp c
  | str b => exact (Rp.mono e h).dp c
  | tup b => exact (Rp.mono e h).dp c
end
/-- a slot that may be read now -/
def peek (env : Env) (i : Nat) : Option D := match env[i]? with
  | some (.fro d) => some d
  | some (.own t d) => match d with
    | .tup _ => none
    | d => some d
  | _ => none
theorem Rel.peek {K : PySem.W.Frag} {ps : List V} {F H : Hp} {σ : L2.St} {env : Env} {i : Nat} {d : D} (r : Rel K F H ps σ env) (h : peek env i = some d) : ∃ x, σ[i]? = some (some x) ∧ Sh K F H x d := by
  unfold Oc.peek at h
  cases e : env[i]? with
  | none => rw [e] at h; cases h
  | some s =>
    rw [e] at h
    obtain ⟨x, h1, h2⟩ := r.at_ i s e
    cases s with
    | un => cases h
    | fro d' =>
      cases h
      obtain ⟨v, rfl, h2⟩ := h2
      exact ⟨v, h1, h2.sh r.sub⟩
    | own t d' =>
      obtain ⟨p, o, rfl, _, h3, h4, _⟩ := h2
      cases d' with
      | tup l => cases h
      | _ =>
        cases h
        rcases h4 with ⟨ht, h4⟩ | ⟨ht, o', u, rfl, h4⟩
        · exact ⟨_, h1, h4.sh h3 (by intro l z; cases z)⟩
        · exact ⟨_, h1, h4.shL h3 (by intro l z; cases z)⟩

/-! ### the canonical readings -/
def cV (K : PySem.W.Frag) (ps : List V) (f : EV) : TE := fun σ H Q => ∃ F env d env', Rel K F H ps σ env ∧ f env = some (d, env') ∧ ∀ v F' H', Rel K F' H' ps σ env' → Fr σ env F H σ env' F' H' → Rp K F' v d → Q v H'
def cX (K : PySem.W.Frag) (ps : List V) (f : EX) : TE := fun σ H Q => ∃ F env r env', Rel K F H ps σ env ∧ f env = some (r, env') ∧ ∀ v F' H', Rel K F' H' ps σ env' → Fr σ env F H σ env' F' H' → Res K σ env H env' F' H' v r → Q v H'
def cB (K : PySem.W.Frag) (ps : List V) (f : EB) : TT := fun σ H Q => ∃ F env b env', Rel K F H ps σ env ∧ f env = some (b, env') ∧ ∀ F' H', Rel K F' H' ps σ env' → Fr σ env F H σ env' F' H' → Q b H'
abbrev PV (X : Cx) (ps : List V) (e : Expr) (f : EV) : Prop := PE X e (cV X.K ps f)
abbrev PX (X : Cx) (ps : List V) (e : Expr) (f : EX) : Prop := PE X e (cX X.K ps f)
abbrev PB (X : Cx) (ps : List V) (e : Expr) (f : EB) : Prop := PT X e (cB X.K ps f)
theorem PE_imp {X : Cx} {e : Expr} {t t' : TE} (h : PE X e t) (k : ∀ σ H Q, t' σ H Q → t σ H Q) : PE X e t' := ⟨fun pins s σ H Q I q => h.run pins s σ H Q I (k σ H Q q)⟩
theorem PT_imp {X : Cx} {e : Expr} {t t' : TT} (h : PT X e t) (k : ∀ σ H Q, t' σ H Q → t σ H Q) : PT X e t' := ⟨fun pins s σ H Q I q => h.run pins s σ H Q I (k σ H Q q)⟩
theorem PE_or {X : Cx} {e : Expr} {t t' : TE} (h : PE X e t) (h' : PE X e t') : PE X e (fun σ H Q => t σ H Q ∨ t' σ H Q) := ⟨fun pins s σ H Q I q => q.elim (h.run pins s σ H Q I) (h'.run pins s σ H Q I)⟩
theorem PT_or {X : Cx} {e : Expr} {t t' : TT} (h : PT X e t) (h' : PT X e t') : PT X e (fun σ H Q => t σ H Q ∨ t' σ H Q) := ⟨fun pins s σ H Q I q => q.elim (h.run pins s σ H Q I) (h'.run pins s σ H Q I)⟩
section
variable {K : PySem.W.Frag} {ps : List V} {t : TE}
theorem SV.c {f : EV} : SV K ps (cV K ps f) f := fun σ H F env d env' r e Q q => ⟨F, env, d, env', r, e, q⟩
theorem SX.c {f : EX} : SX K ps (cX K ps f) f := fun σ H F env d env' r e Q q => ⟨F, env, d, env', r, e, q⟩
theorem SB.c {f : EB} : SB K ps (cB K ps f) f := fun σ H F env d env' r e Q q => ⟨F, env, d, env', r, e, q⟩
theorem SV.pv {X : Cx} {ps : List V} {e : Expr} {f : EV} {t : TE} (h : SV X.K ps t f) (p : PE X e t) : PV X ps e f := PE_imp p fun σ H Q ⟨F, env, d, env', r, e, q⟩ => h σ H F env d env' r e Q q
theorem SX.px {X : Cx} {ps : List V} {e : Expr} {f : EX} {t : TE} (h : SX X.K ps t f) (p : PE X e t) : PX X ps e f := PE_imp p fun σ H Q ⟨F, env, d, env', r, e, q⟩ => h σ H F env d env' r e Q q
theorem SB.pb {X : Cx} {ps : List V} {e : Expr} {f : EB} {t : TT} (h : SB X.K ps t f) (p : PT X e t) : PB X ps e f := PT_imp p fun σ H Q ⟨F, env, d, env', r, e, q⟩ => h σ H F env d env' r e Q q
end
section
variable {X : Cx} {ps : List V} {e : Expr}
/-- what an expression gives stands still from now on -/
theorem PX.v {f : EX} (h : PX X ps e f) : PV X ps e (fz f) := (SX.c.v).pv h
theorem PV.x {f : EV} (h : PV X ps e f) : PX X ps e (vx f) := (SV.c.x).px h
end

/-! ### names and constants -/
def kc (d : D) : EV := fun env => some (d, env)
def rd (i : Nat) : EV := fun env => match env[i]? with
  | some (.fro d) => some (d, env)
  | some (.own 0 d) => some (d, env.set i (.fro d))
  | _ => none
def mv (i : Nat) : EX := fun env => match env[i]? with
  | some (.fro d) => some (.val d, env)
  | some (.own 0 d) => some (.cell d, env.set i .un)
  | _ => none
section
variable {K : PySem.W.Frag} {ps : List V} {F F1 F2 H H1 H2 : Hp} {σ σ1 σ2 : L2.St} {env env1 env2 : Env} {v : V} {d : D} {p : Addr} {o : HO} {i : Nat}
theorem SV.kc {w : V} {x : D} (h : ∀ F, Rp K F w x) : SV K ps (tC w) (Oc.kc x) := fun σ H F env d' env' r e Q q => by
  cases e
  exact q w F H r Fr.refl (h F)
theorem set_none_owns {s : Slot} (hs : ∀ t d, s ≠ .own t d) {j : Nat} {q : Addr} (h : Owns σ (env.set i s) j q) : j ≠ i ∧ Owns σ env j q := by
  obtain ⟨⟨t, d, e⟩, e2⟩ := h
  by_cases c : i = j
  · subst c
    rw [List.getElem?_set] at e
    rw [if_pos rfl] at e
    split at e
    · cases e; exact absurd rfl (hs t d)
    · cases e
  · rw [List.getElem?_set_ne c] at e
    exact ⟨fun z => c z.symm, ⟨t, d, e⟩, e2⟩
/-- an own slot is given up: its object is nobody's -/
theorem Rel.drop (r : Rel K F H ps σ env) : Rel K F H ps σ (env.set i .un) := by
  refine ⟨r.sub, by rw [List.length_set]; exact r.len, fun j s e => ?_, fun j k q a b => r.dis j k q (set_none_owns (by intro _ _ z; cases z) a).2 (set_none_owns (by intro _ _ z; cases z) b).2⟩
  by_cases c : i = j
  · subst c
    rw [List.getElem?_set, if_pos rfl] at e
    split at e
    · rename_i hi
      cases e
      rw [← r.len] at hi
      exact ⟨σ[i], List.getElem?_eq_getElem hi, trivial⟩
    · cases e
  · rw [List.getElem?_set_ne c] at e
    exact r.at_ j s e
theorem SX.mv (i : Nat) : SX K ps (tVar i) (mv i) := fun σ H F env x env' r e Q q => by
  unfold Oc.mv at e
  cases e1 : env[i]? with
  | none => rw [e1] at e; cases e
  | some s =>
    rw [e1] at e
    obtain ⟨x', h1, h2⟩ := r.at_ i s e1
    cases s with
    | un => cases e
    | fro d =>
      cases e
      obtain ⟨v, rfl, h2⟩ := h2
      exact ⟨v, h1, q v F H r Fr.refl h2⟩
    | own t d =>
      cases t with
      | succ t => cases e
      | zero =>
        cases e
        obtain ⟨p, o, rfl, h3, h4, h5, _⟩ := h2
        have hown : Owns σ env i p := ⟨⟨0, d, e1⟩, h1⟩
        refine ⟨_, h1, q _ F H r.drop ⟨Same.refl _, fun _ _ h _ => h, fun _ _ h _ _ => h, fun j a z => .inr ⟨j, (set_none_owns (by intro _ _ z; cases z) z).2⟩⟩ ⟨p, o, rfl, h3, h4, h5.of (by omega), fun j z => ?_, .inr ⟨i, hown⟩⟩⟩
        obtain ⟨hne, z2⟩ := set_none_owns (by intro _ _ z; cases z) z
        exact hne (r.dis j i p z2 hown)
theorem SV.rd (i : Nat) : SV K ps (tVar i) (rd i) := fun σ H F env x env' r e Q q => by
  unfold Oc.rd at e
  cases e1 : env[i]? with
  | none => rw [e1] at e; cases e
  | some s =>
    rw [e1] at e
    obtain ⟨x', h1, h2⟩ := r.at_ i s e1
    cases s with
    | un => cases e
    | fro d =>
      cases e
      obtain ⟨v, rfl, h2⟩ := h2
      exact ⟨v, h1, q v F H r Fr.refl h2⟩
    | own t d =>
      cases t with
      | succ t => cases e
      | zero =>
        cases e
        obtain ⟨p, o, rfl, h3, h4, h5, _⟩ := h2
        have hown : Owns σ env i p := ⟨⟨0, x, e1⟩, h1⟩
        have nn : ∀ j, ¬ Owns σ (env.set i .un) j p := fun j z => by
          obtain ⟨hne, z2⟩ := set_none_owns (by intro _ _ z; cases z) z
          exact hne (r.dis j i p z2 hown)
        obtain ⟨r1, ex⟩ := (r.drop (i := i)).lay h3 h4 nn
        have hrp : Rp K (upd F p o) (.ref p) x := (h5.of (by omega)).rp' upd_same ex
        have hlt : i < env.length := by
          rw [List.getElem?_eq_some_iff] at e1
          exact e1.1
        have r2 : Rel K (upd F p o) H ps σ (env.set i (.fro x)) := by
          refine ⟨r1.sub, by rw [List.length_set]; exact r.len, fun j s e => ?_, fun j k q a b => r.dis j k q (set_none_owns (by intro _ _ z; cases z) a).2 (set_none_owns (by intro _ _ z; cases z) b).2⟩
          by_cases c : i = j
          · subst c
            rw [List.getElem?_set, if_pos rfl, if_pos hlt] at e
            cases e
            exact ⟨_, h1, _, rfl, hrp⟩
          · have e' : (env.set i .un)[j]? = some s := by rw [List.getElem?_set_ne c] at e ⊢; exact e
            exact r1.at_ j s e'
        refine ⟨_, h1, q _ _ H r2 ⟨ex, fun _ _ h _ => h, fun a u e1 e2 e3 => ?_, fun j a z => .inr ⟨j, (set_none_owns (by intro _ _ z; cases z) z).2⟩⟩ hrp⟩
        rw [upd_ne]
        · exact e1
        · rintro rfl
          exact e3 i hown
end
section
variable {X : Cx} {ps : List V}
theorem e_int {i : Int} {j pos} : PV X ps (.Constant (.int i) j pos) (kc (.int i)) := (SV.kc fun _ => .int i).pv pe_int
theorem e_bl {b : Bool} {j pos} : PV X ps (.Constant (.bool b) j pos) (kc (.bl b)) := (SV.kc fun _ => .bl b).pv pe_bl
theorem e_non {j pos} : PV X ps (.Constant .none j pos) (kc .non) := (SV.kc fun _ => .non).pv pe_non
theorem e_str {x : Str} {j pos} : PV X ps (.Constant (.str x) j pos) (kc (.str x)) := (SV.kc fun _ => .str x).pv pe_str
theorem e_rd (i : Nat) {e : Expr} (h : PE X e (tVar i)) : PV X ps e (rd i) := (SV.rd i).pv h
theorem e_mv (i : Nat) {e : Expr} (h : PE X e (tVar i)) : PX X ps e (mv i) := (SX.mv i).px h
/-- a module's number -/
theorem e_globI {x : Str} {i : Int} {u : Value} {pos : Pos} (hg : Gl X x) (hm : X.mg x = some u) (r : RelV (.int i) u) (hd : (x == ("__debug__" : Str)) = false := by decide) : PV X ps (.Name x pos) (kc (.int i)) :=
  (SV.kc fun _ => .int i).pv (pe_glob hg hm r hd)
theorem e_globS {x : Str} {i : Str} {u : Value} {pos : Pos} (hg : Gl X x) (hm : X.mg x = some u) (r : RelV (.str i) u) (hd : (x == ("__debug__" : Str)) = false := by decide) : PV X ps (.Name x pos) (kc (.str i)) :=
  (SV.kc fun _ => .str i).pv (pe_glob hg hm r hd)
end


/-! ### what a rule gives -/
def Got (K : PySem.W.Frag) (F H : Hp) (Q : VK) : RV → Prop
  | .val d => ∀ v, Rp K F v d → Q v H
  | .cell d => ∀ p o, H p = none → CellO K F o d → Q (.ref p) (upd H p o)
section
variable {K : PySem.W.Frag} {ps : List V} {F F1 F2 H H1 H2 : Hp} {σ σ1 σ2 : L2.St} {env env1 env2 : Env} {v : V} {p : Addr} {o : HO} {i : Nat}
/-- the end of a rule that gives data or lays a new object -/
theorem fin_rv {z : RV} {Q : VK} (r : Rel K F1 H1 ps σ env1) (f : Fr σ env F H σ env1 F1 H1)
    (q : ∀ v F' H', Rel K F' H' ps σ env1 → Fr σ env F H σ env1 F' H' → Res K σ env H env1 F' H' v z → Q v H') : Got K F1 H1 Q z := by
  cases z with
  | val d => exact fun v h => q v F1 H1 r f h
  | cell d =>
    refine fun p o hp hc => q _ F1 _ (r.new hp) (f.trans (Fr.new r hp)) ⟨p, o, rfl, r.free hp, upd_same, hc, not_owns_none r hp, ?_⟩
    cases e : H p with
    | none => exact .inl rfl
    | some u =>
      refine .inr ?_
      refine Classical.byContradiction fun c => ?_
      have := f.kh p u e fun j hj => c ⟨j, hj⟩
      rw [hp] at this; cases this
end

/-! ### operands: one, two, a list -/
abbrev E1 := Env → Option (D × Env)
abbrev E2 := Env → Option (D × D × Env)
abbrev EA := Env → Option (List D × Env)
/-- an operand that is looked at at once -/
def S1 (K : PySem.W.Frag) (ps : List V) (t : TE) (f : E1) : Prop := ∀ (σ : L2.St) (H F : Hp) (env : Env) (a : D) (env' : Env), Rel K F H ps σ env → f env = some (a, env') →
  ∀ Q : VK, (∀ x F' H', Rel K F' H' ps σ env' → Fr σ env F H σ env' F' H' → Sh K F' H' x a → Q x H') → t σ H Q
def t2 (ta tb : TE) : L2.St → Hp → (V → V → Hp → Prop) → Prop := fun σ H k => ta σ H fun x H1 => tb σ H1 fun y H2 => k x y H2
def S2 (K : PySem.W.Frag) (ps : List V) (t : L2.St → Hp → (V → V → Hp → Prop) → Prop) (f : E2) : Prop := ∀ (σ : L2.St) (H F : Hp) (env : Env) (a b : D) (env' : Env), Rel K F H ps σ env → f env = some (a, b, env') →
  ∀ Q : V → V → Hp → Prop, (∀ x y F' H', Rel K F' H' ps σ env' → Fr σ env F H σ env' F' H' → Sh K F' H' x a → Sh K F' H' y b → Q x y H') → t σ H Q
def SA (K : PySem.W.Frag) (ps : List V) (t : TA) (f : EA) : Prop := ∀ (σ : L2.St) (H F : Hp) (env : Env) (ds : List D) (env' : Env), Rel K F H ps σ env → f env = some (ds, env') →
  ∀ Q : List V → Hp → Prop, (∀ xs F' H', Rel K F' H' ps σ env' → Fr σ env F H σ env' F' H' → RpA K F' xs ds → Q xs H') → t σ H Q
def P1 (X : Cx) (ps : List V) (e : Expr) (f : E1) : Prop := ∃ t, PE X e t ∧ S1 X.K ps t f
def P2 (X : Cx) (ps : List V) (a b : Expr) (f : E2) : Prop := ∃ ta tb, PE X a ta ∧ PE X b tb ∧ S2 X.K ps (t2 ta tb) f
def cA (K : PySem.W.Frag) (ps : List V) (f : EA) : TA := fun σ H Q => ∃ F env ds env', Rel K F H ps σ env ∧ f env = some (ds, env') ∧ ∀ xs F' H', Rel K F' H' ps σ env' → Fr σ env F H σ env' F' H' → RpA K F' xs ds → Q xs H'
abbrev PAs (X : Cx) (ps : List V) (es : List Expr) (f : EA) : Prop := PA X es (cA X.K ps f)
theorem PA_imp {X : Cx} {es : List Expr} {t t' : TA} (h : PA X es t) (k : ∀ σ H Q, t' σ H Q → t σ H Q) : PA X es t' := ⟨fun pos pins s σ H Q I q => h.run pos pins s σ H Q I (k σ H Q q)⟩
/-- a slot looked at -/
def look (i : Nat) : E1 := fun env => (peek env i).map fun d => (d, env)
def ev2 (fa fb : EV) : E2 := fun env => (fa env).bind fun (a, e1) => (fb e1).bind fun (b, e2) => some (a, b, e2)
def ev2P (i : Nat) (fb : EV) : E2 := fun env => (peek env i).bind fun _ => (fb env).bind fun (b, e2) => (peek e2 i).bind fun a => some (a, b, e2)
def ev2Q (fa : EV) (i : Nat) : E2 := fun env => (fa env).bind fun (a, e1) => (peek e1 i).bind fun b => some (a, b, e1)
def evN : EA := fun env => some ([], env)
def evC (fa : EV) (fr : EA) : EA := fun env => (fa env).bind fun (a, e1) => (fr e1).bind fun (ds, e2) => some (a :: ds, e2)
section
variable {K : PySem.W.Frag} {ps : List V} {ta tb : TE}
theorem SV.s1 {f : EV} (h : SV K ps ta f) : S1 K ps ta f := fun σ H F env a env' r e Q q => h σ H F env a env' r e Q fun v F' H' r' f' p => q v F' H' r' f' (p.sh r'.sub)
theorem S1.look (i : Nat) : S1 K ps (tVar i) (look i) := fun σ H F env a env' r e Q q => by
  unfold Oc.look at e
  cases e1 : Oc.peek env i with
  | none => rw [e1] at e; cases e
  | some d =>
    rw [e1] at e
    cases e
    obtain ⟨x, h1, h2⟩ := r.peek e1
    exact ⟨x, h1, q x F H r Fr.refl h2⟩
theorem S2.vv {fa fb : EV} (ha : SV K ps ta fa) (hb : SV K ps tb fb) : S2 K ps (t2 ta tb) (ev2 fa fb) := fun σ H F env a b env' r e Q q => by
  obtain ⟨⟨a', e1⟩, h1, e⟩ := Option.bind_eq_some_iff.mp e
  obtain ⟨⟨b', e2⟩, h2, e⟩ := Option.bind_eq_some_iff.mp e
  cases e
  exact ha σ H F env _ _ r h1 _ fun v F1 H1 r1 f1 p1 => hb σ H1 F1 _ _ _ r1 h2 _ fun w F2 H2 r2 f2 p2 => q v w F2 H2 r2 (f1.trans f2) ((p1.mono f2.ff).sh r2.sub) (p2.sh r2.sub)
theorem S2.pv {fb : EV} (i : Nat) (hb : SV K ps tb fb) : S2 K ps (t2 (tVar i) tb) (ev2P i fb) := fun σ H F env a b env' r e Q q => by
  obtain ⟨a0, h0, e⟩ := Option.bind_eq_some_iff.mp e
  obtain ⟨⟨b', e2⟩, h1, e⟩ := Option.bind_eq_some_iff.mp e
  obtain ⟨a', h2, e⟩ := Option.bind_eq_some_iff.mp e
  cases e
  obtain ⟨v, hv, _⟩ := r.peek h0
  refine ⟨v, hv, hb σ H F env _ _ r h1 _ fun w F2 H2 r2 f2 p2 => ?_⟩
  obtain ⟨v', hv', hs⟩ := r2.peek h2
  rw [hv] at hv'
  cases hv'
  exact q v w F2 H2 r2 f2 hs (p2.sh r2.sub)
theorem S2.vp {fa : EV} (ha : SV K ps ta fa) (i : Nat) : S2 K ps (t2 ta (tVar i)) (ev2Q fa i) := fun σ H F env a b env' r e Q q => by
  obtain ⟨⟨a', e1⟩, h1, e⟩ := Option.bind_eq_some_iff.mp e
  obtain ⟨b', h2, e⟩ := Option.bind_eq_some_iff.mp e
  cases e
  refine ha σ H F env _ _ r h1 _ fun v F1 H1 r1 f1 p1 => ?_
  obtain ⟨w, hw, hs⟩ := r1.peek h2
  exact ⟨w, hw, q v w F1 H1 r1 f1 (p1.sh r1.sub) hs⟩
theorem SA.nil : SA K ps tNil evN := fun σ H F env ds env' r e Q q => by
  cases e
  exact q [] F H r Fr.refl .nil
theorem SA.cons {fa : EV} {t : TA} {fr : EA} (ha : SV K ps ta fa) (hr : SA K ps t fr) : SA K ps (tCons ta t) (evC fa fr) := fun σ H F env ds env' r e Q q => by
  obtain ⟨⟨a', e1⟩, h1, e⟩ := Option.bind_eq_some_iff.mp e
  obtain ⟨⟨b', e2⟩, h2, e⟩ := Option.bind_eq_some_iff.mp e
  cases e
  exact ha σ H F env _ _ r h1 _ fun v F1 H1 r1 f1 p1 => hr σ H1 F1 _ _ _ r1 h2 _ fun xs F2 H2 r2 f2 p2 => q (v :: xs) F2 H2 r2 (f1.trans f2) (.cons (p1.mono f2.ff) p2)
end
section
variable {X : Cx} {ps : List V} {a b e : Expr}
theorem o_v {f : EV} (h : PV X ps e f) : P1 X ps e f := ⟨_, h, SV.c.s1⟩
theorem o_p (i : Nat) (h : PE X e (tVar i)) : P1 X ps e (look i) := ⟨_, h, S1.look i⟩
theorem o_vv {fa fb : EV} (ha : PV X ps a fa) (hb : PV X ps b fb) : P2 X ps a b (ev2 fa fb) := ⟨_, _, ha, hb, S2.vv SV.c SV.c⟩
theorem o_pv (i : Nat) {fb : EV} (ha : PE X a (tVar i)) (hb : PV X ps b fb) : P2 X ps a b (ev2P i fb) := ⟨_, _, ha, hb, S2.pv i SV.c⟩
theorem o_vp (i : Nat) {fa : EV} (ha : PV X ps a fa) (hb : PE X b (tVar i)) : P2 X ps a b (ev2Q fa i) := ⟨_, _, ha, hb, S2.vp SV.c i⟩
theorem SA.c {K : PySem.W.Frag} {f : EA} : SA K ps (cA K ps f) f := fun σ H F env d env' r e Q q => ⟨F, env, d, env', r, e, q⟩
theorem SA.pa {es : List Expr} {f : EA} {t : TA} (h : SA X.K ps t f) (p : PA X es t) : PAs X ps es f := PA_imp p fun σ H Q ⟨F, env, d, env', r, e, q⟩ => h σ H F env d env' r e Q q
theorem a_nil : PAs X ps [] evN := SA.nil.pa pa_nil
theorem a_cons {es : List Expr} {fa : EV} {fr : EA} (ha : PV X ps e fa) (hr : PAs X ps es fr) (hs : starEach (e :: es) X.env = (false, eval e X.env) :: starEach es X.env := by rfl) : PAs X ps (e :: es) (evC fa fr) :=
  (SA.cons SV.c SA.c).pa (pa_cons ha hr hs)
end
end Oc
end

section
set_option Elab.async false
set_option linter.all false
set_option maxRecDepth 100000
set_option maxHeartbeats 1000000
/-! Oc3: the operators, comparisons, subscripts, displays, calls of built-ins by data. -/
namespace Oc
open PySem L2

/-! ### operators -/
def O1 (K : PySem.W.Frag) (r : R2) (a b : D) (z : RV) : Prop := ∀ (F H : Hp) (x y : V) (Q : VK), Ex F H → Sh K F H x a → Sh K F H y b → Got K F H Q z → r x y H Q
def op2 (f : E2) (g : D → D → Option RV) : EX := fun env => (f env).bind fun (a, b, e) => (g a b).map fun z => (z, e)
theorem OpR_or {X : Cx} {f : Value → Value → Sem Value} {r r' : R2} (h : OpR X f r) (h' : OpR X f r') : OpR X f (fun x y H Q => r x y H Q ∨ r' x y H Q) :=
  fun pins s σ H x y v u Q I rx ry q => q.elim (h pins s σ H x y v u Q I rx ry) (h' pins s σ H x y v u Q I rx ry)
section
variable {K : PySem.W.Frag} {ps : List V} {r r' : R2} {a b : D} {z : RV}
theorem O1.inl (h : O1 K r a b z) : O1 K (fun x y H Q => r x y H Q ∨ r' x y H Q) a b z := fun F H x y Q e sa sb q => .inl (h F H x y Q e sa sb q)
theorem O1.inr (h : O1 K r' a b z) : O1 K (fun x y H Q => r x y H Q ∨ r' x y H Q) a b z := fun F H x y Q e sa sb q => .inr (h F H x y Q e sa sb q)
theorem SX.two {ta tb : TE} {f : E2} {g : D → D → Option RV} (h2 : S2 K ps (t2 ta tb) f) (hr : ∀ a b z, g a b = some z → O1 K r a b z) : SX K ps (tOp r ta tb) (op2 f g) := fun σ H F env z env' rl e Q q => by
  obtain ⟨⟨a, b, e1⟩, h1, e⟩ := Option.bind_eq_some_iff.mp e
  obtain ⟨z', h3, e⟩ := Option.map_eq_some_iff.mp e
  cases e
  exact h2 σ H F env a b _ rl h1 (fun x y H' => r x y H' Q) fun x y F1 H1 r1 f1 sa sb => hr a b _ h3 F1 H1 x y Q r1.sub sa sb (fin_rv r1 f1 q)
/-- one of two rules, by the data -/
theorem SX.twoOr {ta tb : TE} {f : E2} {g : D → D → Option RV} (h2 : S2 K ps (t2 ta tb) f) (hr : ∀ a b z, g a b = some z → O1 K r a b z ∨ O1 K r' a b z) : SX K ps (fun σ H Q => tOp r ta tb σ H Q ∨ tOp r' ta tb σ H Q) (op2 f g) := fun σ H F env z env' rl e Q q => by
  obtain ⟨⟨a, b, e1⟩, h1, e⟩ := Option.bind_eq_some_iff.mp e
  obtain ⟨z', h3, e⟩ := Option.map_eq_some_iff.mp e
  cases e
  rcases hr a b _ h3 with hr | hr
  · exact .inl (h2 σ H F env a b _ rl h1 (fun x y H' => r x y H' Q) fun x y F1 H1 r1 f1 sa sb => hr F1 H1 x y Q r1.sub sa sb (fin_rv r1 f1 q))
  · exact .inr (h2 σ H F env a b _ rl h1 (fun x y H' => r' x y H' Q) fun x y F1 H1 r1 f1 sa sb => hr F1 H1 x y Q r1.sub sa sb (fin_rv r1 f1 q))
theorem o1_int {C : Int → Int → Prop} {g : Int → Int → V} {i j : Int} {z : D} (hc : C i j) (hz : ∀ F, Rp K F (g i j) z) : O1 K (rI C g) (.int i) (.int j) (.val z) := fun F H x y Q e sa sb q => by
  cases sa; cases sb
  exact ⟨i, j, rfl, rfl, hc, q _ (hz F)⟩
theorem o1_int0 {g : Int → Int → V} {i j : Int} {z : D} (hz : ∀ F, Rp K F (g i j) z) : O1 K (rI0 g) (.int i) (.int j) (.val z) := fun F H x y Q e sa sb q => by
  cases sa; cases sb
  exact ⟨i, j, rfl, rfl, q _ (hz F)⟩
end
def lim : Nat := 1000000
theorem lim_le {n : Nat} (h : n ≤ lim) : n ≤ sizeLine := Nat.le_trans h (by decide)
theorem lim_lt {n : Nat} (h : n < lim) : n < sizeLine := Nat.lt_of_lt_of_le h (by decide)
def addD : D → D → Option RV
  | .int i, .int j => some (.val (.int (i + j)))
  | .str i, .str j => if i.length + j.length ≤ lim then some (.val (.str (i ++ j))) else none
  | .lst a, .lst b => if a.length + b.length ≤ lim then some (.cell (.lst (a ++ b))) else none
  | _, _ => none
def subD : D → D → Option RV
  | .int i, .int j => some (.val (.int (i - j)))
  | _, _ => none
/-- two factors that the machine multiplies -/
def MulOk (i j : Int) : Prop := i.natAbs.log2 + j.natAbs.log2 < 1000000
instance {i j : Int} : Decidable (MulOk i j) := inferInstanceAs (Decidable (_ < _))
def DivOk (j : Int) : Prop := 0 < j ∧ j.natAbs.log2 < 9000
instance {j : Int} : Decidable (DivOk j) := inferInstanceAs (Decidable (_ ∧ _))
def mulD : D → D → Option RV
  | .int i, .int j => if MulOk i j then some (.val (.int (i * j))) else none
  | _, _ => none
def modD : D → D → Option RV
  | .int i, .int j => if 0 < j then some (.val (.int (i % j))) else none
  | _, _ => none
def divD : D → D → Option RV
  | .int i, .int j => if DivOk j then some (.val (.int (i / j))) else none
  | _, _ => none
def powD : D → D → Option RV
  | .int i, .int j => if 0 ≤ j ∧ j ≤ 1000000 ∧ i.natAbs < 2 ^ 64 then some (.val (.int (i ^ j.toNat))) else none
  | _, _ => none
def eqD (a b : D) : Option Bool := if SeqAt.shaped (py a) = true ∧ SeqAt.shaped (py b) = true then some (PyData.eqv (py a) (py b)) else none
def eqR (a b : D) : Option RV := (eqD a b).map fun k => .val (.bl k)
def neR (a b : D) : Option RV := (eqD a b).map fun k => .val (.bl (!k))
def cmpR (p : Int → Int → Bool) : D → D → Option RV
  | .int i, .int j => some (.val (.bl (p i j)))
  | _, _ => none
/-- list + list, read or locked -/
def rCatR : R2 := fun x y H Q => ∃ l b xs zs, x = .ref l ∧ y = .ref b ∧ Rd H l (.lst xs) ∧ Rd H b (.lst zs) ∧ xs.length + zs.length ≤ sizeLine ∧ ∀ p, H p = none → Q (.ref p) (upd H p (.lst (xs ++ zs)))
theorem op_catR {X : Cx} : OpR X (binaryOp .Add) rCatR := by
  intro pins s σ H x y v u Q I rx ry h
  obtain ⟨l, b, xs, zs, rfl, rfl, hH, hB, hz, q⟩ := h
  cases rx
  cases ry
  obtain ⟨z, its, n, r, e⟩ := hH.ok I.hok
  obtain ⟨z2, its2, n2, r2, e2⟩ := hB.ok I.hok
  have hl := r.length
  have hl2 := r2.length
  refine PySem.P.add_list e e2 ?_ (by rw [List.size_toArray, List.size_toArray]; omega)
  have ea : its.toArray ++ its2.toArray = (its ++ its2).toArray := by simp
  rw [ea]
  exact ⟨.ref _, _, I.lnew (t' := s.toks) (r.append r2) (by rw [List.length_append]; omega), rfl, q _ I.fresh⟩
section
variable {K : PySem.W.Frag}
theorem o1_add {r : R2} {a b : D} {z : RV} (h : addD a b = some z) : O1 K (fun x y H Q => rI0 (fun i j => .int (i + j)) x y H Q ∨ ((∃ i j, x = V.str i ∧ y = .str j ∧ i.length + j.length ≤ sizeLine ∧ Q (.str (i ++ j)) H) ∨ rCatR x y H Q)) a b z := by
  unfold addD at h
  split at h
  · cases h; exact O1.inl (o1_int0 fun _ => .int _)
  · split at h
    · rename_i hl
      cases h
      refine O1.inr (O1.inl fun F H x y Q e sa sb q => ?_)
      cases sa; cases sb
      exact ⟨_, _, rfl, rfl, lim_le hl, q _ (.str _)⟩
    · cases h
  · split at h
    · rename_i hl
      cases h
      refine O1.inr (O1.inr fun F H x y Q e sa sb q => ?_)
      obtain ⟨p, xs, rfl, h1, h2⟩ := sa
      obtain ⟨p', ys, rfl, h3, h4⟩ := sb
      refine ⟨p, p', xs, ys, rfl, rfl, h1, h3, lim_le (by rw [h2.length, h4.length]; exact hl), fun w hw => q w _ hw (.lst (h2.app h4))⟩
    · cases h
  · cases h
theorem o1_sub {a b : D} {z : RV} (h : subD a b = some z) : O1 K (rI0 fun i j => .int (i - j)) a b z := by
  unfold subD at h
  split at h
  · cases h; exact o1_int0 fun _ => .int _
  · cases h
theorem o1_mul {a b : D} {z : RV} (h : mulD a b = some z) : O1 K (rI CMulW fun i j => .int (i * j)) a b z := by
  unfold mulD at h
  split at h
  · split at h
    · rename_i hc; cases h; exact o1_int hc fun _ => .int _
    · cases h
  · cases h
theorem o1_mod {a b : D} {z : RV} (h : modD a b = some z) : O1 K (rI (fun _ j => 0 < j) fun i j => .int (i % j)) a b z := by
  unfold modD at h
  split at h
  · split at h
    · rename_i hc; cases h; exact o1_int hc fun _ => .int _
    · cases h
  · cases h
theorem o1_div {a b : D} {z : RV} (h : divD a b = some z) : O1 K (rI CDivW fun i j => .int (i / j)) a b z := by
  unfold divD at h
  split at h
  · split at h
    · rename_i hc; cases h; exact o1_int hc fun _ => .int _
    · cases h
  · cases h
theorem o1_pow {a b : D} {z : RV} (h : powD a b = some z) : O1 K (rI CPow fun i j => .int (i ^ j.toNat)) a b z := by
  unfold powD at h
  split at h
  · split at h
    · rename_i hc; cases h; exact o1_int hc fun _ => .int _
    · cases h
  · cases h
theorem o1_eq {a b : D} {z : RV} (h : eqR a b = some z) : O1 K (rEqD K) a b z := fun F H x y Q e sa sb q => by
  unfold eqR at h
  obtain ⟨k, h1, rfl⟩ := Option.map_eq_some_iff.mp h
  unfold eqD at h1
  split at h1
  · rename_i hc
    cases h1
    exact ⟨_, _, sa.dp e (SeqAt.canLay_of_shaped hc.1), sb.dp e (SeqAt.canLay_of_shaped hc.2), hc.1, hc.2, q _ (.bl _)⟩
  · cases h1
theorem o1_ne {a b : D} {z : RV} (h : neR a b = some z) : O1 K (rNeD K) a b z := fun F H x y Q e sa sb q => by
  unfold neR at h
  obtain ⟨k, h1, rfl⟩ := Option.map_eq_some_iff.mp h
  unfold eqD at h1
  split at h1
  · rename_i hc
    cases h1
    exact ⟨_, _, sa.dp e (SeqAt.canLay_of_shaped hc.1), sb.dp e (SeqAt.canLay_of_shaped hc.2), hc.1, hc.2, q _ (.bl _)⟩
  · cases h1
theorem o1_cmp {p : Int → Int → Bool} {a b : D} {z : RV} (h : cmpR p a b = some z) : O1 K (rI0 fun i j => .bl (p i j)) a b z := by
  unfold cmpR at h
  split at h
  · cases h; exact o1_int0 fun _ => .bl _
  · cases h
end
section
variable {X : Cx} {ps : List V} {a b : Expr} {f : E2} {pos : Pos}
theorem e_op {op : Operator} {r : R2} {g : D → D → Option RV} (ho : OpR X (binaryOp op) r) (hr : ∀ a b z, g a b = some z → O1 X.K r a b z) (h : P2 X ps a b f) : PX X ps (.BinOp a op b pos) (op2 f g) := by
  obtain ⟨ta, tb, ha, hb, h⟩ := h
  exact (SX.two h hr).px (pe_op ho ha hb)
theorem e_add (h : P2 X ps a b f) : PX X ps (.BinOp a .Add b pos) (op2 f addD) := e_op (OpR_or op_add (OpR_or op_add_str op_catR)) (fun a b z h => o1_add (r := rCatR) h) h
theorem e_sub (h : P2 X ps a b f) : PX X ps (.BinOp a .Sub b pos) (op2 f subD) := e_op op_sub (fun a b z h => o1_sub h) h
theorem e_mul (h : P2 X ps a b f) : PX X ps (.BinOp a .Mult b pos) (op2 f mulD) := e_op op_mulW (fun a b z h => o1_mul h) h
theorem e_mod (h : P2 X ps a b f) : PX X ps (.BinOp a .Mod b pos) (op2 f modD) := e_op op_mod (fun a b z h => o1_mod h) h
theorem e_div (h : P2 X ps a b f) : PX X ps (.BinOp a .FloorDiv b pos) (op2 f divD) := e_op op_fdivW (fun a b z h => o1_div h) h
theorem e_pow (h : P2 X ps a b f) : PX X ps (.BinOp a .Pow b pos) (op2 f powD) := e_op op_pow (fun a b z h => o1_pow h) h
theorem e_cmpR {op : CmpOp} {r : R2} {g : D → D → Option RV} (ho : OpR X (compareOp op) r) (hr : ∀ a b z, g a b = some z → O1 X.K r a b z) (h : P2 X ps a b f) (hm : behindInMarks op b = false) : PX X ps (.Compare a [op] [b] pos) (op2 f g) := by
  obtain ⟨ta, tb, ha, hb, h⟩ := h
  exact (SX.two h hr).px (pe_cmpR ho ha hb hm)
theorem e_eq (hu : X.A.units + 64 < cLine) (h : P2 X ps a b f) : PX X ps (.Compare a [.Eq] [b] pos) (op2 f eqR) := e_cmpR (op_eqD hu) (fun a b z h => o1_eq h) h (nomark _)
theorem e_ne (hu : X.A.units + 64 < cLine) (h : P2 X ps a b f) : PX X ps (.Compare a [.NotEq] [b] pos) (op2 f neR) := e_cmpR (op_neD hu) (fun a b z h => o1_ne h) h (nomark _)
end
end Oc
end

section
set_option Elab.async false
set_option linter.all false
set_option maxRecDepth 100000
set_option maxHeartbeats 1000000
/-! Oc4: subscripts, dicts, in, displays, built-ins. -/
namespace Oc
open PySem L2

/-! ### dicts -/
def keyOf : D → Option Key
  | .int i => some (.inl i)
  | .str s => some (.inr s)
  | _ => none
def keysOf : List D → Option (List Key)
  | [] => some []
  | d :: l => (keyOf d).bind fun k => (keysOf l).bind fun r => some (k :: r)
section
variable {κ : Type} [DecidableEq κ]
def lookK : List (κ × D) → κ → Option D
  | [], _ => none
  | (k', d) :: r, k => if k' = k then some d else lookK r k
def storeK (es : List (κ × D)) (k : κ) (d : D) : List (κ × D) :=
  if (es.any fun kv => decide (kv.1 = k)) = true then es.map (fun kv => if kv.1 = k then (kv.1, d) else kv) else es ++ [(k, d)]
def eraK (es : List (κ × D)) (k : κ) : List (κ × D) := es.filter fun kv => decide (kv.1 ≠ k)
end
section
variable {K : PySem.W.Frag} {F H : Hp} {v x y : V} {a b d : D} {o : HO} {p : Addr}
def OV (K : PySem.W.Frag) (F : Hp) (ov : Option V) : Option D → Prop
  | some d => ∃ v, ov = some v ∧ Rp K F v d
  | none => ov = none
theorem keyOf_v {k : Key} (h : keyOf b = some k) (s : Rp K F y b) : y = kV k := by
  unfold keyOf at h
  split at h <;> first | (cases h; cases s; rfl) | cases h
theorem keysOf_v : ∀ {l : List D} {ks : List Key} {xs : List V}, keysOf l = some ks → RpA K F xs l → xs = ks.map kV
  | [], ks, xs, h, s => by cases h; cases s; rfl
  | d :: l, ks, xs, h, s => by
    obtain ⟨k, h1, h⟩ := Option.bind_eq_some_iff.mp h
    obtain ⟨r, h2, h⟩ := Option.bind_eq_some_iff.mp h
    cases h
    cases s with
    | cons s1 s2 => rw [keyOf_v h1 s1, keysOf_v h2 s2]; rfl
theorem RpK.look : ∀ {ks : List (Key × V)} {es : List (Key × D)} {k : Key}, RpK K F ks es → OV K F (valV ks k) (lookK es k)
  | _, _, k, .nil => rfl
  | _, _, k, .cons (k := k') (v := v) (vs := vs) (d := d) (ds := ds) h1 h2 => by
    have ih := RpK.look (k := k) h2
    unfold lookK
    by_cases c : k' = k
    · rw [if_pos c]
      exact ⟨v, by simp [valV, List.find?, c], h1⟩
    · rw [if_neg c]
      have e : valV ((k', v) :: vs) k = valV vs k := by simp [valV, List.find?, c]
      rw [e]
      exact ih
theorem RpT.look : ∀ {ks : List (List Key × V)} {es : List (List Key × D)} {k : List Key}, RpT K F ks es → OV K F (valV ks k) (lookK es k)
  | _, _, k, .nil => rfl
  | _, _, k, .cons (k := k') (v := v) (vs := vs) (d := d) (ds := ds) h1 h2 => by
    have ih := RpT.look (k := k) h2
    unfold lookK
    by_cases c : k' = k
    · rw [if_pos c]
      exact ⟨v, by simp [valV, List.find?, c], h1⟩
    · rw [if_neg c]
      have e : valV ((k', v) :: vs) k = valV vs k := by simp [valV, List.find?, c]
      rw [e]
      exact ih
theorem RpK.keys {ks : List (Key × V)} {es : List (Key × D)} (h : RpK K F ks es) : ks.map (·.1) = es.map (·.1) := by
  induction ks generalizing es with
  | nil => cases h; rfl
  | cons x xs ih => cases h with | cons a b => simp [ih b]
theorem RpT.keys {ks : List (List Key × V)} {es : List (List Key × D)} (h : RpT K F ks es) : ks.map (·.1) = es.map (·.1) := by
  induction ks generalizing es with
  | nil => cases h; rfl
  | cons x xs ih => cases h with | cons a b => simp [ih b]
theorem RpK.len {ks : List (Key × V)} {es : List (Key × D)} (h : RpK K F ks es) : ks.length = es.length := by
  have := congrArg List.length h.keys
  simpa using this
theorem RpT.len {ks : List (List Key × V)} {es : List (List Key × D)} (h : RpT K F ks es) : ks.length = es.length := by
  have := congrArg List.length h.keys
  simpa using this
end
/-- what a dict holds at a key -/
def dget : D → D → Option (Option D)
  | .dk es, k => (keyOf k).map (lookK es)
  | .dt es, .tup l => (keysOf l).map (lookK es)
  | _, _ => none
theorem Sh.keyTup {K : PySem.W.Frag} {F H : Hp} {y : V} {l : List D} {ks : List Key} (x : Ex F H) (h : Sh K F H y (.tup l)) (e : keysOf l = some ks) : ∃ p, y = .ref p ∧ H p = some (.tup (ks.map kV)) := by
  cases h with
  | tup h1 h2 => exact ⟨_, rfl, by rw [x _ _ h1, keysOf_v e h2]⟩
theorem Sh.keyV {K : PySem.W.Frag} {F H : Hp} {y : V} {b : D} {k : Key} (h : Sh K F H y b) (e : keyOf b = some k) : y = kV k := by
  unfold keyOf at e
  split at e <;> first | (cases e; cases h; rfl) | cases e
theorem dget_sh {K : PySem.W.Frag} {F H : Hp} {x y : V} {a b : D} {o : Option D} (xx : Ex F H) (h : dget a b = some o) (sa : Sh K F H x a) (sb : Sh K F H y b) :
    ∃ p ov, x = .ref p ∧ IsD H p ∧ DGet H p y ov ∧ OV K F ov o := by
  unfold dget at h
  split at h
  · rename_i es
    obtain ⟨k, h1, rfl⟩ := Option.map_eq_some_iff.mp h
    obtain ⟨p, ks, rfl, e1, e2⟩ := sa
    have ey := sb.keyV h1
    subst ey
    exact ⟨p, _, rfl, .inl ⟨ks, e1⟩, .inl ⟨ks, k, e1, rfl, rfl⟩, e2.look⟩
  · rename_i es l
    obtain ⟨k, h1, rfl⟩ := Option.map_eq_some_iff.mp h
    obtain ⟨p, ks, rfl, e1, e2⟩ := sa
    obtain ⟨q, rfl, e3⟩ := sb.keyTup xx h1
    exact ⟨p, _, rfl, .inr ⟨ks, e1⟩, .inr ⟨ks, k, q, e1, rfl, e3, rfl⟩, e2.look⟩
  · cases h

/-! ### x[y], x in y -/
def ixD : D → D → Option RV
  | .lst ds, .int i => (atI ds i).map .val
  | .tup ds, .int i => (atI ds i).map .val
  | .str z, .int i => if z.length ≤ lim then (atI z.cps.toList i).map fun c => .val (.str ⟨#[c]⟩) else none
  | .dk es, k => (dget (.dk es) k).bind fun o => o.map .val
  | .dt es, k => (dget (.dt es) k).bind fun o => o.map .val
  | _, _ => none
def rDGet : R2 := fun x y H Q => ∃ a v, x = .ref a ∧ DGet H a y (some v) ∧ Q v H
def rDIn : R2 := fun y x H Q => ∃ a o, x = .ref a ∧ DGet H a y o ∧ Q (.bl o.isSome) H
def rDNotIn : R2 := fun y x H Q => ∃ a o, x = .ref a ∧ DGet H a y o ∧ Q (.bl (!o.isSome)) H
def rSign : R2 := fun x y H Q => ∃ (c : Nat) (z : Str), x = .str ⟨#[c]⟩ ∧ y = .str z ∧ Q (.bl (decide (c ∈ z.cps.toList))) H
def rNotSign : R2 := fun x y H Q => ∃ (c : Nat) (z : Str), x = .str ⟨#[c]⟩ ∧ y = .str z ∧ Q (.bl (!decide (c ∈ z.cps.toList))) H
def flatD : D → Bool
  | .non => true | .bl _ => true | .int _ => true | .str _ => true | _ => false
/-- x in y -/
def inD : D → D → Option Bool
  | x, .lst ds => if SeqAt.shaped (py x) = true ∧ SeqAt.shaped (py (.lst ds)) = true then some (ds.any fun z => PyData.eqv (py z) (py x)) else none
  | x, .tup ds => if flatD x = true ∧ ds.all flatD = true then some (ds.any fun z => PyData.eqv (py z) (py x)) else none
  | .str s, .str z => match s.cps.toList with
    | [c] => some (decide (c ∈ z.cps.toList))
    | _ => none
  | k, .dk es => (dget (.dk es) k).map (·.isSome)
  | k, .dt es => (dget (.dt es) k).map (·.isSome)
  | _, _ => none
def inR (a b : D) : Option RV := (inD a b).map fun k => .val (.bl k)
def ninR (a b : D) : Option RV := (inD a b).map fun k => .val (.bl (!k))
section
variable {K : PySem.W.Frag}
theorem atI_rp {F : Hp} {xs : List V} {ds : List D} {i : Int} {d : D} (h : RpA K F xs ds) (e : atI ds i = some d) : ∃ v, atI xs i = some v ∧ Rp K F v d := by
  unfold atI at e ⊢
  rw [h.length]
  cases c : ixN ds.length i with
  | none => rw [c] at e; cases e
  | some j => rw [c] at e; exact h.get e
theorem o1_ix {a b : D} {z : RV} (h : ixD a b = some z) : O1 K (rIx K) a b z ∨ O1 K rDGet a b z := by
  unfold ixD at h
  split at h
  · refine .inl fun F H x y Q e sa sb q => .inl ?_
    obtain ⟨d, h1, rfl⟩ := Option.map_eq_some_iff.mp h
    obtain ⟨p, xs, rfl, e1, e2⟩ := sa
    obtain ⟨v, h3, h4⟩ := atI_rp e2 h1
    cases sb
    exact ⟨p, xs, _, v, rfl, rfl, .inl e1, h3, q v h4⟩
  · refine .inl fun F H x y Q e sa sb q => .inr (.inl ?_)
    obtain ⟨d, h1, rfl⟩ := Option.map_eq_some_iff.mp h
    cases sa with
    | tup e1 e2 =>
      obtain ⟨v, h3, h4⟩ := atI_rp e2 h1
      cases sb
      exact ⟨_, _, _, v, rfl, rfl, SqT.of (e _ _ e1), h3, q v h4⟩
  · refine .inl fun F H x y Q e sa sb q => .inr (.inr ?_)
    split at h
    · rename_i hl
      obtain ⟨c, h1, rfl⟩ := Option.map_eq_some_iff.mp h
      cases sa; cases sb
      exact ⟨_, _, c, rfl, rfl, lim_le hl, h1, q _ (.str _)⟩
    · cases h
  · refine .inr fun F H x y Q e sa sb q => ?_
    obtain ⟨o, h1, h2⟩ := Option.bind_eq_some_iff.mp h
    obtain ⟨d, rfl, rfl⟩ := Option.map_eq_some_iff.mp h2
    obtain ⟨p, ov, rfl, _, g, v, rfl, hv⟩ := dget_sh e h1 sa sb
    exact ⟨p, v, rfl, g, q v hv⟩
  · refine .inr fun F H x y Q e sa sb q => ?_
    obtain ⟨o, h1, h2⟩ := Option.bind_eq_some_iff.mp h
    obtain ⟨d, rfl, rfl⟩ := Option.map_eq_some_iff.mp h2
    obtain ⟨p, ov, rfl, _, g, v, rfl, hv⟩ := dget_sh e h1 sa sb
    exact ⟨p, v, rfl, g, q v hv⟩
  · cases h
theorem flat_v {F : Hp} {x : V} {a : D} (h : Rp K F x a) (f : flatD a = true) : flatV x = true := by
  cases h <;> first | rfl | cases f
theorem flat_all {F : Hp} : ∀ {xs : List V} {ds : List D}, RpA K F xs ds → ds.all flatD = true → xs.all flatV = true
  | _, _, .nil, _ => rfl
  | _, _, .cons h t, f => by
    rw [List.all_cons, Bool.and_eq_true] at f
    rw [List.all_cons, flat_v h f.1, flat_all t f.2]
    rfl
theorem eqv_flat {F : Hp} {x y : V} {a b : D} (h : Rp K F x a) (g : Rp K F y b) (fa : flatD a = true) (fb : flatD b = true) : eqV x y = PyData.eqv (py a) (py b) := by
  cases h <;> cases g <;> first | (cases fa; done) | (cases fb; done) | (simp [eqV, py, PyData.eqv]; done)
theorem in_flat {F : Hp} {x : V} {a : D} (h : Rp K F x a) (fa : flatD a = true) : ∀ {xs : List V} {ds : List D}, RpA K F xs ds → ds.all flatD = true → inV x xs = ds.any fun z => PyData.eqv (py z) (py a)
  | _, _, .nil, _ => rfl
  | _, _, .cons g t, f => by
    rw [List.all_cons, Bool.and_eq_true] at f
    have ih := in_flat h fa t f.2
    unfold inV at ih ⊢
    rw [List.any_cons, List.any_cons, ih, eqv_flat g h f.1 fa]
theorem Sh.flat {F H : Hp} {x : V} {a : D} (h : Sh K F H x a) (fa : flatD a = true) : Rp K F x a := by
  cases a <;> first | exact h | cases fa
theorem one_sign {s : Str} {c : Nat} (h : s.cps.toList = [c]) : s = ⟨#[c]⟩ := by
  cases s with
  | mk cps =>
    congr 1
    simpa using congrArg List.toArray h
theorem o1_in {a b : D} {z : RV} (h : inR a b = some z) : O1 K (fun x y H Q => rInD K x y H Q ∨ (rIn K false x y H Q ∨ rSign x y H Q)) a b z ∨ O1 K rDIn a b z := by
  unfold inR at h
  obtain ⟨k, h1, rfl⟩ := Option.map_eq_some_iff.mp h
  unfold inD at h1
  split at h1
  · split at h1
    · rename_i hc
      cases h1
      refine .inl fun F H x y Q e sa sb q => .inl ?_
      have e2 : ∀ l : List D, ((pyA l).any fun z => PyData.eqv z (py a)) = l.any fun z => PyData.eqv (py z) (py a) := fun l => by
        induction l with
        | nil => rfl
        | cons d l ih => simp [pyA, ih]
      exact ⟨_, _, sa.dp e (SeqAt.canLay_of_shaped hc.1), sb.dp e (SeqAt.canLay_of_shaped hc.2), hc.1, hc.2, by rw [e2]; exact q _ (.bl _)⟩
    · cases h1
  · split at h1
    · rename_i hc
      cases h1
      refine .inl fun F H x y Q e sa sb q => .inr (.inl ?_)
      have ra := sa.flat hc.1
      cases sb with
      | tup h2 h3 =>
        refine ⟨_, _, rfl, .inr (SqT.of (e _ _ h2)), flat_v ra hc.1, flat_all h3 hc.2, ?_⟩
        rw [in_flat ra hc.1 h3 hc.2]
        exact q _ (.bl _)
    · cases h1
  · split at h1
    · rename_i c hs
      cases h1
      refine .inl fun F H x y Q e sa sb q => .inr (.inr ?_)
      cases sa; cases sb
      exact ⟨c, _, by rw [one_sign hs], rfl, q _ (.bl _)⟩
    · cases h1
  · refine .inr fun F H x y Q e sa sb q => ?_
    obtain ⟨o, h2, rfl⟩ := Option.map_eq_some_iff.mp h1
    obtain ⟨p, ov, rfl, _, g, hv⟩ := dget_sh e h2 sb sa
    refine ⟨p, ov, rfl, g, ?_⟩
    cases o with
    | none => obtain rfl : ov = none := hv; exact q _ (.bl _)
    | some d => obtain ⟨v, rfl, _⟩ := hv; exact q _ (.bl _)
  · refine .inr fun F H x y Q e sa sb q => ?_
    obtain ⟨o, h2, rfl⟩ := Option.map_eq_some_iff.mp h1
    obtain ⟨p, ov, rfl, _, g, hv⟩ := dget_sh e h2 sb sa
    refine ⟨p, ov, rfl, g, ?_⟩
    cases o with
    | none => obtain rfl : ov = none := hv; exact q _ (.bl _)
    | some d => obtain ⟨v, rfl, _⟩ := hv; exact q _ (.bl _)
  · cases h1
end
end Oc
end

section
set_option Elab.async false
set_option linter.all false
set_option maxRecDepth 100000
set_option maxHeartbeats 1000000
/-! Oc5: expressions over the program's text, by data. -/
namespace Oc
open PySem L2 PyProof.Rows

section
variable {K : PySem.W.Frag}
theorem o1_nin {a b : D} {z : RV} (h : ninR a b = some z) : O1 K (fun x y H Q => rNotInD K x y H Q ∨ (rIn K true x y H Q ∨ rNotSign x y H Q)) a b z ∨ O1 K rDNotIn a b z := by
  unfold ninR at h
  obtain ⟨k, h1, rfl⟩ := Option.map_eq_some_iff.mp h
  unfold inD at h1
  split at h1
  · split at h1
    · rename_i hc
      cases h1
      refine .inl fun F H x y Q e sa sb q => .inl ?_
      have e2 : ∀ l : List D, ((pyA l).any fun z => PyData.eqv z (py a)) = l.any fun z => PyData.eqv (py z) (py a) := fun l => by
        induction l with
        | nil => rfl
        | cons d l ih => simp [pyA, ih]
      exact ⟨_, _, sa.dp e (SeqAt.canLay_of_shaped hc.1), sb.dp e (SeqAt.canLay_of_shaped hc.2), hc.1, hc.2, by rw [e2]; exact q _ (.bl _)⟩
    · cases h1
  · split at h1
    · rename_i hc
      cases h1
      refine .inl fun F H x y Q e sa sb q => .inr (.inl ?_)
      have ra := sa.flat hc.1
      cases sb with
      | tup h2 h3 =>
        refine ⟨_, _, rfl, .inr (SqT.of (e _ _ h2)), flat_v ra hc.1, flat_all h3 hc.2, ?_⟩
        rw [in_flat ra hc.1 h3 hc.2]
        exact q _ (.bl _)
    · cases h1
  · split at h1
    · rename_i c hs
      cases h1
      refine .inl fun F H x y Q e sa sb q => .inr (.inr ?_)
      cases sa; cases sb
      exact ⟨c, _, by rw [one_sign hs], rfl, q _ (.bl _)⟩
    · cases h1
  · refine .inr fun F H x y Q e sa sb q => ?_
    obtain ⟨o, h2, rfl⟩ := Option.map_eq_some_iff.mp h1
    obtain ⟨p, ov, rfl, _, g, hv⟩ := dget_sh e h2 sb sa
    refine ⟨p, ov, rfl, g, ?_⟩
    cases o with
    | none => obtain rfl : ov = none := hv; exact q _ (.bl _)
    | some d => obtain ⟨v, rfl, _⟩ := hv; exact q _ (.bl _)
  · refine .inr fun F H x y Q e sa sb q => ?_
    obtain ⟨o, h2, rfl⟩ := Option.map_eq_some_iff.mp h1
    obtain ⟨p, ov, rfl, _, g, hv⟩ := dget_sh e h2 sb sa
    refine ⟨p, ov, rfl, g, ?_⟩
    cases o with
    | none => obtain rfl : ov = none := hv; exact q _ (.bl _)
    | some d => obtain ⟨v, rfl, _⟩ := hv; exact q _ (.bl _)
  · cases h1
end
section
variable {X : Cx} {ps : List V} {a b c e : Expr} {f : E2} {pos : Pos}
theorem e_ix (hu : X.A.units + 1 < cLine) (h : P2 X ps a b f) (hs : PlainIx b) (hs2 : NoSl b) : PX X ps (.Subscript a b pos) (op2 f ixD) := by
  obtain ⟨ta, tb, ha, hb, h⟩ := h
  exact (SX.twoOr (r := rIx X.K) (r' := rDGet) h fun a b z e => o1_ix e).px (PE_or (pe_ix ix_seq ha hb hs) (pe_dget hu ha hb hs2))
theorem e_in (hu : X.A.units + 65 < cLine) (h : P2 X ps a b f) (hm : behindInMarks .In b = false) : PX X ps (.Compare a [.In] [b] pos) (op2 f inR) := by
  obtain ⟨ta, tb, ha, hb, h⟩ := h
  exact (SX.twoOr h fun a b z e => o1_in e).px (PE_or (pe_cmpR (OpR_or (op_inD hu) (OpR_or op_in_seq op_in_sign)) ha hb hm) (pe_cmp (pc_din (by omega) ha hb) hm))
theorem e_nin (hu : X.A.units + 65 < cLine) (h : P2 X ps a b f) (hm : behindInMarks .NotIn b = false) : PX X ps (.Compare a [.NotIn] [b] pos) (op2 f ninR) := by
  obtain ⟨ta, tb, ha, hb, h⟩ := h
  exact (SX.twoOr h fun a b z e => o1_nin e).px (PE_or (pe_cmpR (OpR_or (op_notInD hu) (OpR_or op_notIn_seq op_notIn_sign)) ha hb hm) (pe_cmp (pc_dnotin (by omega) ha hb) hm))
/-! ### tests -/
def tst (f : EX) : EB := fun env => (f env).bind fun (r, e) => match r with
  | .val (.bl b) => some (b, e)
  | _ => none
theorem SB.tst {K : PySem.W.Frag} {t : TE} {f : EX} (h : SX K ps t f) : SB K ps (tB t) (tst f) := fun σ H F env b env' r e Q q => by
  obtain ⟨⟨z, e1⟩, h1, e⟩ := Option.bind_eq_some_iff.mp e
  dsimp only at e
  split at e
  · cases e
    refine h σ H F env _ _ r h1 _ fun v F' H' r' f' rs => ?_
    have rs : Rp K F' v (.bl _) := rs
    cases rs
    exact ⟨_, rfl, q F' H' r' f'⟩
  · cases e
/-- a value as a test -/
theorem b_val {f : EX} (h : PX X ps e f) (he : ∀ whole, isTrue e X.env whole = (do let v ← whole; standAt e.pos; holding [v] (truthy v)) := by intro _; rfl) : PB X ps e (tst f) := (SB.tst SX.c).pb (pt_val h he)
theorem b_cmpR {op : CmpOp} {r : R2} {g : D → D → Option RV} (ho : OpR X (compareOp op) r) (hr : ∀ a b z, g a b = some z → O1 X.K r a b z) (h : P2 X ps a b f) (hm : behindInMarks op b = false) : PB X ps (.Compare a [op] [b] pos) (tst (op2 f g)) := by
  obtain ⟨ta, tb, ha, hb, h⟩ := h
  exact (SB.tst (SX.two h hr)).pb (pt_cmpR ho ha hb hm)
theorem b_eq (hu : X.A.units + 64 < cLine) (h : P2 X ps a b f) : PB X ps (.Compare a [.Eq] [b] pos) (tst (op2 f eqR)) := b_cmpR (op_eqD hu) (fun a b z h => o1_eq h) h (nomark _)
theorem b_ne (hu : X.A.units + 64 < cLine) (h : P2 X ps a b f) : PB X ps (.Compare a [.NotEq] [b] pos) (tst (op2 f neR)) := b_cmpR (op_neD hu) (fun a b z h => o1_ne h) h (nomark _)
abbrev ltR := cmpR fun i j => decide (i < j)
abbrev leR := cmpR fun i j => decide (i ≤ j)
abbrev gtR := cmpR fun i j => decide (j < i)
abbrev geR := cmpR fun i j => decide (j ≤ i)
theorem b_lt (h : P2 X ps a b f) : PB X ps (.Compare a [.Lt] [b] pos) (tst (op2 f ltR)) := b_cmpR op_lt (fun a b z h => o1_cmp h) h (nomark _)
theorem b_le (h : P2 X ps a b f) : PB X ps (.Compare a [.LtE] [b] pos) (tst (op2 f leR)) := b_cmpR op_le (fun a b z h => o1_cmp h) h (nomark _)
theorem b_gt (h : P2 X ps a b f) : PB X ps (.Compare a [.Gt] [b] pos) (tst (op2 f gtR)) := b_cmpR op_gt (fun a b z h => o1_cmp h) h (nomark _)
theorem b_ge (h : P2 X ps a b f) : PB X ps (.Compare a [.GtE] [b] pos) (tst (op2 f geR)) := b_cmpR op_ge (fun a b z h => o1_cmp h) h (nomark _)
theorem e_lt (h : P2 X ps a b f) : PX X ps (.Compare a [.Lt] [b] pos) (op2 f ltR) := e_cmpR op_lt (fun a b z h => o1_cmp h) h (nomark _)
theorem e_le (h : P2 X ps a b f) : PX X ps (.Compare a [.LtE] [b] pos) (op2 f leR) := e_cmpR op_le (fun a b z h => o1_cmp h) h (nomark _)
theorem e_gt (h : P2 X ps a b f) : PX X ps (.Compare a [.Gt] [b] pos) (op2 f gtR) := e_cmpR op_gt (fun a b z h => o1_cmp h) h (nomark _)
theorem e_ge (h : P2 X ps a b f) : PX X ps (.Compare a [.GtE] [b] pos) (op2 f geR) := e_cmpR op_ge (fun a b z h => o1_cmp h) h (nomark _)
theorem b_in (hu : X.A.units + 65 < cLine) (h : P2 X ps a b f) (hm : behindInMarks .In b = false) : PB X ps (.Compare a [.In] [b] pos) (tst (op2 f inR)) := by
  obtain ⟨ta, tb, ha, hb, h⟩ := h
  have h3 := SB.tst (SX.twoOr h fun a b z e => o1_in e)
  refine h3.pb (PT_imp (PT_or (pt_cmpR (OpR_or (op_inD hu) (OpR_or op_in_seq op_in_sign)) ha hb hm) (pt_cmp (pc_din (by omega) ha hb) hm)) fun σ H Q q => q)
theorem b_nin (hu : X.A.units + 65 < cLine) (h : P2 X ps a b f) (hm : behindInMarks .NotIn b = false) : PB X ps (.Compare a [.NotIn] [b] pos) (tst (op2 f ninR)) := by
  obtain ⟨ta, tb, ha, hb, h⟩ := h
  have h3 := SB.tst (SX.twoOr h fun a b z e => o1_nin e)
  refine h3.pb (PT_imp (PT_or (pt_cmpR (OpR_or (op_notInD hu) (OpR_or op_notIn_seq op_notIn_sign)) ha hb hm) (pt_cmp (pc_dnotin (by omega) ha hb) hm)) fun σ H Q q => q)
/-- is None -/
def isNo : D → Bool
  | .non => true
  | _ => false
def noneE (k : Bool) (f : EV) : EX := fun env => (f env).map fun (d, e) => (.val (.bl (isNo d == k)), e)
theorem isNo_rp {K : PySem.W.Frag} {F : Hp} {x : V} {d : D} (h : Rp K F x d) : decide (x = .non) = isNo d := by
  cases h <;> rfl
theorem SX.isN {K : PySem.W.Frag} {t : TE} {f : EV} (h : SV K ps t f) : SX K ps (tIsN t) (noneE true f) := fun σ H F env z env' r e Q q => by
  obtain ⟨⟨d, e1⟩, h1, e⟩ := Option.map_eq_some_iff.mp e
  cases e
  refine h σ H F env _ _ r h1 _ fun v F' H' r' f' p => ?_
  rw [isNo_rp p]
  exact q _ F' H' r' f' (show Rp K F' _ _ by rw [show (isNo d == true) = isNo d by simp]; exact .bl _)
theorem SX.notN {K : PySem.W.Frag} {t : TE} {f : EV} (h : SV K ps t f) : SX K ps (tNotN t) (noneE false f) := fun σ H F env z env' r e Q q => by
  obtain ⟨⟨d, e1⟩, h1, e⟩ := Option.map_eq_some_iff.mp e
  cases e
  refine h σ H F env _ _ r h1 _ fun v F' H' r' f' p => ?_
  rw [isNo_rp p]
  exact q _ F' H' r' f' (show Rp K F' _ _ by rw [show (isNo d == false) = !isNo d by cases isNo d <;> rfl]; exact .bl _)
theorem e_isN {j : Option Nat} {pos' : Pos} {k} {f : EV} (h : PV X ps e f) : PX X ps (.Compare e [.Is] [.Constant .none k pos'] pos) (noneE true f) := (SX.isN SV.c).px (pe_cmp (pc_isN h))
theorem e_notN {pos' : Pos} {k} {f : EV} (h : PV X ps e f) : PX X ps (.Compare e [.IsNot] [.Constant .none k pos'] pos) (noneE false f) := (SX.notN SV.c).px (pe_cmp (pc_notN h))
theorem b_isN {pos' : Pos} {k} {f : EV} (h : PV X ps e f) : PB X ps (.Compare e [.Is] [.Constant .none k pos'] pos) (tst (noneE true f)) := (SB.tst (SX.isN SV.c)).pb (pt_cmp (pc_isN h))
theorem b_notN {pos' : Pos} {k} {f : EV} (h : PV X ps e f) : PB X ps (.Compare e [.IsNot] [.Constant .none k pos'] pos) (tst (noneE false f)) := (SB.tst (SX.notN SV.c)).pb (pt_cmp (pc_notN h))
/-! ### and, or, not -/
def andB (fa fb : EB) : EB := fun env => (fa env).bind fun (c, e) => if c = true then fb e else some (false, e)
def orB (fa fb : EB) : EB := fun env => (fa env).bind fun (c, e) => if c = true then some (true, e) else fb e
def notB (fa : EB) : EB := fun env => (fa env).map fun (c, e) => (!c, e)
abbrev PWb (X : Cx) (ps : List V) (e : Expr) (f : EB) : Prop := PW X e (cB X.K ps f)
theorem PW_imp {X : Cx} {e : Expr} {t t' : TT} (h : PW X e t) (k : ∀ σ H Q, t' σ H Q → t σ H Q) : PW X e t' := ⟨fun w pins s σ H Q I q => h.run w pins s σ H Q I (k σ H Q q)⟩
theorem SB.pw {X : Cx} {ps : List V} {e : Expr} {f : EB} {t : TT} (h : SB X.K ps t f) (p : PW X e t) : PWb X ps e f := PW_imp p fun σ H Q ⟨F, env, d, env', r, e, q⟩ => h σ H F env d env' r e Q q
theorem SB.and {K : PySem.W.Frag} {t u : TT} {fa fb : EB} (ha : SB K ps t fa) (hb : SB K ps u fb) : SB K ps (tAnd t u) (andB fa fb) := fun σ H F env b env' r e Q q => by
  obtain ⟨⟨c, e1⟩, h1, e⟩ := Option.bind_eq_some_iff.mp e
  refine ha σ H F env c e1 r h1 _ fun F' H' r' f' => ?_
  cases c with
  | true => exact hb σ H' F' e1 b env' r' e Q fun F2 H2 r2 f2 => q F2 H2 r2 (f'.trans f2)
  | false => cases e; exact q F' H' r' f'
theorem SB.or {K : PySem.W.Frag} {t u : TT} {fa fb : EB} (ha : SB K ps t fa) (hb : SB K ps u fb) : SB K ps (tOr t u) (orB fa fb) := fun σ H F env b env' r e Q q => by
  obtain ⟨⟨c, e1⟩, h1, e⟩ := Option.bind_eq_some_iff.mp e
  refine ha σ H F env c e1 r h1 _ fun F' H' r' f' => ?_
  cases c with
  | false => exact hb σ H' F' e1 b env' r' e Q fun F2 H2 r2 f2 => q F2 H2 r2 (f'.trans f2)
  | true => cases e; exact q F' H' r' f'
theorem SB.not {K : PySem.W.Frag} {t : TT} {fa : EB} (ha : SB K ps t fa) : SB K ps (tNot t) (notB fa) := fun σ H F env b env' r e Q q => by
  obtain ⟨⟨c, e1⟩, h1, e⟩ := Option.map_eq_some_iff.mp e
  cases e
  exact ha σ H F env c _ r h1 _ fun F' H' r' f' => q F' H' r' f'
theorem w_and1 {f : EB} (h : PB X ps a f) : PWb X ps (.BoolOp .And [a] pos) f := pw_and1 h
theorem w_or1 {f : EB} (h : PB X ps a f) : PWb X ps (.BoolOp .Or [a] pos) f := pw_or1 h
theorem w_and {rest : List Expr} {fa fb : EB} (h : PB X ps a fa) (g : PWb X ps (.BoolOp .And (b :: rest) pos) fb) : PWb X ps (.BoolOp .And (a :: b :: rest) pos) (andB fa fb) := (SB.and SB.c SB.c).pw (pw_and h g)
theorem w_or {rest : List Expr} {fa fb : EB} (h : PB X ps a fa) (g : PWb X ps (.BoolOp .Or (b :: rest) pos) fb) : PWb X ps (.BoolOp .Or (a :: b :: rest) pos) (orB fa fb) := (SB.or SB.c SB.c).pw (pw_or h g)
theorem b_w {f : EB} (h : PWb X ps e f) : PB X ps e f := PW.pt h
theorem b_not {f : EB} (h : PB X ps a f) : PB X ps (.UnaryOp .Not a pos) (notB f) := (SB.not SB.c).pb (pt_not h)
/-- .. as values -/
def andX (fa fb : EX) : EX := fun env => (fa env).bind fun (r, e) => match r with
  | .val (.bl true) => fb e
  | .val (.bl false) => some (.val (.bl false), e)
  | _ => none
def orX (fa fb : EX) : EX := fun env => (fa env).bind fun (r, e) => match r with
  | .val (.bl false) => fb e
  | .val (.bl true) => some (.val (.bl true), e)
  | _ => none
def notX (fa : EX) : EX := fun env => (fa env).bind fun (r, e) => match r with
  | .val (.bl b) => some (.val (.bl (!b)), e)
  | _ => none
theorem Res.trans {K : PySem.W.Frag} {σ : L2.St} {env e1 e2 : Env} {F F1 F2 H H1 H2 : Hp} {v : V} {z : RV} (f1 : Fr σ env F H σ e1 F1 H1) (h : Res K σ e1 H1 e2 F2 H2 v z) : Res K σ env H e2 F2 H2 v z := by
  cases z with
  | val d => exact h
  | cell d =>
    obtain ⟨p, o, rfl, h1, h2, h3, h4, h5⟩ := h
    refine ⟨p, o, rfl, h1, h2, h3, h4, ?_⟩
    rcases h5 with z | ⟨j, z⟩
    · cases e : H p with
      | none => exact .inl rfl
      | some u =>
        refine .inr (Classical.byContradiction fun c => ?_)
        have := f1.kh p u e fun j hj => c ⟨j, hj⟩
        rw [z] at this; cases this
    · exact f1.nw j p z
theorem SX.and {K : PySem.W.Frag} {t u : TE} {fa fb : EX} (ha : SX K ps t fa) (hb : SX K ps u fb) : SX K ps (tAndV t u) (andX fa fb) := fun σ H F env b env' r e Q q => by
  obtain ⟨⟨z, e1⟩, h1, e⟩ := Option.bind_eq_some_iff.mp e
  dsimp only at e
  refine ha σ H F env z e1 r h1 _ fun v F' H' r' f' rs => ?_
  split at e
  · have rs : Rp K F' v (.bl true) := rs
    cases rs
    exact ⟨true, rfl, hb σ H' F' e1 b env' r' e Q fun v2 F2 H2 r2 f2 rs2 => q v2 F2 H2 r2 (f'.trans f2) (rs2.trans f')⟩
  · have rs : Rp K F' v (.bl false) := rs
    cases rs
    cases e
    exact ⟨false, rfl, q _ F' H' r' f' (Rp.bl false)⟩
  · cases e
theorem SX.or {K : PySem.W.Frag} {t u : TE} {fa fb : EX} (ha : SX K ps t fa) (hb : SX K ps u fb) : SX K ps (tOrV t u) (orX fa fb) := fun σ H F env b env' r e Q q => by
  obtain ⟨⟨z, e1⟩, h1, e⟩ := Option.bind_eq_some_iff.mp e
  dsimp only at e
  refine ha σ H F env z e1 r h1 _ fun v F' H' r' f' rs => ?_
  split at e
  · have rs : Rp K F' v (.bl false) := rs
    cases rs
    exact ⟨false, rfl, hb σ H' F' e1 b env' r' e Q fun v2 F2 H2 r2 f2 rs2 => q v2 F2 H2 r2 (f'.trans f2) (rs2.trans f')⟩
  · have rs : Rp K F' v (.bl true) := rs
    cases rs
    cases e
    exact ⟨true, rfl, q _ F' H' r' f' (Rp.bl true)⟩
  · cases e
theorem SX.not {K : PySem.W.Frag} {t : TE} {fa : EX} (ha : SX K ps t fa) : SX K ps (tNotV t) (notX fa) := fun σ H F env b env' r e Q q => by
  obtain ⟨⟨z, e1⟩, h1, e⟩ := Option.bind_eq_some_iff.mp e
  dsimp only at e
  refine ha σ H F env z e1 r h1 _ fun v F' H' r' f' rs => ?_
  split at e
  · rename_i k
    have rs : Rp K F' v (.bl k) := rs
    cases rs
    cases e
    exact ⟨k, rfl, q _ F' H' r' f' (Rp.bl _)⟩
  · cases e
theorem e_one {op} {f : EX} (h : PX X ps a f) : PX X ps (.BoolOp op [a] pos) f := pe_one h
theorem e_and {rest : List Expr} {fa fb : EX} (h : PX X ps a fa) (g : PX X ps (.BoolOp .And (b :: rest) pos) fb) : PX X ps (.BoolOp .And (a :: b :: rest) pos) (andX fa fb) := (SX.and SX.c SX.c).px (pe_and h g)
theorem e_or {rest : List Expr} {fa fb : EX} (h : PX X ps a fa) (g : PX X ps (.BoolOp .Or (b :: rest) pos) fb) : PX X ps (.BoolOp .Or (a :: b :: rest) pos) (orX fa fb) := (SX.or SX.c SX.c).px (pe_or h g)
theorem e_not {f : EX} (h : PX X ps a f) : PX X ps (.UnaryOp .Not a pos) (notX f) := (SX.not SX.c).px (pe_not h)
end
end Oc
end

section
set_option Elab.async false
set_option linter.all false
set_option maxRecDepth 100000
set_option maxHeartbeats 1000000
/-! Oc6: displays, slices, built-ins, dicts' get. -/
namespace Oc
open PySem L2 PyProof.Rows

/-! ### displays -/
def tupE (f : EA) : EX := fun env => (f env).bind fun (ds, e) => if ds.length ≤ lim then some (.cell (.tup ds), e) else none
def lstE (f : EA) : EX := fun env => (f env).bind fun (ds, e) => if ds.length ≤ lim then some (.cell (.lst ds), e) else none
section
variable {K : PySem.W.Frag} {ps : List V}
theorem SX.tup {t : TA} {f : EA} (h : SA K ps t f) : SX K ps (tTup t) (tupE f) := fun σ H F env z env' r e Q q => by
  obtain ⟨⟨ds, e1⟩, h1, e⟩ := Option.bind_eq_some_iff.mp e
  dsimp only at e
  split at e
  · rename_i hl
    cases e
    refine h σ H F env ds _ r h1 _ fun xs F1 H1 r1 f1 p1 => ⟨lim_le (by rw [p1.length]; exact hl), ?_⟩
    exact fun p hp => fin_rv (z := .cell (.tup ds)) r1 f1 q p _ hp (.tup p1)
  · cases e
theorem SX.lst {t : TA} {f : EA} (h : SA K ps t f) : SX K ps (tLst t) (lstE f) := fun σ H F env z env' r e Q q => by
  obtain ⟨⟨ds, e1⟩, h1, e⟩ := Option.bind_eq_some_iff.mp e
  dsimp only at e
  split at e
  · rename_i hl
    cases e
    refine h σ H F env ds _ r h1 _ fun xs F1 H1 r1 f1 p1 => ⟨lim_le (by rw [p1.length]; exact hl), ?_⟩
    exact fun p hp => fin_rv (z := .cell (.lst ds)) r1 f1 q p _ hp (.lst p1)
  · cases e
def dk0 : EX := fun env => some (.cell (.dk []), env)
def dt0 : EX := fun env => some (.cell (.dt []), env)
theorem SX.dk0 : SX K ps tDNewK dk0 := fun σ H F env z env' r e Q q => by
  cases e
  exact fun p hp => fin_rv (z := .cell (.dk [])) r Fr.refl q p _ hp (.dK .nil)
theorem SX.dt0 : SX K ps tDNewT dt0 := fun σ H F env z env' r e Q q => by
  cases e
  exact fun p hp => fin_rv (z := .cell (.dt [])) r Fr.refl q p _ hp (.dT .nil)
/-! a dict's display: keys written texts or numbers, or values -/
abbrev ED := Env → Option (List (D × D) × Env)
def edN : ED := fun env => some ([], env)
def edC (fk fv : EV) (fr : ED) : ED := fun env => (fk env).bind fun (k, e1) => (fv e1).bind fun (v, e2) => (fr e2).bind fun (l, e3) => some ((k, v) :: l, e3)
def SD (K : PySem.W.Frag) (ps : List V) (t : List (TE × TE)) (f : ED) : Prop := ∀ (σ : L2.St) (H F : Hp) (env : Env) (l : List (D × D)) (env' : Env), Rel K F H ps σ env → f env = some (l, env') →
  ∀ Q : List (V × V) → Hp → Prop, (∀ xs F' H', Rel K F' H' ps σ env' → Fr σ env F H σ env' F' H' → RpA K F' (xs.map (·.1)) (l.map (·.1)) → RpA K F' (xs.map (·.2)) (l.map (·.2)) → Q xs H') → tPairs t σ H Q
theorem SD.nil : SD K ps [] edN := fun σ H F env l env' r e Q q => by
  cases e
  exact q [] F H r Fr.refl .nil .nil
theorem SD.cons {tk tv : TE} {t : List (TE × TE)} {fk fv : EV} {fr : ED} (hk : SV K ps tk fk) (hv : SV K ps tv fv) (hr : SD K ps t fr) : SD K ps ((tk, tv) :: t) (edC fk fv fr) := fun σ H F env l env' r e Q q => by
  obtain ⟨⟨k, e1⟩, h1, e⟩ := Option.bind_eq_some_iff.mp e
  obtain ⟨⟨v, e2⟩, h2, e⟩ := Option.bind_eq_some_iff.mp e
  obtain ⟨⟨l', e3⟩, h3, e⟩ := Option.bind_eq_some_iff.mp e
  cases e
  exact hk σ H F env _ _ r h1 _ fun x F1 H1 r1 f1 p1 => hv σ H1 F1 _ _ _ r1 h2 _ fun y F2 H2 r2 f2 p2 => hr σ H2 F2 _ _ _ r2 h3 _ fun xs F3 H3 r3 f3 a b =>
    q ((x, y) :: xs) F3 H3 r3 ((f1.trans f2).trans f3) (.cons (p1.mono (f2.ff.trans f3.ff)) a) (.cons (p2.mono f3.ff) b)
def mergeD : List (Key × D) → List (D × D) → Option (List (Key × D))
  | acc, [] => some acc
  | acc, (k, v) :: r => (keyOf k).bind fun k' => mergeD (storeK acc k' v) r
def dispE (f : ED) : EX := fun env => (f env).bind fun (l, e) => if l.length ≤ 15 then (mergeD [] l).map fun es => (.cell (.dk es), e) else none
theorem RpK.app {F : Hp} {xs ys : List (Key × V)} {ds es : List (Key × D)} (h : RpK K F xs ds) (g : RpK K F ys es) : RpK K F (xs ++ ys) (ds ++ es) := by
  induction xs generalizing ds with
  | nil => cases h; exact g
  | cons x xs ih => cases h with | cons a b => exact .cons a (ih b)
theorem RpT.app {F : Hp} {xs ys : List (List Key × V)} {ds es : List (List Key × D)} (h : RpT K F xs ds) (g : RpT K F ys es) : RpT K F (xs ++ ys) (ds ++ es) := by
  induction xs generalizing ds with
  | nil => cases h; exact g
  | cons x xs ih => cases h with | cons a b => exact .cons a (ih b)
theorem any_keys {κ α β : Type} {l : List (κ × α)} {m : List (κ × β)} (p : κ → Bool) (h : l.map (·.1) = m.map (·.1)) : (l.any fun kv => p kv.1) = m.any fun kv => p kv.1 := by
  have e1 : (l.any fun kv => p kv.1) = (l.map (·.1)).any p := by simp [List.any_map, Function.comp_def]
  have e2 : (m.any fun kv => p kv.1) = (m.map (·.1)).any p := by simp [List.any_map, Function.comp_def]
  rw [e1, e2, h]
theorem RpK.mapS {F : Hp} {v : V} {d : D} {k : Key} (hv : Rp K F v d) {xs : List (Key × V)} {ds : List (Key × D)} (h : RpK K F xs ds) : RpK K F (xs.map fun kv => if kv.1 = k then (kv.1, v) else kv) (ds.map fun kv => if kv.1 = k then (kv.1, d) else kv) := by
  induction xs generalizing ds with
  | nil => cases h; exact .nil
  | cons x xs ih =>
    cases h with
    | @cons k' v' _ d' ds' a b =>
      simp only [List.map_cons]
      by_cases c : k' = k
      · rw [if_pos c, if_pos c]; exact .cons hv (ih b)
      · rw [if_neg c, if_neg c]; exact .cons a (ih b)
theorem RpT.mapS {F : Hp} {v : V} {d : D} {k : List Key} (hv : Rp K F v d) {xs : List (List Key × V)} {ds : List (List Key × D)} (h : RpT K F xs ds) : RpT K F (xs.map fun kv => if kv.1 = k then (kv.1, v) else kv) (ds.map fun kv => if kv.1 = k then (kv.1, d) else kv) := by
  induction xs generalizing ds with
  | nil => cases h; exact .nil
  | cons x xs ih =>
    cases h with
    | @cons k' v' _ d' ds' a b =>
      simp only [List.map_cons]
      by_cases c : k' = k
      · rw [if_pos c, if_pos c]; exact .cons hv (ih b)
      · rw [if_neg c, if_neg c]; exact .cons a (ih b)
theorem RpK.put {F : Hp} {v : V} {d : D} {k : Key} (hv : Rp K F v d) {xs : List (Key × V)} {ds : List (Key × D)} (h : RpK K F xs ds) : RpK K F (putK xs k v) (storeK ds k d) := by
  unfold putK storeK
  rw [any_keys (fun x => decide (x = k)) h.keys]
  split
  · exact h.mapS hv
  · exact h.app (.cons hv .nil)
theorem RpT.put {F : Hp} {v : V} {d : D} {k : List Key} (hv : Rp K F v d) {xs : List (List Key × V)} {ds : List (List Key × D)} (h : RpT K F xs ds) : RpT K F (putK xs k v) (storeK ds k d) := by
  unfold putK storeK
  rw [any_keys (fun x => decide (x = k)) h.keys]
  split
  · exact h.mapS hv
  · exact h.app (.cons hv .nil)
theorem RpK.drop {F : Hp} {k : Key} {xs : List (Key × V)} {ds : List (Key × D)} (h : RpK K F xs ds) : RpK K F (dropK xs k) (eraK ds k) := by
  unfold dropK eraK
  induction xs generalizing ds with
  | nil => cases h; exact .nil
  | cons x xs ih =>
    cases h with
    | @cons k' v' _ d' ds' a b =>
      simp only [List.filter_cons]
      by_cases c : k' = k
      · simp only [c, ne_eq, not_true_eq_false, decide_false, Bool.false_eq_true, if_false]; exact ih b
      · simp only [ne_eq, c, not_false_eq_true, decide_true, if_true]; exact .cons a (ih b)
theorem merge_rp {F : Hp} : ∀ {l : List (D × D)} {xs : List (V × V)} {acc : List (Key × V)} {accd es : List (Key × D)}, RpA K F (xs.map (·.1)) (l.map (·.1)) → RpA K F (xs.map (·.2)) (l.map (·.2)) → RpK K F acc accd → mergeD accd l = some es →
    ∃ kvs, xs = kvs.map (fun kv => (kV kv.1, kv.2)) ∧ RpK K F (mergeK acc kvs) es ∧ kvs.length = l.length
  | [], xs, acc, accd, es, h1, h2, h3, h4 => by
    cases xs with
    | cons x xs => cases h1
    | nil => cases h4; exact ⟨[], rfl, h3, rfl⟩
  | (k, v) :: l, xs, acc, accd, es, h1, h2, h3, h4 => by
    cases xs with
    | nil => cases h1
    | cons x xs =>
      obtain ⟨x1, x2⟩ := x
      cases h1 with
      | cons a1 b1 =>
        cases h2 with
        | cons a2 b2 =>
          obtain ⟨k', hk, h4⟩ := Option.bind_eq_some_iff.mp h4
          obtain ⟨kvs, e, r, n⟩ := merge_rp (l := l) (xs := xs) (acc := putK acc k' x2) b1 b2 (h3.put a2) h4
          refine ⟨(k', x2) :: kvs, ?_, r, by simp [n]⟩
          have e1 : x1 = kV k' := keyOf_v hk a1
          simp [e, e1]
/-- a new object that nobody else knows stands through a step -/
theorem scratch {F H F1 H1 : Hp} {σ σ1 : L2.St} {env env1 : Env} {p : Addr} {o : HO} (ho : H p = some o) (fo : F p = none) (no : ∀ i, ¬ Owns σ env i p) (f : Fr σ env F H σ1 env1 F1 H1) :
    H1 p = some o ∧ F1 p = none ∧ ∀ i, ¬ Owns σ1 env1 i p := by
  refine ⟨f.kh p o ho no, f.kf p o fo ho no, fun i z => ?_⟩
  rcases f.nw i p z with w | ⟨j, w⟩
  · rw [ho] at w; cases w
  · exact no j w
theorem Rel.scr {F H : Hp} {σ : L2.St} {env : Env} {p : Addr} {o : HO} (r : Rel K F H ps σ env) (fo : F p = none) (no : ∀ i, ¬ Owns σ env i p) : Rel K F (upd H p o) ps σ env := by
  refine ⟨fun a u e => ?_, r.len, fun i s e => ?_, r.dis⟩
  · rw [upd_ne (ne_of_none e fo)]; exact r.sub a u e
  · obtain ⟨x, h1, h2⟩ := r.at_ i s e
    refine ⟨x, h1, ?_⟩
    cases s with
    | un => trivial
    | fro d => exact h2
    | own t d =>
      obtain ⟨q, u, e1, e2, e3, e4, e5⟩ := h2
      refine ⟨q, u, e1, e2, ?_, e4, e5⟩
      rw [upd_ne]
      · exact e3
      · rintro rfl
        exact no i ⟨⟨t, d, e⟩, by rw [h1, e1]⟩
theorem Fr.scr {F H F1 H1 : Hp} {σ σ1 : L2.St} {env env1 : Env} {p : Addr} {o : HO} (f : Fr σ env F H σ1 env1 F1 H1) (hp : H p = none) : Fr σ env F H σ1 env1 F1 (upd H1 p o) :=
  ⟨f.ff, fun a u e n => by rw [upd_ne (ne_of_none e hp)]; exact f.kh a u e n, f.kf, f.nw⟩
theorem SX.disp {t : List (TE × TE)} {f : ED} (h : SD K ps t f) : SX K ps (tDisp t) (dispE f) := fun σ H F env z env' r e Q q => by
  obtain ⟨⟨l, e1⟩, h1, e⟩ := Option.bind_eq_some_iff.mp e
  dsimp only at e
  split at e
  · rename_i hl
    obtain ⟨es, h2, e⟩ := Option.map_eq_some_iff.mp e
    cases e
    intro p hp
    refine h σ _ F env l _ (r.new hp) h1 _ fun xs F1 H1 r1 f1 a b => ?_
    have f0 : Fr σ env F H σ env F (upd H p (.dK [])) := Fr.new r hp
    obtain ⟨hp1, fp1, np1⟩ := scratch upd_same (r.free hp) (not_owns_none r hp) f1
    obtain ⟨kvs, e1, e2, e3⟩ := merge_rp a b RpK.nil h2
    exact ⟨hp1, kvs, e1, by omega, q _ F1 _ (r1.scr fp1 np1) ((f0.trans f1).scr hp) ⟨p, _, rfl, fp1, upd_same, .dK e2, np1, .inl hp⟩⟩
  · cases e

/-! ### slices -/
abbrev EO := Env → Option (Option Int × Env)
def eoN : EO := fun env => some (none, env)
def eoS (f : EV) : EO := fun env => (f env).bind fun (d, e) => match d with
  | .int i => some (some i, e)
  | _ => none
def SO (K : PySem.W.Frag) (ps : List V) (t : TO) (f : EO) : Prop := ∀ (σ : L2.St) (H F : Hp) (env : Env) (o : Option Int) (env' : Env), Rel K F H ps σ env → f env = some (o, env') →
  ∀ Q : Option Int → Hp → Prop, (∀ F' H', Rel K F' H' ps σ env' → Fr σ env F H σ env' F' H' → Q o H') → t σ H Q
theorem SO.n : SO K ps tNoPart eoN := fun σ H F env o env' r e Q q => by cases e; exact q F H r Fr.refl
theorem SO.s {t : TE} {f : EV} (h : SV K ps t f) : SO K ps (tPart t) (eoS f) := fun σ H F env o env' r e Q q => by
  obtain ⟨⟨d, e1⟩, h1, e⟩ := Option.bind_eq_some_iff.mp e
  dsimp only at e
  split at e
  · cases e
    refine h σ H F env _ _ r h1 _ fun v F' H' r' f' p => ?_
    cases p
    exact ⟨_, rfl, q F' H' r' f'⟩
  · cases e
def cutD {α : Type} (xs : List α) (lo hi : Option Int) : List α := (xs.drop (HT.sIx xs.length 0 lo)).take (HT.sIx xs.length xs.length hi - HT.sIx xs.length 0 lo)
def sliceD (a : D) (lo hi : Option Int) : Option RV := match a with
  | .lst ds => some (.cell (.lst (cutD ds lo hi)))
  | .tup ds => if HT.sIx ds.length 0 lo = 0 ∧ HT.sIx ds.length ds.length hi = ds.length then some (.val (.tup ds)) else some (.cell (.tup (cutD ds lo hi)))
  | .str z => if z.length ≤ lim then some (.val (.str (cutS z lo hi))) else none
  | _ => none
theorem cut_rp {F : Hp} {xs : List V} {ds : List D} (h : RpA K F xs ds) (lo hi : Option Int) : RpA K F (cutV xs lo hi) (cutD ds lo hi) := by
  unfold cutV cutD
  rw [h.length]
  exact (h.drop _).take _
/-- of a value | of a slot that is looked at -/
def slV (f : EV) (lo hi : EO) : EX := fun env => (f env).bind fun (a, e1) => (lo e1).bind fun (l, e2) => (hi e2).bind fun (h, e3) => (sliceD a l h).map fun z => (z, e3)
def slP (i : Nat) (lo hi : EO) : EX := fun env => (peek env i).bind fun _ => (lo env).bind fun (l, e2) => (hi e2).bind fun (h, e3) => (peek e3 i).bind fun a => (sliceD a l h).map fun z => (z, e3)
abbrev rSl3 (K : PySem.W.Frag) : V → Option Int → Option Int → Hp → VK → Prop := fun x lo hi H Q => rSlL K x lo hi H Q ∨ (rSlA K x lo hi H Q ∨ rSlS x lo hi H Q)
theorem slice_at {F H : Hp} {x : V} {a : D} {l h : Option Int} {z : RV} {Q : VK} (e : Ex F H) (s : Sh K F H x a) (hz : sliceD a l h = some z) (q : Got K F H Q z) : rSl3 K x l h H Q := by
  unfold sliceD at hz
  split at hz
  · cases hz
    obtain ⟨p, xs, rfl, h1, h2⟩ := s
    exact .inl ⟨p, xs, rfl, .inl h1, fun w hp => q w _ hp (.lst (cut_rp h2 l h))⟩
  · rename_i ds
    cases s with
    | tup h1 h2 =>
      refine .inr (.inl ⟨_, _, rfl, SqT.of (e _ _ h1), fun hw => ?_, fun hw w hp => ?_⟩)
      · rw [h2.length] at hw
        rw [if_pos hw] at hz
        cases hz
        exact q _ (.tup h1 h2)
      · rw [h2.length] at hw
        rw [if_neg hw] at hz
        cases hz
        exact q w _ hp (.tup (cut_rp h2 l h))
  · split at hz
    · rename_i hl
      cases hz
      cases s
      exact .inr (.inr ⟨_, rfl, lim_le hl, q _ (.str _)⟩)
    · cases hz
  · cases hz
theorem SX.slV {t : TE} {tl th : TO} {f : EV} {lo hi : EO} (h : SV K ps t f) (hl : SO K ps tl lo) (hh : SO K ps th hi) : SX K ps (tSl (rSl3 K) t tl th) (slV f lo hi) := fun σ H F env z env' r e Q q => by
  obtain ⟨⟨a, e1⟩, h1, e⟩ := Option.bind_eq_some_iff.mp e
  obtain ⟨⟨l, e2⟩, h2, e⟩ := Option.bind_eq_some_iff.mp e
  obtain ⟨⟨u, e3⟩, h3, e⟩ := Option.bind_eq_some_iff.mp e
  obtain ⟨z', h4, e⟩ := Option.map_eq_some_iff.mp e
  cases e
  exact h σ H F env _ _ r h1 _ fun x F1 H1 r1 f1 p1 => hl σ H1 F1 _ _ _ r1 h2 _ fun F2 H2 r2 f2 => hh σ H2 F2 _ _ _ r2 h3 _ fun F3 H3 r3 f3 =>
    slice_at r3.sub ((p1.mono (f2.ff.trans f3.ff)).sh r3.sub) h4 (fin_rv r3 ((f1.trans f2).trans f3) q)
theorem SX.slP {tl th : TO} {i : Nat} {lo hi : EO} (hl : SO K ps tl lo) (hh : SO K ps th hi) : SX K ps (tSl (rSl3 K) (tVar i) tl th) (slP i lo hi) := fun σ H F env z env' r e Q q => by
  obtain ⟨a0, h0, e⟩ := Option.bind_eq_some_iff.mp e
  obtain ⟨⟨l, e2⟩, h2, e⟩ := Option.bind_eq_some_iff.mp e
  obtain ⟨⟨u, e3⟩, h3, e⟩ := Option.bind_eq_some_iff.mp e
  obtain ⟨a, h1, e⟩ := Option.bind_eq_some_iff.mp e
  obtain ⟨z', h4, e⟩ := Option.map_eq_some_iff.mp e
  cases e
  obtain ⟨x, hx, _⟩ := r.peek h0
  refine ⟨x, hx, hl σ H F _ _ _ r h2 _ fun F2 H2 r2 f2 => hh σ H2 F2 _ _ _ r2 h3 _ fun F3 H3 r3 f3 => ?_⟩
  obtain ⟨x', hx', s⟩ := r3.peek h1
  rw [hx] at hx'
  cases hx'
  exact slice_at r3.sub s h4 (fin_rv r3 (f2.trans f3) q)
end
section
variable {X : Cx} {ps : List V} {a b c e : Expr} {pos p2 : Pos}
theorem e_tup {es : List Expr} {k : Nat} {f : EA} (h : PAs X ps es f) : PX X ps (.Tuple es k pos) (tupE f) := (SX.tup SA.c).px (pe_tup h)
theorem e_lst {es : List Expr} {f : EA} (h : PAs X ps es f) : PX X ps (.List es pos) (lstE f) := (SX.lst SA.c).px (pe_lst h)
theorem e_dk0 : PX X ps (.Dict [] [] pos) dk0 := SX.dk0.px pe_dnewK
theorem e_dt0 : PX X ps (.Dict [] [] pos) dt0 := SX.dt0.px pe_dnewT
def PDs (X : Cx) (ps : List V) (pos : Pos) (ks : List (Option Expr)) (vs : List Expr) (f : ED) : Prop := ∃ t, PPs X pos ks vs t ∧ SD X.K ps t f
theorem d_nil : PDs X ps pos [] [] edN := ⟨_, pps_nil, SD.nil⟩
theorem d_cons {k v : Expr} {ks : List (Option Expr)} {vs : List Expr} {fk fv : EV} {fr : ED} (hk : PV X ps k fk) (hv : PV X ps v fv) (h : PDs X ps pos ks vs fr) : PDs X ps pos (some k :: ks) (v :: vs) (edC fk fv fr) := by
  obtain ⟨t, h1, h2⟩ := h
  exact ⟨_, pps_cons hk hv h1, SD.cons SV.c SV.c h2⟩
theorem e_disp {ks : List (Option Expr)} {vs : List Expr} {f : ED} (h : PDs X ps pos ks vs f) (hall : ks.all (·.isSome) = true) (hl : ks.length = vs.length) (h0 : ks ≠ []) (h15 : ks.length ≤ 15) : PX X ps (.Dict ks vs pos) (dispE f) := by
  obtain ⟨t, h1, h2⟩ := h
  exact (SX.disp h2).px (pe_disp h1 hall hl h0 h15)
def POd (X : Cx) (ps : List V) (e : Option Expr) (f : EO) : Prop := ∃ t, PO X e t ∧ SO X.K ps t f
theorem so_n : POd X ps none eoN := ⟨_, po_none, SO.n⟩
theorem so_s {f : EV} (h : PV X ps e f) : POd X ps (some e) (eoS f) := ⟨_, po_some h, SO.s SV.c⟩
theorem e_slV {lo hi : Option Expr} {f : EV} {fl fh : EO} (h : PV X ps e f) (hl : POd X ps lo fl) (hh : POd X ps hi fh) : PX X ps (.Subscript e (.Slice lo hi none p2) pos) (slV f fl fh) := by
  obtain ⟨tl, hl, sl⟩ := hl
  obtain ⟨th, hh, sh⟩ := hh
  exact (SX.slV SV.c sl sh).px (pe_slice (SlR.or sl_list (SlR.or sl_tupA sl_str)) h hl hh)
theorem e_slP (i : Nat) {lo hi : Option Expr} {fl fh : EO} (h : PE X e (tVar i)) (hl : POd X ps lo fl) (hh : POd X ps hi fh) : PX X ps (.Subscript e (.Slice lo hi none p2) pos) (slP i fl fh) := by
  obtain ⟨tl, hl, sl⟩ := hl
  obtain ⟨th, hh, sh⟩ := hh
  exact (SX.slP sl sh).px (pe_slice (SlR.or sl_list (SlR.or sl_tupA sl_str)) h hl hh)
end
end Oc
end

section
set_option Elab.async false
set_option linter.all false
set_option maxRecDepth 100000
set_option maxHeartbeats 1000000
/-! Oc7: statements by data. -/
namespace Oc
open PySem L2 PyProof.Rows

inductive Fl where
  | nx | bk | ct | rt (r : RV)
abbrev ES := Env → Option (Env × Fl)
def ResS (K : PySem.W.Frag) (σ : L2.St) (env : Env) (H : Hp) (σ' : L2.St) (env' : Env) (F' H' : Hp) (v : V) : RV → Prop
  | .val d => Rp K F' v d
  | .cell d => ∃ p o, v = .ref p ∧ F' p = none ∧ H' p = some o ∧ CellO K F' o d ∧ (∀ i, ¬ Owns σ' env' i p) ∧ (H p = none ∨ ∃ j, Owns σ env j p)
def Out (K : PySem.W.Frag) (D : Ends) (σ : L2.St) (env : Env) (H : Hp) (σ' : L2.St) (env' : Env) (F' H' : Hp) : Fl → Prop
  | .nx => D.nx σ' H'
  | .bk => D.bk σ' H'
  | .ct => D.ct σ' H'
  | .rt r => ∀ v, ResS K σ env H σ' env' F' H' v r → D.rt v H'
def Post (K : PySem.W.Frag) (ps : List V) (D : Ends) (σ : L2.St) (env : Env) (F H : Hp) (env' : Env) (fl : Fl) : Prop :=
  ∀ σ' F' H', Rel K F' H' ps σ' env' → Fr σ env F H σ' env' F' H' → Out K D σ env H σ' env' F' H' fl
def SS (K : PySem.W.Frag) (ps : List V) (t : TS) (f : ES) : Prop := ∀ (σ : L2.St) (H F : Hp) (env env' : Env) (fl : Fl), Rel K F H ps σ env → f env = some (env', fl) → ∀ D : Ends, Post K ps D σ env F H env' fl → t D σ H
def cS (K : PySem.W.Frag) (ps : List V) (f : ES) : TS := fun D σ H => ∃ F env env' fl, Rel K F H ps σ env ∧ f env = some (env', fl) ∧ Post K ps D σ env F H env' fl
abbrev QS (X : Cx) (ps : List V) (st : Stmt) (f : ES) : Prop := PS X st (cS X.K ps f)
abbrev QSs (X : Cx) (ps : List V) (st : List Stmt) (f : ES) : Prop := PSs X st (cS X.K ps f)
theorem PS_imp {X : Cx} {st : Stmt} {t t' : TS} (h : PS X st t) (k : ∀ D σ H, t' D σ H → t D σ H) : PS X st t' := ⟨fun pins s σ H D I q => h.run pins s σ H D I (k D σ H q)⟩
theorem PSs_imp {X : Cx} {st : List Stmt} {t t' : TS} (h : PSs X st t) (k : ∀ D σ H, t' D σ H → t D σ H) : PSs X st t' := ⟨fun pins s σ H D I q => h.run pins s σ H D I (k D σ H q)⟩
theorem PS_or {X : Cx} {st : Stmt} {t t' : TS} (h : PS X st t) (h' : PS X st t') : PS X st (fun D σ H => t D σ H ∨ t' D σ H) := ⟨fun pins s σ H D I q => q.elim (h.run pins s σ H D I) (h'.run pins s σ H D I)⟩
section
variable {K : PySem.W.Frag} {ps : List V} {t u : TS} {f g : ES}
theorem SS.c : SS K ps (cS K ps f) f := fun σ H F env env' fl r e D q => ⟨F, env, env', fl, r, e, q⟩
theorem SS.qs {X : Cx} {st : Stmt} (h : SS X.K ps t f) (p : PS X st t) : QS X ps st f := PS_imp p fun D σ H ⟨F, env, env', fl, r, e, q⟩ => h σ H F env env' fl r e D q
theorem SS.qss {X : Cx} {st : List Stmt} (h : SS X.K ps t f) (p : PSs X st t) : QSs X ps st f := PSs_imp p fun D σ H ⟨F, env, env', fl, r, e, q⟩ => h σ H F env env' fl r e D q
/-- behind a first step -/
theorem Out.trans {D : Ends} {σ σ1 σ' : L2.St} {env e1 env' : Env} {F F1 F' H H1 H' : Hp} {fl : Fl} (f1 : Fr σ env F H σ1 e1 F1 H1) (h : Out K D σ env H σ' env' F' H' fl) : Out K D σ1 e1 H1 σ' env' F' H' fl := by
  cases fl with
  | rt r =>
    intro v rs
    refine h v ?_
    cases r with
    | val d => exact rs
    | cell d =>
      obtain ⟨p, o, e, h1, h2, h3, h4, h5⟩ := rs
      refine ⟨p, o, e, h1, h2, h3, h4, ?_⟩
      rcases h5 with z | ⟨j, z⟩
      · cases e : H p with
        | none => exact .inl rfl
        | some u =>
          refine .inr (Classical.byContradiction fun c => ?_)
          have := f1.kh p u e fun j hj => c ⟨j, hj⟩
          rw [z] at this; cases this
      · exact f1.nw j p z
  | nx => exact h
  | bk => exact h
  | ct => exact h
theorem Post.step {D : Ends} {σ σ1 : L2.St} {env e1 env' : Env} {F F1 H H1 : Hp} {fl : Fl} (q : Post K ps D σ env F H env' fl) (f1 : Fr σ env F H σ1 e1 F1 H1) : Post K ps D σ1 e1 F1 H1 env' fl :=
  fun σ' F' H' r f => (q σ' F' H' r (f1.trans f)).trans f1
def nilS : ES := fun env => some (env, .nx)
def seqS (f g : ES) : ES := fun env => (f env).bind fun (e, fl) => match fl with
  | .nx => g e
  | fl => some (e, fl)
theorem SS.nil : SS K ps tNext nilS := fun σ H F env env' fl r e D q => by
  cases e
  exact q σ F H r Fr.refl
theorem SS.seq (h : SS K ps t f) (k : SS K ps u g) : SS K ps (tSeq t u) (seqS f g) := fun σ H F env env' fl r e D q => by
  obtain ⟨⟨e1, fl1⟩, h1, e⟩ := Option.bind_eq_some_iff.mp e
  refine h σ H F env e1 fl1 r h1 _ fun σ' F' H' r' f' => ?_
  cases fl1 with
  | nx => exact k σ' H' F' e1 env' fl r' e D (q.step f')
  | bk => cases e; exact q σ' F' H' r' f'
  | ct => cases e; exact q σ' F' H' r' f'
  | rt x => cases e; exact q σ' F' H' r' f'
/-! ### name = e -/
def put (env : Env) (i : Nat) : RV → Env
  | .val d => env.set i (.fro d)
  | .cell d => match d with
    | .tup l => env.set i (.fro (.tup l))
    | d => env.set i (.own 0 d)
def asgS (i : Nat) (f : EX) : ES := fun env => (f env).map fun (r, e) => (put e i r, .nx)
section
variable {F H : Hp} {σ : L2.St} {env : Env} {v : V} {d : D} {i : Nat} {p : Addr} {o : HO}
theorem owns_set {x : V} {s : Slot} {j : Nat} {q : Addr} (h : Owns (σ.set i (some x)) (env.set i s) j q) : (j ≠ i ∧ Owns σ env j q) ∨ (j = i ∧ x = .ref q ∧ ∃ t d, s = .own t d) := by
  obtain ⟨⟨t, d, e⟩, e2⟩ := h
  by_cases c : i = j
  · subst c
    refine .inr ⟨rfl, ?_⟩
    rw [List.getElem?_set, if_pos rfl] at e e2
    split at e
    · split at e2
      · cases e; cases e2; exact ⟨rfl, t, d, rfl⟩
      · cases e2
    · cases e
  · rw [List.getElem?_set_ne c] at e e2
    exact .inl ⟨fun z => c z.symm, ⟨t, d, e⟩, e2⟩
theorem Rel.setFro (r : Rel K F H ps σ env) (h : Rp K F v d) (i : Nat) : Rel K F H ps (σ.set i (some v)) (env.set i (.fro d)) ∧ Fr σ env F H (σ.set i (some v)) (env.set i (.fro d)) F H := by
  have ow : ∀ j q, Owns (σ.set i (some v)) (env.set i (.fro d)) j q → Owns σ env j q := fun j q z => by
    rcases owns_set z with ⟨_, z⟩ | ⟨_, _, _, _, z⟩
    · exact z
    · cases z
  refine ⟨⟨r.sub, by rw [List.length_set, List.length_set]; exact r.len, fun j s e => ?_, fun j k q a b => r.dis j k q (ow _ _ a) (ow _ _ b)⟩, ⟨Same.refl _, fun _ _ h _ => h, fun _ _ h _ _ => h, fun j a z => .inr ⟨j, ow j a z⟩⟩⟩
  by_cases c : i = j
  · subst c
    rw [List.getElem?_set, if_pos rfl] at e
    split at e
    · rename_i hi
      cases e
      refine ⟨some v, ?_, v, rfl, h⟩
      rw [List.getElem?_set, if_pos rfl, if_pos (by rw [r.len]; exact hi)]
    · cases e
  · rw [List.getElem?_set_ne c] at e ⊢
    exact r.at_ j s e
theorem Rel.setOwn (r : Rel K F H ps σ env) (hF : F p = none) (hH : H p = some o) (hc : CellO K F o d) (no : ∀ i, ¬ Owns σ env i p) (i : Nat) : Rel K F H ps (σ.set i (some (.ref p))) (env.set i (.own 0 d)) := by
  refine ⟨r.sub, by rw [List.length_set, List.length_set]; exact r.len, fun j s e => ?_, fun j k q a b => ?_⟩
  · by_cases c : i = j
    · subst c
      rw [List.getElem?_set, if_pos rfl] at e
      split at e
      · rename_i hi
        cases e
        refine ⟨some (.ref p), ?_, p, o, rfl, hF, hH, .inl ⟨by omega, hc⟩, fun j z => by omega⟩
        rw [List.getElem?_set, if_pos rfl, if_pos (by rw [r.len]; exact hi)]
      · cases e
    · rw [List.getElem?_set_ne c] at e ⊢
      exact r.at_ j s e
  · rcases owns_set a with ⟨a1, a⟩ | ⟨a1, a2, _⟩
    · rcases owns_set b with ⟨b1, b⟩ | ⟨b1, b2, _⟩
      · exact r.dis j k q a b
      · cases b2; exact absurd a (no j)
    · rcases owns_set b with ⟨b1, b⟩ | ⟨b1, b2, _⟩
      · cases a2; exact absurd b (no k)
      · exact a1.trans b1.symm
end
theorem SS.asg {te : TE} {x : EX} (i : Nat) (h : SX K ps te x) : SS K ps (tAsg te (gName i)) (asgS i x) := fun σ H F env env' fl r e D q => by
  obtain ⟨⟨z, e1⟩, h1, e⟩ := Option.map_eq_some_iff.mp e
  cases e
  refine h σ H F env z e1 r h1 _ fun v F1 H1 r1 f1 rs => ?_
  have fr : ∀ d, Rp K F1 v d → (put e1 i z = e1.set i (.fro d)) → D.nx (σ.set i (some v)) H1 := fun d hd hp => by
    obtain ⟨r2, f2⟩ := r1.setFro hd i
    rw [hp] at q
    exact q _ F1 H1 r2 (f1.trans f2)
  have ow : ∀ d p o, v = .ref p → F1 p = none → H1 p = some o → CellO K F1 o d → (∀ i, ¬ Owns σ e1 i p) → (H p = none ∨ ∃ j, Owns σ env j p) → (put e1 i z = e1.set i (.own 0 d)) → D.nx (σ.set i (some v)) H1 := fun d p o ev hF hH hc no hn hp => by
    subst ev
    have r2 := r1.setOwn hF hH hc no i
    rw [hp] at q
    refine q _ F1 H1 r2 ⟨f1.ff, f1.kh, f1.kf, fun j a w => ?_⟩
    rcases owns_set w with ⟨_, w⟩ | ⟨_, w, _⟩
    · exact f1.nw j a w
    · cases w; exact hn
  cases z with
  | val d => exact fr d rs rfl
  | cell d =>
    obtain ⟨p, o, ev, hF, hH, hc, no, hn⟩ := rs
    cases d with
    | tup l =>
      obtain ⟨r2, ex⟩ := r1.lay hF hH no
      have hr : Rp K (upd F1 p o) v (.tup l) := by rw [ev]; exact hc.rp' upd_same ex
      obtain ⟨r3, f3⟩ := r2.setFro hr i
      refine q _ _ H1 r3 (Fr.trans ⟨f1.ff.trans ex, f1.kh, fun a u e1 e2 e3 => ?_, f1.nw⟩ f3)
      rw [upd_ne]
      · exact f1.kf a u e1 e2 e3
      · rintro rfl
        rcases hn with w | ⟨j, w⟩
        · rw [w] at e2; cases e2
        · exact e3 j w
    | _ => exact ow _ p o ev hF hH hc no hn rfl
/-! ### a, b = e -/
def setAll (env : Env) : List Nat → List D → Option Env
  | [], [] => some env
  | i :: is, d :: ds => setAll (env.set i (.fro d)) is ds
  | _, _ => none
def gNs : List Nat → TGs
  | [] => gNil
  | i :: is => gCons (gName i) (gNs is)
theorem gNs_ok {F H : Hp} : ∀ {is : List Nat} {ds : List D} {xs : List V} {σ : L2.St} {env env' : Env}, Rel K F H ps σ env → RpA K F xs ds → setAll env is ds = some env' → ∀ Q : L2.St → Hp → Prop,
    (∀ σ', Rel K F H ps σ' env' → Fr σ env F H σ' env' F H → Q σ' H) → gNs is xs σ H Q
  | [], [], xs, σ, env, env', r, h, e, Q, q => by
    cases h; cases e
    exact ⟨rfl, q σ r Fr.refl⟩
  | i :: is, d :: ds, xs, σ, env, env', r, h, e, Q, q => by
    cases h with
    | cons a b =>
      obtain ⟨r1, f1⟩ := r.setFro a i
      exact ⟨_, _, rfl, gNs_ok r1 b e Q fun σ' r' f' => q σ' r' (f1.trans f')⟩
  | [], _ :: _, _, _, _, _, _, _, e, _, _ => by cases e
  | _ :: _, [], _, _, _, _, _, _, e, _, _ => by cases e
def unS (is : List Nat) (f : EV) : ES := fun env => (f env).bind fun (d, e) => match d with
  | .tup ds => if ds.length = is.length then (setAll e is ds).map fun e' => (e', .nx) else none
  | _ => none
theorem SS.un {te : TE} {x : EV} (is : List Nat) (h : SV K ps te x) : SS K ps (tAsg te (gTup K is.length (gNs is))) (unS is x) := fun σ H F env env' fl r e D q => by
  obtain ⟨⟨d, e1⟩, h1, e⟩ := Option.bind_eq_some_iff.mp e
  dsimp only at e
  split at e
  · split at e
    · rename_i hl
      obtain ⟨e2, h2, e⟩ := Option.map_eq_some_iff.mp e
      cases e
      refine h σ H F env _ e1 r h1 _ fun v F1 H1 r1 f1 p1 => ?_
      cases p1 with
      | tup a b => exact ⟨_, _, rfl, SqT.of (r1.sub _ _ a), by rw [b.length]; exact hl, gNs_ok r1 b h2 _ fun σ' r' f' => q σ' F1 H1 r' (f1.trans f')⟩
    · cases e
  · cases e
/-! ### e; return e; if -/
def dropS (f : EX) : ES := fun env => (f env).map fun (_, e) => (e, .nx)
def retS (f : EX) : ES := fun env => (f env).map fun (r, e) => (e, .rt r)
def retN : ES := fun env => some (env, .rt (.val .non))
def ifS (c : EB) (f g : ES) : ES := fun env => (c env).bind fun (b, e) => if b = true then f e else g e
theorem SS.drop {te : TE} {x : EX} (h : SX K ps te x) : SS K ps (tDrop te) (dropS x) := fun σ H F env env' fl r e D q => by
  obtain ⟨⟨z, e1⟩, h1, e⟩ := Option.map_eq_some_iff.mp e
  cases e
  exact h σ H F env z _ r h1 _ fun v F1 H1 r1 f1 rs => q σ F1 H1 r1 f1
theorem SS.ret {te : TE} {x : EX} (h : SX K ps te x) : SS K ps (tRet te) (retS x) := fun σ H F env env' fl r e D q => by
  obtain ⟨⟨z, e1⟩, h1, e⟩ := Option.map_eq_some_iff.mp e
  cases e
  refine h σ H F env z _ r h1 _ fun v F1 H1 r1 f1 rs => q σ F1 H1 r1 f1 v ?_
  cases z with
  | val d => exact rs
  | cell d => exact rs
theorem SS.retN : SS K ps tRetN retN := fun σ H F env env' fl r e D q => by
  cases e
  exact q σ F H r Fr.refl _ Rp.non
theorem SS.ite {c : TT} {b : EB} (hc : SB K ps c b) (h : SS K ps t f) (k : SS K ps u g) : SS K ps (tIfS c t u) (ifS b f g) := fun σ H F env env' fl r e D q => by
  obtain ⟨⟨z, e1⟩, h1, e⟩ := Option.bind_eq_some_iff.mp e
  refine hc σ H F env z e1 r h1 _ fun F1 H1 r1 f1 => ?_
  cases z with
  | true => exact h σ H1 F1 e1 env' fl r1 e D (q.step f1)
  | false => exact k σ H1 F1 e1 env' fl r1 e D (q.step f1)
theorem SS.brk : SS K ps tBreak (fun env => some (env, .bk)) := fun σ H F env env' fl r e D q => by cases e; exact q σ F H r Fr.refl
theorem SS.cnt : SS K ps tCont (fun env => some (env, .ct)) := fun σ H F env env' fl r e D q => by cases e; exact q σ F H r Fr.refl
end
section
variable {X : Cx} {ps : List V} {st : Stmt} {rest : List Stmt} {f g : ES} {e : Expr} {pos pos' : Pos}
theorem q_nil : QSs X ps [] nilS := SS.nil.qss pss_nil
theorem q_cons (h : QS X ps st f) (k : QSs X ps rest g) : QSs X ps (st :: rest) (seqS f g) := (SS.seq SS.c SS.c).qss (pss_cons h k)
theorem q_one (h : QS X ps st f) : QSs X ps [st] f := pss_one h
theorem q_set (i : Nat) {x : Str} {v : EX} (hN : X.N.Nodup) (hi : X.N[i]? = some x) (hx : Loc X.env.scope x) (he : PX X ps e v) (hs : swapsWith e (some (.Name x pos')) pos.line X.env = pure false := by rfl)
    (hf : X.fn x = true ∨ X.env.scope.names.lookup x = some .local := by first | exact .inl rfl | exact .inr rfl | assumption) : QS X ps (.Assign [.Name x pos'] e pos) (asgS i v) := (SS.asg i SX.c).qs (ps_set hN hi hx he hs hf)
theorem q_un (is : List Nat) {tg : Expr} {v : EV} (he : PV X ps e v) (hg : PG X tg (gTup X.K is.length (gNs is))) (hs : swapsWithSole [tg] e pos.line X.env = pure false := by rfl) (hw : swappedStores [tg] e X.env = pure none := by rfl)
    (h1 : (assignEach [tg] X.env).map (·.2) = [assign tg X.env] := by rfl) : QS X ps (.Assign [tg] e pos) (unS is v) := (SS.un is SV.c).qs (ps_asg he hg hs hw h1)
theorem q_expr {v : EX} (he : PX X ps e v) (hs : swapsWith e none pos.line X.env = pure false := by rfl) : QS X ps (.Expr e pos) (dropS v) := (SS.drop SX.c).qs (ps_expr he hs)
theorem q_ret {v : EX} (he : PX X ps e v) : QS X ps (.Return (some e) pos) (retS v) := (SS.ret SX.c).qs (ps_ret he)
theorem q_retN : QS X ps (.Return none pos) retN := SS.retN.qs ps_retN
theorem q_if {c : Expr} {a b : List Stmt} {v : EB} (hc : PB X ps c v) (ha : QSs X ps a f) (hb : QSs X ps b g) : QS X ps (.If c a b pos) (ifS v f g) := (SS.ite SB.c SS.c SS.c).qs (ps_if hc ha hb)
theorem q_brk : QS X ps (.Break pos) (fun env => some (env, .bk)) := SS.brk.qs ps_break
theorem q_cnt : QS X ps (.Continue pos) (fun env => some (env, .ct)) := SS.cnt.qs ps_continue
/-- a statement that is never come to -/
def never : ES := fun _ => none
theorem q_never : QS X ps st never := ⟨fun _ _ _ _ _ _ ⟨_, _, _, _, _, e, _⟩ => by cases e⟩
end
end Oc
end

section
set_option Elab.async false
set_option linter.all false
set_option maxRecDepth 100000
set_option maxHeartbeats 1000000
/-! Oc8: loops by data. -/
namespace Oc
open PySem L2 PyProof.Rows

/-! ### targets -/
mutual
inductive Pat where
  | nm (i : Nat)
  | tp (l : Pats)
inductive Pats where
  | nil
  | cons (p : Pat) (l : Pats)
end
def Pats.len : Pats → Nat
  | .nil => 0
  | .cons _ l => l.len + 1
mutual
def gP (K : PySem.W.Frag) : Pat → TG
  | .nm i => gName i
  | .tp l => gTup K l.len (gPs K l)
def gPs (K : PySem.W.Frag) : Pats → TGs
  | .nil => gNil
  | .cons p l => gCons (gP K p) (gPs K l)
end
mutual
def bindP : Pat → D → Env → Option Env
  | .nm i, d, e => some (e.set i (.fro d))
  | .tp l, .tup ds, e => bindPs l ds e
  | .tp _, _, _ => none
def bindPs : Pats → List D → Env → Option Env
  | .nil, [], e => some e
  | .cons p l, d :: ds, e => (bindP p d e).bind fun e1 => bindPs l ds e1
  | _, _, _ => none
end
section
variable {K : PySem.W.Frag} {ps : List V} {F H : Hp}
theorem bindPs_len : ∀ {l : Pats} {ds : List D} {e e' : Env}, bindPs l ds e = some e' → ds.length = l.len
  | .nil, [], _, _, _ => rfl
  | .cons p l, d :: ds, e, e', h => by
    rw [bindPs] at h
    obtain ⟨e1, _, h⟩ := Option.bind_eq_some_iff.mp h
    simp [Pats.len, bindPs_len h]
  | .nil, _ :: _, _, _, h => by rw [bindPs] at h; cases h; all_goals simp
  | .cons _ _, [], _, _, h => by rw [bindPs] at h; cases h; all_goals simp
mutual
theorem gP_ok : ∀ (p : Pat) (d : D) (v : V) (σ : L2.St) (env env' : Env), Rel K F H ps σ env → Rp K F v d → bindP p d env = some env' → ∀ Q : L2.St → Hp → Prop,
    (∀ σ', Rel K F H ps σ' env' → Fr σ env F H σ' env' F H → Q σ' H) → gP K p v σ H Q
  | .nm i, d, v, σ, env, env', r, h, e, Q, q => by
    rw [bindP] at e
    cases e
    obtain ⟨r1, f1⟩ := r.setFro h i
    exact q _ r1 f1
  | .tp l, d, v, σ, env, env', r, h, e, Q, q => by
    cases d with
    | tup ds =>
      rw [bindP] at e
      cases h with
      | tup a b => exact ⟨_, _, rfl, SqT.of (r.sub _ _ a), by rw [b.length, bindPs_len e], gPs_ok l ds _ σ env env' r b e Q q⟩
    | _ => simp [bindP] at e
theorem gPs_ok : ∀ (l : Pats) (ds : List D) (xs : List V) (σ : L2.St) (env env' : Env), Rel K F H ps σ env → RpA K F xs ds → bindPs l ds env = some env' → ∀ Q : L2.St → Hp → Prop,
    (∀ σ', Rel K F H ps σ' env' → Fr σ env F H σ' env' F H → Q σ' H) → gPs K l xs σ H Q
  | .nil, ds, xs, σ, env, env', r, h, e, Q, q => by
    cases ds with
    | nil =>
      rw [bindPs] at e
      cases e
      cases h
      exact ⟨rfl, q σ r Fr.refl⟩
    | cons d ds => simp [bindPs] at e
  | .cons p l, ds, xs, σ, env, env', r, h, e, Q, q => by
    cases ds with
    | nil => simp [bindPs] at e
    | cons d ds =>
      rw [bindPs] at e
      obtain ⟨e1, h1, e⟩ := Option.bind_eq_some_iff.mp e
      cases h with
      | cons a b => exact ⟨_, _, rfl, gP_ok p d _ σ env e1 r a h1 _ fun σ1 r1 f1 => gPs_ok l ds _ σ1 e1 env' r1 b e Q fun σ2 r2 f2 => q σ2 r2 (f1.trans f2)⟩
end
end

/-! ### what a loop walks -/
def New (K : PySem.W.Frag) (F H : Hp) (x : V) (H1 : Hp) (d : D) : Prop :=
  (H1 = H ∧ Rp K F x d) ∨ ∃ T xs es, x = .ref T ∧ H T = none ∧ H1 = upd H T (.tup xs) ∧ d = .tup es ∧ RpA K F xs es
def Goes (K : PySem.W.Frag) (F : Hp) (G : Hp → Prop) (J : It) (items : List D) : Prop :=
  ∃ Y, Walk J items.length (fun H => Ex F H ∧ G H) Y ∧ ∀ i H x H1, i < items.length → Ex F H → Y i H x H1 → ∃ d, items[i]? = some d ∧ New K F H x H1 d
def SI (K : PySem.W.Frag) (ps : List V) (w : TI) (f : EA) : Prop := ∀ (σ : L2.St) (H F : Hp) (env : Env) (ds : List D) (env' : Env), Rel K F H ps σ env → f env = some (ds, env') →
  ∀ R : It → Hp → Prop, (∀ J F' H', Rel K F' H' ps σ env' → Fr σ env F H σ env' F' H' → Goes K F' (fun _ => True) J ds → R J H') → w σ H R
def PIs (X : Cx) (ps : List V) (tg e : Expr) (f : EA) : Prop := ∃ w, PI X tg e w ∧ SI X.K ps w f
section
variable {K : PySem.W.Frag} {ps : List V} {F H H1 F1 : Hp} {σ : L2.St} {env : Env} {x : V} {d : D}
/-- an item, its tuple laid -/
theorem New.lay (r : Rel K F1 H ps σ env) (e : Ex F F1) (h : New K F H x H1 d) : ∃ F2, Rel K F2 H1 ps σ env ∧ Fr σ env F1 H σ env F2 H1 ∧ Rp K F2 x d := by
  rcases h with ⟨rfl, h⟩ | ⟨T, xs, es, rfl, hT, rfl, rfl, h⟩
  · exact ⟨F1, r, Fr.refl, h.mono e⟩
  · have r1 := r.new (o := .tup xs) hT
    have fr := Fr.new (o := .tup xs) r hT
    obtain ⟨r2, ex⟩ := r1.lay (r.free hT) upd_same (not_owns_none r hT)
    refine ⟨_, r2, ⟨ex, fr.kh, fun a u e1 e2 e3 => ?_, fr.nw⟩, .tup upd_same ((h.mono e).mono ex)⟩
    rw [upd_ne]
    · exact e1
    · rintro rfl
      rw [hT] at e2; cases e2
def forL (p : Pat) (body : ES) : List D → ES
  | [], e => some (e, .nx)
  | d :: ds, e => (bindP p d e).bind fun e1 => (body e1).bind fun (e2, fl) => match fl with
    | .nx => forL p body ds e2
    | .ct => forL p body ds e2
    | .bk => some (e2, .nx)
    | .rt r => some (e2, .rt r)
def forS (it : EA) (p : Pat) (body : ES) : ES := fun env => (it env).bind fun (ds, e) => forL p body ds e
theorem SS.for {w : TI} {it : EA} {p : Pat} {tb : TS} {body : ES} (hi : SI K ps w it) (hb : SS K ps tb body) : SS K ps (tFor w (gP K p) tb) (forS it p body) := fun σ H F env env' fl r e D q => by
  obtain ⟨⟨ds, e0⟩, h0, e⟩ := Option.bind_eq_some_iff.mp e
  refine hi σ H F env ds e0 r h0 _ fun J F1 H1 r1 f1 ⟨Y, wk, item⟩ => ?_
  refine for_it wk (fun i σ' H' => ∃ F' e', Rel K F' H' ps σ' e' ∧ Fr σ e0 F1 H1 σ' e' F' H' ∧ forL p body (ds.drop i) e' = some (env', fl)) ⟨F1, e0, r1, Fr.refl, e⟩
    (fun i σ' H' _ ⟨F', e', r', f', _⟩ => ⟨f'.ff.trans r'.sub, trivial⟩) ?_ ?_
  · rintro i x σ' H' H2 hi ⟨F', e', r', f', g⟩ y
    obtain ⟨d, hd, nw⟩ := item i H' x H2 hi (f'.ff.trans r'.sub) y
    have eg : ds.drop i = d :: ds.drop (i + 1) := by
      obtain ⟨hlt, e⟩ := List.getElem?_eq_some_iff.mp hd
      rw [← List.getElem_cons_drop hlt, e]
    rw [eg] at g
    unfold forL at g
    obtain ⟨e1, b1, g⟩ := Option.bind_eq_some_iff.mp g
    obtain ⟨⟨e2, fl2⟩, b2, g⟩ := Option.bind_eq_some_iff.mp g
    obtain ⟨F2, r2, f2, p2⟩ := nw.lay r' f'.ff
    refine gP_ok p d x σ' e' e1 r2 p2 b1 _ fun σ3 r3 f3 => ?_
    refine hb σ3 H2 F2 e1 e2 fl2 r3 b2 _ fun σ4 F4 H4 r4 f4 => ?_
    have fall := ((f'.trans f2).trans f3).trans f4
    cases fl2 with
    | nx => exact ⟨F4, e2, r4, fall, g⟩
    | ct => exact ⟨F4, e2, r4, fall, g⟩
    | bk => cases g; exact q σ4 F4 H4 r4 (f1.trans fall)
    | rt x =>
      cases g
      have := q σ4 F4 H4 r4 (f1.trans fall)
      exact Out.trans (f1.trans ((f'.trans f2).trans f3)) this
  · rintro σ' H' ⟨F', e', r', f', g⟩
    rw [List.drop_length] at g
    cases g
    exact q σ' F' H' r' (f1.trans f')
/-! ### while -/
def whileN (c : EB) (body : ES) : Nat → ES
  | 0, _ => none
  | n + 1, e => (c e).bind fun (b, e1) => if b = true then (body e1).bind fun (e2, fl) => match fl with
      | .nx => whileN c body n e2
      | .ct => whileN c body n e2
      | .bk => some (e2, .nx)
      | .rt r => some (e2, .rt r)
    else some (e1, .nx)
open Classical in
noncomputable def whileS (c : EB) (body : ES) : ES := fun env => if h : ∃ n r, whileN c body n env = some r then some (Classical.choose (Classical.choose_spec h)) else none
theorem whileN_mono {c : EB} {body : ES} : ∀ {n m : Nat} {env : Env} {r : Env × Fl}, whileN c body n env = some r → n ≤ m → whileN c body m env = some r
  | 0, _, _, _, h, _ => by cases h
  | n + 1, 0, _, _, _, hm => by omega
  | n + 1, m + 1, env, r, h, hm => by
    unfold whileN at h ⊢
    obtain ⟨⟨b, e1⟩, h1, h⟩ := Option.bind_eq_some_iff.mp h
    rw [h1]
    dsimp only [Option.bind] at h ⊢
    split at h
    · rename_i hb
      rw [if_pos hb]
      cases h2 : body e1 with
      | none => rw [h2] at h; cases h
      | some x =>
        obtain ⟨e2, fl⟩ := x
        rw [h2] at h
        dsimp only [Option.bind] at h ⊢
        cases fl with
        | nx => exact whileN_mono h (by omega)
        | ct => exact whileN_mono h (by omega)
        | bk => exact h
        | rt r => exact h
    · rename_i hb
      rw [if_neg hb]
      exact h
theorem whileS_of {c : EB} {body : ES} {n : Nat} {env : Env} {r : Env × Fl} (h : whileN c body n env = some r) : whileS c body env = some r := by
  have hx : ∃ n r, whileN c body n env = some r := ⟨n, r, h⟩
  unfold whileS
  rw [dif_pos hx]
  have h2 := Classical.choose_spec (Classical.choose_spec hx)
  have a := whileN_mono h (Nat.le_max_left n (Classical.choose hx))
  have b := whileN_mono h2 (Nat.le_max_right n (Classical.choose hx))
  rw [a] at b
  cases b
  rfl
theorem whileS_n {c : EB} {body : ES} {env : Env} {r : Env × Fl} (h : whileS c body env = some r) : ∃ n, whileN c body n env = some r := by
  unfold whileS at h
  split at h
  · rename_i hx
    cases h
    exact ⟨_, Classical.choose_spec (Classical.choose_spec hx)⟩
  · cases h
theorem SS.while {c : TT} {b : EB} {tb : TS} {body : ES} (hc : SB K ps c b) (hb : SS K ps tb body) : SS K ps (tWhile c tb) (whileS b body) := fun σ H F env env' fl r e D q => by
  obtain ⟨n, e⟩ := whileS_n e
  refine ⟨fun m σ' H' => ∃ F' e', Rel K F' H' ps σ' e' ∧ Fr σ env F H σ' e' F' H' ∧ whileN b body m e' = some (env', fl), ⟨n, F, env, r, Fr.refl, e⟩, ?_⟩
  rintro m σ' H' ⟨F', e', r', f', g⟩
  cases m with
  | zero => cases g
  | succ m =>
    unfold whileN at g
    obtain ⟨⟨k, e1⟩, h1, g⟩ := Option.bind_eq_some_iff.mp g
    refine hc σ' H' F' e' k e1 r' h1 _ fun F1 H1 r1 f1 => ?_
    cases k with
    | false =>
      cases g
      exact q σ' F1 H1 r1 (f'.trans f1)
    | true =>
      obtain ⟨⟨e2, fl2⟩, h2, g⟩ := Option.bind_eq_some_iff.mp g
      refine ⟨fun σ3 H3 => ∃ F3 e3, Rel K F3 H3 ps σ3 e3 ∧ Fr σ env F H σ3 e3 F3 H3 ∧ whileN b body m e3 = some (env', fl), fun σ3 H3 w => ⟨m, Nat.lt_succ_self m, w⟩, ?_⟩
      refine hb σ' H1 F1 e1 e2 fl2 r1 h2 _ fun σ4 F4 H4 r4 f4 => ?_
      have fall := (f'.trans f1).trans f4
      cases fl2 with
      | nx => exact ⟨F4, e2, r4, fall, g⟩
      | ct => exact ⟨F4, e2, r4, fall, g⟩
      | bk => cases g; exact q σ4 F4 H4 r4 fall
      | rt x =>
        cases g
        exact Out.trans (f'.trans f1) (q σ4 F4 H4 r4 fall)
/-! ### comprehensions -/
/-- no slot among is holds an object of its own -/
def clean : List Nat → Env → Bool
  | [], _ => true
  | i :: is, e => (match e[i]? with | some (.own _ _) => false | _ => true) && clean is e
def wipeE (e : Env) : List Nat → Env
  | [] => e
  | i :: is => (wipeE e is).set i .un
/-- the slots is of e, the others of e' -/
def backE (e e' : Env) : List Nat → Env
  | [] => e'
  | i :: is => match e[i]? with
    | some s => (backE e e' is).set i s
    | none => backE e e' is
def lcL (vs : List Nat) (p : Pat) (c : EB) (elt : EV) : List D → List D → Env → Option (List D × Env)
  | [], acc, e => some (acc, e)
  | d :: ds, acc, e => (bindP p d e).bind fun e1 => (c e1).bind fun (b, e2) => if b = true then (elt e2).bind fun (y, e3) => if acc.length < lim then lcL vs p c elt ds (acc ++ [y]) (wipeE e3 vs) else none else lcL vs p c elt ds acc (wipeE e2 vs)
def lcE (vs : List Nat) (it : EA) (p : Pat) (c : EB) (elt : EV) : EX := fun env => (it env).bind fun (ds, e0) => if clean vs e0 = true then (lcL vs p c elt ds [] (wipeE e0 vs)).map fun (l, e') => (.cell (.lst l), backE e0 e' vs) else none
def yesB : EB := fun env => some (true, env)
mutual
def Pat.ixs : Pat → List Nat
  | .nm i => [i]
  | .tp l => l.ixs
def Pats.ixs : Pats → List Nat
  | .nil => []
  | .cons p l => p.ixs ++ l.ixs
end
theorem wipe_get {σ : L2.St} {j : Nat} : ∀ {vs : List Nat}, j ∉ vs → (wipe σ vs)[j]? = σ[j]?
  | [], _ => rfl
  | v :: vs, h => by
    unfold wipe
    rw [List.getElem?_set_ne (fun z => h (by simp [z]))]
    exact wipe_get fun z => h (by simp [z])
theorem wipe_mem {σ : L2.St} {j : Nat} : ∀ {vs : List Nat}, j ∈ vs → j < σ.length → (wipe σ vs)[j]? = some none
  | v :: vs, h, hj => by
    unfold wipe
    by_cases c : v = j
    · rw [c, List.getElem?_set, if_pos rfl, if_pos (by rw [wipe_length]; exact hj)]
    · rw [List.getElem?_set_ne c]
      exact wipe_mem (by simpa [Ne.symm c] using h) hj
theorem wipe_ext {σ τ : L2.St} {vs : List Nat} (hl : σ.length = τ.length) (h : ∀ j, j ∉ vs → σ[j]? = τ[j]?) : wipe σ vs = wipe τ vs := by
  apply List.ext_getElem?
  intro j
  by_cases c : j ∈ vs
  · by_cases d : j < σ.length
    · rw [wipe_mem c d, wipe_mem c (by omega)]
    · rw [List.getElem?_eq_none (by rw [wipe_length]; omega), List.getElem?_eq_none (by rw [wipe_length]; omega)]
  · rw [wipe_get c, wipe_get c, h j c]
theorem wipe_set {σ : L2.St} {i : Nat} {x : Option V} {vs : List Nat} (h : i ∈ vs) : wipe (σ.set i x) vs = wipe σ vs :=
  wipe_ext (by rw [List.length_set]) fun j hj => List.getElem?_set_ne fun z => hj (by rw [← z]; exact h)
theorem wipe_wipe {σ : L2.St} {vs : List Nat} : wipe (wipe σ vs) vs = wipe σ vs :=
  wipe_ext (wipe_length σ vs) fun j hj => wipe_get hj
mutual
theorem gP_okW (vs : List Nat) : ∀ (p : Pat) (d : D) (v : V) (σ : L2.St) (env env' : Env), (∀ i ∈ p.ixs, i ∈ vs) → Rel K F H ps σ env → Rp K F v d → bindP p d env = some env' → ∀ Q : L2.St → Hp → Prop,
    (∀ σ', Rel K F H ps σ' env' → Fr σ env F H σ' env' F H → wipe σ' vs = wipe σ vs → Q σ' H) → gP K p v σ H Q
  | .nm i, d, v, σ, env, env', hv, r, h, e, Q, q => by
    rw [bindP] at e
    cases e
    obtain ⟨r1, f1⟩ := r.setFro h i
    exact q _ r1 f1 (wipe_set (hv i (by simp [Pat.ixs])))
  | .tp l, d, v, σ, env, env', hv, r, h, e, Q, q => by
    cases d with
    | tup ds =>
      rw [bindP] at e
      cases h with
      | tup a b => exact ⟨_, _, rfl, SqT.of (r.sub _ _ a), by rw [b.length, bindPs_len e], gPs_okW vs l ds _ σ env env' (by simpa [Pat.ixs] using hv) r b e Q q⟩
    | _ => simp [bindP] at e
theorem gPs_okW (vs : List Nat) : ∀ (l : Pats) (ds : List D) (xs : List V) (σ : L2.St) (env env' : Env), (∀ i ∈ l.ixs, i ∈ vs) → Rel K F H ps σ env → RpA K F xs ds → bindPs l ds env = some env' → ∀ Q : L2.St → Hp → Prop,
    (∀ σ', Rel K F H ps σ' env' → Fr σ env F H σ' env' F H → wipe σ' vs = wipe σ vs → Q σ' H) → gPs K l xs σ H Q
  | .nil, ds, xs, σ, env, env', hv, r, h, e, Q, q => by
    cases ds with
    | nil =>
      rw [bindPs] at e
      cases e
      cases h
      exact ⟨rfl, q σ r Fr.refl rfl⟩
    | cons d ds => simp [bindPs] at e
  | .cons p l, ds, xs, σ, env, env', hv, r, h, e, Q, q => by
    cases ds with
    | nil => simp [bindPs] at e
    | cons d ds =>
      rw [bindPs] at e
      obtain ⟨e1, h1, e⟩ := Option.bind_eq_some_iff.mp e
      cases h with
      | cons a b => exact ⟨_, _, rfl, gP_okW vs p d _ σ env e1 (fun i hi => hv i (by simp [Pats.ixs, hi])) r a h1 _ fun σ1 r1 f1 w1 => gPs_okW vs l ds _ σ1 e1 env' (fun i hi => hv i (by simp [Pats.ixs, hi])) r1 b e Q fun σ2 r2 f2 w2 => q σ2 r2 (f1.trans f2) (w2.trans w1)⟩
end
theorem wipeE_len (e : Env) : ∀ vs : List Nat, (wipeE e vs).length = e.length
  | [] => rfl
  | v :: vs => by unfold wipeE; rw [List.length_set, wipeE_len e vs]
theorem wipeE_get {e : Env} {j : Nat} : ∀ {vs : List Nat}, j ∉ vs → (wipeE e vs)[j]? = e[j]?
  | [], _ => rfl
  | v :: vs, h => by
    unfold wipeE
    rw [List.getElem?_set_ne (fun z => h (by simp [z]))]
    exact wipeE_get fun z => h (by simp [z])
theorem wipeE_mem {e : Env} {j : Nat} : ∀ {vs : List Nat}, j ∈ vs → j < e.length → (wipeE e vs)[j]? = some .un
  | v :: vs, h, hj => by
    unfold wipeE
    by_cases c : v = j
    · rw [c, List.getElem?_set, if_pos rfl, if_pos (by rw [wipeE_len]; exact hj)]
    · rw [List.getElem?_set_ne c]
      exact wipeE_mem (by simpa [Ne.symm c] using h) hj
theorem owns_wipe {σ : L2.St} {e : Env} {vs : List Nat} {i : Nat} {a : Addr} (h : Owns (wipe σ vs) (wipeE e vs) i a) : Owns σ e i a ∧ i ∉ vs := by
  obtain ⟨⟨t, d, h1⟩, h2⟩ := h
  have hl : i < e.length := by
    have := (List.getElem?_eq_some_iff.mp h1).1
    rwa [wipeE_len] at this
  have hi : i ∉ vs := fun z => by rw [wipeE_mem z hl] at h1; cases h1
  rw [wipeE_get hi] at h1
  rw [wipe_get hi] at h2
  exact ⟨⟨⟨t, d, h1⟩, h2⟩, hi⟩
theorem Rel.wipe {σ : L2.St} {e : Env} (r : Rel K F H ps σ e) (vs : List Nat) : Rel K F H ps (L2.wipe σ vs) (wipeE e vs) ∧ Fr σ e F H (L2.wipe σ vs) (wipeE e vs) F H := by
  refine ⟨⟨r.sub, by rw [wipe_length, wipeE_len]; exact r.len, fun i s h => ?_, fun i j p a b => r.dis i j p (owns_wipe a).1 (owns_wipe b).1⟩, ⟨Same.refl _, fun _ _ h _ => h, fun _ _ h _ _ => h, fun i a z => .inr ⟨i, (owns_wipe z).1⟩⟩⟩
  have hl : i < e.length := by
    have := (List.getElem?_eq_some_iff.mp h).1
    rwa [wipeE_len] at this
  by_cases c : i ∈ vs
  · rw [wipeE_mem c hl] at h
    cases h
    exact ⟨none, wipe_mem c (by rw [r.len]; exact hl), trivial⟩
  · rw [wipeE_get c] at h
    rw [wipe_get c]
    exact r.at_ i s h
theorem backE_len (e e' : Env) : ∀ vs : List Nat, (backE e e' vs).length = e'.length
  | [] => rfl
  | v :: vs => by
    unfold backE
    split
    · rw [List.length_set, backE_len e e' vs]
    · exact backE_len e e' vs
theorem backE_get {e e' : Env} {j : Nat} : ∀ {vs : List Nat}, j ∉ vs → (backE e e' vs)[j]? = e'[j]?
  | [], _ => rfl
  | v :: vs, h => by
    unfold backE
    have ih := backE_get (e := e) (e' := e') (j := j) (vs := vs) fun z => h (by simp [z])
    split
    · rw [List.getElem?_set_ne (fun z => h (by simp [z]))]; exact ih
    · exact ih
theorem backE_mem {e e' : Env} {j : Nat} (hl : e.length = e'.length) : ∀ {vs : List Nat}, j ∈ vs → (backE e e' vs)[j]? = e[j]?
  | v :: vs, h => by
    unfold backE
    by_cases c : v = j
    · subst c
      split
      · rename_i s hs
        have : v < e.length := (List.getElem?_eq_some_iff.mp hs).1
        rw [List.getElem?_set, if_pos rfl, if_pos (by rw [backE_len]; omega), hs]
      · rename_i hs
        have : e.length ≤ v := List.getElem?_eq_none_iff.mp hs
        rw [hs, List.getElem?_eq_none (by rw [backE_len]; omega)]
    · have ih := backE_mem (e := e) (e' := e') hl (j := j) (vs := vs) (by simpa [Ne.symm c] using h)
      split
      · rw [List.getElem?_set_ne c]; exact ih
      · exact ih
theorem clean_mem {e : Env} {j : Nat} : ∀ {vs : List Nat}, clean vs e = true → j ∈ vs → ∀ t d, e[j]? ≠ some (.own t d)
  | v :: vs, h, hj, t, d, z => by
    unfold clean at h
    rw [Bool.and_eq_true] at h
    rcases List.mem_cons.mp hj with c | c
    · rw [← c, z] at h; exact absurd h.1 Bool.false_ne_true
    · exact clean_mem h.2 c t d z
theorem owns_back {σ : L2.St} {e e' : Env} {vs : List Nat} {i : Nat} {a : Addr} (hl : e.length = e'.length) (hc : clean vs e = true) (h : Owns σ (backE e e' vs) i a) : Owns (wipe σ vs) e' i a := by
  obtain ⟨⟨t, d, h1⟩, h2⟩ := h
  have hi : i ∉ vs := fun z => by rw [backE_mem hl z] at h1; exact clean_mem hc z t d h1
  rw [backE_get hi] at h1
  exact ⟨⟨t, d, h1⟩, by rw [wipe_get hi]; exact h2⟩
theorem Rel.back {σ : L2.St} {e e' : Env} {vs : List Nat} {F0 H0 : Hp} (r0 : Rel K F0 H0 ps σ e) (r : Rel K F H ps (L2.wipe σ vs) e') (ex : Ex F0 F) (hc : clean vs e = true) : Rel K F H ps σ (backE e e' vs) := by
  have hl : e.length = e'.length := by rw [← r0.len, ← r.len, wipe_length]
  refine ⟨r.sub, by rw [backE_len, ← hl]; exact r0.len, fun i s h => ?_, fun i j p a b => r.dis i j p (owns_back hl hc a) (owns_back hl hc b)⟩
  by_cases c : i ∈ vs
  · rw [backE_mem hl c] at h
    obtain ⟨x, h1, h2⟩ := r0.at_ i s h
    refine ⟨x, h1, ?_⟩
    cases s with
    | un => trivial
    | fro d => obtain ⟨v, e1, e2⟩ := h2; exact ⟨v, e1, e2.mono ex⟩
    | own t d => exact absurd h (clean_mem hc c t d)
  · rw [backE_get c] at h
    obtain ⟨x, h1, h2⟩ := r.at_ i s h
    rw [wipe_get c] at h1
    exact ⟨x, h1, h2⟩
theorem SX.lc {w : TI} {it : EA} {p : Pat} {tt : TT} {c : EB} {te : TE} {elt : EV} {vs : List Nat} (hi : SI K ps w it) (hp : ∀ i ∈ p.ixs, i ∈ vs) (ht : SB K ps tt c) (he : SV K ps te elt) : SX K ps (tLc w (gP K p) tt te vs) (lcE vs it p c elt) := fun σ H F env z env' r e Q q => by
  obtain ⟨⟨ds, e0⟩, h0, e⟩ := Option.bind_eq_some_iff.mp e
  dsimp only at e
  split at e
  · rename_i hcl
    obtain ⟨⟨l, e'⟩, h1, e⟩ := Option.map_eq_some_iff.mp e
    cases e
    refine hi σ H F env ds e0 r h0 _ fun J F1 H1 r1 f1 ⟨Y, wk, item⟩ D hD => ?_
    obtain ⟨rw0, fw0⟩ := r1.wipe vs
    refine lc_it wk (fun i H' => ∃ F' e2 accd acc, Rel K F' H' ps (wipe σ vs) e2 ∧ Fr (wipe σ vs) (wipeE e0 vs) F1 H1 (wipe σ vs) e2 F' H' ∧ H' D = some (.lst acc) ∧ F' D = none ∧ RpA K F' acc accd ∧ (∀ i, ¬ Owns (wipe σ vs) e2 i D) ∧ lcL vs p c elt (ds.drop i) accd e2 = some (l, e'))
      ⟨F1, wipeE e0 vs, [], [], rw0.new hD, Fr.new rw0 hD, upd_same, r1.free hD, .nil, not_owns_none rw0 hD, h1⟩ (fun i H' _ ⟨F', e2, accd, acc, r', f', _⟩ => ⟨f'.ff.trans r'.sub, trivial⟩) ?_ ?_
    · rintro i x H' H2 hi ⟨F', e2, accd, acc, r', f', hd, fd, ra, no, g⟩ y
      obtain ⟨d, hdi, nw⟩ := item i H' x H2 hi (f'.ff.trans r'.sub) y
      have eg : ds.drop i = d :: ds.drop (i + 1) := by
        obtain ⟨hlt, e⟩ := List.getElem?_eq_some_iff.mp hdi
        rw [← List.getElem_cons_drop hlt, e]
      rw [eg] at g
      unfold lcL at g
      obtain ⟨e3, b1, g⟩ := Option.bind_eq_some_iff.mp g
      obtain ⟨⟨k, e4⟩, b2, g⟩ := Option.bind_eq_some_iff.mp g
      obtain ⟨F2, r2, f2, p2⟩ := nw.lay r' f'.ff
      refine gP_okW vs p d x (wipe σ vs) e2 e3 hp r2 p2 b1 _ fun σ3 r3 f3 w3 => ⟨w3.trans wipe_wipe, ?_⟩
      refine ht σ3 H2 F2 e3 k e4 r3 b2 _ fun F4 H4 r4 f4 => ?_
      have w3' : wipe σ3 vs = wipe σ vs := w3.trans wipe_wipe
      cases k with
      | false =>
        rw [if_neg Bool.false_ne_true]
        have fall := ((f2.trans f3).trans f4)
        obtain ⟨d1, d2, d3⟩ := scratch hd fd no fall
        obtain ⟨r5, f5⟩ := r4.wipe vs
        rw [w3'] at r5 f5
        have fall5 := fall.trans f5
        obtain ⟨d1, d2, d3⟩ := scratch hd fd no fall5
        dsimp only at g
        rw [if_neg Bool.false_ne_true] at g
        exact ⟨F4, wipeE e4 vs, accd, acc, r5, f'.trans fall5, d1, d2, ra.mono fall5.ff, d3, g⟩
      | true =>
        dsimp only at g
        rw [if_pos rfl] at g ⊢
        obtain ⟨⟨y, e5⟩, b3, g⟩ := Option.bind_eq_some_iff.mp g
        dsimp only at g
        split at g
        · rename_i hlen
          refine he σ3 H4 F4 e4 y e5 r4 b3 _ fun yv F5 H5 r5 f5 p5 => ?_
          obtain ⟨r6, f6⟩ := r5.wipe vs
          rw [w3'] at r6 f6
          have fall := (((f2.trans f3).trans f4).trans f5).trans f6
          obtain ⟨d1, d2, d3⟩ := scratch hd fd no fall
          have ra5 := ra.mono fall.ff
          refine ⟨acc, d1, lim_lt (by rw [ra.length]; exact hlen), F5, wipeE e5 vs, accd ++ [y], acc ++ [yv], r6.scr d2 d3, (f'.trans fall).scr hD, upd_same, d2, ra5.app (.cons p5 .nil), d3, g⟩
        · cases g
    · rintro H' ⟨F', e2, accd, acc, r', f', hd, fd, ra, no, g⟩
      rw [List.drop_length] at g
      cases g
      have hl : e0.length = e'.length := by rw [← r1.len, ← r'.len, wipe_length]
      have rb := r1.back r' f'.ff hcl
      have f0 : Fr σ e0 F1 H1 σ (backE e0 e' vs) F' H' := ⟨f'.ff, fun a o h n => f'.kh a o h fun i z => n i (owns_wipe z).1, fun a o h1 h2 n => f'.kf a o h1 h2 fun i z => n i (owns_wipe z).1, fun i a z => by
        rcases f'.nw i a (owns_back hl hcl z) with w | ⟨j, w⟩
        · exact .inl w
        · exact .inr ⟨j, (owns_wipe w).1⟩⟩
      refine q _ F' H' rb (f1.trans f0) ⟨D, _, rfl, fd, hd, .lst ra, fun i z => no i (owns_back hl hcl z), ?_⟩
      cases eD : H D with
      | none => exact .inl rfl
      | some u =>
        refine .inr (Classical.byContradiction fun cc => ?_)
        have := f1.kh D u eD fun j hj => cc ⟨j, hj⟩
        rw [hD] at this; cases this
  · cases e
theorem SB.yes : SB K ps tYes yesB := fun σ H F env b env' r e Q q => by cases e; exact q F H r Fr.refl
end
end Oc
end

section
set_option Elab.async false
set_option linter.all false
set_option maxRecDepth 100000
set_option maxHeartbeats 1000000
/-! Oc9: what loops walk; loops over the text. -/
namespace Oc
open PySem L2 PyProof.Rows

/-- a list | a tuple | a text, sign by sign; looked at from a value -/
def itV (f : EV) : EA := fun env => (f env).bind fun (d, e) => match d with
  | .lst ds => some (ds, e)
  | _ => none
def itT (f : EV) : EA := fun env => (f env).bind fun (d, e) => match d with
  | .tup ds => some (ds, e)
  | _ => none
def signs (z : Str) : List D := z.cps.toList.map fun c => .str ⟨#[c]⟩
def itS (f : EV) : EA := fun env => (f env).bind fun (d, e) => match d with
  | .str z => some (signs z, e)
  | _ => none
def rngD (lo hi : Int) : List D := (List.range (hi - lo).toNat).map fun (i : Nat) => .int (lo + i)
def big : Int := 2 ^ 62
def itR1 (f : EA) : EA := fun env => (f env).bind fun (ds, e) => match ds with
  | [.int j] => if -big ≤ j ∧ j < big then some (rngD 0 j, e) else none
  | _ => none
def itR2 (f : EA) : EA := fun env => (f env).bind fun (ds, e) => match ds with
  | [.int i, .int j] => if -big ≤ i ∧ i < big ∧ -big ≤ j ∧ j < big then some (rngD i j, e) else none
  | _ => none
def enumD : Nat → List D → List D
  | _, [] => []
  | n, d :: ds => .tup [.int n, d] :: enumD (n + 1) ds
def itE (f : EA) : EA := fun env => (f env).bind fun (ds, e) => match ds with
  | [.lst l] => some (enumD 0 l, e)
  | _ => none
def zipD : List D → List D → List D
  | a :: l, b :: m => .tup [a, b] :: zipD l m
  | _, _ => []
def itZ (f : EA) : EA := fun env => (f env).bind fun (ds, e) => match ds with
  | [.lst l, .lst m] => some (zipD l m, e)
  | _ => none
def itRev (f : EA) : EA := fun env => (f env).bind fun (ds, e) => match ds with
  | [.lst l] => some (l.reverse, e)
  | _ => none
theorem enumD_get : ∀ {l : List D} {n i : Nat} {d : D}, l[i]? = some d → (enumD n l)[i]? = some (.tup [.int ((n + i : Nat) : Int), d])
  | d :: l, n, 0, d', h => by simp at h; simp [enumD, h]
  | d :: l, n, i + 1, d', h => by
    have := enumD_get (l := l) (n := n + 1) (i := i) (d := d') (by simpa using h)
    rw [enumD, List.getElem?_cons_succ, this]
    congr 4
    omega
theorem enumD_len : ∀ (l : List D) (n : Nat), (enumD n l).length = l.length
  | [], _ => rfl
  | d :: l, n => by simp [enumD, enumD_len l]
theorem zipD_len : ∀ (l m : List D), (zipD l m).length = min l.length m.length
  | [], m => by simp [zipD]
  | a :: l, [] => by simp [zipD]
  | a :: l, b :: m => by simp [zipD, zipD_len l m]
theorem zipD_get : ∀ {l m : List D} {i : Nat} {a b : D}, l[i]? = some a → m[i]? = some b → (zipD l m)[i]? = some (.tup [a, b])
  | a :: l, b :: m, 0, _, _, h, g => by simp at h g; simp [zipD, h, g]
  | a :: l, b :: m, i + 1, _, _, h, g => by
    rw [zipD, List.getElem?_cons_succ]
    exact zipD_get (by simpa using h) (by simpa using g)
  | [], _, _, _, _, h, _ => by simp at h
  | _ :: _, [], _, _, _, _, g => by simp at g
section
variable {K : PySem.W.Frag} {ps : List V} {F F' H H1 F1 : Hp} {σ : L2.St} {env : Env} {x : V} {d : D} {a b : Addr}
theorem RpA.get' {xs : List V} {ds : List D} (h : RpA K F xs ds) {i : Nat} {v : V} (hv : xs[i]? = some v) : ∃ d, ds[i]? = some d ∧ Rp K F v d := by
  have hi : i < ds.length := by rw [← h.length]; exact (List.getElem?_eq_some_iff.mp hv).1
  obtain ⟨w, h1, h2⟩ := h.get (List.getElem?_eq_getElem hi)
  rw [hv] at h1
  cases h1
  exact ⟨_, List.getElem?_eq_getElem hi, h2⟩
theorem goes_list {xs : List V} {ds : List D} (ha : F a = some (.lst xs)) (h : RpA K F xs ds) : Goes K F (fun _ => True) (Itl K a) ds := by
  refine ⟨YAt xs, ?_, ?_⟩
  · rw [← h.length]
    exact walk_list.mono (fun H e => SqL.of (e.1 _ _ ha)) fun _ _ _ _ _ _ y => y
  · rintro i H x H1 hi e ⟨rfl, hx⟩
    obtain ⟨d, h1, h2⟩ := h.get' hx
    exact ⟨d, h1, .inl ⟨rfl, h2⟩⟩
theorem goes_tup {xs : List V} {ds : List D} (ha : F a = some (.tup xs)) (h : RpA K F xs ds) : Goes K F (fun _ => True) (Itt K a) ds := by
  refine ⟨YAt xs, ?_, ?_⟩
  · rw [← h.length]
    exact walk_tup.mono (fun H e => SqT.of (e.1 _ _ ha)) fun _ _ _ _ _ _ y => y
  · rintro i H x H1 hi e ⟨rfl, hx⟩
    obtain ⟨d, h1, h2⟩ := h.get' hx
    exact ⟨d, h1, .inl ⟨rfl, h2⟩⟩
theorem goes_str {z : Str} : Goes K F (fun _ => True) (Its z) (signs z) := by
  refine ⟨fun i H v H' => H' = H ∧ ∃ c, z.cps[i]? = some c ∧ v = .str ⟨#[c]⟩, ?_, ?_⟩
  · rw [show (signs z).length = z.cps.size by simp [signs]]
    exact walk_str.mono (fun H e => trivial) fun _ _ _ _ _ _ y => y
  · rintro i H x H1 hi e ⟨rfl, c, hc, rfl⟩
    refine ⟨.str ⟨#[c]⟩, ?_, .inl ⟨rfl, .str _⟩⟩
    unfold signs
    rw [List.getElem?_map, Array.getElem?_toList, hc]
    rfl
theorem goes_range {lo hi : Int} : Goes K F (fun _ => True) (Itr lo (hi - lo).toNat) (rngD lo hi) := by
  refine ⟨YFn fun i => .int (lo + i), ?_, ?_⟩
  · rw [show (rngD lo hi).length = (hi - lo).toNat by simp [rngD]]
    exact walk_range.mono (fun H e => trivial) fun _ _ _ _ _ _ y => y
  · rintro i H x H1 hlt0 e ⟨rfl, rfl⟩
    refine ⟨.int (lo + (i : Nat)), ?_, .inl ⟨rfl, .int _⟩⟩
    have hlt : i < (hi - lo).toNat := by simpa [rngD] using hlt0
    unfold rngD
    rw [List.getElem?_map, List.getElem?_range hlt]
    rfl
theorem goes_enum {xs : List V} {ds : List D} (ha : F a = some (.lst xs)) (h : RpA K F xs ds) : Goes K F (fun _ => True) (Ite K a) (enumD 0 ds) := by
  refine ⟨YPair (fun i => some (.int (i : Nat))) (fun i => xs[i]?), ?_, ?_⟩
  · rw [enumD_len, ← h.length]
    exact walk_enum.mono (fun H e => SqL.of (e.1 _ _ ha)) fun _ _ _ _ _ _ y => y
  · rintro i H x H1 hi e ⟨T, x1, x2, rfl, hT, rfl, h1, h2⟩
    obtain ⟨d, h3, h4⟩ := h.get' h2
    cases h1
    refine ⟨_, enumD_get h3, .inr ⟨T, _, _, rfl, hT, rfl, rfl, .cons ?_ (.cons h4 .nil)⟩⟩
    rw [Nat.zero_add]
    exact .int _
theorem goes_zip {xs ys : List V} {ds es : List D} (ha : F a = some (.lst xs)) (h : RpA K F xs ds) (hb : F b = some (.lst ys)) (g : RpA K F ys es) : Goes K F (fun _ => True) (Itz K a b) (zipD ds es) := by
  refine ⟨YPair (fun i => xs[i]?) (fun i => ys[i]?), ?_, ?_⟩
  · rw [zipD_len, ← h.length, ← g.length]
    exact (walk_zip rfl).mono (fun H e => ⟨SqL.of (e.1 _ _ ha), SqL.of (e.1 _ _ hb)⟩) fun _ _ _ _ _ _ y => y
  · rintro i H x H1 hi e ⟨T, x1, x2, rfl, hT, rfl, h1, h2⟩
    obtain ⟨d, h3, h4⟩ := h.get' h1
    obtain ⟨d2, h5, h6⟩ := g.get' h2
    exact ⟨_, zipD_get h3 h5, .inr ⟨T, _, _, rfl, hT, rfl, rfl, .cons h4 (.cons h6 .nil)⟩⟩
theorem goes_rev {xs : List V} {ds : List D} (ha : F a = some (.lst xs)) (h : RpA K F xs ds) : Goes K F (fun _ => True) (Itv K a xs.length) ds.reverse := by
  refine ⟨fun i H x H' => H' = H ∧ xs[xs.length - 1 - i]? = some x, ?_, ?_⟩
  · rw [List.length_reverse, ← h.length]
    exact walk_rev.mono (fun H e => SqL.of (e.1 _ _ ha)) fun _ _ _ _ _ _ y => y
  · rintro i H x H1 hi e ⟨rfl, hx⟩
    obtain ⟨d, h1, h2⟩ := h.get' hx
    refine ⟨d, ?_, .inl ⟨rfl, h2⟩⟩
    rw [List.length_reverse] at hi
    rw [List.getElem?_reverse hi, ← h.length]
    exact h1
theorem SI.v {t : TE} {f : EV} (h : SV K ps t f) : SI K ps (iList K t) (itV f) := fun σ H F env ds env' r e R q => by
  obtain ⟨⟨d, e1⟩, h1, e⟩ := Option.bind_eq_some_iff.mp e
  dsimp only at e
  split at e
  · cases e
    refine h σ H F env _ _ r h1 _ fun v F1 H1 r1 f1 p1 => ?_
    cases p1 with
    | lst a b => exact ⟨_, rfl, ⟨_, SqL.of (r1.sub _ _ a)⟩, q _ F1 H1 r1 f1 (goes_list a b)⟩
  · cases e
theorem SI.t {t : TE} {f : EV} (h : SV K ps t f) : SI K ps (iTup K t) (itT f) := fun σ H F env ds env' r e R q => by
  obtain ⟨⟨d, e1⟩, h1, e⟩ := Option.bind_eq_some_iff.mp e
  dsimp only at e
  split at e
  · cases e
    refine h σ H F env _ _ r h1 _ fun v F1 H1 r1 f1 p1 => ?_
    cases p1 with
    | tup a b => exact ⟨_, rfl, ⟨_, SqT.of (r1.sub _ _ a)⟩, q _ F1 H1 r1 f1 (goes_tup a b)⟩
  · cases e
theorem SI.s {t : TE} {f : EV} (h : SV K ps t f) : SI K ps (iStr t) (itS f) := fun σ H F env ds env' r e R q => by
  obtain ⟨⟨d, e1⟩, h1, e⟩ := Option.bind_eq_some_iff.mp e
  dsimp only at e
  split at e
  · cases e
    refine h σ H F env _ _ r h1 _ fun v F1 H1 r1 f1 p1 => ?_
    cases p1
    exact ⟨_, rfl, q _ F1 H1 r1 f1 goes_str⟩
  · cases e
theorem SI.r1 {t : TA} {f : EA} (h : SA K ps t f) : SI K ps (iRng1 t) (itR1 f) := fun σ H F env ds env' r e R q => by
  obtain ⟨⟨l, e1⟩, h1, e⟩ := Option.bind_eq_some_iff.mp e
  dsimp only at e
  split at e
  · split at e
    · rename_i j hb
      cases e
      refine h σ H F env _ _ r h1 _ fun xs F1 H1 r1 f1 p1 => ?_
      cases p1 with
      | cons a b =>
        cases a; cases b
        refine ⟨j, rfl, hb.1, hb.2, ?_⟩
        have := q (Itr 0 (j - 0).toNat) F1 H1 r1 f1 goes_range
        simpa using this
    · cases e
  · cases e
theorem SI.r2 {t : TA} {f : EA} (h : SA K ps t f) : SI K ps (iRng2 t) (itR2 f) := fun σ H F env ds env' r e R q => by
  obtain ⟨⟨l, e1⟩, h1, e⟩ := Option.bind_eq_some_iff.mp e
  dsimp only at e
  split at e
  · split at e
    · rename_i i j hb
      cases e
      refine h σ H F env _ _ r h1 _ fun xs F1 H1 r1 f1 p1 => ?_
      cases p1 with
      | cons a b =>
        cases a
        cases b with
        | cons b c =>
          cases b; cases c
          exact ⟨i, j, rfl, hb, q _ F1 H1 r1 f1 goes_range⟩
    · cases e
  · cases e
theorem SI.e {t : TA} {f : EA} (h : SA K ps t f) : SI K ps (iEnum K t) (itE f) := fun σ H F env ds env' r e R q => by
  obtain ⟨⟨l, e1⟩, h1, e⟩ := Option.bind_eq_some_iff.mp e
  dsimp only at e
  split at e
  · cases e
    refine h σ H F env _ _ r h1 _ fun xs F1 H1 r1 f1 p1 => ?_
    cases p1 with
    | cons a b =>
      cases b
      cases a with
      | lst a b => exact ⟨_, _, rfl, SqL.of (r1.sub _ _ a), q _ F1 H1 r1 f1 (goes_enum a b)⟩
  · cases e
theorem SI.z {t : TA} {f : EA} (h : SA K ps t f) : SI K ps (iZip K t) (itZ f) := fun σ H F env ds env' r e R q => by
  obtain ⟨⟨l, e1⟩, h1, e⟩ := Option.bind_eq_some_iff.mp e
  dsimp only at e
  split at e
  · cases e
    refine h σ H F env _ _ r h1 _ fun xs F1 H1 r1 f1 p1 => ?_
    cases p1 with
    | cons a b =>
      cases b with
      | cons b c =>
        cases c
        cases a with
        | lst a a' =>
          cases b with
          | lst b b' => exact ⟨_, _, _, _, rfl, SqL.of (r1.sub _ _ a), SqL.of (r1.sub _ _ b), q _ F1 H1 r1 f1 (goes_zip a a' b b')⟩
  · cases e
theorem SI.rev {t : TA} {f : EA} (h : SA K ps t f) : SI K ps (iRev K t) (itRev f) := fun σ H F env ds env' r e R q => by
  obtain ⟨⟨l, e1⟩, h1, e⟩ := Option.bind_eq_some_iff.mp e
  dsimp only at e
  split at e
  · cases e
    refine h σ H F env _ _ r h1 _ fun xs F1 H1 r1 f1 p1 => ?_
    cases p1 with
    | cons a b =>
      cases b
      cases a with
      | lst a b => exact ⟨_, _, rfl, SqL.of (r1.sub _ _ a), q _ F1 H1 r1 f1 (goes_rev a b)⟩
  · cases e
end
theorem PI_or {X : Cx} {tg e : Expr} {w w' : TI} (h : PI X tg e w) (h' : PI X tg e w') : PI X tg e (fun σ H R => w σ H R ∨ w' σ H R) := ⟨fun pins s σ H R I q => q.elim (h.run pins s σ H R I) (h'.run pins s σ H R I)⟩
section
variable {X : Cx} {ps : List V} {tg e a b : Expr} {pos p p2 : Pos}
theorem i_v {f : EV} (h : PV X ps e f) : PIs X ps tg e (itV f) := ⟨_, pi_list h, SI.v SV.c⟩
theorem i_t {f : EV} (h : PV X ps e f) : PIs X ps tg e (itT f) := ⟨_, pi_tup h, SI.t SV.c⟩
theorem i_s {f : EV} (h : PV X ps e f) : PIs X ps tg e (itS f) := ⟨_, pi_str h, SI.s SV.c⟩
theorem i_r1 {f : EA} (hg : Gl X "range") (hm : X.mg "range" = none) (h : PAs X ps [a] f) (hs : starEach [a] X.env = [(false, eval a X.env)] := by rfl) : PIs X ps tg (.Call (.Name "range" p) [a] [] pos) (itR1 f) := ⟨_, pi_range1 hg hm h hs, SI.r1 SA.c⟩
theorem i_r2 {f : EA} (hg : Gl X "range") (hm : X.mg "range" = none) (h : PAs X ps [a, b] f) (hs : starEach [a, b] X.env = [(false, eval a X.env), (false, eval b X.env)] := by rfl) (hs2 : starEach [b] X.env = [(false, eval b X.env)] := by rfl) :
    PIs X ps tg (.Call (.Name "range" p) [a, b] [] pos) (itR2 f) := ⟨_, pi_range2 hg hm h hs hs2, SI.r2 SA.c⟩
theorem i_enum {elts : List Expr} {kk : Nat} {f : EA} (hg : Gl X "enumerate") (hm : X.mg "enumerate" = none) (h : PAs X ps [e] f) (hs : starEach [e] X.env = [(false, eval e X.env)] := by rfl) :
    PIs X ps (.Tuple elts kk p2) (.Call (.Name "enumerate" p) [e] [] pos) (itE f) := ⟨_, pi_enum hg hm h hs, SI.e SA.c⟩
theorem i_zip {elts : List Expr} {kk : Nat} {f : EA} (hg : Gl X "zip") (hm : X.mg "zip" = none) (h : PAs X ps [a, b] f) (hs : starEach [a, b] X.env = (false, eval a X.env) :: starEach [b] X.env := by rfl) (hpl : (backTo pos (starEach [b] X.env)).any (·.1) = false := by rfl) :
    PIs X ps (.Tuple elts kk p2) (.Call (.Name "zip" p) [a, b] [] pos) (itZ f) := ⟨_, pi_zip hg hm h hs hpl, SI.z SA.c⟩
theorem i_rev {f : EA} (hg : Gl X "reversed") (hm : X.mg "reversed" = none) (h : PAs X ps [e] f) (hs : starEach [e] X.env = [(false, eval e X.env)] := by rfl) : PIs X ps tg (.Call (.Name "reversed" p) [e] [] pos) (itRev f) := ⟨_, pi_reversed hg hm h hs, SI.rev SA.c⟩
/-! ### the loops -/
theorem q_for {body : List Stmt} {it : EA} {pt : Pat} {f : ES} (hp : PassesOwn (model X.prog X.w) X.A X.env X.xe) (hc : X.calm = true) (hi : PIs X ps tg e it) (hg : PG X tg (gP X.K pt)) (hb : QSs X ps body f)
    (hs : ∀ x, foldedSetIterable e X.env x = pure x := by intro _; rfl) : QS X ps (.For tg e body [] pos) (forS it pt f) := by
  obtain ⟨w, h1, h2⟩ := hi
  exact (SS.for h2 SS.c).qs (ps_for hp hc h1 hg hb hs)
theorem q_while {c : Expr} {body : List Stmt} {b : EB} {f : ES} (hp : PassesOwn (model X.prog X.w) X.A X.env X.xe) (hc : PB X ps c b) (hb : QSs X ps body f) : QS X ps (.While c body [] pos) (whileS b f) := (SS.while SB.c SS.c).qs (ps_while hp hc hb)
theorem g_nm {i : Nat} {x : Str} (hN : X.N.Nodup) (hi : X.N[i]? = some x) (hx : Loc X.env.scope x) (hf : X.fn x = true ∨ X.env.scope.names.lookup x = some .local := by first | exact .inl rfl | exact .inr rfl | assumption) : PG X (.Name x pos) (gP X.K (.nm i)) := pg_name hN hi hx hf
theorem g_tp {es : List Expr} {k : Nat} {l : Pats} (hc : X.calm = true) (h : PGs X es (gPs X.K l)) (hn : (assignEach es X.env).length = l.len := by rfl) (hst : (assignEach es X.env).findIdx? (·.1) = none := by rfl) : PG X (.Tuple es k pos) (gP X.K (.tp l)) := pg_tup hc h hn hst
theorem gs_nil : PGs X [] (gPs X.K .nil) := pgs_nil
theorem gs_cons {es : List Expr} {pt : Pat} {l : Pats} (h : PG X e (gP X.K pt)) (k : PGs X es (gPs X.K l)) (hs : (assignEach (e :: es) X.env).map (·.2) = assign e X.env :: (assignEach es X.env).map (·.2) := by rfl) : PGs X (e :: es) (gPs X.K (.cons pt l)) := pgs_cons h k hs
/-! ### comprehensions -/
def lcOK (K : PySem.W.Frag) : Prop := True
theorem e_lc {elt iter : Expr} {ifs : List Expr} {scope : Scope} {own : List (Str × Nat)} {it : EA} {pt : Pat} {c : EB} {f : EV} (hc : X.calm = true) (hN : X.N.Nodup) (hi : PIs X ps tg iter it) (ok : BlkOk X.N X.env.scope scope own)
    (hp : ∀ i ∈ pt.ixs, i ∈ own.map (·.2))
    (hg : ∀ (s : Shared) (H : Hp) (C : Addr) (cl : List (Str × Addr)) (fp : List Addr), PG (X.blk s H scope (compEnvC scope cl C X.env) fp) tg (gP X.K pt)) (ht : ∀ (s : Shared) (H : Hp) (C : Addr) (cl : List (Str × Addr)) (fp : List Addr), PTs (X.blk s H scope (compEnvC scope cl C X.env) fp) ifs (cB X.K ps c))
    (he : ∀ (s : Shared) (H : Hp) (C : Addr) (cl : List (Str × Addr)) (fp : List Addr), PE (X.blk s H scope (compEnvC scope cl C X.env) fp) elt (cV X.K ps f)) (hs : ∀ x, foldedSetIterable iter X.env x = pure x := by intro _; rfl) :
    PX X ps (.ListComp elt [⟨tg, iter, ifs, 0⟩] scope pos) (lcE (own.map (·.2)) it pt c f) := by
  obtain ⟨w, h1, h2⟩ := hi
  exact (SX.lc h2 hp SB.c SV.c).px (pe_lc hc hN h1 ok hg ht he hs)
theorem ts_nil {K : PySem.W.Frag} (h : X.K = K) : PTs X [] (cB K ps yesB) := ⟨fun pins s σ H Q I ⟨F, env, b, env', r, e, q⟩ => by
  cases e
  exact pts_nil.run pins s σ H Q I (q F H r Fr.refl)⟩
theorem ts_one {c : Expr} {f : EB} (h : PB X ps c f) : PTs X [c] (cB X.K ps f) := pts_one h
/-- name = [..] -/
theorem q_setLc (i : Nat) {y : Str} {py : Pos} {elt iter : Expr} {ifs : List Expr} {scope : Scope} {own : List (Str × Nat)} {it : EA} {pt : Pat} {c : EB} {f : EV} (hc : X.calm = true) (hN : X.N.Nodup) (hy : X.N[i]? = some y) (hyl : X.env.scope.names.lookup y = some .local)
    (hsw : swapsWith (.ListComp elt [⟨tg, iter, ifs, 0⟩] scope pos) (some (.Name y py)) p2.line X.env = pure true) (hi : PIs X ps tg iter it) (ok : BlkOk X.N X.env.scope scope own)
    (hp : ∀ i ∈ pt.ixs, i ∈ own.map (·.2))
    (hg : ∀ (s : Shared) (H : Hp) (C : Addr) (cl : List (Str × Addr)) (fp : List Addr), PG (X.blk s H scope (compEnvC scope cl C X.env) fp) tg (gP X.K pt)) (ht : ∀ (s : Shared) (H : Hp) (C : Addr) (cl : List (Str × Addr)) (fp : List Addr), PTs (X.blk s H scope (compEnvC scope cl C X.env) fp) ifs (cB X.K ps c))
    (he : ∀ (s : Shared) (H : Hp) (C : Addr) (cl : List (Str × Addr)) (fp : List Addr), PE (X.blk s H scope (compEnvC scope cl C X.env) fp) elt (cV X.K ps f)) (hs : ∀ x, foldedSetIterable iter X.env x = pure x := by intro _; rfl) :
    QS X ps (.Assign [.Name y py] (.ListComp elt [⟨tg, iter, ifs, 0⟩] scope pos) p2) (asgS i (lcE (own.map (·.2)) it pt c f)) := by
  obtain ⟨w, h1, h2⟩ := hi
  exact (SS.asg i (SX.lc h2 hp SB.c SV.c)).qs (ps_setLc hc hN hy hyl hsw h1 ok hg ht he hs)
end
end Oc
end

section
set_option Elab.async false
set_option linter.all false
set_option maxRecDepth 100000
set_option maxHeartbeats 1000000
/-! Oc10: calls of the text's own defs, and each def's promise by data. -/
namespace Oc
open PySem L2 PyProof.Rows

inductive Arg where
  | v (d : D)
  | p (i : Nat)
  deriving Inhabited
abbrev ER := Env → Option (List Arg × Env)
def argN : ER := fun env => some ([], env)
def argV (f : EV) (r : ER) : ER := fun env => (f env).bind fun (d, e1) => (r e1).bind fun (l, e2) => some (.v d :: l, e2)
def argP (i : Nat) (r : ER) : ER := fun env => (peek env i).bind fun _ => (r env).bind fun (l, e2) => some (.p i :: l, e2)
inductive ArgAt (K : PySem.W.Frag) (F : Hp) (σ : L2.St) : V → Arg → Prop
  | v {x : V} {d : D} : Rp K F x d → ArgAt K F σ x (.v d)
  | p {x : V} {i : Nat} : σ[i]? = some (some x) → ArgAt K F σ x (.p i)
inductive ArgsAt (K : PySem.W.Frag) (F : Hp) (σ : L2.St) : List V → List Arg → Prop
  | nil : ArgsAt K F σ [] []
  | cons {x : V} {a : Arg} {xs : List V} {as : List Arg} : ArgAt K F σ x a → ArgsAt K F σ xs as → ArgsAt K F σ (x :: xs) (a :: as)
def SR (K : PySem.W.Frag) (ps : List V) (t : TA) (f : ER) : Prop := ∀ (σ : L2.St) (H F : Hp) (env : Env) (as : List Arg) (env' : Env), Rel K F H ps σ env → f env = some (as, env') →
  ∀ Q : List V → Hp → Prop, (∀ xs F' H', Rel K F' H' ps σ env' → Fr σ env F H σ env' F' H' → ArgsAt K F' σ xs as → Q xs H') → t σ H Q
def cR (K : PySem.W.Frag) (ps : List V) (f : ER) : TA := fun σ H Q => ∃ F env as env', Rel K F H ps σ env ∧ f env = some (as, env') ∧ ∀ xs F' H', Rel K F' H' ps σ env' → Fr σ env F H σ env' F' H' → ArgsAt K F' σ xs as → Q xs H'
abbrev PRs (X : Cx) (ps : List V) (es : List Expr) (f : ER) : Prop := PA X es (cR X.K ps f)
section
variable {K : PySem.W.Frag} {ps : List V} {F F' H H' : Hp} {σ : L2.St} {env : Env}
theorem ArgAt.mono {x : V} {a : Arg} (e : Ex F F') (h : ArgAt K F σ x a) : ArgAt K F' σ x a := by
  cases h with
  | v h => exact .v (h.mono e)
  | p h => exact .p h
theorem SR.c {f : ER} : SR K ps (cR K ps f) f := fun σ H F env d env' r e Q q => ⟨F, env, d, env', r, e, q⟩
theorem SR.nil : SR K ps tNil argN := fun σ H F env as env' r e Q q => by cases e; exact q [] F H r Fr.refl .nil
theorem SR.v {ta : TE} {t : TA} {f : EV} {fr : ER} (h : SV K ps ta f) (hr : SR K ps t fr) : SR K ps (tCons ta t) (argV f fr) := fun σ H F env as env' r e Q q => by
  obtain ⟨⟨d, e1⟩, h1, e⟩ := Option.bind_eq_some_iff.mp e
  obtain ⟨⟨l, e2⟩, h2, e⟩ := Option.bind_eq_some_iff.mp e
  cases e
  exact h σ H F env _ _ r h1 _ fun x F1 H1 r1 f1 p1 => hr σ H1 F1 _ _ _ r1 h2 _ fun xs F2 H2 r2 f2 p2 => q (x :: xs) F2 H2 r2 (f1.trans f2) (.cons (.v (p1.mono f2.ff)) p2)
theorem SR.p {t : TA} {fr : ER} (i : Nat) (hr : SR K ps t fr) : SR K ps (tCons (tVar i) t) (argP i fr) := fun σ H F env as env' r e Q q => by
  obtain ⟨d, h0, e⟩ := Option.bind_eq_some_iff.mp e
  obtain ⟨⟨l, e2⟩, h2, e⟩ := Option.bind_eq_some_iff.mp e
  cases e
  obtain ⟨x, hx, _⟩ := r.peek h0
  exact ⟨x, hx, hr σ H F _ _ _ r h2 _ fun xs F2 H2 r2 f2 p2 => q (x :: xs) F2 H2 r2 f2 (.cons (.p hx) p2)⟩
end
section
variable {X : Cx} {ps : List V} {e : Expr}
theorem SR.pr {es : List Expr} {f : ER} {t : TA} (h : SR X.K ps t f) (p : PA X es t) : PRs X ps es f := PA_imp p fun σ H Q ⟨F, env, d, env', r, e, q⟩ => h σ H F env d env' r e Q q
theorem r_nil : PRs X ps [] argN := SR.nil.pr pa_nil
theorem r_v {es : List Expr} {f : EV} {fr : ER} (h : PV X ps e f) (hr : PRs X ps es fr) (hs : starEach (e :: es) X.env = (false, eval e X.env) :: starEach es X.env := by rfl) : PRs X ps (e :: es) (argV f fr) := (SR.v SV.c SR.c).pr (pa_cons h hr hs)
theorem r_p (i : Nat) {es : List Expr} {fr : ER} (h : PE X e (tVar i)) (hr : PRs X ps es fr) (hs : starEach (e :: es) X.env = (false, eval e X.env) :: starEach es X.env := by rfl) : PRs X ps (e :: es) (argP i fr) := (SR.p i SR.c).pr (pa_cons h hr hs)
end

/-! ### a def's promise -/
def Tagged (env : Env) : Prop := ∀ i t d, env[i]? = some (.own t d) → t % 1000 = i + 1
abbrev Mir := List Slot → Option (RV × List Slot)
def spM (K : PySem.W.Frag) (n : Nat) (m : Mir) : Sp := fun vs H Q _ => ∃ F env r outs, vs.length = n ∧ Rel K F H vs (vs.map some) env ∧ Tagged env ∧ m env = some (r, outs) ∧
  ∀ v F' H', Rel K F' H' vs (vs.map some) outs → Fr (vs.map some) env F H (vs.map some) outs F' H' → ResS K (vs.map some) env H (vs.map some) outs F' H' v r → Q v H'
/-- the caller's slots as the callee's -/
def slotsOf (env : Env) : List Arg → Nat → Option (List Slot)
  | [], _ => some []
  | .v d :: as, n => (slotsOf env as (n + 1)).map (.fro d :: ·)
  | .p i :: as, n => match env[i]? with
    | some (.fro d) => (slotsOf env as (n + 1)).map (.fro d :: ·)
    | some (.own t d) => (slotsOf env as (n + 1)).map (.own (if t < 1000 then n + 1 else 1000 + (n + 1)) d :: ·)
    | _ => none
def places : List Arg → List Nat
  | [] => []
  | .v _ :: as => places as
  | .p i :: as => i :: places as
def sameTags : List Slot → List Slot → Bool
  | [], [] => true
  | .own t _ :: l, .own t' _ :: m => t == t' && sameTags l m
  | .own _ _ :: _, _ :: _ => false
  | _ :: l, .own _ _ :: m => false
  | _ :: l, _ :: m => sameTags l m
  | _, _ => false
def outAt : List Arg → List Slot → Nat → Option D
  | .p i :: as, .own _ d :: os, j => if i = j then some d else outAt as os j
  | _ :: as, _ :: os, j => outAt as os j
  | _, _, _ => none
def wbS (as : List Arg) (os : List Slot) (j : Nat) : Slot → Slot
  | .own t d => match outAt as os j with
    | some d' => .own t d'
    | none => .own t d
  | s => s
def callE (m : Mir) (f : ER) : EX := fun env => (f env).bind fun (as, e1) => (slotsOf e1 as 0).bind fun sl => (m sl).bind fun (r, outs) =>
  if (places as).Nodup ∧ as.length ≤ 900 ∧ sameTags sl outs = true then some (r, e1.mapIdx (wbS as outs)) else none
section
variable {K : PySem.W.Frag} {ps : List V} {F F' H H' : Hp} {σ : L2.St} {env : Env}
theorem slotsOf_len : ∀ {as : List Arg} {n : Nat} {sl : List Slot}, slotsOf env as n = some sl → sl.length = as.length
  | [], _, _, h => by cases h; rfl
  | .v d :: as, n, sl, h => by
    rw [slotsOf] at h
    obtain ⟨l, h1, rfl⟩ := Option.map_eq_some_iff.mp h
    simp [slotsOf_len h1]
  | .p i :: as, n, sl, h => by
    rw [slotsOf] at h
    split at h
    · obtain ⟨l, h1, rfl⟩ := Option.map_eq_some_iff.mp h
      simp [slotsOf_len h1]
    · obtain ⟨l, h1, rfl⟩ := Option.map_eq_some_iff.mp h
      simp [slotsOf_len h1]
    · cases h
/-- one callee's slot -/
theorem slotsOf_get : ∀ {as : List Arg} {n : Nat} {sl : List Slot}, slotsOf env as n = some sl → ∀ {i : Nat} {s : Slot}, sl[i]? = some s →
    (∃ d, as[i]? = some (.v d) ∧ s = .fro d) ∨ ∃ j, as[i]? = some (.p j) ∧ ((∃ d, env[j]? = some (.fro d) ∧ s = .fro d) ∨ ∃ t d, env[j]? = some (.own t d) ∧ s = .own (if t < 1000 then n + i + 1 else 1000 + (n + i + 1)) d)
  | [], n, sl, h, i, s, g => by cases h; simp at g
  | .v d :: as, n, sl, h, i, s, g => by
    rw [slotsOf] at h
    obtain ⟨l, h1, rfl⟩ := Option.map_eq_some_iff.mp h
    cases i with
    | zero => simp at g; exact .inl ⟨d, rfl, g.symm⟩
    | succ i =>
      have := slotsOf_get h1 (i := i) (s := s) (by simpa using g)
      simpa [Nat.add_assoc, Nat.add_comm 1 i] using this
  | .p j :: as, n, sl, h, i, s, g => by
    rw [slotsOf] at h
    split at h
    · rename_i d hd
      obtain ⟨l, h1, rfl⟩ := Option.map_eq_some_iff.mp h
      cases i with
      | zero => simp at g; exact .inr ⟨j, rfl, .inl ⟨d, hd, g.symm⟩⟩
      | succ i =>
        have := slotsOf_get h1 (i := i) (s := s) (by simpa using g)
        simpa [Nat.add_assoc, Nat.add_comm 1 i] using this
    · rename_i t d hd
      obtain ⟨l, h1, rfl⟩ := Option.map_eq_some_iff.mp h
      cases i with
      | zero => simp at g; exact .inr ⟨j, rfl, .inr ⟨t, d, hd, g.symm⟩⟩
      | succ i =>
        have := slotsOf_get h1 (i := i) (s := s) (by simpa using g)
        simpa [Nat.add_assoc, Nat.add_comm 1 i] using this
    · cases h
theorem ArgsAt.get : ∀ {xs : List V} {as : List Arg} {i : Nat} {a : Arg}, ArgsAt K F σ xs as → as[i]? = some a → ∃ x, xs[i]? = some x ∧ ArgAt K F σ x a
  | _, _, 0, a, .cons h _, e => by simp at e; subst e; exact ⟨_, rfl, h⟩
  | _, _, i + 1, a, .cons _ t, e => by
    obtain ⟨x, h1, h2⟩ := ArgsAt.get (i := i) t (by simpa using e)
    exact ⟨x, by simpa using h1, h2⟩
  | _, _, i, a, .nil, e => by simp at e
theorem ArgsAt.length : ∀ {xs : List V} {as : List Arg}, ArgsAt K F σ xs as → xs.length = as.length
  | _, _, .nil => rfl
  | _, _, .cons _ t => by simp [ArgsAt.length t]
theorem places_ix : ∀ {as : List Arg} {i j k : Nat}, (places as).Nodup → as[i]? = some (.p k) → as[j]? = some (.p k) → i = j
  | [], i, j, k, _, h, _ => by simp at h
  | .v d :: as, i, j, k, n, h, g => by
    cases i with
    | zero => simp at h
    | succ i =>
      cases j with
      | zero => simp at g
      | succ j => exact congrArg _ (places_ix (by simpa [places] using n) (by simpa using h) (by simpa using g))
  | .p a :: as, i, j, k, n, h, g => by
    have mem : ∀ {l : List Arg} {i : Nat}, l[i]? = some (.p k) → k ∈ places l := by
      intro l
      induction l with
      | nil => intro i h; simp at h
      | cons b l ih =>
        intro i h
        cases i with
        | zero => simp at h; subst h; simp [places]
        | succ i =>
          have := ih (i := i) (by simpa using h)
          cases b <;> simp [places, this]
    have n' : a ∉ places as ∧ (places as).Nodup := by simpa [places] using n
    cases i with
    | zero =>
      simp at h
      subst h
      cases j with
      | zero => rfl
      | succ j => exact absurd (mem (l := as) (i := j) (by simpa using g)) n'.1
    | succ i =>
      cases j with
      | zero =>
        simp at g
        subst g
        exact absurd (mem (l := as) (i := i) (by simpa using h)) n'.1
      | succ j => exact congrArg _ (places_ix n'.2 (by simpa using h) (by simpa using g))
theorem sameTags_get : ∀ {l m : List Slot}, sameTags l m = true → ∀ {i : Nat}, (∀ t d, l[i]? = some (.own t d) → ∃ d', m[i]? = some (.own t d')) ∧ (∀ t d, m[i]? = some (.own t d) → ∃ d', l[i]? = some (.own t d'))
  | [], [], _, i => ⟨fun _ _ h => by simp at h, fun _ _ h => by simp at h⟩
  | [], _ :: _, h, _ => by simp [sameTags] at h
  | a :: l, [], h, _ => by cases a <;> simp [sameTags] at h
  | a :: l, b :: m, h, i => by
    cases a <;> cases b <;> simp [sameTags] at h <;> (cases i with
      | zero =>
        refine ⟨fun t d e => ?_, fun t d e => ?_⟩ <;> simp at e <;> simp_all
      | succ i => first
        | simpa using sameTags_get h (i := i)
        | simpa using sameTags_get h.2 (i := i))
theorem outAt_get : ∀ {as : List Arg} {os : List Slot} {j : Nat}, (∀ d, outAt as os j = some d → ∃ (n t : Nat), as[n]? = some (.p j) ∧ os[n]? = some (.own t d)) ∧ (outAt as os j = none → ∀ (n t : Nat) (d : D), as[n]? = some (.p j) → os[n]? = some (.own t d) → False)
  | [], os, j => ⟨fun d h => by simp [outAt] at h, fun _ n t d h _ => by simp at h⟩
  | a :: as, [], j => ⟨fun d h => by cases a <;> simp [outAt] at h, fun _ n t d _ h => by simp at h⟩
  | a :: as, o :: os, j => by
    have ih := outAt_get (as := as) (os := os) (j := j)
    have step : outAt (a :: as) (o :: os) j = outAt as os j → (∀ t d, a = .p j → o = .own t d → False) → (∀ d, outAt (a :: as) (o :: os) j = some d → ∃ (n t : Nat), (a :: as)[n]? = some (.p j) ∧ (o :: os)[n]? = some (.own t d)) ∧ (outAt (a :: as) (o :: os) j = none → ∀ (n t : Nat) (d : D), (a :: as)[n]? = some (.p j) → (o :: os)[n]? = some (.own t d) → False) := fun e ne => by
      refine ⟨fun d h => ?_, fun h n t d h1 h2 => ?_⟩
      · obtain ⟨n, t, h1, h2⟩ := ih.1 d (e ▸ h)
        exact ⟨n + 1, t, by simpa using h1, by simpa using h2⟩
      · cases n with
        | zero => simp at h1 h2; exact ne t d h1 h2
        | succ n => exact ih.2 (e ▸ h) n t d (by simpa using h1) (by simpa using h2)
    cases a with
    | v d => exact step (by cases o <;> simp [outAt]) (fun _ _ h _ => by cases h)
    | p i =>
      cases o with
      | un => exact step (by simp [outAt]) (fun _ _ _ h => by cases h)
      | fro d => exact step (by simp [outAt]) (fun _ _ _ h => by cases h)
      | own t d =>
        by_cases c : i = j
        · subst c
          refine ⟨fun d' h => ?_, fun h => ?_⟩
          · simp [outAt] at h
            subst h
            exact ⟨0, t, by simp, by simp⟩
          · simp [outAt] at h
        · exact step (by simp [outAt, c]) (fun _ _ h _ => by cases h; exact c rfl)
theorem wb_own {as : List Arg} {os : List Slot} {j t : Nat} {s : Slot} {d : D} (h : wbS as os j s = .own t d) : ∃ d0, s = .own t d0 := by
  cases s with
  | un => simp [wbS] at h
  | fro d => simp [wbS] at h
  | own t' d' =>
    simp only [wbS] at h
    split at h <;> (cases h; exact ⟨_, rfl⟩)
end
end Oc
end

section
set_option Elab.async false
set_option linter.all false
set_option maxRecDepth 100000
set_option maxHeartbeats 1000000
/-! Oc11: the rule of a call, the rule of a def. -/
namespace Oc
open PySem L2 PyProof.Rows
section
variable {K : PySem.W.Frag} {ps : List V} {F F' H H' : Hp} {σ : L2.St} {env : Env}
theorem tag_mod {t n : Nat} : (if t < 1000 then n + 1 else 1000 + (n + 1)) % 1000 = (n + 1) % 1000 := by
  split
  · rfl
  · omega
/-- the callee's entry -/
theorem Rel.enter {xs : List V} {as : List Arg} {sl : List Slot} (r : Rel K F H ps σ env) (ha : ArgsAt K F σ xs as) (hs : slotsOf env as 0 = some sl) (hn : (places as).Nodup) (hl : as.length ≤ 900) :
    Rel K F H xs (xs.map some) sl ∧ Tagged sl ∧ (∀ n p, Owns (xs.map some) sl n p → ∃ j, as[n]? = some (.p j) ∧ Owns σ env j p) := by
  have hlen := slotsOf_len hs
  have own : ∀ n p, Owns (xs.map some) sl n p → ∃ j, as[n]? = some (.p j) ∧ Owns σ env j p := by
    rintro n p ⟨⟨t, d, h1⟩, h2⟩
    rcases slotsOf_get hs h1 with ⟨d', _, h⟩ | ⟨j, h3, ⟨d', _, h⟩ | ⟨t', d', h4, h5⟩⟩
    · cases h
    · cases h
    · refine ⟨j, h3, ⟨t', d', h4⟩, ?_⟩
      obtain ⟨x, e1, e2⟩ := ha.get h3
      cases e2 with
      | p e2 =>
        rw [List.getElem?_map, e1] at h2
        cases h2
        exact e2
  refine ⟨⟨r.sub, by rw [List.length_map, ha.length, hlen], fun n s h => ?_, fun n m p a b => ?_⟩, fun n t d h => ?_, own⟩
  · rcases slotsOf_get hs h with ⟨d', h3, rfl⟩ | ⟨j, h3, ⟨d', h4, rfl⟩ | ⟨t', d', h4, rfl⟩⟩
    · obtain ⟨x, e1, e2⟩ := ha.get h3
      cases e2 with
      | v e2 => exact ⟨some x, by rw [List.getElem?_map, e1]; rfl, x, rfl, e2⟩
    · obtain ⟨x, e1, e2⟩ := ha.get h3
      cases e2 with
      | p e2 =>
        obtain ⟨y, f1, v, rfl, f2⟩ := r.at_ j _ h4
        rw [e2] at f1
        cases f1
        exact ⟨some x, by rw [List.getElem?_map, e1]; rfl, x, rfl, f2⟩
    · obtain ⟨x, e1, e2⟩ := ha.get h3
      cases e2 with
      | p e2 =>
        obtain ⟨y, f1, p, o, rfl, f2, f3, f4, f5⟩ := r.at_ j _ h4
        rw [e2] at f1
        cases f1
        refine ⟨some (.ref p), by rw [List.getElem?_map, e1]; rfl, p, o, rfl, f2, f3, ?_, fun k hk => ?_⟩
        · rcases f4 with ⟨g1, g2⟩ | ⟨g1, g2⟩
          · have hn : n < as.length := (List.getElem?_eq_some_iff.mp h3).1
            exact .inl ⟨by rw [if_pos g1]; omega, g2⟩
          · exact .inr ⟨by rw [if_neg (by omega)]; omega, g2⟩
        · have hn : n < as.length := (List.getElem?_eq_some_iff.mp h3).1
          rw [tag_mod] at hk
          have : k = n := by omega
          rw [this]
          exact e1
  · obtain ⟨i, h1, h2⟩ := own n p a
    obtain ⟨j, h3, h4⟩ := own m p b
    have := r.dis i j p h2 h4
    subst this
    exact places_ix hn h1 h3
  · rcases slotsOf_get hs h with ⟨d', h3, h⟩ | ⟨j, h3, ⟨d', h4, h⟩ | ⟨t', d', h4, h⟩⟩
    · cases h
    · cases h
    · cases h
      have hn : n < as.length := (List.getElem?_eq_some_iff.mp h3).1
      rw [tag_mod]
      omega
/-- behind the call -/
theorem Rel.leave {xs : List V} {as : List Arg} {sl outs : List Slot} (r : Rel K F H ps σ env) (ha : ArgsAt K F σ xs as) (hs : slotsOf env as 0 = some sl) (hn : (places as).Nodup) (hl : as.length ≤ 900) (ht : sameTags sl outs = true)
    (r' : Rel K F' H' xs (xs.map some) outs) (f' : Fr (xs.map some) sl F H (xs.map some) outs F' H') : Rel K F' H' ps σ (env.mapIdx (wbS as outs)) ∧ Fr σ env F H σ (env.mapIdx (wbS as outs)) F' H' := by
  obtain ⟨r0, tg, own⟩ := r.enter ha hs hn hl
  have ow : ∀ j p, Owns σ (env.mapIdx (wbS as outs)) j p → Owns σ env j p := by
    rintro j p ⟨⟨t, d, h1⟩, h2⟩
    rw [List.getElem?_mapIdx] at h1
    obtain ⟨s, h3, h4⟩ := Option.map_eq_some_iff.mp h1
    obtain ⟨d0, rfl⟩ := wb_own h4
    exact ⟨⟨t, d0, h3⟩, h2⟩
  have nc : ∀ a, (∀ i, ¬ Owns σ env i a) → ∀ n, ¬ Owns (xs.map some) sl n a := fun a h n z => by
    obtain ⟨j, _, w⟩ := own n a z
    exact h j w
  refine ⟨⟨r'.sub, by rw [List.length_mapIdx]; exact r.len, fun j s h => ?_, fun i j p a b => r.dis i j p (ow _ _ a) (ow _ _ b)⟩, ⟨f'.ff, fun a o h n => f'.kh a o h (nc a n), fun a o h1 h2 n => f'.kf a o h1 h2 (nc a n), fun j a z => .inr ⟨j, ow j a z⟩⟩⟩
  rw [List.getElem?_mapIdx] at h
  obtain ⟨s0, h1, h2⟩ := Option.map_eq_some_iff.mp h
  obtain ⟨x, e1, e2⟩ := r.at_ j s0 h1
  refine ⟨x, e1, ?_⟩
  cases s0 with
  | un => simp only [wbS] at h2; subst h2; trivial
  | fro d =>
    simp only [wbS] at h2
    subst h2
    obtain ⟨v, rfl, e3⟩ := e2
    exact ⟨v, rfl, e3.mono f'.ff⟩
  | own t d =>
    obtain ⟨p, o, rfl, e3, e4, e5, e6⟩ := e2
    have hj : Owns σ env j p := ⟨⟨t, d, h1⟩, e1⟩
    simp only [wbS] at h2
    cases c : outAt as outs j with
    | none =>
      rw [c] at h2
      subst h2
      have no : ∀ n, ¬ Owns (xs.map some) sl n p := fun n z => by
        obtain ⟨i, h3, h4⟩ := own n p z
        have := r.dis i j p h4 hj
        subst this
        obtain ⟨⟨t', d', h5⟩, _⟩ := z
        obtain ⟨d'', h6⟩ := (sameTags_get ht).1 t' d' h5
        exact outAt_get.2 c n t' d'' h3 h6
      exact ⟨p, o, rfl, f'.kf p o e3 e4 no, f'.kh p o e4 no, e5.mono f'.ff, e6⟩
    | some d' =>
      rw [c] at h2
      subst h2
      obtain ⟨n, t', h3, h4⟩ := outAt_get.1 d' c
      obtain ⟨y, g1, p', o', rfl, g2, g3, g4, g5⟩ := r'.at_ n _ h4
      obtain ⟨x, k1, k2⟩ := ha.get h3
      cases k2 with
      | p k2 =>
        rw [e1] at k2
        cases k2
        rw [List.getElem?_map, k1] at g1
        cases g1
        refine ⟨p, o', rfl, g2, g3, ?_, e6⟩
        obtain ⟨d2, h5⟩ := (sameTags_get ht).2 t' d' h4
        rcases slotsOf_get hs h5 with ⟨_, _, h⟩ | ⟨j', h6, ⟨_, _, h⟩ | ⟨t2, d3, h7, h8⟩⟩
        · cases h
        · cases h
        · have : j' = j := by rw [h6] at h3; cases h3; rfl
          subst this
          rw [h1] at h7
          cases h7
          cases h8
          have hnn : n < as.length := (List.getElem?_eq_some_iff.mp h3).1
          rcases g4 with ⟨q1, q2⟩ | ⟨q1, q2⟩
          · refine .inl ⟨?_, q2⟩
            split at q1
            · assumption
            · omega
          · refine .inr ⟨?_, q2⟩
            split at q1
            · omega
            · omega
theorem SX.call {m : Mir} {n : Nat} {t : TA} {f : ER} {E : XK} (h : SR K ps t f) (hm : ∀ sl r outs, m sl = some (r, outs) → sl.length = n) : SX K ps (tCall (spM K n m) [] E t) (callE m f) := fun σ H F env z env' r e Q q => by
  obtain ⟨⟨as, e1⟩, h1, e⟩ := Option.bind_eq_some_iff.mp e
  obtain ⟨sl, h2, e⟩ := Option.bind_eq_some_iff.mp e
  obtain ⟨⟨rv, outs⟩, h3, e⟩ := Option.bind_eq_some_iff.mp e
  dsimp only at e
  split at e
  · rename_i hc
    cases e
    refine h σ H F env as e1 r h1 _ fun xs F1 H1 r1 f1 a1 => ?_
    obtain ⟨r0, tg, own⟩ := r1.enter a1 h2 hc.1 hc.2.1
    rw [List.append_nil]
    refine ⟨F1, sl, _, outs, ?_, r0, tg, h3, fun v F2 H2 r2 f2 rs => ?_⟩
    · rw [a1.length, ← slotsOf_len h2]
      exact hm _ _ _ h3
    obtain ⟨r3, f3⟩ := r1.leave a1 h2 hc.1 hc.2.1 hc.2.2 r2 f2
    refine q v F2 H2 r3 (f1.trans f3) ?_
    cases z with
    | val d => exact rs
    | cell d =>
      obtain ⟨p, o, rfl, g1, g2, g3, g4, g5⟩ := rs
      have hp : H1 p = none := by
        rcases g5 with z | ⟨k, z⟩
        · exact z
        · exfalso
          obtain ⟨⟨t', d', z1⟩, z2⟩ := z
          obtain ⟨d'', h6⟩ := (sameTags_get hc.2.2).1 t' d' z1
          exact g4 k ⟨⟨t', d'', h6⟩, z2⟩
      refine ⟨p, o, rfl, g1, g2, g3, fun j z => ?_, ?_⟩
      · obtain ⟨⟨t', d', z1⟩, z2⟩ := z
        rw [List.getElem?_mapIdx] at z1
        obtain ⟨s, h6, h7⟩ := Option.map_eq_some_iff.mp z1
        obtain ⟨d0, rfl⟩ := wb_own h7
        exact not_owns_none r1 hp j ⟨⟨t', d0, h6⟩, z2⟩
      · cases eH : H p with
        | none => exact .inl rfl
        | some u =>
          refine .inr (Classical.byContradiction fun c => ?_)
          have := f1.kh p u eH fun j hj => c ⟨j, hj⟩
          rw [hp] at this; cases this
  · cases e
/-! ### a def -/
def outsOf : List Slot → Env → Option (List Slot)
  | [], _ => some []
  | .own t _ :: as, .own t' d' :: e => if t = t' then (outsOf as e).map (.own t d' :: ·) else none
  | .own _ _ :: _, _ => none
  | _ :: as, _ :: e => (outsOf as e).map (.un :: ·)
  | _ :: _, [] => none
def mkM (n N : Nat) (g : ES) : Mir := fun args => if args.length = n then (g (args ++ List.replicate (N - n) .un)).bind fun (e, fl) => match fl with
    | .rt r => (outsOf args e).map fun o => (r, o)
    | .nx => (outsOf args e).map fun o => (.val .non, o)
    | _ => none
  else none
theorem mkM_len {n N : Nat} {g : ES} {sl : List Slot} {r : RV} {outs : List Slot} (h : mkM n N g sl = some (r, outs)) : sl.length = n := by
  unfold mkM at h
  split at h
  · assumption
  · cases h
theorem outsOf_get : ∀ {as : List Slot} {e : Env} {outs : List Slot}, outsOf as e = some outs → outs.length = as.length ∧ ∀ {i t : Nat} {d : D}, outs[i]? = some (.own t d) → e[i]? = some (.own t d) ∧ ∃ d0, as[i]? = some (.own t d0)
  | [], e, outs, h => by
    rw [outsOf] at h
    cases h
    exact ⟨rfl, fun h => by simp at h⟩
  | a :: as, e, outs, h => by
    cases a with
    | own t d =>
      cases e with
      | nil => simp [outsOf] at h
      | cons b e =>
        cases b with
        | own t' d' =>
          rw [outsOf] at h
          split at h
          · rename_i ht
            subst ht
            obtain ⟨l, h1, rfl⟩ := Option.map_eq_some_iff.mp h
            have ih := outsOf_get h1
            refine ⟨by simp [ih.1], fun {i t2 d2} g => ?_⟩
            cases i with
            | zero => simp at g; simp [g]
            | succ i => simpa using ih.2 (i := i) (t := t2) (d := d2) (by simpa using g)
          · cases h
        | un => simp [outsOf] at h
        | fro d => simp [outsOf] at h
    | un =>
      cases e with
      | nil => simp [outsOf] at h
      | cons b e =>
        simp only [outsOf] at h
        obtain ⟨l, h1, rfl⟩ := Option.map_eq_some_iff.mp h
        have ih := outsOf_get h1
        refine ⟨by simp [ih.1], fun {i t2 d2} g => ?_⟩
        cases i with
        | zero => simp at g
        | succ i => simpa using ih.2 (i := i) (t := t2) (d := d2) (by simpa using g)
    | fro d =>
      cases e with
      | nil => simp [outsOf] at h
      | cons b e =>
        simp only [outsOf] at h
        obtain ⟨l, h1, rfl⟩ := Option.map_eq_some_iff.mp h
        have ih := outsOf_get h1
        refine ⟨by simp [ih.1], fun {i t2 d2} g => ?_⟩
        cases i with
        | zero => simp at g
        | succ i => simpa using ih.2 (i := i) (t := t2) (d := d2) (by simpa using g)
theorem owns_start {N : List Str} {vs : List V} {env : Env} {k i : Nat} {p : Addr} (hl : vs.length = env.length) (h : Owns (start N vs) (env ++ List.replicate k .un) i p) : Owns (vs.map some) env i p := by
  obtain ⟨⟨t, d, h1⟩, h2⟩ := h
  have hi : i < env.length := by
    refine Classical.byContradiction fun c => ?_
    rw [List.getElem?_append_right (by omega), List.getElem?_replicate] at h1
    split at h1 <;> cases h1
  rw [List.getElem?_append_left hi] at h1
  unfold L2.start at h2
  rw [List.getElem?_append_left (by rw [List.length_map]; omega)] at h2
  exact ⟨⟨t, d, h1⟩, h2⟩
theorem start_owns {N : List Str} {vs : List V} {env : Env} {k i : Nat} {p : Addr} (hl : vs.length = env.length) (h : Owns (vs.map some) env i p) : Owns (start N vs) (env ++ List.replicate k .un) i p := by
  obtain ⟨⟨t, d, h1⟩, h2⟩ := h
  have hi : i < env.length := (List.getElem?_eq_some_iff.mp h1).1
  refine ⟨⟨t, d, by rw [List.getElem?_append_left hi]; exact h1⟩, ?_⟩
  unfold L2.start
  rw [List.getElem?_append_left (by rw [List.length_map]; omega)]
  exact h2
theorem def_ok {N : List Str} {n : Nat} {g : ES} {vs : List V} {Q : VK} {E : XK} (hN : n ≤ N.length) (h : spM K n (mkM n N.length g) vs H Q E) : cS K vs g { nx := fun _ H' => Q .non H', rt := Q } (start N vs) H := by
  obtain ⟨F, env, r, outs, hl, rl, tg, hm, k⟩ := h
  unfold mkM at hm
  split at hm
  · rename_i hlen
    obtain ⟨⟨e1, fl⟩, h1, hm⟩ := Option.bind_eq_some_iff.mp hm
    have hle : vs.length = env.length := by have := rl.len; simpa using this
    have r0 : Rel K F H vs (start N vs) (env ++ List.replicate (N.length - n) .un) := by
      refine ⟨rl.sub, by unfold L2.start; simp; omega, fun i s hs => ?_, fun i j p a b => rl.dis i j p (owns_start hle a) (owns_start hle b)⟩
      by_cases hi : i < env.length
      · rw [List.getElem?_append_left hi] at hs
        obtain ⟨x, h2, h3⟩ := rl.at_ i s hs
        refine ⟨x, ?_, h3⟩
        unfold L2.start
        rw [List.getElem?_append_left (by rw [List.length_map]; omega)]
        exact h2
      · rw [List.getElem?_append_right (by omega), List.getElem?_replicate] at hs
        split at hs
        · rename_i hi2
          cases hs
          refine ⟨none, ?_, trivial⟩
          unfold L2.start
          rw [List.getElem?_append_right (by rw [List.length_map]; omega), List.getElem?_replicate, List.length_map, if_pos (by omega)]
        · cases hs
    refine ⟨F, _, e1, fl, r0, h1, fun σ' F' H' r' f' => ?_⟩
    have fin : ∀ (rv : RV) (outs' : List Slot), outsOf env e1 = some outs' → r = rv → outs = outs' → ∀ v, ResS K (start N vs) (env ++ List.replicate (N.length - n) .un) H σ' e1 F' H' v rv → Q v H' := fun rv outs' ho er eo v rs => by
      subst er eo
      obtain ⟨ol, og⟩ := outsOf_get ho
      have oo : ∀ i p, Owns (vs.map some) outs i p → Owns σ' e1 i p := by
        rintro i p ⟨⟨t, d, g1⟩, g2⟩
        obtain ⟨g3, d0, g4⟩ := og g1
        obtain ⟨x, g5, p', o, rfl, _, _, _, g6⟩ := r'.at_ i _ g3
        have := g6 i (tg i t d0 g4)
        rw [List.getElem?_map, this] at g2
        cases g2
        exact ⟨⟨t, d, g3⟩, g5⟩
      refine k v F' H' ⟨r'.sub, by rw [List.length_map, ol]; exact hle, fun i s hs => ?_, fun i j p a b => r'.dis i j p (oo _ _ a) (oo _ _ b)⟩ ⟨f'.ff, fun a o h n => f'.kh a o h fun i z => n i (owns_start hle z), fun a o h1 h2 n => f'.kf a o h1 h2 fun i z => n i (owns_start hle z), fun i a z => ?_⟩ ?_
      · have hi : i < vs.length := by
          have := (List.getElem?_eq_some_iff.mp hs).1
          omega
        refine ⟨some vs[i], by rw [List.getElem?_map, List.getElem?_eq_getElem hi]; rfl, ?_⟩
        cases s with
        | un => trivial
        | fro d =>
          exfalso
          have : ∀ {as : List Slot} {e : Env} {o : List Slot}, outsOf as e = some o → ∀ (i : Nat) d, o[i]? ≠ some (.fro d) := by
            intro as
            induction as with
            | nil => intro e o h i d z; rw [outsOf] at h; cases h; simp at z
            | cons a as ih =>
              intro e o h i d z
              cases e with
              | nil => cases a <;> simp [outsOf] at h
              | cons b e =>
                cases a with
                | own t d0 =>
                  cases b <;> simp [outsOf] at h
                  obtain ⟨_, l, h1, rfl⟩ := h
                  cases i with
                  | zero => simp at z
                  | succ i => exact ih h1 i d (by simpa using z)
                | un =>
                  simp only [outsOf] at h
                  obtain ⟨l, h1, rfl⟩ := Option.map_eq_some_iff.mp h
                  cases i with
                  | zero => simp at z
                  | succ i => exact ih h1 i d (by simpa using z)
                | fro d0 =>
                  simp only [outsOf] at h
                  obtain ⟨l, h1, rfl⟩ := Option.map_eq_some_iff.mp h
                  cases i with
                  | zero => simp at z
                  | succ i => exact ih h1 i d (by simpa using z)
          exact this ho i d hs
        | own t d =>
          obtain ⟨g3, d0, g4⟩ := og hs
          obtain ⟨x, g5, p', o, rfl, g6, g7, g8, g9⟩ := r'.at_ i _ g3
          have := g9 i (tg i t d0 g4)
          exact ⟨p', o, by rw [List.getElem?_eq_getElem hi] at this; exact this, g6, g7, g8, g9⟩
      · rcases f'.nw i a (oo i a z) with w | ⟨j, w⟩
        · exact .inl w
        · exact .inr ⟨j, owns_start hle w⟩
      · cases r with
        | val d => exact rs
        | cell d =>
          obtain ⟨p, o, rfl, g1, g2, g3, g4, g5⟩ := rs
          refine ⟨p, o, rfl, g1, g2, g3, fun i z => g4 i (oo i p z), ?_⟩
          rcases g5 with w | ⟨j, w⟩
          · exact .inl w
          · exact .inr ⟨j, owns_start hle w⟩
    cases fl with
    | bk => cases hm
    | ct => cases hm
    | nx =>
      obtain ⟨o, h2, h3⟩ := Option.map_eq_some_iff.mp hm
      cases h3
      exact fin _ _ h2 rfl rfl .non Rp.non
    | rt rv =>
      obtain ⟨o, h2, h3⟩ := Option.map_eq_some_iff.mp hm
      cases h3
      exact fun v rs => fin _ _ h2 rfl rfl v rs
  · cases hm
end
section
variable {P : Program} {w : World} {K : PySem.W.Frag} {mg : Str → Option Value} {base : Heap}
/-- a def of the text keeps the promise of its body's mirror -/
theorem fn_ok {x qual : Str} {st : Stmt} {f : Addr} {fd : FuncData} {N ps : List Str} {k : Nat} {g : ES} (F : Fun K x qual st f fd) (S : FnScope N ps (defScope st)) (hN : ps.length ≤ N.length)
    (hb : ∀ (cdv : Value) (A : Around) (outer : List PySem.Env) (s : Shared) (H : Hp) (vs : List V) (E : XK), Room k (A.deeper (envOfC qual (defScope st) s.heap.objs.size f cdv)) → QSs (cxOf CX0 P w K mg base N qual (defScope st) f cdv A outer s H E).nox vs (defBody st) g) :
    FnOk P w K mg base CX0 (k + 1) f fd ps (spM K ps.length (mkM ps.length N.length g)) :=
  F.ok S (fun vs H Q E h => by obtain ⟨_, _, _, _, h, _⟩ := h; exact h) fun cdv A outer s H vs Q E hr h => ⟨_, hb cdv A outer s H vs E hr, def_ok hN h⟩
end
section
variable {X : Cx} {ps : List V} {e : Expr} {pos p : Pos}
theorem e_call {m : Mir} {n k : Nat} {f : Addr} {fd : FuncData} {pn : List Str} {x : Str} {es : List Expr} {fr : ER} (G : FnOk X.prog X.w X.K X.mg X.base CX0 k f fd pn (spM X.K n m)) (hm : ∀ sl r outs, m sl = some (r, outs) → sl.length = n) (hr : Room k X.A) (hg : Gl X x) (hx : X.mg x = some (.ref f)) (hk : PySem.W.keepIn X.K (.ref f) = true) (hb : Binds X.K fd pn [])
    (ha : PRs X ps (e :: es) fr) (hdb : (x == ("__debug__" : Str)) = false := by decide) (he : starEach (e :: es) X.env = (false, eval e X.env) :: starEach es X.env := by rfl) (hpl : (backTo pos (starEach es X.env)).any (·.1) = false := by rfl) :
    PX X ps (.Call (.Name x p) (e :: es) [] pos) (callE m fr) := (SX.call SR.c hm).px (pe_call G hr hg hx hk hb .nil pass0 ha hdb he hpl)
end
end Oc
end

section
set_option Elab.async false
set_option linter.all false
set_option maxRecDepth 100000
set_option maxHeartbeats 1000000
/-! Oc12: what changes an object of a slot's own; built-ins. -/
namespace Oc
open PySem L2 PyProof.Rows
section
variable {K : PySem.W.Frag} {ps : List V} {F F1 H H1 : Hp} {σ : L2.St} {env : Env} {i t : Nat} {d0 d : D} {p : Addr} {o' : HO}
/-- an object of a slot's own is written -/
theorem Rel.store (r : Rel K F H ps σ env) (e : env[i]? = some (.own t d0)) (hp : σ[i]? = some (some (.ref p))) (ht : t < 1000) (c : CellO K F o' d) :
    Rel K F (upd H p o') ps σ (env.set i (.own t d)) ∧ Fr σ env F H σ (env.set i (.own t d)) F (upd H p o') := by
  have hown : Owns σ env i p := ⟨⟨t, d0, e⟩, hp⟩
  obtain ⟨x, h1, p', o, rfl, h2, h3, h4, h5⟩ := r.at_ i _ e
  rw [hp] at h1
  cases h1
  have ow : ∀ j q, Owns σ (env.set i (.own t d)) j q → Owns σ env j q := by
    rintro j q ⟨⟨t', d', g1⟩, g2⟩
    by_cases c : i = j
    · subst c
      exact ⟨⟨t, d0, e⟩, g2⟩
    · rw [List.getElem?_set_ne c] at g1
      exact ⟨⟨t', d', g1⟩, g2⟩
  refine ⟨⟨fun a u h => ?_, by rw [List.length_set]; exact r.len, fun j s h => ?_, fun j k q a b => r.dis j k q (ow _ _ a) (ow _ _ b)⟩, ⟨Same.refl _, fun a u h n => ?_, fun _ _ h _ _ => h, fun j a z => .inr ⟨j, ow j a z⟩⟩⟩
  · rw [upd_ne (ne_of_none h h2)]; exact r.sub a u h
  · by_cases c2 : i = j
    · subst c2
      have hi : i < env.length := (List.getElem?_eq_some_iff.mp e).1
      rw [List.getElem?_set, if_pos rfl, if_pos hi] at h
      cases h
      exact ⟨_, hp, p, o', rfl, h2, upd_same, .inl ⟨ht, c⟩, h5⟩
    · rw [List.getElem?_set_ne c2] at h
      obtain ⟨x, g1, g2⟩ := r.at_ j s h
      refine ⟨x, g1, ?_⟩
      cases s with
      | un => trivial
      | fro d => exact g2
      | own t2 d2 =>
        obtain ⟨q, u, rfl, k2, k3, k4, k5⟩ := g2
        refine ⟨q, u, rfl, k2, ?_, k4, k5⟩
        rw [upd_ne]
        · exact k3
        · rintro rfl
          exact c2 (r.dis i j q hown ⟨⟨t2, d2, h⟩, g1⟩)
  · rw [upd_ne]
    · exact h
    · rintro rfl
      exact n i hown
/-- a slot's own list, dict, now -/
def ownL (env : Env) (i : Nat) : Option (Nat × List D) := match env[i]? with
  | some (.own t (.lst l)) => if t < 1000 then some (t, l) else none
  | _ => none
theorem ownL_at (r : Rel K F H ps σ env) {l : List D} (h : ownL env i = some (t, l)) : env[i]? = some (.own t (.lst l)) ∧ t < 1000 ∧ ∃ p xs, σ[i]? = some (some (.ref p)) ∧ H p = some (.lst xs) ∧ RpA K F xs l ∧ F p = none := by
  unfold ownL at h
  split at h
  · rename_i t' l' e
    split at h
    · rename_i ht
      cases h
      obtain ⟨x, h1, p, o, rfl, h2, h3, h4, h5⟩ := r.at_ i _ e
      have h6 := h4.of ht
      cases h6 with
      | lst h6 => exact ⟨e, ht, p, _, h1, h3, h6, h2⟩
    · cases h
  · cases h
/-! ### x.append(e) -/
def appE (i : Nat) (f : EV) : EX := fun env => (ownL env i).bind fun _ => (f env).bind fun (d, e1) => (ownL e1 i).bind fun (t, l) => if l.length < lim then some (.val .non, e1.set i (.own t (.lst (l ++ [d])))) else none
theorem SX.app {te : TE} {f : EV} (i : Nat) (h : SV K ps te f) : SX K ps (tBM K "list" rAppend (tVar i) (tCons te tNil)) (appE i f) := fun σ H F env z env' r e Q q => by
  obtain ⟨⟨t0, l0⟩, h0, e⟩ := Option.bind_eq_some_iff.mp e
  obtain ⟨⟨d, e1⟩, h1, e⟩ := Option.bind_eq_some_iff.mp e
  obtain ⟨⟨t, l⟩, h2, e⟩ := Option.bind_eq_some_iff.mp e
  dsimp only at e
  split at e
  · rename_i hl
    cases e
    obtain ⟨_, _, p0, xs0, k1, k2, _, _⟩ := ownL_at r h0
    refine ⟨_, k1, .inl ⟨rfl, _, SqL.of k2⟩, ?_⟩
    refine h σ H F env d e1 r h1 _ fun v F1 H1 r1 f1 p1 => ?_
    obtain ⟨g0, g1, p, xs, g2, g3, g4, _⟩ := ownL_at r1 h2
    rw [g2] at k1
    cases k1
    obtain ⟨r2, f2⟩ := r1.store g0 g2 g1 (CellO.lst (g4.app (.cons p1 .nil)))
    exact ⟨_, xs, v, rfl, rfl, g3, lim_lt (by rw [g4.length]; exact hl), q _ F1 _ r2 (f1.trans f2) Rp.non⟩
  · cases e
/-! ### x.pop(k), x.pop() -/
def popAtE (i : Nat) (f : EV) : EX := fun env => (ownL env i).bind fun _ => (f env).bind fun (d, e1) => (ownL e1 i).bind fun (t, l) => match d with
  | .int k => if -(2 ^ 63) ≤ k ∧ k < 2 ^ 63 then (seqIndex? k l.length).bind fun j => (l[j]?).map fun y => (.val y, e1.set i (.own t (.lst (l.eraseIdx j)))) else none
  | _ => none
theorem SX.popAt {te : TE} {f : EV} (i : Nat) (h : SV K ps te f) : SX K ps (tBM K "list" rPopAt (tVar i) (tCons te tNil)) (popAtE i f) := fun σ H F env z env' r e Q q => by
  obtain ⟨⟨t0, l0⟩, h0, e⟩ := Option.bind_eq_some_iff.mp e
  obtain ⟨⟨d, e1⟩, h1, e⟩ := Option.bind_eq_some_iff.mp e
  obtain ⟨⟨t, l⟩, h2, e⟩ := Option.bind_eq_some_iff.mp e
  dsimp only at e
  split at e
  · split at e
    · rename_i hk
      obtain ⟨j, h3, e⟩ := Option.bind_eq_some_iff.mp e
      obtain ⟨y, h4, e⟩ := Option.map_eq_some_iff.mp e
      cases e
      obtain ⟨_, _, p0, xs0, k1, k2, _, _⟩ := ownL_at r h0
      refine ⟨_, k1, .inl ⟨rfl, _, SqL.of k2⟩, ?_⟩
      refine h σ H F env _ e1 r h1 _ fun v F1 H1 r1 f1 p1 => ?_
      cases p1
      obtain ⟨g0, g1, p, xs, g2, g3, g4, _⟩ := ownL_at r1 h2
      rw [g2] at k1
      cases k1
      obtain ⟨w, h5, h6⟩ := g4.get h4
      obtain ⟨r2, f2⟩ := r1.store g0 g2 g1 (CellO.lst (g4.erase j))
      exact ⟨_, xs, _, j, w, rfl, rfl, g3, hk.1, hk.2, by rw [g4.length]; exact h3, h5, q w F1 _ r2 (f1.trans f2) h6⟩
    · cases e
  · cases e
/-! ### x[k] = e -/
def ownD (env : Env) (i : Nat) : Option (Nat × D) := match env[i]? with
  | some (.own t d) => if t < 1000 then some (t, d) else none
  | _ => none
theorem ownD_at (r : Rel K F H ps σ env) (h : ownD env i = some (t, d)) : env[i]? = some (.own t d) ∧ t < 1000 ∧ ∃ p o, σ[i]? = some (some (.ref p)) ∧ H p = some o ∧ CellO K F o d ∧ F p = none := by
  unfold ownD at h
  split at h
  · rename_i t' l' e
    split at h
    · rename_i ht
      cases h
      obtain ⟨x, h1, p, o, rfl, h2, h3, h4, h5⟩ := r.at_ i _ e
      exact ⟨e, ht, p, o, h1, h3, h4.of ht, h2⟩
    · cases h
  · cases h
def putD (x k v : D) : Option D := match x with
  | .dk es => if es.length < lim then (keyOf k).map fun k' => .dk (storeK es k' v) else none
  | .dt es => match k with
    | .tup l => if es.length < lim then (keysOf l).map fun k' => .dt (storeK es k' v) else none
    | _ => none
  | .lst l => match k with
    | .int j => (ixN l.length j).map fun n => .lst (l.set n v)
    | _ => none
  | _ => none
/-- the value, the slot, the key -/
def putS (i : Nat) (fv fk : EV) : ES := fun env => (fv env).bind fun (v, e1) => (peek e1 i).bind fun _ => (fk e1).bind fun (k, e2) => (ownD e2 i).bind fun (t, x) => (putD x k v).map fun y => (e2.set i (.own t y), .nx)
theorem SS.put {tv tk : TE} {fv fk : EV} (i : Nat) (hv : SV K ps tv fv) (hk : SV K ps tk fk) : SS K ps (fun D σ H => sDPut (tVar i) tk tv D σ H ∨ tAsg tv (gSub (tVar i) tk rSetL) D σ H) (putS i fv fk) := fun σ H F env env' fl r e D q => by
  obtain ⟨⟨v, e1⟩, h1, e⟩ := Option.bind_eq_some_iff.mp e
  obtain ⟨x0, h0, e⟩ := Option.bind_eq_some_iff.mp e
  obtain ⟨⟨k, e2⟩, h2, e⟩ := Option.bind_eq_some_iff.mp e
  obtain ⟨⟨t, x⟩, h3, e⟩ := Option.bind_eq_some_iff.mp e
  obtain ⟨y, h4, e⟩ := Option.map_eq_some_iff.mp e
  cases e
  have main : ∀ (R : V → V → V → Hp → Prop), (∀ v1 kv p F2 H2 o, Rel K F2 H2 ps σ e2 → Fr σ env F H σ e2 F2 H2 → Rp K F2 v1 v → Rp K F2 kv k → σ[i]? = some (some (.ref p)) → e2[i]? = some (.own t x) → t < 1000 → H2 p = some o → CellO K F2 o x → R v1 (.ref p) kv H2) → tv σ H fun v1 H1 => tVar i σ H1 fun xv H1' => tk σ H1' fun kv H2 => R v1 xv kv H2 := fun R k1 => by
    refine hv σ H F env v e1 r h1 _ fun v1 F1 H1 r1 f1 p1 => ?_
    obtain ⟨xv, hx, _⟩ := r1.peek h0
    refine ⟨xv, hx, hk σ H1 F1 e1 k e2 r1 h2 _ fun kv F2 H2 r2 f2 p2 => ?_⟩
    obtain ⟨g0, g1, p, o, g2, g3, g4, _⟩ := ownD_at r2 h3
    rw [g2] at hx
    cases hx
    exact k1 v1 kv p F2 H2 o r2 (f1.trans f2) (p1.mono f2.ff) p2 g2 g0 g1 g3 g4
  unfold putD at h4
  split at h4
  · split at h4
    · rename_i es hl
      obtain ⟨k', h5, rfl⟩ := Option.map_eq_some_iff.mp h4
      refine .inl (main _ fun v1 kv p F2 H2 o r2 f2 pv pk g2 g0 g1 g3 g4 => ?_)
      cases g4 with
      | dK g4 =>
        obtain ⟨r3, f3⟩ := r2.store g0 g2 g1 (CellO.dK (g4.put (k := k') pv))
        rw [keyOf_v h5 pk]
        exact ⟨p, _, rfl, DPut.k g3 (lim_lt (by rw [g4.len]; exact hl)), q σ F2 _ r3 (f2.trans f3)⟩
    · cases h4
  · split at h4
    · split at h4
      · rename_i es _ l hl
        obtain ⟨k', h5, rfl⟩ := Option.map_eq_some_iff.mp h4
        refine .inl (main _ fun v1 kv p F2 H2 o r2 f2 pv pk g2 g0 g1 g3 g4 => ?_)
        cases g4 with
        | dT g4 =>
          obtain ⟨r3, f3⟩ := r2.store g0 g2 g1 (CellO.dT (g4.put (k := k') pv))
          cases pk with
          | tup a b =>
            exact ⟨p, _, rfl, DPut.t g3 (by rw [r2.sub _ _ a, keysOf_v h5 b]) (lim_lt (by rw [g4.len]; exact hl)), q σ F2 _ r3 (f2.trans f3)⟩
      · cases h4
    · cases h4
  · split at h4
    · rename_i l _ j
      obtain ⟨n, h5, rfl⟩ := Option.map_eq_some_iff.mp h4
      refine .inr (main _ fun v1 kv p F2 H2 o r2 f2 pv pk g2 g0 g1 g3 g4 => ?_)
      cases pk
      cases g4 with
      | lst g4 =>
        obtain ⟨r3, f3⟩ := r2.store g0 g2 g1 (CellO.lst (g4.set pv n))
        exact ⟨p, _, _, n, rfl, rfl, g3, by rw [g4.length]; exact h5, q σ F2 _ r3 (f2.trans f3)⟩
    · cases h4
  · cases h4
/-! ### d.get(k, x), d.get(k) -/
def dictD : D → Bool
  | .dk _ => true
  | .dt _ => true
  | _ => false
theorem isD_at {x : V} {d : D} (h : Sh K F H x d) (e : dictD d = true) : ∃ p, x = .ref p ∧ IsD H p := by
  cases d <;> first | (cases e; done) | (obtain ⟨p, ks, rfl, h1, _⟩ := h; first | exact ⟨p, rfl, .inl ⟨ks, h1⟩⟩ | exact ⟨p, rfl, .inr ⟨ks, h1⟩⟩)
def get2E (i : Nat) (fk fx : EV) : EX := fun env => (peek env i).bind fun x0 => if dictD x0 = true then (fk env).bind fun (k, e1) => (fx e1).bind fun (y, e2) => (peek e2 i).bind fun x => (dget x k).map fun o => (.val (o.getD y), e2) else none
theorem SX.get2 {tk tx : TE} {fk fx : EV} (i : Nat) (hk : SV K ps tk fk) (hx : SV K ps tx fx) : SX K ps (tDGet2 (tVar i) tk tx) (get2E i fk fx) := fun σ H F env z env' r e Q q => by
  obtain ⟨x0, h0, e⟩ := Option.bind_eq_some_iff.mp e
  dsimp only at e
  split at e
  · rename_i hd
    obtain ⟨⟨k, e1⟩, h1, e⟩ := Option.bind_eq_some_iff.mp e
    obtain ⟨⟨y, e2⟩, h2, e⟩ := Option.bind_eq_some_iff.mp e
    obtain ⟨x, h3, e⟩ := Option.bind_eq_some_iff.mp e
    obtain ⟨o, h4, e⟩ := Option.map_eq_some_iff.mp e
    cases e
    obtain ⟨xv, g1, s0⟩ := r.peek h0
    obtain ⟨p, rfl, hp⟩ := isD_at s0 hd
    refine ⟨_, g1, p, rfl, hp, hk σ H F env k e1 r h1 _ fun kv F1 H1 r1 f1 p1 => hx σ H1 F1 e1 y _ r1 h2 _ fun yv F2 H2 r2 f2 p2 => ?_⟩
    obtain ⟨xv2, g2, s2⟩ := r2.peek h3
    rw [g1] at g2
    cases g2
    obtain ⟨p', ov, e3, _, g, hv⟩ := dget_sh r2.sub h4 s2 ((p1.mono f2.ff).sh r2.sub)
    cases e3
    refine ⟨ov, g, ?_⟩
    cases o with
    | none => obtain rfl : ov = none := hv; exact q _ F2 H2 r2 (f1.trans f2) p2
    | some d => obtain ⟨v, rfl, hv⟩ := hv; exact q _ F2 H2 r2 (f1.trans f2) hv
  · cases e
/-! ### calls of built-ins with one argument -/
def C1 (K : PySem.W.Frag) (r : List V → Hp → VK → Prop) (g : D → Option RV) : Prop := ∀ (F H : Hp) (x : V) (a : D) (z : RV) (Q : VK), Ex F H → Sh K F H x a → g a = some z → Got K F H Q z → r [x] H Q
def op1 (f : E1) (g : D → Option RV) : EX := fun env => (f env).bind fun (a, e) => (g a).map fun z => (z, e)
theorem SX.one {r : List V → Hp → VK → Prop} {t : TE} {f : E1} {g : D → Option RV} (hr : C1 K r g) (h : S1 K ps t f) : SX K ps (tCB r (tCons t tNil)) (op1 f g) := fun σ H F env z env' rl e Q q => by
  obtain ⟨⟨a, e1⟩, h1, e⟩ := Option.bind_eq_some_iff.mp e
  obtain ⟨z', h3, e⟩ := Option.map_eq_some_iff.mp e
  cases e
  exact h σ H F env a _ rl h1 _ fun x F1 H1 r1 f1 s1 => hr F1 H1 x a _ Q r1.sub s1 h3 (fin_rv r1 f1 q)
def lenD : D → Option RV
  | .lst l => some (.val (.int l.length))
  | .tup l => some (.val (.int l.length))
  | .dk l => some (.val (.int l.length))
  | .str z => if z.length ≤ lim then some (.val (.int z.length)) else none
  | _ => none
def listD : D → Option RV
  | .lst l => some (.cell (.lst l))
  | .tup l => some (.cell (.lst l))
  | _ => none
def intD : D → Option RV
  | .int i => some (.val (.int i))
  | .bl b => some (.val (.int (if b then 1 else 0)))
  | _ => none
def strD : D → Option RV
  | .int i => if i.natAbs.log2 < 1920 then some (.val (.str (toString i))) else none
  | _ => none
def rLenA (K : PySem.W.Frag) : List V → Hp → VK → Prop := fun xs H Q => (∃ p ys, xs = [.ref p] ∧ (SqL K H p ys ∨ SqT K H p ys) ∧ Q (.int ys.length) H) ∨ ((∃ z, xs = [V.str z] ∧ z.length ≤ sizeLine ∧ Q (.int z.length) H) ∨ ∃ a kvs, xs = [V.ref a] ∧ Rd H a (.dK kvs) ∧ Q (.int kvs.length) H)
theorem call_lenDR {X : Cx} : CallR X (.builtin "len") (fun xs H Q => ∃ a kvs, xs = [V.ref a] ∧ Rd H a (.dK kvs) ∧ Q (.int kvs.length) H) := by
  intro pins s σ H xs us Q I r h
  obtain ⟨a, kvs, rfl, hd, q⟩ := h
  obtain ⟨u, rfl, ru⟩ := r.one
  cases ru
  exact d_len I hd fun t s' I' => ⟨.int kvs.length, H, I', ⟨_, rfl⟩, q⟩
theorem c1_len : C1 K (rLenA K) lenD := fun F H x a z Q e s h q => by
  unfold lenD at h
  split at h
  · cases h
    obtain ⟨p, xs, rfl, h1, h2⟩ := s
    exact .inl ⟨p, xs, rfl, .inl (.inl h1), by rw [h2.length]; exact q _ (.int _)⟩
  · cases h
    cases s with
    | tup h1 h2 => exact .inl ⟨_, _, rfl, .inr (SqT.of (e _ _ h1)), by rw [h2.length]; exact q _ (.int _)⟩
  · cases h
    obtain ⟨p, xs, rfl, h1, h2⟩ := s
    exact .inr (.inr ⟨p, xs, rfl, h1, by rw [h2.len]; exact q _ (.int _)⟩)
  · split at h
    · rename_i hl
      cases h
      cases s
      exact .inr (.inl ⟨_, rfl, lim_le hl, q _ (.int _)⟩)
    · cases h
  · cases h
theorem c1_list : C1 K (fun xs H Q => ∃ p ys, xs = [.ref p] ∧ (SqL K H p ys ∨ SqT K H p ys) ∧ ∀ l, H l = none → Q (.ref l) (upd H l (.lst ys))) listD := fun F H x a z Q e s h q => by
  unfold listD at h
  split at h
  · cases h
    obtain ⟨p, xs, rfl, h1, h2⟩ := s
    exact ⟨p, xs, rfl, .inl (.inl h1), fun l hl => q l _ hl (.lst h2)⟩
  · cases h
    cases s with
    | tup h1 h2 => exact ⟨_, _, rfl, .inr (SqT.of (e _ _ h1)), fun l hl => q l _ hl (.lst h2)⟩
  · cases h
theorem c1_int : C1 K (fun xs H Q => (∃ i, xs = [.int i] ∧ Q (.int i) H) ∨ ∃ k, xs = [.bl k] ∧ Q (.int (if k then 1 else 0)) H) intD := fun F H x a z Q e s h q => by
  unfold intD at h
  split at h
  · cases h; cases s; exact .inl ⟨_, rfl, q _ (.int _)⟩
  · cases h; cases s; exact .inr ⟨_, rfl, q _ (.int _)⟩
  · cases h
theorem c1_str : C1 K (fun xs H Q => ∃ i, xs = [.int i] ∧ i.natAbs.log2 < 1920 ∧ Q (.str (toString i)) H) strD := fun F H x a z Q e s h q => by
  unfold strD at h
  split at h
  · split at h
    · rename_i hl; cases h; cases s; exact ⟨_, rfl, hl, q _ (.str _)⟩
    · cases h
  · cases h
end
/-! ### d.copy() -/
def rCopy : V → List V → Hp → VK → Prop := fun x xs H Q => ∃ a kvs, x = .ref a ∧ xs = [] ∧ H a = some (.dK kvs) ∧ ∀ p, H p = none → Q (.ref p) (upd H p (.dK kvs))
theorem mt_copy {X : Cx} : MtR X "dict.copy" rCopy := by
  intro pins s σ H x xs v us Q I rx rxs h
  obtain ⟨a, kvs, rfl, rfl, hd, q⟩ := h
  cases rx
  cases rxs
  obtain ⟨z, hd2, vs, rel, dd⟩ := dk_of I.hok hd
  refine call_meetsIn PySem.F.slot_dict_copy dd.typeIs PySem.F.entry_dict_copy (PySem.F.args_dict_copy_1 _) (meets_dict_copy (mixKind X.prog X.w) a hd2) ⟨vs, dd, by rw [← rel.length]; exact z, fun h' d1 d2 k => ?_⟩
  refine ⟨.ref s.heap.objs.size, _, I.laid (a := s.heap.objs.size) (o := .dK kvs) (t' := s.toks) k (Nat.le_refl _) (dk_new z (beq_eq_false_iff_ne.mpr (Ne.symm (Nat.ne_of_lt I.big))) rel d1), rfl, q _ (I.hok.fresh (Nat.le_refl _))⟩
def copyE (i : Nat) : EX := fun env => match env[i]? with
  | some (.own t (.dk es)) => if t < 1000 then some (.cell (.dk es), env) else none
  | _ => none
theorem SX.copy {K : PySem.W.Frag} {ps : List V} (i : Nat) : SX K ps (tBM0 K "dict" rCopy (tVar i)) (copyE i) := fun σ H F env z env' r e Q q => by
  unfold copyE at e
  split at e
  · rename_i t es h1
    split at e
    · rename_i ht
      cases e
      obtain ⟨x, g1, p, o, rfl, g2, g3, g4, g5⟩ := r.at_ i _ h1
      have g4 := g4.of ht
      cases g4 with
      | dK g4 => exact ⟨_, g1, .inr (.inr (.inl ⟨rfl, .inl ⟨_, g3⟩⟩)), p, _, rfl, rfl, g3, fun w hw => fin_rv (z := .cell (.dk es)) r Fr.refl q w _ hw (.dK g4)⟩
    · cases e
  · cases e
/-! ### -n, a if c else b, a < b < c -/
def negE (f : EV) : EX := fun env => (f env).bind fun (d, e) => match d with
  | .int i => some (.val (.int (-i)), e)
  | _ => none
theorem SX.neg {K : PySem.W.Frag} {ps : List V} {t : TE} {f : EV} (h : SV K ps t f) : SX K ps (tUn (rU fun i => .int (-i)) t) (negE f) := fun σ H F env z env' r e Q q => by
  obtain ⟨⟨d, e1⟩, h1, e⟩ := Option.bind_eq_some_iff.mp e
  dsimp only at e
  split at e
  · cases e
    refine h σ H F env _ _ r h1 _ fun v F' H' r' f' p => ?_
    cases p
    exact ⟨_, rfl, q _ F' H' r' f' (Rp.int _)⟩
  · cases e
def iteE (c : EB) (f g : EX) : EX := fun env => (c env).bind fun (b, e) => if b = true then f e else g e
theorem SX.ite {K : PySem.W.Frag} {ps : List V} {c : TT} {ta tb : TE} {b : EB} {f g : EX} (hc : SB K ps c b) (h : SX K ps ta f) (k : SX K ps tb g) : SX K ps (tIf c ta tb) (iteE b f g) := fun σ H F env z env' r e Q q => by
  obtain ⟨⟨w, e1⟩, h1, e⟩ := Option.bind_eq_some_iff.mp e
  refine hc σ H F env w e1 r h1 _ fun F1 H1 r1 f1 => ?_
  cases w with
  | true => exact h σ H1 F1 e1 z env' r1 e Q fun v F2 H2 r2 f2 rs => q v F2 H2 r2 (f1.trans f2) (rs.trans f1)
  | false => exact k σ H1 F1 e1 z env' r1 e Q fun v F2 H2 r2 f2 rs => q v F2 H2 r2 (f1.trans f2) (rs.trans f1)
def chainE (p p' : Int → Int → Bool) (f : E2) (fc : EV) : EX := fun env => (f env).bind fun (a, b, e1) => match a, b with
  | .int i, .int j => if p i j = true then (fc e1).bind fun (c, e2) => match c with
      | .int k => some (.val (.bl (p' j k)), e2)
      | _ => none
    else some (.val (.bl false), e1)
  | _, _ => none
theorem SX.chain {K : PySem.W.Frag} {ps : List V} {p p' : Int → Int → Bool} {ta tb tc : TE} {f : E2} {fc : EV} (h : S2 K ps (t2 ta tb) f) (hc : SV K ps tc fc) : SX K ps (tChain (rI0 fun i j => .bl (p i j)) (rI0 fun i j => .bl (p' i j)) ta tb tc) (chainE p p' f fc) := fun σ H F env z env' r e Q q => by
  obtain ⟨⟨a, b, e1⟩, h1, e⟩ := Option.bind_eq_some_iff.mp e
  dsimp only at e
  split at e
  · rename_i i j
    refine h σ H F env _ _ e1 r h1 (fun x y H2 => (rI0 fun i j => .bl (p i j)) x y H2 fun z H3 => ∃ k, z = .bl k ∧ if k = true then tc σ H3 fun w' H4 => (rI0 fun i j => .bl (p' i j)) y w' H4 Q else Q (.bl false) H3) fun x y F1 H1 r1 f1 sa sb => ?_
    cases sa; cases sb
    refine ⟨i, j, rfl, rfl, p i j, rfl, ?_⟩
    split at e
    · rename_i hp
      rw [if_pos hp]
      obtain ⟨⟨c, e2⟩, h2, e⟩ := Option.bind_eq_some_iff.mp e
      dsimp only at e
      split at e
      · rename_i k
        cases e
        refine hc σ H1 F1 e1 _ _ r1 h2 _ fun w F2 H2 r2 f2 p2 => ?_
        cases p2
        exact ⟨j, k, rfl, rfl, q _ F2 H2 r2 (f1.trans f2) (Rp.bl _)⟩
      · cases e
    · rename_i hp
      cases e
      rw [if_neg hp]
      exact q _ F1 H1 r1 f1 (Rp.bl false)
  · cases e
/-! ### str * n -/
def repS (x : Str) (n : Int) : Str := ⟨(List.replicate n.toNat x.cps).foldl (· ++ ·) #[]⟩
section
variable {X : Cx} {ps : List V} {e : Expr} {st : Stmt}
theorem e_app {i : Nat} {fe : EV} (P : PE X e (tBM X.K "list" rAppend (tVar i) (tCons (cV X.K ps fe) tNil))) : PX X ps e (appE i fe) := (SX.app i SV.c).px P
theorem e_popAt {i : Nat} {fe : EV} (P : PE X e (tBM X.K "list" rPopAt (tVar i) (tCons (cV X.K ps fe) tNil))) : PX X ps e (popAtE i fe) := (SX.popAt i SV.c).px P
theorem q_put {i : Nat} {fv fk : EV} (P : PS X st (sDPut (tVar i) (cV X.K ps fk) (cV X.K ps fv))) (P2 : PS X st (tAsg (cV X.K ps fv) (gSub (tVar i) (cV X.K ps fk) rSetL))) : QS X ps st (putS i fv fk) := (SS.put i SV.c SV.c).qs (PS_or P P2)
theorem e_get2 {i : Nat} {fk fx : EV} (P : PE X e (tDGet2 (tVar i) (cV X.K ps fk) (cV X.K ps fx))) : PX X ps e (get2E i fk fx) := (SX.get2 i SV.c SV.c).px P
theorem e_1v {r : List V → Hp → VK → Prop} {g : D → Option RV} {f : EV} (hr : C1 X.K r g) (P : PE X e (tCB r (tCons (cV X.K ps f) tNil))) : PX X ps e (op1 f g) := (SX.one hr SV.c.s1).px P
theorem e_1p {r : List V → Hp → VK → Prop} {g : D → Option RV} {i : Nat} (hr : C1 X.K r g) (P : PE X e (tCB r (tCons (tVar i) tNil))) : PX X ps e (op1 (look i) g) := (SX.one hr (S1.look i)).px P
theorem e_copy {i : Nat} (P : PE X e (tBM0 X.K "dict" rCopy (tVar i))) : PX X ps e (copyE i) := (SX.copy i).px P
theorem e_neg {f : EV} (P : PE X e (tUn (rU fun i => .int (-i)) (cV X.K ps f))) : PX X ps e (negE f) := (SX.neg SV.c).px P
theorem e_ite {c : EB} {f g : EX} (P : PE X e (tIf (cB X.K ps c) (cX X.K ps f) (cX X.K ps g))) : PX X ps e (iteE c f g) := (SX.ite SB.c SX.c SX.c).px P
/-- len: a list, a tuple, a text, a dict -/
theorem call_lenA : CallR X (.builtin "len") (rLenA X.K) := CallR.or call_len_seq (CallR.or call_len_str call_lenDR)
theorem e_chain {p p' : Int → Int → Bool} {ta tb : TE} {f : E2} {fc : EV} {a b c : Expr} (h : P2 X ps a b f) (P : ∀ ta tb, PE X a ta → PE X b tb → PE X e (tChain (rI0 fun i j => .bl (p i j)) (rI0 fun i j => .bl (p' i j)) ta tb (cV X.K ps fc))) : PX X ps e (chainE p p' f fc) := by
  obtain ⟨ta, tb, ha, hb, h⟩ := h
  exact (SX.chain h SV.c).px (P ta tb ha hb)
theorem b_chain {p p' : Int → Int → Bool} {f : E2} {fc : EV} {a b c : Expr} (h : P2 X ps a b f) (P : ∀ ta tb, PE X a ta → PE X b tb → PT X e (tTest (tChain (rI0 fun i j => .bl (p i j)) (rI0 fun i j => .bl (p' i j)) ta tb (cV X.K ps fc)))) : PB X ps e (tst (chainE p p' f fc)) := by
  obtain ⟨ta, tb, ha, hb, h⟩ := h
  exact (SB.tst (SX.chain h SV.c)).pb (P ta tb ha hb)
end
end Oc
end

section
set_option Elab.async false
set_option linter.all false
set_option maxRecDepth 100000
set_option maxHeartbeats 1000000
/-! Oc13: the defs of a text by their names; the purse's script; the law's end. -/
namespace Oc
open PySem L2 PyProof.Rows
section
variable {P : Program} {w : World} {K : PySem.W.Frag} {mg : Str → Option Value} {base : Heap}
/-- the def x of the text keeps the promise of the mirror m -/
def Cal (P : Program) (w : World) (K : PySem.W.Frag) (mg : Str → Option Value) (base : Heap) (x : Str) (pn : List Str) (k : Nat) (m : Mir) : Prop :=
  ∃ f fd, mg x = some (.ref f) ∧ PySem.W.keepIn K (.ref f) = true ∧ Binds K fd pn [] ∧ FnOk P w K mg base CX0 k f fd pn (spM K pn.length m) ∧ ∀ sl r outs, m sl = some (r, outs) → sl.length = pn.length
/-- what the head tells of a def -/
structure DefAt (K : PySem.W.Frag) (mg : Str → Option Value) (x : Str) (st : Stmt) (pn : List Str) : Prop where
  at_ : ∃ f fd, mg x = some (.ref f) ∧ Fun K x x st f fd ∧ Binds K fd pn []
theorem cal_ok {x : Str} {st : Stmt} {N pn : List Str} {k : Nat} {g : ES} (A : DefAt K mg x st pn) (S : FnScope N pn (defScope st)) (hN : pn.length ≤ N.length)
    (hb : ∀ (f : Addr) (cdv : Value) (A : Around) (outer : List PySem.Env) (s : Shared) (H : Hp) (vs : List V) (E : XK), Room k (A.deeper (envOfC x (defScope st) s.heap.objs.size f cdv)) → QSs (cxOf CX0 P w K mg base N x (defScope st) f cdv A outer s H E).nox vs (defBody st) g) :
    Cal P w K mg base x pn (k + 1) (mkM pn.length N.length g) := by
  obtain ⟨f, fd, h1, h2, h3⟩ := A.at_
  exact ⟨f, fd, h1, h2.kp, h3, fn_ok h2 S hN (fun cdv A outer s H vs E hr => hb f cdv A outer s H vs E hr), fun sl r outs h => mkM_len h⟩
theorem Cal.mono {x : Str} {pn : List Str} {j k : Nat} {m : Mir} (c : Cal P w K mg base x pn j m) (h : j ≤ k) : Cal P w K mg base x pn k m := by
  obtain ⟨f, fd, h1, h2, h3, h4, h5⟩ := c
  exact ⟨f, fd, h1, h2, h3, h4.mono h, h5⟩
end
section
variable {X : Cx} {ps : List V} {e : Expr} {pos p : Pos}
theorem e_cal {m : Mir} {k : Nat} {pn : List Str} {x : Str} {es : List Expr} {fr : ER} (c : Cal X.prog X.w X.K X.mg X.base x pn k m) (hr : Room k X.A) (hg : Gl X x)
    (ha : PRs X ps (e :: es) fr) (hdb : (x == ("__debug__" : Str)) = false := by decide) (he : starEach (e :: es) X.env = (false, eval e X.env) :: starEach es X.env := by rfl) (hpl : (backTo pos (starEach es X.env)).any (·.1) = false := by rfl) :
    PX X ps (.Call (.Name x p) (e :: es) [] pos) (callE m fr) := by
  obtain ⟨f, fd, h1, h2, h3, h4, h5⟩ := c
  exact e_call h4 h5 hr hg h1 h2 h3 ha hdb he hpl
end
/-! ### the purse is made of the script -/
def purEnv (k : Nat) (ns : List Int) : Env := .un :: .own 0 (.lst ((ns.take 63 ++ [0]).map D.int)) :: List.replicate k .un
def mkP (k : Nat) (g : ES) (ns : List Int) : Option RV := (g (purEnv k ns)).bind fun (_, fl) => match fl with
  | .rt r => some r
  | _ => none
def spP (K : PySem.W.Frag) (m : List Int → Option RV) : Sp := fun vs H Q _ => ∃ (F : Hp) (a : Addr) (ns : List Int) (r : RV), vs = [.ref a] ∧ SqL K H a (ns.map V.int) ∧ Ex F H ∧ m ns = some r ∧
  ∀ v F' H', Ex F' H' → Ex F F' → Ex H H' → (∀ b o, F b = none → H b = some o → F' b = none) → ResS K [] [] H [] [] F' H' v r → Q v H'
section
variable {P : Program} {w : World} {K : PySem.W.Frag} {mg : Str → Option Value} {base : Heap}
theorem cut_take (xs : List V) : cutV xs none (some 63) = xs.take 63 := by
  unfold cutV
  have h : HT.sIx xs.length xs.length (some (63 : Int)) = min 63 xs.length := HT.sIx_nat xs.length xs.length 63
  rw [HT.sIx_none, h]
  simp only [List.drop_zero, Nat.sub_zero]
  rw [List.take_eq_take_iff]
  omega
/-- the reading of «cells = script[:63] + [0]», then the rest -/
theorem purse_ok {N : List Str} {k : Nat} {g : ES} {vs : List V} {Q : VK} {E : XK} (hN : N.length = k + 2) (h : spP K (mkP k g) vs H Q E) :
    tSeq (tAsg (tOp rCatR (tSl (rSl3 K) (tVar 0) tNoPart (tPart (tC (.int 63)))) (tLst (tCons (tC (.int 0)) tNil))) (gName 1)) (cS K vs g) { nx := fun _ H' => Q .non H', rt := Q } (L2.start N vs) H := by
  obtain ⟨F, a, ns, r, rfl, hS, ex, hm, q⟩ := h
  have hst : L2.start N [V.ref a] = some (V.ref a) :: none :: List.replicate k none := by
    unfold L2.start
    rw [hN]
    show some (V.ref a) :: List.replicate (k + 2 - 1) none = _
    rw [show k + 2 - 1 = k + 1 by omega, List.replicate_succ]
  rw [hst]
  refine ⟨.ref a, rfl, 63, rfl, .inl ⟨a, _, rfl, hS, fun p hp => ?_⟩⟩
  rw [cut_take]
  refine ⟨by decide, fun p2 hp2 => ?_⟩
  have n12 : p ≠ p2 := fun z => by subst z; rw [upd_same] at hp2; cases hp2
  refine ⟨p, p2, _, _, rfl, rfl, .inl (by rw [upd_ne n12, upd_same]), .inl upd_same, ?_, fun p3 hp3 => ?_⟩
  · rw [List.length_take]
    exact lim_le (by show min 63 _ + 1 ≤ 1000000; omega)
  have e1 : Ex H (upd H p (.lst ((ns.map V.int).take 63))) := fun b o e => by rw [upd_ne (ne_of_none e hp)]; exact e
  have e2 : Ex (upd H p (.lst ((ns.map V.int).take 63))) (upd (upd H p (.lst ((ns.map V.int).take 63))) p2 (.lst [.int 0])) := fun b o e => by rw [upd_ne (ne_of_none e hp2)]; exact e
  generalize hH2 : upd (upd H p (.lst ((ns.map V.int).take 63))) p2 (.lst [.int 0]) = H2 at hp3 e2
  have e3 : Ex H2 (upd H2 p3 (.lst ((ns.map V.int).take 63 ++ [.int 0]))) := fun b o e => by rw [upd_ne (ne_of_none e hp3)]; exact e
  have eH := (e1.trans e2).trans e3
  have hp3H : H p3 = none := (e1.trans e2).free hp3
  unfold mkP at hm
  obtain ⟨⟨e', fl⟩, h1, hm⟩ := Option.bind_eq_some_iff.mp hm
  cases fl with
  | rt rv =>
    cases hm
    have one : ∀ i q, Owns (some (V.ref a) :: some (V.ref p3) :: List.replicate k none) (purEnv k ns) i q → i = 1 ∧ q = p3 := fun i q ⟨⟨t, d, z1⟩, z2⟩ => by
      match i, z1, z2 with
      | 0, z1, _ => cases z1
      | 1, _, z2 => cases z2; exact ⟨rfl, rfl⟩
      | i + 2, z1, _ =>
        have z1' : (List.replicate k Slot.un)[i]? = some (.own t d) := z1
        rw [List.getElem?_replicate] at z1'
        split at z1' <;> cases z1'
    refine ⟨F, purEnv k ns, e', _, ?_, h1, fun σ' F' H' r' f' v rs => ?_⟩
    · refine ⟨ex.trans eH, by simp [purEnv], fun i s hs => ?_, fun i j p a b => (one i p a).1.trans (one j p b).1.symm⟩
      match i, hs with
      | 0, hs => cases hs; exact ⟨_, rfl, trivial⟩
      | 1, hs =>
        cases hs
        refine ⟨_, rfl, p3, _, rfl, ex.free hp3H, upd_same, .inl ⟨by decide, .lst ?_⟩, fun j hj => by omega⟩
        rw [List.map_append, List.map_take]
        exact ((RpA.ints ns).take 63).app (.cons (.int 0) .nil)
      | i + 2, hs =>
        have hs' : (List.replicate k Slot.un)[i]? = some s := hs
        rw [List.getElem?_replicate] at hs'
        split at hs'
        · rename_i hi
          cases hs'
          refine ⟨none, ?_, trivial⟩
          show (List.replicate k (none : Option V))[i]? = some none
          rw [List.getElem?_replicate, if_pos hi]
        · cases hs'
    · have no : ∀ b o, H b = some o → ∀ i, ¬ Owns (some (V.ref a) :: some (V.ref p3) :: List.replicate k none) (purEnv k ns) i b := fun b o e i z => by
        have := (one i b z).2
        subst this
        rw [hp3H] at e; cases e
      refine q v F' H' r'.sub f'.ff (fun b o e => f'.kh b o (eH b o e) (no b o e)) (fun b o e1 e2 => f'.kf b o e1 (eH b o e2) (no b o e2)) ?_
      cases r with
      | val d => exact rs
      | cell d =>
        obtain ⟨p, o, rfl, g1, g2, g3, g4, g5⟩ := rs
        refine ⟨p, o, rfl, g1, g2, g3, fun i z => ?_, .inl ?_⟩
        · obtain ⟨⟨t, d, z1⟩, _⟩ := z
          simp at z1
        · rcases g5 with z | ⟨j, z⟩
          · exact eH.free z
          · rw [(one j p z).2]; exact hp3H
  | nx => cases hm
  | bk => cases hm
  | ct => cases hm
/-- the law: its purse, then the rest of its body -/
def lawEnv (k : Nat) (r : RV) : Env := put (.un :: .un :: List.replicate k .un) 1 r
def lawRuns (k : Nat) (mp : List Int → Option RV) (g : ES) (ns : List Int) : Prop := ∃ r e', mp ns = some r ∧ g (lawEnv k r) = some (e', .rt (.val (.bl true)))
def spLaw (K : PySem.W.Frag) : Sp := fun vs H Q _ => ∃ (a : Addr) (ns : List Int), vs = [.ref a] ∧ SqL K H a (ns.map V.int) ∧ ns.length ≤ 63 ∧ ∀ H', Q (.bl true) H'
theorem law_ok {N : List Str} {k : Nat} {mp : List Int → Option RV} {g : ES} {vs : List V} {H : Hp} {Q : VK} {E E' : XK} (hN : N.length = k + 2) (hl : ∀ ns : List Int, ns.length ≤ 63 → lawRuns k mp g ns) (h : spLaw K vs H Q E) :
    tSeq (tAsg (tCall (spP K mp) [] E' (tCons (tVar 0) tNil)) (gName 1)) (cS K vs g) { nx := fun _ H' => Q .non H', rt := Q } (L2.start N vs) H := by
  obtain ⟨a, ns, rfl, hS, hlen, q⟩ := h
  obtain ⟨r, e', hm, hg⟩ := hl ns hlen
  have hst : L2.start N [V.ref a] = some (V.ref a) :: none :: List.replicate k none := by
    unfold L2.start
    rw [hN]
    show some (V.ref a) :: List.replicate (k + 2 - 1) none = _
    rw [show k + 2 - 1 = k + 1 by omega, List.replicate_succ]
  rw [hst]
  refine ⟨.ref a, rfl, fun _ => none, a, ns, r, rfl, hS, fun b o e => by (cases e), hm, fun v F' H' e1 e2 e3 e4 rs => ?_⟩
  have un : ∀ (i : Nat) (s : Slot), (Slot.un :: .un :: List.replicate k Slot.un)[i]? = some s → s = .un ∧ i < k + 2 := fun i s hs => by
    rw [show (Slot.un :: .un :: List.replicate k Slot.un) = List.replicate (k + 2) .un by rw [List.replicate_succ, List.replicate_succ], List.getElem?_replicate] at hs
    split at hs
    · cases hs; exact ⟨rfl, by assumption⟩
    · cases hs
  have r0 : Rel K F' H' [V.ref a] (some (V.ref a) :: none :: List.replicate k none) (.un :: .un :: List.replicate k .un) := by
    refine ⟨e1, by simp, fun i s hs => ?_, fun i j p a b => ?_⟩
    · obtain ⟨rfl, hi⟩ := un i s hs
      have : i < (some (V.ref a) :: none :: List.replicate k (none : Option V)).length := by simp; omega
      exact ⟨_, List.getElem?_eq_getElem this, trivial⟩
    · obtain ⟨⟨t, d, z⟩, _⟩ := a
      cases (un i _ z).1
  have fin : ∀ F2 σ2, Rel K F2 H' [V.ref a] σ2 (lawEnv k r) → cS K [V.ref a] g { nx := fun _ H' => Q .non H', rt := Q } σ2 H' := fun F2 σ2 r2 => ⟨F2, lawEnv k r, e', _, r2, hg, fun σ3 F3 H3 r3 f3 v3 rs3 => by
    have rs3 : Rp K F3 v3 (.bl true) := rs3
    cases rs3
    exact q H3⟩
  cases r with
  | val d => exact fin _ _ (r0.setFro rs 1).1
  | cell d =>
    obtain ⟨p, o, rfl, g1, g2, g3, g4, g5⟩ := rs
    have no : ∀ i, ¬ Owns (some (V.ref a) :: none :: List.replicate k none) (.un :: .un :: List.replicate k .un) i p := fun i z => by
      obtain ⟨⟨t, d, z⟩, _⟩ := z
      cases (un i _ z).1
    cases d with
    | tup l =>
      obtain ⟨r2, ex⟩ := r0.lay g1 g2 no
      exact fin _ _ (r2.setFro (g3.rp' upd_same ex) 1).1
    | _ => exact fin _ _ (r0.setOwn g1 g2 g3 no 1)
end
end Oc
end

section
set_option Elab.async false
set_option linter.all false
set_option maxRecDepth 100000
set_option maxHeartbeats 1000000
/-! Oc14: a module's tuple of texts; +=. -/
namespace Oc
open PySem L2 PyProof.Rows
/-- the module's name x holds a tuple of these texts -/
def TupK (K : PySem.W.Frag) (mg : Str → Option Value) (x : Str) (l : List Str) : Prop := ∃ a, mg x = some (.ref a) ∧ ∀ H, SqT K H a (l.map V.str)
theorem tupK_of {K : PySem.W.Frag} {mg : Str → Option Value} {x : Str} {l : List Str} {a : Addr} {o : Obj} {its : Array Value} {n : Nat} (h : mg x = some (.ref a)) (hk : K.lookup a = some o) (hc : o.cls = .type "tuple") (hd : o.data = .seq its n) (hz : its.size ≤ sizeLine) (hv : Vals (l.map V.str) its.toList) : TupK K mg x l :=
  ⟨a, h, fun _ => .inr ⟨o, its, n, hk, hc, hd, hz, hv⟩⟩
def inKE (neg : Bool) (f : EV) (l : List Str) : EX := fun env => (f env).bind fun (d, e) => match d with
  | .str s => some (.val (.bl (if neg = true then !l.contains s else l.contains s)), e)
  | _ => none
theorem inV_strs (s : Str) : ∀ l : List Str, inV (.str s) (l.map V.str) = l.contains s
  | [] => rfl
  | x :: l => by
    have ih := inV_strs s l
    unfold inV at ih ⊢
    rw [List.map_cons, List.any_cons, ih, List.contains_cons]
    congr 1
    show (x == s) = (s == x)
    exact Bool.beq_comm
theorem flat_strs : ∀ l : List Str, (l.map V.str).all flatV = true
  | [] => rfl
  | _ :: l => by rw [List.map_cons, List.all_cons, flat_strs l]; rfl
theorem SX.inK {K : PySem.W.Frag} {ps : List V} {t : TE} {f : EV} {a : Addr} {l : List Str} (neg : Bool) (h : SV K ps t f) (ht : ∀ H, SqT K H a (l.map V.str)) : SX K ps (tOp (rIn K neg) t (tC (.ref a))) (inKE neg f l) := fun σ H F env z env' r e Q q => by
  obtain ⟨⟨d, e1⟩, h1, e⟩ := Option.bind_eq_some_iff.mp e
  dsimp only at e
  split at e
  · cases e
    refine h σ H F env _ _ r h1 _ fun v F' H' r' f' p => ?_
    cases p
    refine ⟨a, _, rfl, .inr (ht H'), rfl, flat_strs l, ?_⟩
    rw [inV_strs]
    exact q _ F' H' r' f' (Rp.bl _)
  · cases e
section
variable {X : Cx} {ps : List V} {e : Expr} {pos p : Pos} {f : EV} {x : Str} {l : List Str}
theorem e_inK (hx : TupK X.K X.mg x l) (h : PV X ps e f) (hg : Gl X x := by rfl) (hd : (x == ("__debug__" : Str)) = false := by decide) : PX X ps (.Compare e [.In] [.Name x p] pos) (inKE false f l) := by
  obtain ⟨a, h1, h2⟩ := hx
  exact (SX.inK false SV.c h2).px (pe_cmpR op_in_seq h (pe_glob (v := .ref a) hg h1 rfl hd) rfl)
theorem e_inKn (hx : TupK X.K X.mg x l) (h : PV X ps e f) (hg : Gl X x := by rfl) (hd : (x == ("__debug__" : Str)) = false := by decide) : PX X ps (.Compare e [.NotIn] [.Name x p] pos) (inKE true f l) := by
  obtain ⟨a, h1, h2⟩ := hx
  exact (SX.inK true SV.c h2).px (pe_cmpR op_notIn_seq h (pe_glob (v := .ref a) hg h1 rfl hd) rfl)
theorem b_inK (hx : TupK X.K X.mg x l) (h : PV X ps e f) (hg : Gl X x := by rfl) (hd : (x == ("__debug__" : Str)) = false := by decide) : PB X ps (.Compare e [.In] [.Name x p] pos) (tst (inKE false f l)) := by
  obtain ⟨a, h1, h2⟩ := hx
  exact (SB.tst (SX.inK false SV.c h2)).pb (pt_cmpR op_in_seq h (pe_glob (v := .ref a) hg h1 rfl hd) rfl)
theorem b_inKn (hx : TupK X.K X.mg x l) (h : PV X ps e f) (hg : Gl X x := by rfl) (hd : (x == ("__debug__" : Str)) = false := by decide) : PB X ps (.Compare e [.NotIn] [.Name x p] pos) (tst (inKE true f l)) := by
  obtain ⟨a, h1, h2⟩ := hx
  exact (SB.tst (SX.inK true SV.c h2)).pb (pt_cmpR op_notIn_seq h (pe_glob (v := .ref a) hg h1 rfl hd) rfl)
end
/-! ### x += e (a number) -/
def augS (i : Nat) (f : EV) : ES := fun env => match env[i]? with
  | some (.fro (.int a)) => (f env).bind fun (d, e) => match d with
    | .int b => some (e.set i (.fro (.int (a + b))), .nx)
    | _ => none
  | _ => none
theorem SS.aug {K : PySem.W.Frag} {ps : List V} {t : TE} {f : EV} {i : Nat} (h : SV K ps t f) : SS K ps (tAug i t (ipI fun a b => a + b)) (augS i f) := fun σ H F env env' fl r e D q => by
  unfold augS at e
  split at e
  · rename_i a h0
    obtain ⟨⟨d, e1⟩, h1, e⟩ := Option.bind_eq_some_iff.mp e
    dsimp only at e
    split at e
    · cases e
      obtain ⟨x, g1, v, rfl, g2⟩ := r.at_ i _ h0
      cases g2
      refine ⟨_, g1, h σ H F env _ _ r h1 _ fun v F1 H1 r1 f1 p1 => ?_⟩
      cases p1
      obtain ⟨r2, f2⟩ := r1.setFro (Rp.int _) i
      exact ⟨_, _, rfl, rfl, q _ F1 H1 r2 (f1.trans f2)⟩
    · cases e
  · cases e
theorem q_aug {X : Cx} {ps : List V} {st : Stmt} {i : Nat} {fe : EV} (P : PS X st (tAug i (cV X.K ps fe) (ipI fun a b => a + b))) : QS X ps st (augS i fe) := (SS.aug SV.c).qs P
end Oc
end

section
set_option Elab.async false
set_option linter.all false
set_option maxRecDepth 100000
set_option maxHeartbeats 1000000
/-! Oc15: reckoning with the mirrors: each combinator by named steps. -/
namespace Oc
open PySem L2
variable {e e1 e2 : Env} {d a b v k : D} {ds l : List D} {r : RV} {fl : Fl} {i t : Nat} {s : Slot}
def seqC (g : ES) : Env × Fl → Option (Env × Fl) := fun (e, fl) => match fl with
  | .nx => g e
  | fl => some (e, fl)
theorem seqS_e {f g : ES} : seqS f g e = (f e).bind (seqC g) := rfl
theorem seqC_nx {g : ES} : seqC g (e, .nx) = g e := rfl
theorem seqC_bk {g : ES} : seqC g (e, .bk) = some (e, .bk) := rfl
theorem seqC_ct {g : ES} : seqC g (e, .ct) = some (e, .ct) := rfl
theorem seqC_rt {g : ES} : seqC g (e, .rt r) = some (e, .rt r) := rfl
theorem nilS_e  : nilS e = some (e, .nx) := rfl
def asgC (i : Nat) : RV × Env → Option (Env × Fl) := fun (r, e) => some (put e i r, .nx)
theorem asgS_e {x : EX} : asgS i x e = (x e).bind (asgC i) := by unfold asgS; cases x e <;> rfl
theorem asgC_e  : asgC i (r, e) = some (put e i r, .nx) := rfl
def dropC : RV × Env → Option (Env × Fl) := fun (_, e) => some (e, .nx)
theorem dropS_e {x : EX} : dropS x e = (x e).bind dropC := by unfold dropS; cases x e <;> rfl
theorem dropC_e  : dropC (r, e) = some (e, .nx) := rfl
def retC : RV × Env → Option (Env × Fl) := fun (r, e) => some (e, .rt r)
theorem retS_e {x : EX} : retS x e = (x e).bind retC := by unfold retS; cases x e <;> rfl
theorem retC_e  : retC (r, e) = some (e, .rt r) := rfl
theorem retN_e  : retN e = some (e, .rt (.val .non)) := rfl
def ifC (f g : ES) : Bool × Env → Option (Env × Fl) := fun (b, e) => if b = true then f e else g e
theorem ifS_e {c : EB} {f g : ES} : ifS c f g e = (c e).bind (ifC f g) := rfl
theorem ifC_t {f g : ES} : ifC f g (true, e) = f e := rfl
theorem ifC_f {f g : ES} : ifC f g (false, e) = g e := rfl
def forC (p : Pat) (f : ES) : List D × Env → Option (Env × Fl) := fun (ds, e) => forL p f ds e
theorem forS_e {it : EA} {p : Pat} {f : ES} : forS it p f e = (it e).bind (forC p f) := rfl
theorem forC_e {p : Pat} {f : ES} : forC p f (ds, e) = forL p f ds e := rfl
def forD (p : Pat) (f : ES) (ds : List D) : Env × Fl → Option (Env × Fl) := fun (e2, fl) => match fl with
    | .nx => forL p f ds e2
    | .ct => forL p f ds e2
    | .bk => some (e2, .nx)
    | .rt r => some (e2, .rt r)
def forB (p : Pat) (f : ES) (ds : List D) : Env → Option (Env × Fl) := fun e1 => (f e1).bind (forD p f ds)
theorem forL_nil {p : Pat} {f : ES} : forL p f [] e = some (e, .nx) := rfl
theorem forL_cons {p : Pat} {f : ES} : forL p f (d :: ds) e = (bindP p d e).bind (forB p f ds) := rfl
theorem forB_e {p : Pat} {f : ES} : forB p f ds e = (f e).bind (forD p f ds) := rfl
theorem forD_nx {p : Pat} {f : ES} : forD p f ds (e, .nx) = forL p f ds e := rfl
theorem forD_ct {p : Pat} {f : ES} : forD p f ds (e, .ct) = forL p f ds e := rfl
theorem forD_bk {p : Pat} {f : ES} : forD p f ds (e, .bk) = some (e, .nx) := rfl
theorem forD_rt {p : Pat} {f : ES} : forD p f ds (e, .rt r) = some (e, .rt r) := rfl
theorem bindP_nm  : bindP (.nm i) d e = some (e.set i (.fro d)) := by rw [bindP]
theorem bindP_tp {q : Pats} : bindP (.tp q) (.tup ds) e = bindPs q ds e := by rw [bindP]
theorem bindPs_nil  : bindPs .nil [] e = some e := by rw [bindPs]
def bindC (q : Pats) (ds : List D) : Env → Option Env := fun e1 => bindPs q ds e1
theorem bindPs_cons {p : Pat} {q : Pats} : bindPs (.cons p q) (d :: ds) e = (bindP p d e).bind (bindC q ds) := by rw [bindPs]; rfl
theorem bindC_e {q : Pats} : bindC q ds e = bindPs q ds e := rfl
def unC (is : List Nat) : D × Env → Option (Env × Fl) := fun (d, e) => match d with
  | .tup ds => if ds.length = is.length then (setAll e is ds).bind fun e' => some (e', .nx) else none
  | _ => none
theorem unS_e {is : List Nat} {x : EV} : unS is x e = (x e).bind (unC is) := by
  unfold unS
  cases x e with
  | none => rfl
  | some y =>
    obtain ⟨d, e⟩ := y
    show (match d with | .tup ds => _ | _ => _) = (match d with | .tup ds => _ | _ => _)
    cases d <;> first | rfl | (split <;> first | rfl | (cases setAll _ _ _ <;> rfl))
theorem unC_e {is : List Nat} : unC is (.tup ds, e) = if ds.length = is.length then (setAll e is ds).bind fun e' => some (e', .nx) else none := rfl
theorem setAll_nil  : setAll e [] [] = some e := rfl
theorem setAll_cons {is : List Nat} : setAll e (i :: is) (d :: ds) = setAll (e.set i (.fro d)) is ds := rfl
def putC5 (e : Env) (i t : Nat) : D → Option (Env × Fl) := fun y => some (e.set i (.own t y), .nx)
def putC4 (i : Nat) (v k : D) (e : Env) : Nat × D → Option (Env × Fl) := fun (t, x) => (putD x k v).bind (putC5 e i t)
def putC3 (i : Nat) (v : D) : D × Env → Option (Env × Fl) := fun (k, e2) => (ownD e2 i).bind (putC4 i v k e2)
def putC2 (i : Nat) (fk : EV) (v : D) (e : Env) : D → Option (Env × Fl) := fun _ => (fk e).bind (putC3 i v)
def putC1 (i : Nat) (fk : EV) : D × Env → Option (Env × Fl) := fun (v, e1) => (peek e1 i).bind (putC2 i fk v e1)
theorem putS_e {fv fk : EV} : putS i fv fk e = (fv e).bind (putC1 i fk) := by
  unfold putS
  congr 1; funext x; obtain ⟨v, e1⟩ := x
  dsimp only
  show _ = (peek e1 i).bind (putC2 i fk v e1)
  congr 1; funext _
  show _ = (fk e1).bind (putC3 i v)
  congr 1; funext x; obtain ⟨k, e2⟩ := x
  dsimp only
  show _ = (ownD e2 i).bind (putC4 i v k e2)
  congr 1; funext x; obtain ⟨t, x⟩ := x
  show Option.map _ (putD x k v) = (putD x k v).bind (putC5 e2 i t)
  cases putD x k v <;> rfl
theorem putC1_e {fk : EV} : putC1 i fk (v, e) = (peek e i).bind (putC2 i fk v e) := rfl
theorem putC2_e {fk : EV} : putC2 i fk v e d = (fk e).bind (putC3 i v) := rfl
theorem putC3_e  : putC3 i v (k, e) = (ownD e i).bind (putC4 i v k e) := rfl
theorem putC4_e  : putC4 i v k e (t, d) = (putD d k v).bind (putC5 e i t) := rfl
theorem putC5_e  : putC5 e i t d = some (e.set i (.own t d), .nx) := rfl
theorem put_val  : put e i (.val d) = e.set i (.fro d) := rfl
theorem put_tup  : put e i (.cell (.tup ds)) = e.set i (.fro (.tup ds)) := rfl
theorem put_lst  : put e i (.cell (.lst ds)) = e.set i (.own 0 (.lst ds)) := rfl
theorem put_dk {es : List (Key × D)} : put e i (.cell (.dk es)) = e.set i (.own 0 (.dk es)) := rfl
theorem put_dt {es : List (List Key × D)} : put e i (.cell (.dt es)) = e.set i (.own 0 (.dt es)) := rfl
def augC (a : Int) (i : Nat) : D × Env → Option (Env × Fl) := fun (d, e) => match d with
    | .int b => some (e.set i (.fro (.int (a + b))), .nx)
    | _ => none
theorem augS_e {f : EV} : augS i f e = match e[i]? with | some (.fro (.int a)) => (f e).bind (augC a i) | _ => none := by
  unfold augS
  cases h : e[i]? with
  | none => rfl
  | some s =>
    cases s with
    | un => rfl
    | own t d => rfl
    | fro d => cases d <;> rfl
theorem augC_e {n m : Int} : augC n i (.int m, e) = some (e.set i (.fro (.int (n + m))), .nx) := rfl
theorem kc_e  : kc d e = some (d, e) := rfl
def fzC : RV × Env → Option (D × Env) := fun (r, e) => match r with | .val d => some (d, e) | .cell d => some (d, e)
theorem fz_e {f : EX} : fz f e = (f e).bind fzC := by
  unfold fz
  cases f e with
  | none => rfl
  | some x => obtain ⟨r, e'⟩ := x; cases r <;> rfl
theorem fzC_v  : fzC (.val d, e) = some (d, e) := rfl
theorem fzC_c  : fzC (.cell d, e) = some (d, e) := rfl
def vxC : D × Env → Option (RV × Env) := fun (d, e) => some (.val d, e)
theorem vx_e {f : EV} : vx f e = (f e).bind vxC := by unfold vx; cases f e <;> rfl
theorem vxC_e  : vxC (d, e) = some (.val d, e) := rfl
def consC (s : Slot) : D × Env → Option (D × Env) := fun (d, e) => some (d, s :: e)
theorem consC_e  : consC s (d, e) = some (d, s :: e) := rfl
theorem rd_fro  : rd 0 (.fro d :: e) = some (d, .fro d :: e) := rfl
theorem rd_own  : rd 0 (.own 0 d :: e) = some (d, .fro d :: e) := rfl
theorem rd_cons  : rd (i + 1) (s :: e) = (rd i e).bind (consC s) := by
  unfold rd
  rw [List.getElem?_cons_succ]
  cases e[i]? with
  | none => rfl
  | some s' =>
    cases s' with
    | un => rfl
    | fro d => rfl
    | own t d => cases t <;> rfl
theorem rd_1 : rd 1 (s :: e) = (rd 0 e).bind (consC s) := rd_cons
theorem rd_2 : rd 2 (s :: e) = (rd 1 e).bind (consC s) := rd_cons
theorem rd_3 : rd 3 (s :: e) = (rd 2 e).bind (consC s) := rd_cons
theorem rd_4 : rd 4 (s :: e) = (rd 3 e).bind (consC s) := rd_cons
theorem rd_5 : rd 5 (s :: e) = (rd 4 e).bind (consC s) := rd_cons
theorem rd_6 : rd 6 (s :: e) = (rd 5 e).bind (consC s) := rd_cons
theorem rd_7 : rd 7 (s :: e) = (rd 6 e).bind (consC s) := rd_cons
theorem rd_8 : rd 8 (s :: e) = (rd 7 e).bind (consC s) := rd_cons
theorem rd_9 : rd 9 (s :: e) = (rd 8 e).bind (consC s) := rd_cons
theorem rd_10 : rd 10 (s :: e) = (rd 9 e).bind (consC s) := rd_cons
theorem rd_11 : rd 11 (s :: e) = (rd 10 e).bind (consC s) := rd_cons
theorem rd_12 : rd 12 (s :: e) = (rd 11 e).bind (consC s) := rd_cons
theorem rd_13 : rd 13 (s :: e) = (rd 12 e).bind (consC s) := rd_cons
theorem rd_14 : rd 14 (s :: e) = (rd 13 e).bind (consC s) := rd_cons
theorem rd_15 : rd 15 (s :: e) = (rd 14 e).bind (consC s) := rd_cons
theorem rd_16 : rd 16 (s :: e) = (rd 15 e).bind (consC s) := rd_cons
theorem rd_17 : rd 17 (s :: e) = (rd 16 e).bind (consC s) := rd_cons
theorem rd_18 : rd 18 (s :: e) = (rd 17 e).bind (consC s) := rd_cons
theorem rd_19 : rd 19 (s :: e) = (rd 18 e).bind (consC s) := rd_cons
theorem rd_20 : rd 20 (s :: e) = (rd 19 e).bind (consC s) := rd_cons
theorem rd_21 : rd 21 (s :: e) = (rd 20 e).bind (consC s) := rd_cons
theorem rd_22 : rd 22 (s :: e) = (rd 21 e).bind (consC s) := rd_cons
theorem rd_23 : rd 23 (s :: e) = (rd 22 e).bind (consC s) := rd_cons
theorem rd_24 : rd 24 (s :: e) = (rd 23 e).bind (consC s) := rd_cons
theorem rd_25 : rd 25 (s :: e) = (rd 24 e).bind (consC s) := rd_cons
theorem rd_26 : rd 26 (s :: e) = (rd 25 e).bind (consC s) := rd_cons
theorem rd_27 : rd 27 (s :: e) = (rd 26 e).bind (consC s) := rd_cons
theorem rd_28 : rd 28 (s :: e) = (rd 27 e).bind (consC s) := rd_cons
theorem rd_29 : rd 29 (s :: e) = (rd 28 e).bind (consC s) := rd_cons
theorem rd_30 : rd 30 (s :: e) = (rd 29 e).bind (consC s) := rd_cons
theorem rd_31 : rd 31 (s :: e) = (rd 30 e).bind (consC s) := rd_cons
theorem rd_32 : rd 32 (s :: e) = (rd 31 e).bind (consC s) := rd_cons
theorem rd_33 : rd 33 (s :: e) = (rd 32 e).bind (consC s) := rd_cons
theorem rd_34 : rd 34 (s :: e) = (rd 33 e).bind (consC s) := rd_cons
theorem rd_35 : rd 35 (s :: e) = (rd 34 e).bind (consC s) := rd_cons
theorem rd_36 : rd 36 (s :: e) = (rd 35 e).bind (consC s) := rd_cons
theorem rd_37 : rd 37 (s :: e) = (rd 36 e).bind (consC s) := rd_cons
theorem rd_38 : rd 38 (s :: e) = (rd 37 e).bind (consC s) := rd_cons
theorem rd_39 : rd 39 (s :: e) = (rd 38 e).bind (consC s) := rd_cons
theorem peek_fro  : peek (.fro d :: e) 0 = some d := rfl
theorem peek_l  : peek (.own t (.lst ds) :: e) 0 = some (.lst ds) := rfl
theorem peek_dk {es : List (Key × D)} : peek (.own t (.dk es) :: e) 0 = some (.dk es) := rfl
theorem peek_dt {es : List (List Key × D)} : peek (.own t (.dt es) :: e) 0 = some (.dt es) := rfl
theorem peek_1 : peek (s :: e) 1 = peek e 0 := rfl
theorem peek_2 : peek (s :: e) 2 = peek e 1 := rfl
theorem peek_3 : peek (s :: e) 3 = peek e 2 := rfl
theorem peek_4 : peek (s :: e) 4 = peek e 3 := rfl
theorem peek_5 : peek (s :: e) 5 = peek e 4 := rfl
theorem peek_6 : peek (s :: e) 6 = peek e 5 := rfl
theorem peek_7 : peek (s :: e) 7 = peek e 6 := rfl
theorem peek_8 : peek (s :: e) 8 = peek e 7 := rfl
theorem peek_9 : peek (s :: e) 9 = peek e 8 := rfl
theorem peek_10 : peek (s :: e) 10 = peek e 9 := rfl
theorem peek_11 : peek (s :: e) 11 = peek e 10 := rfl
theorem peek_12 : peek (s :: e) 12 = peek e 11 := rfl
theorem peek_13 : peek (s :: e) 13 = peek e 12 := rfl
theorem peek_14 : peek (s :: e) 14 = peek e 13 := rfl
theorem peek_15 : peek (s :: e) 15 = peek e 14 := rfl
theorem peek_16 : peek (s :: e) 16 = peek e 15 := rfl
theorem peek_17 : peek (s :: e) 17 = peek e 16 := rfl
theorem peek_18 : peek (s :: e) 18 = peek e 17 := rfl
theorem peek_19 : peek (s :: e) 19 = peek e 18 := rfl
theorem peek_20 : peek (s :: e) 20 = peek e 19 := rfl
theorem peek_21 : peek (s :: e) 21 = peek e 20 := rfl
theorem peek_22 : peek (s :: e) 22 = peek e 21 := rfl
theorem peek_23 : peek (s :: e) 23 = peek e 22 := rfl
theorem peek_24 : peek (s :: e) 24 = peek e 23 := rfl
theorem peek_25 : peek (s :: e) 25 = peek e 24 := rfl
theorem peek_26 : peek (s :: e) 26 = peek e 25 := rfl
theorem peek_27 : peek (s :: e) 27 = peek e 26 := rfl
theorem peek_28 : peek (s :: e) 28 = peek e 27 := rfl
theorem peek_29 : peek (s :: e) 29 = peek e 28 := rfl
theorem peek_30 : peek (s :: e) 30 = peek e 29 := rfl
theorem peek_31 : peek (s :: e) 31 = peek e 30 := rfl
theorem peek_32 : peek (s :: e) 32 = peek e 31 := rfl
theorem peek_33 : peek (s :: e) 33 = peek e 32 := rfl
theorem peek_34 : peek (s :: e) 34 = peek e 33 := rfl
theorem peek_35 : peek (s :: e) 35 = peek e 34 := rfl
theorem peek_36 : peek (s :: e) 36 = peek e 35 := rfl
theorem peek_37 : peek (s :: e) 37 = peek e 36 := rfl
theorem peek_38 : peek (s :: e) 38 = peek e 37 := rfl
theorem peek_39 : peek (s :: e) 39 = peek e 38 := rfl
def consX (s : Slot) : RV × Env → Option (RV × Env) := fun (d, e) => some (d, s :: e)
theorem consX_e  : consX s (r, e) = some (r, s :: e) := rfl
theorem mv_fro  : mv 0 (.fro d :: e) = some (.val d, .fro d :: e) := rfl
theorem mv_own  : mv 0 (.own 0 d :: e) = some (.cell d, .un :: e) := rfl
theorem mv_cons : mv (i + 1) (s :: e) = (mv i e).bind (consX s) := by
  unfold mv
  rw [List.getElem?_cons_succ]
  cases e[i]? with
  | none => rfl
  | some s' =>
    cases s' with
    | un => rfl
    | fro d => rfl
    | own t d => cases t <;> rfl
theorem mv_1 : mv 1 (s :: e) = (mv 0 e).bind (consX s) := mv_cons
theorem mv_2 : mv 2 (s :: e) = (mv 1 e).bind (consX s) := mv_cons
theorem mv_3 : mv 3 (s :: e) = (mv 2 e).bind (consX s) := mv_cons
theorem mv_4 : mv 4 (s :: e) = (mv 3 e).bind (consX s) := mv_cons
theorem mv_5 : mv 5 (s :: e) = (mv 4 e).bind (consX s) := mv_cons
theorem mv_6 : mv 6 (s :: e) = (mv 5 e).bind (consX s) := mv_cons
theorem mv_7 : mv 7 (s :: e) = (mv 6 e).bind (consX s) := mv_cons
theorem mv_8 : mv 8 (s :: e) = (mv 7 e).bind (consX s) := mv_cons
theorem mv_9 : mv 9 (s :: e) = (mv 8 e).bind (consX s) := mv_cons
theorem mv_10 : mv 10 (s :: e) = (mv 9 e).bind (consX s) := mv_cons
theorem mv_11 : mv 11 (s :: e) = (mv 10 e).bind (consX s) := mv_cons
theorem mv_12 : mv 12 (s :: e) = (mv 11 e).bind (consX s) := mv_cons
theorem mv_13 : mv 13 (s :: e) = (mv 12 e).bind (consX s) := mv_cons
theorem mv_14 : mv 14 (s :: e) = (mv 13 e).bind (consX s) := mv_cons
theorem mv_15 : mv 15 (s :: e) = (mv 14 e).bind (consX s) := mv_cons
theorem mv_16 : mv 16 (s :: e) = (mv 15 e).bind (consX s) := mv_cons
theorem mv_17 : mv 17 (s :: e) = (mv 16 e).bind (consX s) := mv_cons
theorem mv_18 : mv 18 (s :: e) = (mv 17 e).bind (consX s) := mv_cons
theorem mv_19 : mv 19 (s :: e) = (mv 18 e).bind (consX s) := mv_cons
theorem mv_20 : mv 20 (s :: e) = (mv 19 e).bind (consX s) := mv_cons
theorem mv_21 : mv 21 (s :: e) = (mv 20 e).bind (consX s) := mv_cons
theorem mv_22 : mv 22 (s :: e) = (mv 21 e).bind (consX s) := mv_cons
theorem mv_23 : mv 23 (s :: e) = (mv 22 e).bind (consX s) := mv_cons
theorem mv_24 : mv 24 (s :: e) = (mv 23 e).bind (consX s) := mv_cons
theorem mv_25 : mv 25 (s :: e) = (mv 24 e).bind (consX s) := mv_cons
theorem mv_26 : mv 26 (s :: e) = (mv 25 e).bind (consX s) := mv_cons
theorem mv_27 : mv 27 (s :: e) = (mv 26 e).bind (consX s) := mv_cons
theorem mv_28 : mv 28 (s :: e) = (mv 27 e).bind (consX s) := mv_cons
theorem mv_29 : mv 29 (s :: e) = (mv 28 e).bind (consX s) := mv_cons
theorem mv_30 : mv 30 (s :: e) = (mv 29 e).bind (consX s) := mv_cons
theorem mv_31 : mv 31 (s :: e) = (mv 30 e).bind (consX s) := mv_cons
theorem mv_32 : mv 32 (s :: e) = (mv 31 e).bind (consX s) := mv_cons
theorem mv_33 : mv 33 (s :: e) = (mv 32 e).bind (consX s) := mv_cons
theorem mv_34 : mv 34 (s :: e) = (mv 33 e).bind (consX s) := mv_cons
theorem mv_35 : mv 35 (s :: e) = (mv 34 e).bind (consX s) := mv_cons
theorem mv_36 : mv 36 (s :: e) = (mv 35 e).bind (consX s) := mv_cons
theorem mv_37 : mv 37 (s :: e) = (mv 36 e).bind (consX s) := mv_cons
theorem mv_38 : mv 38 (s :: e) = (mv 37 e).bind (consX s) := mv_cons
theorem mv_39 : mv 39 (s :: e) = (mv 38 e).bind (consX s) := mv_cons
def lookC (e : Env) : D → Option (D × Env) := fun d => some (d, e)
theorem look_e  : look i e = (peek e i).bind (lookC e) := by unfold look; cases peek e i <;> rfl
theorem lookC_e  : lookC e d = some (d, e) := rfl
def ev2D (a : D) : D × Env → Option (D × D × Env) := fun (b, e2) => some (a, b, e2)
def ev2C (fb : EV) : D × Env → Option (D × D × Env) := fun (a, e1) => (fb e1).bind (ev2D a)
theorem ev2_e {fa fb : EV} : ev2 fa fb e = (fa e).bind (ev2C fb) := rfl
theorem ev2C_e {fb : EV} : ev2C fb (a, e) = (fb e).bind (ev2D a) := rfl
theorem ev2D_e  : ev2D a (b, e) = some (a, b, e) := rfl
def ev2PF (b : D) (e : Env) : D → Option (D × D × Env) := fun a => some (a, b, e)
def ev2PD (i : Nat) : D × Env → Option (D × D × Env) := fun (b, e2) => (peek e2 i).bind (ev2PF b e2)
def ev2PC (i : Nat) (fb : EV) (e : Env) : D → Option (D × D × Env) := fun _ => (fb e).bind (ev2PD i)
theorem ev2P_e {fb : EV} : ev2P i fb e = (peek e i).bind (ev2PC i fb e) := rfl
theorem ev2PC_e {fb : EV} : ev2PC i fb e d = (fb e).bind (ev2PD i) := rfl
theorem ev2PD_e  : ev2PD i (b, e) = (peek e i).bind (ev2PF b e) := rfl
theorem ev2PF_e  : ev2PF b e a = some (a, b, e) := rfl
def ev2QD (a : D) (e : Env) : D → Option (D × D × Env) := fun b => some (a, b, e)
def ev2QC (i : Nat) : D × Env → Option (D × D × Env) := fun (a, e1) => (peek e1 i).bind (ev2QD a e1)
theorem ev2Q_e {fa : EV} : ev2Q fa i e = (fa e).bind (ev2QC i) := rfl
theorem ev2QC_e  : ev2QC i (a, e) = (peek e i).bind (ev2QD a e) := rfl
theorem ev2QD_e  : ev2QD a e b = some (a, b, e) := rfl
theorem evN_e  : evN e = some ([], e) := rfl
def evCD (a : D) : List D × Env → Option (List D × Env) := fun (ds, e2) => some (a :: ds, e2)
def evCC (fr : EA) : D × Env → Option (List D × Env) := fun (a, e1) => (fr e1).bind (evCD a)
theorem evC_e {fa : EV} {fr : EA} : evC fa fr e = (fa e).bind (evCC fr) := rfl
theorem evCC_e {fr : EA} : evCC fr (a, e) = (fr e).bind (evCD a) := rfl
theorem evCD_e  : evCD a (ds, e) = some (a :: ds, e) := rfl
def rvE (e : Env) : RV → Option (RV × Env) := fun z => some (z, e)
theorem rvE_e  : rvE e r = some (r, e) := rfl
def op2C (g : D → D → Option RV) : D × D × Env → Option (RV × Env) := fun (a, b, e) => (g a b).bind (rvE e)
theorem op2_e {f : E2} {g : D → D → Option RV} : op2 f g e = (f e).bind (op2C g) := by unfold op2; congr 1; funext x; obtain ⟨a, b, e⟩ := x; show Option.map _ (g a b) = (g a b).bind (rvE e); cases g a b <;> rfl
theorem op2C_e {g : D → D → Option RV} : op2C g (a, b, e) = (g a b).bind (rvE e) := rfl
def op1C (g : D → Option RV) : D × Env → Option (RV × Env) := fun (a, e) => (g a).bind (rvE e)
theorem op1_e {f : E1} {g : D → Option RV} : op1 f g e = (f e).bind (op1C g) := by unfold op1; congr 1; funext x; obtain ⟨a, e⟩ := x; show Option.map _ (g a) = (g a).bind (rvE e); cases g a <;> rfl
theorem op1C_e {g : D → Option RV} : op1C g (a, e) = (g a).bind (rvE e) := rfl
def tstC : RV × Env → Option (Bool × Env) := fun (r, e) => match r with | .val (.bl b) => some (b, e) | _ => none
theorem tst_e {f : EX} : tst f e = (f e).bind tstC := rfl
theorem tstC_e {q : Bool} : tstC (.val (.bl q), e) = some (q, e) := rfl
def andC (fb : EB) : Bool × Env → Option (Bool × Env) := fun (c, e) => if c = true then fb e else some (false, e)
theorem andB_e {fa fb : EB} : andB fa fb e = (fa e).bind (andC fb) := rfl
theorem andC_t {fb : EB} : andC fb (true, e) = fb e := rfl
theorem andC_f {fb : EB} : andC fb (false, e) = some (false, e) := rfl
def orC (fb : EB) : Bool × Env → Option (Bool × Env) := fun (c, e) => if c = true then some (true, e) else fb e
theorem orB_e {fa fb : EB} : orB fa fb e = (fa e).bind (orC fb) := rfl
theorem orC_t {fb : EB} : orC fb (true, e) = some (true, e) := rfl
theorem orC_f {fb : EB} : orC fb (false, e) = fb e := rfl
def notC : Bool × Env → Option (Bool × Env) := fun (c, e) => some (!c, e)
theorem notB_e {fa : EB} : notB fa e = (fa e).bind notC := by unfold notB; cases fa e <;> rfl
theorem notC_e {q : Bool} : notC (q, e) = some (!q, e) := rfl
def noneC (k : Bool) : D × Env → Option (RV × Env) := fun (d, e) => some (.val (.bl (isNo d == k)), e)
theorem noneE_e {q : Bool} {f : EV} : noneE q f e = (f e).bind (noneC q) := by unfold noneE; cases f e <;> rfl
theorem noneC_e {q : Bool} : noneC q (d, e) = some (.val (.bl (isNo d == q)), e) := rfl
theorem isNo_n  : isNo .non = true := rfl
theorem isNo_i {n : Int} : isNo (.int n) = false := rfl
theorem isNo_l  : isNo (.lst ds) = false := rfl
theorem isNo_t  : isNo (.tup ds) = false := rfl
theorem isNo_s {x : Str} : isNo (.str x) = false := rfl
def andXC (fb : EX) : RV × Env → Option (RV × Env) := fun (r, e) => match r with | .val (.bl true) => fb e | .val (.bl false) => some (.val (.bl false), e) | _ => none
theorem andX_e {fa fb : EX} : andX fa fb e = (fa e).bind (andXC fb) := rfl
theorem andXC_t {fb : EX} : andXC fb (.val (.bl true), e) = fb e := rfl
theorem andXC_f {fb : EX} : andXC fb (.val (.bl false), e) = some (.val (.bl false), e) := rfl
def orXC (fb : EX) : RV × Env → Option (RV × Env) := fun (r, e) => match r with | .val (.bl false) => fb e | .val (.bl true) => some (.val (.bl true), e) | _ => none
theorem orX_e {fa fb : EX} : orX fa fb e = (fa e).bind (orXC fb) := rfl
theorem orXC_t {fb : EX} : orXC fb (.val (.bl true), e) = some (.val (.bl true), e) := rfl
theorem orXC_f {fb : EX} : orXC fb (.val (.bl false), e) = fb e := rfl
def notXC : RV × Env → Option (RV × Env) := fun (r, e) => match r with | .val (.bl b) => some (.val (.bl (!b)), e) | _ => none
theorem notX_e {fa : EX} : notX fa e = (fa e).bind notXC := rfl
theorem notXC_e {q : Bool} : notXC (.val (.bl q), e) = some (.val (.bl (!q)), e) := rfl
def tupC : List D × Env → Option (RV × Env) := fun (ds, e) => if ds.length ≤ lim then some (.cell (.tup ds), e) else none
theorem tupE_e {f : EA} : tupE f e = (f e).bind tupC := rfl
theorem tupC_e  : tupC (ds, e) = if ds.length ≤ lim then some (.cell (.tup ds), e) else none := rfl
def lstC : List D × Env → Option (RV × Env) := fun (ds, e) => if ds.length ≤ lim then some (.cell (.lst ds), e) else none
theorem lstE_e {f : EA} : lstE f e = (f e).bind lstC := rfl
theorem lstC_e  : lstC (ds, e) = if ds.length ≤ lim then some (.cell (.lst ds), e) else none := rfl
theorem argN_e  : argN e = some ([], e) := rfl
def argVD (d : D) : List Arg × Env → Option (List Arg × Env) := fun (l, e2) => some (.v d :: l, e2)
def argVC (r : ER) : D × Env → Option (List Arg × Env) := fun (d, e1) => (r e1).bind (argVD d)
theorem argV_e {f : EV} {q : ER} : argV f q e = (f e).bind (argVC q) := rfl
theorem argVC_e {q : ER} : argVC q (d, e) = (q e).bind (argVD d) := rfl
theorem argVD_e {m : List Arg} : argVD d (m, e) = some (.v d :: m, e) := rfl
def argPD (i : Nat) : List Arg × Env → Option (List Arg × Env) := fun (l, e2) => some (.p i :: l, e2)
def argPC (i : Nat) (r : ER) (e : Env) : D → Option (List Arg × Env) := fun _ => (r e).bind (argPD i)
theorem argP_e {q : ER} : argP i q e = (peek e i).bind (argPC i q e) := rfl
theorem argPC_e {q : ER} : argPC i q e d = (q e).bind (argPD i) := rfl
theorem argPD_e {m : List Arg} : argPD i (m, e) = some (.p i :: m, e) := rfl
def callF (as : List Arg) (e1 : Env) (sl : List Slot) : RV × List Slot → Option (RV × Env) := fun (r, outs) =>
  if (places as).Nodup ∧ as.length ≤ 900 ∧ sameTags sl outs = true then some (r, e1.mapIdx (wbS as outs)) else none
def callD (m : Mir) (as : List Arg) (e1 : Env) : List Slot → Option (RV × Env) := fun sl => (m sl).bind (callF as e1 sl)
def callC (m : Mir) : List Arg × Env → Option (RV × Env) := fun (as, e1) => (slotsOf e1 as 0).bind (callD m as e1)
theorem callE_e {m : Mir} {f : ER} : callE m f e = (f e).bind (callC m) := rfl
theorem callC_e {m : Mir} {as : List Arg} : callC m (as, e) = (slotsOf e as 0).bind (callD m as e) := rfl
theorem callD_e {m : Mir} {as : List Arg} {sl : List Slot} : callD m as e sl = (m sl).bind (callF as e sl) := rfl
theorem callF_e {as : List Arg} {sl outs : List Slot} : callF as e sl (r, outs) = if (places as).Nodup ∧ as.length ≤ 900 ∧ sameTags sl outs = true then some (r, e.mapIdx (wbS as outs)) else none := rfl
theorem copyE_e  : copyE i e = match e[i]? with | some (.own t (.dk es)) => if t < 1000 then some (.cell (.dk es), e) else none | _ => none := rfl
def appD (d : D) (e1 : Env) (i : Nat) : Nat × List D → Option (RV × Env) := fun (t, l) => if l.length < lim then some (.val .non, e1.set i (.own t (.lst (l ++ [d])))) else none
def appC (i : Nat) : D × Env → Option (RV × Env) := fun (d, e1) => (ownL e1 i).bind (appD d e1 i)
def appB (i : Nat) (f : EV) (e : Env) : Nat × List D → Option (RV × Env) := fun _ => (f e).bind (appC i)
theorem appE_e {f : EV} : appE i f e = (ownL e i).bind (appB i f e) := rfl
theorem appB_e {f : EV} {x : Nat × List D} : appB i f e x = (f e).bind (appC i) := rfl
theorem appC_e  : appC i (d, e) = (ownL e i).bind (appD d e i) := rfl
theorem appD_e  : appD d e i (t, l) = if l.length < lim then some (.val .non, e.set i (.own t (.lst (l ++ [d])))) else none := rfl
def popD (d : D) (e1 : Env) (i : Nat) : Nat × List D → Option (RV × Env) := fun (t, l) => match d with | .int k => if -(2 ^ 63) ≤ k ∧ k < 2 ^ 63 then (seqIndex? k l.length).bind fun j => (l[j]?).map fun y => (.val y, e1.set i (.own t (.lst (l.eraseIdx j)))) else none | _ => none
def popC (i : Nat) : D × Env → Option (RV × Env) := fun (d, e1) => (ownL e1 i).bind (popD d e1 i)
def popB (i : Nat) (f : EV) (e : Env) : Nat × List D → Option (RV × Env) := fun _ => (f e).bind (popC i)
theorem popAtE_e {f : EV} : popAtE i f e = (ownL e i).bind (popB i f e) := rfl
theorem popB_e {f : EV} {x : Nat × List D} : popB i f e x = (f e).bind (popC i) := rfl
theorem popC_e  : popC i (d, e) = (ownL e i).bind (popD d e i) := rfl
theorem pop0 {y : D} : popD (.int 0) e i (t, y :: l) = some (.val y, e.set i (.own t (.lst l))) := by
  unfold popD
  have h : seqIndex? 0 (y :: l).length = some 0 := by
    unfold seqIndex?
    simp
  dsimp only
  rw [if_pos (by decide), h]
  rfl
def getF (y : D) (e : Env) : Option D → Option (RV × Env) := fun o => some (.val (o.getD y), e)
def getX (k y : D) (e : Env) : D → Option (RV × Env) := fun x => (dget x k).bind (getF y e)
def getD3 (i : Nat) (k : D) : D × Env → Option (RV × Env) := fun (y, e2) => (peek e2 i).bind (getX k y e2)
def getD2 (i : Nat) (fx : EV) : D × Env → Option (RV × Env) := fun (k, e1) => (fx e1).bind (getD3 i k)
def getD1 (i : Nat) (fk fx : EV) (e : Env) : D → Option (RV × Env) := fun x0 => if dictD x0 = true then (fk e).bind (getD2 i fx) else none
theorem get2E_e {fk fx : EV} : get2E i fk fx e = (peek e i).bind (getD1 i fk fx e) := by
  unfold get2E
  congr 1; funext x0
  unfold getD1
  split
  · congr 1; funext x; obtain ⟨k, e1⟩ := x
    dsimp only
    show _ = (fx e1).bind (getD3 i k)
    congr 1; funext x; obtain ⟨y, e2⟩ := x
    dsimp only
    show _ = (peek e2 i).bind (getX k y e2)
    congr 1; funext x
    show Option.map _ (dget x k) = (dget x k).bind (getF y e2)
    cases dget x k <;> rfl
  · rfl
theorem getD1_k {fk fx : EV} {es : List (Key × D)} : getD1 i fk fx e (.dk es) = (fk e).bind (getD2 i fx) := rfl
theorem getD1_t {fk fx : EV} {es : List (List Key × D)} : getD1 i fk fx e (.dt es) = (fk e).bind (getD2 i fx) := rfl
theorem getD2_e {fx : EV} : getD2 i fx (k, e) = (fx e).bind (getD3 i k) := rfl
theorem getD3_e  : getD3 i k (v, e) = (peek e i).bind (getX k v e) := rfl
theorem getX_e  : getX k v e d = (dget d k).bind (getF v e) := rfl
theorem getF_e {o : Option D} : getF v e o = some (.val (o.getD v), e) := rfl
def inKC (neg : Bool) (l : List Str) : D × Env → Option (RV × Env) := fun (d, e) => match d with | .str s => some (.val (.bl (if neg = true then !l.contains s else l.contains s)), e) | _ => none
theorem inKE_e {q : Bool} {f : EV} {ls : List Str} : inKE q f ls e = (f e).bind (inKC q ls) := rfl
def inK (ls : List Str) (x : Str) : Bool := ls.contains x
theorem inKC_f {ls : List Str} {x : Str} : inKC false ls (.str x, e) = some (.val (.bl (inK ls x)), e) := rfl
theorem inKC_t {ls : List Str} {x : Str} : inKC true ls (.str x, e) = some (.val (.bl (!inK ls x)), e) := rfl
def itVC : D × Env → Option (List D × Env) := fun (d, e) => match d with | .lst ds => some (ds, e) | _ => none
theorem itV_e {f : EV} : itV f e = (f e).bind itVC := rfl
theorem itVC_e  : itVC (.lst ds, e) = some (ds, e) := rfl
def itTC : D × Env → Option (List D × Env) := fun (d, e) => match d with | .tup ds => some (ds, e) | _ => none
theorem itT_e {f : EV} : itT f e = (f e).bind itTC := rfl
theorem itTC_e  : itTC (.tup ds, e) = some (ds, e) := rfl
def itRC : List D × Env → Option (List D × Env) := fun (ds, e) => match ds with | [.int j] => if -big ≤ j ∧ j < big then some (rngD 0 j, e) else none | _ => none
theorem itR1_e {f : EA} : itR1 f e = (f e).bind itRC := rfl
theorem itRC_e {n : Int} : itRC ([.int n], e) = if -big ≤ n ∧ n < big then some (rngD 0 n, e) else none := rfl
def itR2C : List D × Env → Option (List D × Env) := fun (ds, e) => match ds with | [.int i, .int j] => if -big ≤ i ∧ i < big ∧ -big ≤ j ∧ j < big then some (rngD i j, e) else none | _ => none
theorem itR2_e {f : EA} : itR2 f e = (f e).bind itR2C := rfl
theorem itR2C_e {m n : Int} : itR2C ([.int m, .int n], e) = if -big ≤ m ∧ m < big ∧ -big ≤ n ∧ n < big then some (rngD m n, e) else none := rfl
def itEC : List D × Env → Option (List D × Env) := fun (ds, e) => match ds with | [.lst l] => some (enumD 0 l, e) | _ => none
theorem itE_e {f : EA} : itE f e = (f e).bind itEC := rfl
theorem itEC_e  : itEC ([.lst ds], e) = some (enumD 0 ds, e) := rfl
theorem eoN_e  : eoN e = some (none, e) := rfl
def eoC : D × Env → Option (Option Int × Env) := fun (d, e) => match d with | .int i => some (some i, e) | _ => none
theorem eoS_e {f : EV} : eoS f e = (f e).bind eoC := rfl
theorem eoC_e {n : Int} : eoC (.int n, e) = some (some n, e) := rfl
def slF (a : D) (l : Option Int) : Option Int × Env → Option (RV × Env) := fun (h, e3) => (sliceD a l h).bind (rvE e3)
def slD (a : D) (hi : EO) : Option Int × Env → Option (RV × Env) := fun (l, e2) => (hi e2).bind (slF a l)
def slC (lo hi : EO) : D × Env → Option (RV × Env) := fun (a, e1) => (lo e1).bind (slD a hi)
theorem slV_e {f : EV} {lo hi : EO} : slV f lo hi e = (f e).bind (slC lo hi) := by
  unfold slV
  congr 1; funext x; obtain ⟨a, e1⟩ := x
  dsimp only
  show _ = (lo e1).bind (slD a hi)
  congr 1; funext x; obtain ⟨l, e2⟩ := x
  dsimp only
  show _ = (hi e2).bind (slF a l)
  congr 1; funext x; obtain ⟨h, e3⟩ := x
  show Option.map _ (sliceD a l h) = (sliceD a l h).bind (rvE e3)
  cases sliceD a l h <;> rfl
theorem slC_e {lo hi : EO} : slC lo hi (a, e) = (lo e).bind (slD a hi) := rfl
theorem slD_e {hi : EO} {m : Option Int} : slD a hi (m, e) = (hi e).bind (slF a m) := rfl
theorem slF_e {m n : Option Int} : slF a m (n, e) = (sliceD a m n).bind (rvE e) := rfl
def slPF (l h : Option Int) (e : Env) : D → Option (RV × Env) := fun a => (sliceD a l h).bind (rvE e)
def slPD (i : Nat) (l : Option Int) : Option Int × Env → Option (RV × Env) := fun (h, e3) => (peek e3 i).bind (slPF l h e3)
def slPC (i : Nat) (hi : EO) : Option Int × Env → Option (RV × Env) := fun (l, e2) => (hi e2).bind (slPD i l)
def slPB (i : Nat) (lo hi : EO) (e : Env) : D → Option (RV × Env) := fun _ => (lo e).bind (slPC i hi)
theorem slP_e {lo hi : EO} : slP i lo hi e = (peek e i).bind (slPB i lo hi e) := by
  unfold slP
  congr 1; funext _
  show _ = (lo e).bind (slPC i hi)
  congr 1; funext x; obtain ⟨l, e2⟩ := x
  dsimp only
  show _ = (hi e2).bind (slPD i l)
  congr 1; funext x; obtain ⟨h, e3⟩ := x
  dsimp only
  show _ = (peek e3 i).bind (slPF l h e3)
  congr 1; funext a
  show Option.map _ (sliceD a l h) = (sliceD a l h).bind (rvE e3)
  cases sliceD a l h <;> rfl
theorem slPB_e {lo hi : EO} : slPB i lo hi e d = (lo e).bind (slPC i hi) := rfl
theorem slPC_e {hi : EO} {m : Option Int} : slPC i hi (m, e) = (hi e).bind (slPD i m) := rfl
theorem slPD_e {m n : Option Int} : slPD i m (n, e) = (peek e i).bind (slPF m n e) := rfl
theorem slPF_e {m n : Option Int} : slPF m n e a = (sliceD a m n).bind (rvE e) := rfl
def dispC : List (D × D) × Env → Option (RV × Env) := fun (l, e) => if l.length ≤ 15 then (mergeD [] l).bind fun es => some (.cell (.dk es), e) else none
theorem dispE_e {f : ED} : dispE f e = (f e).bind dispC := by unfold dispE; congr 1; funext x; obtain ⟨l, e⟩ := x; show (if l.length ≤ 15 then _ else _) = (if l.length ≤ 15 then _ else _); cases mergeD [] l <;> rfl
theorem dispC_e {m : List (D × D)} : dispC (m, e) = if m.length ≤ 15 then (mergeD [] m).bind fun es => some (.cell (.dk es), e) else none := rfl
theorem edN_e  : edN e = some ([], e) := rfl
def edF (k v : D) : List (D × D) × Env → Option (List (D × D) × Env) := fun (l, e3) => some ((k, v) :: l, e3)
def edD (fr : ED) (k : D) : D × Env → Option (List (D × D) × Env) := fun (v, e2) => (fr e2).bind (edF k v)
def edB (fv : EV) (fr : ED) : D × Env → Option (List (D × D) × Env) := fun (k, e1) => (fv e1).bind (edD fr k)
theorem edC_e {fk fv : EV} {fr : ED} : edC fk fv fr e = (fk e).bind (edB fv fr) := rfl
theorem edB_e {fv : EV} {fr : ED} : edB fv fr (k, e) = (fv e).bind (edD fr k) := rfl
theorem edD_e {fr : ED} : edD fr k (v, e) = (fr e).bind (edF k v) := rfl
theorem edF_e {m : List (D × D)} : edF k v (m, e) = some ((k, v) :: m, e) := rfl
theorem dk0_e  : dk0 e = some (.cell (.dk []), e) := rfl
theorem dt0_e  : dt0 e = some (.cell (.dt []), e) := rfl
def negC : D × Env → Option (RV × Env) := fun (d, e) => match d with | .int i => some (.val (.int (-i)), e) | _ => none
theorem negE_e {f : EV} : negE f e = (f e).bind negC := rfl
theorem negC_e {n : Int} : negC (.int n, e) = some (.val (.int (-n)), e) := rfl
def iteC (f g : EX) : Bool × Env → Option (RV × Env) := fun (b, e) => if b = true then f e else g e
theorem iteE_e {c : EB} {f g : EX} : iteE c f g e = (c e).bind (iteC f g) := rfl
theorem iteC_t {f g : EX} : iteC f g (true, e) = f e := rfl
theorem iteC_f {f g : EX} : iteC f g (false, e) = g e := rfl
def chD (p' : Int → Int → Bool) (j : Int) : D × Env → Option (RV × Env) := fun (c, e2) => match c with | .int k => some (.val (.bl (p' j k)), e2) | _ => none
def chC (p p' : Int → Int → Bool) (fc : EV) : D × D × Env → Option (RV × Env) := fun (a, b, e1) => match a, b with | .int i, .int j => if p i j = true then (fc e1).bind (chD p' j) else some (.val (.bl false), e1) | _, _ => none
theorem chainE_e {p p' : Int → Int → Bool} {f : E2} {fc : EV} : chainE p p' f fc e = (f e).bind (chC p p' fc) := rfl
theorem chC_e {p p' : Int → Int → Bool} {fc : EV} {m n : Int} : chC p p' fc (.int m, .int n, e) = if p m n = true then (fc e).bind (chD p' n) else some (.val (.bl false), e) := rfl
theorem chD_e {p' : Int → Int → Bool} {m n : Int} : chD p' n (.int m, e) = some (.val (.bl (p' n m)), e) := rfl
def lcD2 (vs : List Nat) (p : Pat) (c : EB) (elt : EV) (ds acc : List D) : D × Env → Option (List D × Env) := fun (y, e3) => if acc.length < lim then lcL vs p c elt ds (acc ++ [y]) (wipeE e3 vs) else none
def lcD1 (vs : List Nat) (p : Pat) (c : EB) (elt : EV) (ds acc : List D) : Bool × Env → Option (List D × Env) := fun (b, e2) => if b = true then (elt e2).bind (lcD2 vs p c elt ds acc) else lcL vs p c elt ds acc (wipeE e2 vs)
def lcD0 (vs : List Nat) (p : Pat) (c : EB) (elt : EV) (ds acc : List D) : Env → Option (List D × Env) := fun e1 => (c e1).bind (lcD1 vs p c elt ds acc)
theorem lcL_nil {vs : List Nat} {p : Pat} {c : EB} {elt : EV} {acc : List D} : lcL vs p c elt [] acc e = some (acc, e) := rfl
theorem lcL_cons {vs : List Nat} {p : Pat} {c : EB} {elt : EV} {acc : List D} : lcL vs p c elt (d :: ds) acc e = (bindP p d e).bind (lcD0 vs p c elt ds acc) := rfl
theorem lcD0_e {vs : List Nat} {p : Pat} {c : EB} {elt : EV} {acc : List D} : lcD0 vs p c elt ds acc e = (c e).bind (lcD1 vs p c elt ds acc) := rfl
theorem lcD1_t {vs : List Nat} {p : Pat} {c : EB} {elt : EV} {acc : List D} : lcD1 vs p c elt ds acc (true, e) = (elt e).bind (lcD2 vs p c elt ds acc) := rfl
theorem lcD1_f {vs : List Nat} {p : Pat} {c : EB} {elt : EV} {acc : List D} : lcD1 vs p c elt ds acc (false, e) = lcL vs p c elt ds acc (wipeE e vs) := rfl
theorem lcD2_e {vs : List Nat} {p : Pat} {c : EB} {elt : EV} {acc : List D} : lcD2 vs p c elt ds acc (d, e) = if acc.length < lim then lcL vs p c elt ds (acc ++ [d]) (wipeE e vs) else none := rfl
def lcF (vs : List Nat) (e0 : Env) : List D × Env → Option (RV × Env) := fun (l, e') => some (.cell (.lst l), backE e0 e' vs)
def lcB (vs : List Nat) (p : Pat) (c : EB) (elt : EV) : List D × Env → Option (RV × Env) := fun (ds, e0) => if clean vs e0 = true then (lcL vs p c elt ds [] (wipeE e0 vs)).bind (lcF vs e0) else none
theorem lcE_e {vs : List Nat} {p : Pat} {c : EB} {elt : EV} {it : EA} : lcE vs it p c elt e = (it e).bind (lcB vs p c elt) := by unfold lcE; congr 1; funext x; obtain ⟨ds, e0⟩ := x; show (if clean vs e0 = true then _ else _) = (if clean vs e0 = true then _ else _); cases lcL vs p c elt ds [] (wipeE e0 vs) <;> rfl
theorem lcB_e {vs : List Nat} {p : Pat} {c : EB} {elt : EV} : lcB vs p c elt (ds, e) = if clean vs e = true then (lcL vs p c elt ds [] (wipeE e vs)).bind (lcF vs e) else none := rfl
theorem lcF_e {vs : List Nat} : lcF vs e (ds, e1) = some (.cell (.lst ds), backE e e1 vs) := rfl
theorem yesB_e  : yesB e = some (true, e) := rfl
theorem ix_l {n : Int} : ixD (.lst ds) (.int n) = (atI ds n).map .val := rfl
theorem ix_t {n : Int} : ixD (.tup ds) (.int n) = (atI ds n).map .val := rfl
theorem ix_s {z : Str} {n : Int} : ixD (.str z) (.int n) = if z.length ≤ lim then (atI z.cps.toList n).map fun c => .val (.str ⟨#[c]⟩) else none := rfl
theorem ix_k {es : List (Key × D)} : ixD (.dk es) k = (dget (.dk es) k).bind fun o => o.map .val := by cases k <;> rfl
theorem ix_dt {es : List (List Key × D)} : ixD (.dt es) k = (dget (.dt es) k).bind fun o => o.map .val := by cases k <;> rfl
theorem atI_nat (n : Nat) {α : Type} {l : List α} : atI l (n : Int) = l[n]? := by
  unfold atI ixN
  rw [if_pos (by omega)]
  by_cases h : (n : Int) < l.length
  · rw [if_pos h]; rfl
  · rw [if_neg h, List.getElem?_eq_none (by omega)]; rfl
theorem atI_0 {α : Type} {l : List α} : atI l 0 = l[0]? := atI_nat 0
theorem atI_1 {α : Type} {l : List α} : atI l 1 = l[1]? := atI_nat 1
theorem atI_2 {α : Type} {l : List α} : atI l 2 = l[2]? := atI_nat 2
theorem atI_3 {α : Type} {l : List α} : atI l 3 = l[3]? := atI_nat 3
theorem atI_4 {α : Type} {l : List α} : atI l 4 = l[4]? := atI_nat 4
theorem atI_5 {α : Type} {l : List α} : atI l 5 = l[5]? := atI_nat 5
theorem atI_6 {α : Type} {l : List α} : atI l 6 = l[6]? := atI_nat 6
theorem atI_7 {α : Type} {l : List α} : atI l 7 = l[7]? := atI_nat 7
theorem atI_neg1 {α : Type} {l : List α} : atI l (-1) = l.getLast? := by
  unfold atI ixN
  rw [if_neg (by omega)]
  cases l with
  | nil => rfl
  | cons x r =>
    rw [if_pos (by simp; omega), List.getLast?_eq_getElem?]
    show (x :: r)[_]? = _
    congr 1
    simp
    omega
theorem add_i {m n : Int} : addD (.int m) (.int n) = some (.val (.int (m + n))) := rfl
theorem add_s {x y : Str} : addD (.str x) (.str y) = if x.length + y.length ≤ lim then some (.val (.str (x ++ y))) else none := rfl
theorem add_l  : addD (.lst ds) (.lst l) = if ds.length + l.length ≤ lim then some (.cell (.lst (ds ++ l))) else none := rfl
theorem sub_i {m n : Int} : subD (.int m) (.int n) = some (.val (.int (m - n))) := rfl
theorem mul_i {m n : Int} : mulD (.int m) (.int n) = if MulOk m n then some (.val (.int (m * n))) else none := rfl
theorem mod_i {m n : Int} : modD (.int m) (.int n) = if 0 < n then some (.val (.int (m % n))) else none := rfl
theorem div_i {m n : Int} : divD (.int m) (.int n) = if DivOk n then some (.val (.int (m / n))) else none := rfl
theorem pow_i {m n : Int} : powD (.int m) (.int n) = if 0 ≤ n ∧ n ≤ 1000000 ∧ m.natAbs < 2 ^ 64 then some (.val (.int (m ^ n.toNat))) else none := rfl
theorem cmp_i {p : Int → Int → Bool} {m n : Int} : cmpR p (.int m) (.int n) = some (.val (.bl (p m n))) := rfl
theorem eqR_e  : eqR a b = (eqD a b).map fun k => .val (.bl k) := rfl
theorem neR_e  : neR a b = (eqD a b).map fun k => .val (.bl (!k)) := rfl
theorem inR_e  : inR a b = (inD a b).map fun k => .val (.bl k) := rfl
theorem ninR_e  : ninR a b = (inD a b).map fun k => .val (.bl (!k)) := rfl
theorem eq_ii {m n : Int} : eqD (.int m) (.int n) = some (decide (m = n)) := by show some (m == n) = _; congr 1
theorem ok_str {x : Str} (h : PyData.strOk x = true) : SeqAt.shaped (py (.str x)) = true := by
  unfold SeqAt.shaped
  simp [py, PyData.canLay0, PyData.depth, h]
theorem eq_ss {x y : Str} (h : PyData.strOk x = true) (g : PyData.strOk y = true) : eqD (.str x) (.str y) = some (decide (x = y)) := by
  unfold eqD
  rw [if_pos ⟨ok_str h, ok_str g⟩]
  simp only [py, PyData.eqv]
  congr 1
theorem putD_dk {es : List (Key × D)} : putD (.dk es) k v = if es.length < lim then (keyOf k).map fun k' => .dk (storeK es k' v) else none := rfl
theorem putD_l {n : Int} : putD (.lst ds) (.int n) v = (ixN ds.length n).map fun j => .lst (ds.set j v) := rfl
theorem ownD_0  : ownD (.own t d :: e) 0 = if t < 1000 then some (t, d) else none := rfl
theorem ownL_0  : ownL (.own t (.lst ds) :: e) 0 = if t < 1000 then some (t, ds) else none := rfl
theorem ownD_1 : ownD (s :: e) 1 = ownD e 0 := rfl
theorem ownL_1 : ownL (s :: e) 1 = ownL e 0 := rfl
theorem ownD_2 : ownD (s :: e) 2 = ownD e 1 := rfl
theorem ownL_2 : ownL (s :: e) 2 = ownL e 1 := rfl
theorem ownD_3 : ownD (s :: e) 3 = ownD e 2 := rfl
theorem ownL_3 : ownL (s :: e) 3 = ownL e 2 := rfl
theorem ownD_4 : ownD (s :: e) 4 = ownD e 3 := rfl
theorem ownL_4 : ownL (s :: e) 4 = ownL e 3 := rfl
theorem ownD_5 : ownD (s :: e) 5 = ownD e 4 := rfl
theorem ownL_5 : ownL (s :: e) 5 = ownL e 4 := rfl
theorem ownD_6 : ownD (s :: e) 6 = ownD e 5 := rfl
theorem ownL_6 : ownL (s :: e) 6 = ownL e 5 := rfl
theorem ownD_7 : ownD (s :: e) 7 = ownD e 6 := rfl
theorem ownL_7 : ownL (s :: e) 7 = ownL e 6 := rfl
theorem ownD_8 : ownD (s :: e) 8 = ownD e 7 := rfl
theorem ownL_8 : ownL (s :: e) 8 = ownL e 7 := rfl
theorem ownD_9 : ownD (s :: e) 9 = ownD e 8 := rfl
theorem ownL_9 : ownL (s :: e) 9 = ownL e 8 := rfl
theorem ownD_10 : ownD (s :: e) 10 = ownD e 9 := rfl
theorem ownL_10 : ownL (s :: e) 10 = ownL e 9 := rfl
theorem ownD_11 : ownD (s :: e) 11 = ownD e 10 := rfl
theorem ownL_11 : ownL (s :: e) 11 = ownL e 10 := rfl
theorem ownD_12 : ownD (s :: e) 12 = ownD e 11 := rfl
theorem ownL_12 : ownL (s :: e) 12 = ownL e 11 := rfl
theorem ownD_13 : ownD (s :: e) 13 = ownD e 12 := rfl
theorem ownL_13 : ownL (s :: e) 13 = ownL e 12 := rfl
theorem ownD_14 : ownD (s :: e) 14 = ownD e 13 := rfl
theorem ownL_14 : ownL (s :: e) 14 = ownL e 13 := rfl
theorem ownD_15 : ownD (s :: e) 15 = ownD e 14 := rfl
theorem ownL_15 : ownL (s :: e) 15 = ownL e 14 := rfl
theorem ownD_16 : ownD (s :: e) 16 = ownD e 15 := rfl
theorem ownL_16 : ownL (s :: e) 16 = ownL e 15 := rfl
theorem ownD_17 : ownD (s :: e) 17 = ownD e 16 := rfl
theorem ownL_17 : ownL (s :: e) 17 = ownL e 16 := rfl
theorem ownD_18 : ownD (s :: e) 18 = ownD e 17 := rfl
theorem ownL_18 : ownL (s :: e) 18 = ownL e 17 := rfl
theorem ownD_19 : ownD (s :: e) 19 = ownD e 18 := rfl
theorem ownL_19 : ownL (s :: e) 19 = ownL e 18 := rfl
theorem ownD_20 : ownD (s :: e) 20 = ownD e 19 := rfl
theorem ownL_20 : ownL (s :: e) 20 = ownL e 19 := rfl
theorem ownD_21 : ownD (s :: e) 21 = ownD e 20 := rfl
theorem ownL_21 : ownL (s :: e) 21 = ownL e 20 := rfl
theorem ownD_22 : ownD (s :: e) 22 = ownD e 21 := rfl
theorem ownL_22 : ownL (s :: e) 22 = ownL e 21 := rfl
theorem ownD_23 : ownD (s :: e) 23 = ownD e 22 := rfl
theorem ownL_23 : ownL (s :: e) 23 = ownL e 22 := rfl
theorem ownD_24 : ownD (s :: e) 24 = ownD e 23 := rfl
theorem ownL_24 : ownL (s :: e) 24 = ownL e 23 := rfl
theorem ownD_25 : ownD (s :: e) 25 = ownD e 24 := rfl
theorem ownL_25 : ownL (s :: e) 25 = ownL e 24 := rfl
theorem ownD_26 : ownD (s :: e) 26 = ownD e 25 := rfl
theorem ownL_26 : ownL (s :: e) 26 = ownL e 25 := rfl
theorem ownD_27 : ownD (s :: e) 27 = ownD e 26 := rfl
theorem ownL_27 : ownL (s :: e) 27 = ownL e 26 := rfl
theorem ownD_28 : ownD (s :: e) 28 = ownD e 27 := rfl
theorem ownL_28 : ownL (s :: e) 28 = ownL e 27 := rfl
theorem ownD_29 : ownD (s :: e) 29 = ownD e 28 := rfl
theorem ownL_29 : ownL (s :: e) 29 = ownL e 28 := rfl
theorem ownD_30 : ownD (s :: e) 30 = ownD e 29 := rfl
theorem ownL_30 : ownL (s :: e) 30 = ownL e 29 := rfl
theorem ownD_31 : ownD (s :: e) 31 = ownD e 30 := rfl
theorem ownL_31 : ownL (s :: e) 31 = ownL e 30 := rfl
theorem ownD_32 : ownD (s :: e) 32 = ownD e 31 := rfl
theorem ownL_32 : ownL (s :: e) 32 = ownL e 31 := rfl
theorem ownD_33 : ownD (s :: e) 33 = ownD e 32 := rfl
theorem ownL_33 : ownL (s :: e) 33 = ownL e 32 := rfl
theorem ownD_34 : ownD (s :: e) 34 = ownD e 33 := rfl
theorem ownL_34 : ownL (s :: e) 34 = ownL e 33 := rfl
theorem ownD_35 : ownD (s :: e) 35 = ownD e 34 := rfl
theorem ownL_35 : ownL (s :: e) 35 = ownL e 34 := rfl
theorem ownD_36 : ownD (s :: e) 36 = ownD e 35 := rfl
theorem ownL_36 : ownL (s :: e) 36 = ownL e 35 := rfl
theorem ownD_37 : ownD (s :: e) 37 = ownD e 36 := rfl
theorem ownL_37 : ownL (s :: e) 37 = ownL e 36 := rfl
theorem ownD_38 : ownD (s :: e) 38 = ownD e 37 := rfl
theorem ownL_38 : ownL (s :: e) 38 = ownL e 37 := rfl
theorem ownD_39 : ownD (s :: e) 39 = ownD e 38 := rfl
theorem ownL_39 : ownL (s :: e) 39 = ownL e 38 := rfl
theorem keyOf_i {n : Int} : keyOf (.int n) = some (.inl n) := rfl
theorem keyOf_s {x : Str} : keyOf (.str x) = some (.inr x) := rfl
theorem dget_k {es : List (Key × D)} : dget (.dk es) k = (keyOf k).map (lookK es) := rfl
theorem len_l  : lenD (.lst ds) = some (.val (.int ds.length)) := rfl
theorem len_t  : lenD (.tup ds) = some (.val (.int ds.length)) := rfl
theorem len_k {es : List (Key × D)} : lenD (.dk es) = some (.val (.int es.length)) := rfl
theorem len_s {x : Str} : lenD (.str x) = if x.length ≤ lim then some (.val (.int x.length)) else none := rfl
theorem list_l  : listD (.lst ds) = some (.cell (.lst ds)) := rfl
theorem list_t  : listD (.tup ds) = some (.cell (.lst ds)) := rfl
theorem int_i {n : Int} : intD (.int n) = some (.val (.int n)) := rfl
theorem int_b {q : Bool} : intD (.bl q) = some (.val (.int (if q then 1 else 0))) := rfl
theorem slice_l {m n : Option Int} : sliceD (.lst ds) m n = some (.cell (.lst (cutD ds m n))) := rfl
theorem slice_t {m n : Option Int} : sliceD (.tup ds) m n = if HT.sIx ds.length 0 m = 0 ∧ HT.sIx ds.length ds.length n = ds.length then some (.val (.tup ds)) else some (.cell (.tup (cutD ds m n))) := rfl
theorem slotsOf_nil  : slotsOf e [] i = some [] := rfl
theorem slotsOf_v {as : List Arg} : slotsOf e (.v d :: as) i = (slotsOf e as (i + 1)).map (.fro d :: ·) := rfl
theorem slotsOf_p {as : List Arg} : slotsOf e (.p t :: as) i = match e[t]? with | some (.fro d) => (slotsOf e as (i + 1)).map (.fro d :: ·) | some (.own t d) => (slotsOf e as (i + 1)).map (.own (if t < 1000 then i + 1 else 1000 + (i + 1)) d :: ·) | _ => none := rfl
theorem outs_nil  : outsOf [] e = some [] := by cases e <;> rfl
theorem outs_own {sl : List Slot} : outsOf (.own t a :: sl) (.own i d :: e) = if t = i then (outsOf sl e).map (.own t d :: ·) else none := rfl
theorem outs_fro {sl : List Slot} : outsOf (.fro a :: sl) (s :: e) = (outsOf sl e).map (.un :: ·) := rfl
theorem outs_un {sl : List Slot} : outsOf (.un :: sl) (s :: e) = (outsOf sl e).map (.un :: ·) := rfl
theorem mkM_e {n N : Nat} {g : ES} {args : List Slot} (h : args.length = n) : mkM n N g args = (g (args ++ List.replicate (N - n) .un)).bind fun (e, fl) => match fl with
    | .rt r => (outsOf args e).map fun o => (r, o)
    | .nx => (outsOf args e).map fun o => (.val .non, o)
    | _ => none := by
  unfold mkM
  rw [if_pos h] <;> rfl
def mkC (args : List Slot) : Env × Fl → Option (RV × List Slot) := fun (e, fl) => match fl with
    | .rt r => (outsOf args e).map fun o => (r, o)
    | .nx => (outsOf args e).map fun o => (.val .non, o)
    | _ => none
theorem mkM_c {n N : Nat} {g : ES} {args : List Slot} (h : args.length = n) : mkM n N g args = (g (args ++ List.replicate (N - n) .un)).bind (mkC args) := mkM_e h
theorem mkC_rt {args : List Slot} : mkC args (e, .rt r) = (outsOf args e).map fun o => (r, o) := rfl
theorem mkC_nx {args : List Slot} : mkC args (e, .nx) = (outsOf args e).map fun o => (.val .non, o) := rfl
theorem mkM1 {N : Nat} {g : ES} {s0 : Slot} : mkM 1 N g [s0] = (g ([s0] ++ List.replicate (N - 1) .un)).bind (mkC [s0]) := mkM_c rfl
theorem mkM2 {N : Nat} {g : ES} {s0 s1 : Slot} : mkM 2 N g [s0, s1] = (g ([s0, s1] ++ List.replicate (N - 2) .un)).bind (mkC [s0, s1]) := mkM_c rfl
theorem mkM3 {N : Nat} {g : ES} {s0 s1 s2 : Slot} : mkM 3 N g [s0, s1, s2] = (g ([s0, s1, s2] ++ List.replicate (N - 3) .un)).bind (mkC [s0, s1, s2]) := mkM_c rfl
theorem mkM4 {N : Nat} {g : ES} {s0 s1 s2 s3 : Slot} : mkM 4 N g [s0, s1, s2, s3] = (g ([s0, s1, s2, s3] ++ List.replicate (N - 4) .un)).bind (mkC [s0, s1, s2, s3]) := mkM_c rfl
theorem mkM5 {N : Nat} {g : ES} {s0 s1 s2 s3 s4 : Slot} : mkM 5 N g [s0, s1, s2, s3, s4] = (g ([s0, s1, s2, s3, s4] ++ List.replicate (N - 5) .un)).bind (mkC [s0, s1, s2, s3, s4]) := mkM_c rfl
theorem mkM6 {N : Nat} {g : ES} {s0 s1 s2 s3 s4 s5 : Slot} : mkM 6 N g [s0, s1, s2, s3, s4, s5] = (g ([s0, s1, s2, s3, s4, s5] ++ List.replicate (N - 6) .un)).bind (mkC [s0, s1, s2, s3, s4, s5]) := mkM_c rfl
theorem sIx_0 {m d : Nat} : HT.sIx m d (some 0) = min 0 m := HT.sIx_nat m d 0
theorem sIx_1 {m d : Nat} : HT.sIx m d (some 1) = min 1 m := HT.sIx_nat m d 1
theorem sIx_2 {m d : Nat} : HT.sIx m d (some 2) = min 2 m := HT.sIx_nat m d 2
theorem sIx_3 {m d : Nat} : HT.sIx m d (some 3) = min 3 m := HT.sIx_nat m d 3
theorem sIx_4 {m d : Nat} : HT.sIx m d (some 4) = min 4 m := HT.sIx_nat m d 4
theorem sIx_5 {m d : Nat} : HT.sIx m d (some 5) = min 5 m := HT.sIx_nat m d 5
theorem sIx_6 {m d : Nat} : HT.sIx m d (some 6) = min 6 m := HT.sIx_nat m d 6
theorem sIx_7 {m d : Nat} : HT.sIx m d (some 7) = min 7 m := HT.sIx_nat m d 7
theorem sIx_8 {m d : Nat} : HT.sIx m d (some 8) = min 8 m := HT.sIx_nat m d 8
theorem sIx_9 {m d : Nat} : HT.sIx m d (some 9) = min 9 m := HT.sIx_nat m d 9
theorem sIx_10 {m d : Nat} : HT.sIx m d (some 10) = min 10 m := HT.sIx_nat m d 10
theorem sIx_11 {m d : Nat} : HT.sIx m d (some 11) = min 11 m := HT.sIx_nat m d 11
theorem wbS_un {as : List Arg} {os : List Slot} {j : Nat} : wbS as os j .un = .un := rfl
theorem wbS_fro {as : List Arg} {os : List Slot} {j : Nat} {d : D} : wbS as os j (.fro d) = .fro d := rfl
theorem wbS_own {as : List Arg} {os : List Slot} {j t : Nat} {d : D} : wbS as os j (.own t d) = (match outAt as os j with | some d' => .own t d' | none => .own t d) := rfl
theorem wbS_none {as : List Arg} {os : List Slot} {j : Nat} {s : Slot} (h : outAt as os j = none) : wbS as os j s = s := by
  cases s with
  | own t d => rw [wbS_own, h]
  | _ => rfl
theorem outAt_nil {os : List Slot} {j : Nat} : outAt [] os j = none := by cases os <;> rfl
theorem outAt_v {as : List Arg} {o : Slot} {os : List Slot} {j : Nat} {d : D} : outAt (.v d :: as) (o :: os) j = outAt as os j := by cases o <;> rfl
theorem outAt_p {as : List Arg} {os : List Slot} {i j t : Nat} {d : D} : outAt (.p i :: as) (.own t d :: os) j = if i = j then some d else outAt as os j := rfl
theorem outAt_pf {as : List Arg} {os : List Slot} {i j : Nat} {d : D} : outAt (.p i :: as) (.fro d :: os) j = outAt as os j := rfl
theorem outAt_pu {as : List Arg} {os : List Slot} {i j : Nat} : outAt (.p i :: as) (.un :: os) j = outAt as os j := rfl
theorem log2_lt' {n k : Nat} (hk : 0 < k) (h : n < 2 ^ k) : n.log2 < k := PySem.Flt.log2_lt_of hk h
theorem mulOk_of {i j : Int} {a b : Nat} (hi : i.natAbs < 2 ^ a) (hj : j.natAbs < 2 ^ b) (ha : 0 < a) (hb : 0 < b) (h : a + b ≤ 1000000) : MulOk i j := by
  have x := log2_lt' ha hi
  have y := log2_lt' hb hj
  unfold MulOk
  omega
theorem divOk_of {j : Int} {b : Nat} (h : 0 < j) (hj : j.natAbs < 2 ^ b) (hb : 0 < b) (h9 : b ≤ 9000) : DivOk j := ⟨h, Nat.lt_of_lt_of_le (log2_lt' hb hj) h9⟩
/-- small numbers -/
theorem mulOk_s {i j : Int} (h1 : -9223372036854775808 < i) (h2 : i < 9223372036854775808) (h3 : -9223372036854775808 < j) (h4 : j < 9223372036854775808) : MulOk i j :=
  mulOk_of (a := 63) (b := 63) (by omega) (by omega) (by omega) (by omega) (by omega)
theorem divOk_s {j : Int} (h : 0 < j) (h2 : j < 9223372036854775808) : DivOk j := divOk_of (b := 63) h (by omega) (by omega) (by omega)

end Oc
end

section
set_option Elab.async false
set_option linter.all false
set_option maxRecDepth 100000
set_option maxHeartbeats 1000000
/-! Oc16: programs as data; what they tell, plainly. -/
namespace Oc
open PySem L2
theorem sk_number : PyData.strOk ("number" : Str) = true := by decide +kernel
theorem sk_name : PyData.strOk ("name" : Str) = true := by decide +kernel
theorem sk_put : PyData.strOk ("put" : Str) = true := by decide +kernel
theorem sk_tell : PyData.strOk ("tell" : Str) = true := by decide +kernel
theorem sk_go : PyData.strOk ("go" : Str) = true := by decide +kernel
theorem sk_choose : PyData.strOk ("choose" : Str) = true := by decide +kernel
theorem sk_stop : PyData.strOk ("stop" : Str) = true := by decide +kernel
theorem sk_plus : PyData.strOk ("plus" : Str) = true := by decide +kernel
theorem sk_less : PyData.strOk ("less" : Str) = true := by decide +kernel
theorem sk_times : PyData.strOk ("times" : Str) = true := by decide +kernel
theorem sk_below : PyData.strOk ("below" : Str) = true := by decide +kernel
theorem sk_same : PyData.strOk ("same" : Str) = true := by decide +kernel
theorem ne_number_name : (("number" : Str) = "name") = False := by rw [eq_iff_iff]; decide +kernel
theorem ne_name_number : (("name" : Str) = "number") = False := by rw [eq_iff_iff]; decide +kernel
theorem ne_put_tell : (("put" : Str) = "tell") = False := by rw [eq_iff_iff]; decide +kernel
theorem ne_tell_put : (("tell" : Str) = "put") = False := by rw [eq_iff_iff]; decide +kernel
theorem ne_go_choose : (("go" : Str) = "choose") = False := by rw [eq_iff_iff]; decide +kernel
theorem ne_go_stop : (("go" : Str) = "stop") = False := by rw [eq_iff_iff]; decide +kernel
theorem ne_choose_go : (("choose" : Str) = "go") = False := by rw [eq_iff_iff]; decide +kernel
theorem ne_choose_stop : (("choose" : Str) = "stop") = False := by rw [eq_iff_iff]; decide +kernel
theorem ne_stop_go : (("stop" : Str) = "go") = False := by rw [eq_iff_iff]; decide +kernel
theorem ne_stop_choose : (("stop" : Str) = "choose") = False := by rw [eq_iff_iff]; decide +kernel
theorem ne_plus_less : (("plus" : Str) = "less") = False := by rw [eq_iff_iff]; decide +kernel
theorem ne_plus_times : (("plus" : Str) = "times") = False := by rw [eq_iff_iff]; decide +kernel
theorem ne_plus_below : (("plus" : Str) = "below") = False := by rw [eq_iff_iff]; decide +kernel
theorem ne_plus_same : (("plus" : Str) = "same") = False := by rw [eq_iff_iff]; decide +kernel
theorem ne_less_plus : (("less" : Str) = "plus") = False := by rw [eq_iff_iff]; decide +kernel
theorem ne_less_times : (("less" : Str) = "times") = False := by rw [eq_iff_iff]; decide +kernel
theorem ne_less_below : (("less" : Str) = "below") = False := by rw [eq_iff_iff]; decide +kernel
theorem ne_less_same : (("less" : Str) = "same") = False := by rw [eq_iff_iff]; decide +kernel
theorem ne_times_plus : (("times" : Str) = "plus") = False := by rw [eq_iff_iff]; decide +kernel
theorem ne_times_less : (("times" : Str) = "less") = False := by rw [eq_iff_iff]; decide +kernel
theorem ne_times_below : (("times" : Str) = "below") = False := by rw [eq_iff_iff]; decide +kernel
theorem ne_times_same : (("times" : Str) = "same") = False := by rw [eq_iff_iff]; decide +kernel
theorem ne_below_plus : (("below" : Str) = "plus") = False := by rw [eq_iff_iff]; decide +kernel
theorem ne_below_less : (("below" : Str) = "less") = False := by rw [eq_iff_iff]; decide +kernel
theorem ne_below_times : (("below" : Str) = "times") = False := by rw [eq_iff_iff]; decide +kernel
theorem ne_below_same : (("below" : Str) = "same") = False := by rw [eq_iff_iff]; decide +kernel
theorem ne_same_plus : (("same" : Str) = "plus") = False := by rw [eq_iff_iff]; decide +kernel
theorem ne_same_less : (("same" : Str) = "less") = False := by rw [eq_iff_iff]; decide +kernel
theorem ne_same_times : (("same" : Str) = "times") = False := by rw [eq_iff_iff]; decide +kernel
theorem ne_same_below : (("same" : Str) = "below") = False := by rw [eq_iff_iff]; decide +kernel
theorem ne_plus_number : (("plus" : Str) = "number") = False := by rw [eq_iff_iff]; decide +kernel
theorem ne_plus_name : (("plus" : Str) = "name") = False := by rw [eq_iff_iff]; decide +kernel
theorem ne_less_number : (("less" : Str) = "number") = False := by rw [eq_iff_iff]; decide +kernel
theorem ne_less_name : (("less" : Str) = "name") = False := by rw [eq_iff_iff]; decide +kernel
theorem ne_times_number : (("times" : Str) = "number") = False := by rw [eq_iff_iff]; decide +kernel
theorem ne_times_name : (("times" : Str) = "name") = False := by rw [eq_iff_iff]; decide +kernel
theorem ne_below_number : (("below" : Str) = "number") = False := by rw [eq_iff_iff]; decide +kernel
theorem ne_below_name : (("below" : Str) = "name") = False := by rw [eq_iff_iff]; decide +kernel
theorem ne_same_number : (("same" : Str) = "number") = False := by rw [eq_iff_iff]; decide +kernel
theorem ne_same_name : (("same" : Str) = "name") = False := by rw [eq_iff_iff]; decide +kernel
theorem ct_number : inK (["plus", "less", "times", "below", "same"] : List Str) "number" = false := by decide +kernel
theorem ct_name : inK (["plus", "less", "times", "below", "same"] : List Str) "name" = false := by decide +kernel
theorem ct_put : inK (["plus", "less", "times", "below", "same"] : List Str) "put" = false := by decide +kernel
theorem ct_tell : inK (["plus", "less", "times", "below", "same"] : List Str) "tell" = false := by decide +kernel
theorem ct_go : inK (["plus", "less", "times", "below", "same"] : List Str) "go" = false := by decide +kernel
theorem ct_choose : inK (["plus", "less", "times", "below", "same"] : List Str) "choose" = false := by decide +kernel
theorem ct_stop : inK (["plus", "less", "times", "below", "same"] : List Str) "stop" = false := by decide +kernel
theorem ct_plus : inK (["plus", "less", "times", "below", "same"] : List Str) "plus" = true := by decide +kernel
theorem ct_less : inK (["plus", "less", "times", "below", "same"] : List Str) "less" = true := by decide +kernel
theorem ct_times : inK (["plus", "less", "times", "below", "same"] : List Str) "times" = true := by decide +kernel
theorem ct_below : inK (["plus", "less", "times", "below", "same"] : List Str) "below" = true := by decide +kernel
theorem ct_same : inK (["plus", "less", "times", "below", "same"] : List Str) "same" = true := by decide +kernel
inductive Part where
  | num (n : Int)
  | nm (s : Str)
inductive Op where
  | plus | less | times | below | same
inductive Worth where
  | part (p : Part)
  | op (o : Op) (a b : Part)
inductive Deed where
  | put (s : Str) (w : Worth)
  | tell (p : Part)
inductive Ending where
  | go (b : Int)
  | choose (p : Part) (b c : Int)
  | stop
structure Block where
  deeds : List Deed
  ending : Ending
structure Prog where
  measure : Int
  blocks : List Block
def Part.d : Part → D
  | .num n => .tup [.str "number", .int n]
  | .nm s => .tup [.str "name", .str s]
def Op.s : Op → Str
  | .plus => "plus" | .less => "less" | .times => "times" | .below => "below" | .same => "same"
def Worth.d : Worth → D
  | .part p => p.d
  | .op o a b => .tup [.str o.s, a.d, b.d]
def Deed.d : Deed → D
  | .put s w => .tup [.str "put", .str s, w.d]
  | .tell p => .tup [.str "tell", p.d]
def Ending.d : Ending → D
  | .go b => .tup [.str "go", .int b]
  | .choose p b c => .tup [.str "choose", p.d, .int b, .int c]
  | .stop => .tup [.str "stop"]
def Block.d (b : Block) : D := .tup [.lst (b.deeds.map Deed.d), b.ending.d]
def Prog.d (p : Prog) : D := .tup [.int p.measure, .lst (p.blocks.map Block.d)]
/-! worths: a dict of names to numbers -/
abbrev Ws := List (Str × Int)
def wd (W : Ws) : List (Key × D) := W.map fun p => ((Sum.inr p.1 : Key), D.int p.2)
def getW : Ws → Str → Option Int
  | [], _ => none
  | (s, i) :: r, x => if s = x then some i else getW r x
def setW (W : Ws) (x : Str) (i : Int) : Ws := if (W.any fun p => decide (p.1 = x)) = true then W.map (fun p => if p.1 = x then (p.1, i) else p) else W ++ [(x, i)]
theorem wd_len (W : Ws) : (wd W).length = W.length := by simp [wd]
theorem look_wd (x : Str) : ∀ W : Ws, lookK (wd W) (.inr x) = (getW W x).map D.int
  | [] => rfl
  | (s, i) :: r => by
    have ih := look_wd x r
    show (if (Sum.inr s : Key) = .inr x then some (D.int i) else lookK (wd r) (.inr x)) = (if s = x then some i else getW r x).map D.int
    by_cases h : s = x
    · rw [if_pos h, if_pos (by rw [h])]; rfl
    · rw [if_neg h, if_neg (by intro z; cases z; exact h rfl), ih]
theorem store_wd (x : Str) (i : Int) (W : Ws) : storeK (wd W) (.inr x) (.int i) = wd (setW W x i) := by
  unfold storeK setW
  have e : ((wd W).any fun kv => decide (kv.1 = .inr x)) = W.any fun p => decide (p.1 = x) := by
    simp [wd, List.any_map, Function.comp_def]
  rw [e]
  split
  · simp only [wd, List.map_map]
    congr 1
    funext p
    simp only [Function.comp_apply]
    by_cases h : p.1 = x
    · simp [h]
    · have : ¬ (Sum.inr p.1 : Key) = .inr x := by intro z; cases z; exact h rfl
      simp [h]
  · simp [wd]
theorem setW_len (W : Ws) (x : Str) (i : Int) : (setW W x i).length ≤ W.length + 1 := by
  unfold setW
  split <;> simp
/-- what stands in a dict of worths lies within the measure -/
def WsOk (m : Int) (W : Ws) : Prop := ∀ p ∈ W, 0 ≤ p.2 ∧ p.2 < m
theorem WsOk.set {m : Int} {W : Ws} (h : WsOk m W) (x : Str) {i : Int} (h0 : 0 ≤ i) (h1 : i < m) : WsOk m (setW W x i) := by
  unfold setW
  split
  · intro p hp
    obtain ⟨q, hq, rfl⟩ := List.mem_map.mp hp
    split
    · exact ⟨h0, h1⟩
    · exact h q hq
  · intro p hp
    rcases List.mem_append.mp hp with hp | hp
    · exact h p hp
    · simp at hp; subst hp; exact ⟨h0, h1⟩
theorem WsOk.get {m : Int} (hm : 0 < m) (x : Str) : ∀ {W : Ws}, WsOk m W → 0 ≤ (getW W x).getD 0 ∧ (getW W x).getD 0 < m
  | [], _ => ⟨Int.le_refl _, hm⟩
  | (s, i) :: r, h => by
    unfold getW
    split
    · exact h (s, i) (by simp)
    · exact WsOk.get hm x fun p hp => h p (by simp [hp])
def pw (W : Ws) : Part → Int
  | .num n => n
  | .nm s => (getW W s).getD 0
def opw (m : Int) : Op → Int → Int → Int
  | .plus, a, b => (a + b) % m
  | .less, a, b => (a - b) % m
  | .times, a, b => a * b % m
  | .below, a, b => if a < b then 1 else 0
  | .same, a, b => if a = b then 1 else 0
def ww (m : Int) (W : Ws) : Worth → Int
  | .part p => pw W p
  | .op o a b => opw m o (pw W a) (pw W b)
def doD (m : Int) (s : Ws × List Int) : Deed → Ws × List Int
  | .put x w => (setW s.1 x (ww m s.1 w), s.2)
  | .tell p => (s.1, s.2 ++ [pw s.1 p])
def doDs (m : Int) (ds : List Deed) (s : Ws × List Int) : Ws × List Int := ds.foldl (doD m) s
def ledOn (W : Ws) : Ending → Option Int
  | .stop => none
  | .go b => some b
  | .choose p b c => some (if pw W p = 0 then c else b)
def Part.ok (m : Int) : Part → Prop
  | .num n => 0 ≤ n ∧ n < m
  | .nm _ => True
def Worth.ok (m : Int) : Worth → Prop
  | .part p => p.ok m
  | .op _ a b => a.ok m ∧ b.ok m
def Deed.ok (m : Int) : Deed → Prop
  | .put _ w => w.ok m
  | .tell p => p.ok m
def Ending.ok (m : Int) (n : Nat) : Ending → Prop
  | .go b => 0 ≤ b ∧ b < n
  | .choose p b c => p.ok m ∧ (0 ≤ b ∧ b < n) ∧ 0 ≤ c ∧ c < n
  | .stop => True
def Block.ok (m : Int) (n : Nat) (b : Block) : Prop := (∀ d ∈ b.deeds, d.ok m) ∧ b.deeds.length ≤ 100 ∧ b.ending.ok m n
def Prog.ok (p : Prog) : Prop := 2 ≤ p.measure ∧ p.measure ≤ 1000000000 ∧ 0 < p.blocks.length ∧ p.blocks.length ≤ 1000 ∧ ∀ b ∈ p.blocks, b.ok p.measure p.blocks.length
theorem pw_ok {m : Int} {W : Ws} {p : Part} (hm : 0 < m) (hW : WsOk m W) (hp : p.ok m) : 0 ≤ pw W p ∧ pw W p < m := by
  cases p with
  | num n => exact hp
  | nm s => exact hW.get hm s
theorem opw_ok {m : Int} (hm : 2 ≤ m) (o : Op) (a b : Int) : 0 ≤ opw m o a b ∧ opw m o a b < m := by
  cases o with
  | plus => exact ⟨Int.emod_nonneg _ (by omega), Int.emod_lt_of_pos _ (by omega)⟩
  | less => exact ⟨Int.emod_nonneg _ (by omega), Int.emod_lt_of_pos _ (by omega)⟩
  | times => exact ⟨Int.emod_nonneg _ (by omega), Int.emod_lt_of_pos _ (by omega)⟩
  | below => simp only [opw]; split <;> omega
  | same => simp only [opw]; split <;> omega
theorem ww_ok {m : Int} {W : Ws} {w : Worth} (hm : 2 ≤ m) (hW : WsOk m W) (hw : w.ok m) : 0 ≤ ww m W w ∧ ww m W w < m := by
  cases w with
  | part p => exact pw_ok (by omega) hW hw
  | op o a b => exact opw_ok hm o _ _
theorem doD_ok {m : Int} {s : Ws × List Int} {d : Deed} (hm : 2 ≤ m) (hW : WsOk m s.1) (hd : d.ok m) : WsOk m (doD m s d).1 ∧ (doD m s d).1.length ≤ s.1.length + 1 ∧ (doD m s d).2.length ≤ s.2.length + 1 := by
  cases d with
  | put x w =>
    have := ww_ok hm hW hd
    exact ⟨hW.set x this.1 this.2, setW_len _ _ _, by simp [doD]⟩
  | tell p => exact ⟨hW, by simp [doD], by simp [doD]⟩
theorem doDs_ok {m : Int} (hm : 2 ≤ m) : ∀ {ds : List Deed} {s : Ws × List Int}, WsOk m s.1 → (∀ d ∈ ds, d.ok m) → WsOk m (doDs m ds s).1 ∧ (doDs m ds s).1.length ≤ s.1.length + ds.length ∧ (doDs m ds s).2.length ≤ s.2.length + ds.length
  | [], s, hW, _ => ⟨hW, by simp [doDs], by simp [doDs]⟩
  | d :: ds, s, hW, hd => by
    obtain ⟨a, b, c⟩ := doD_ok hm hW (hd d (by simp))
    obtain ⟨x, y, z⟩ := doDs_ok hm (ds := ds) (s := doD m s d) a fun d' h => hd d' (by simp [h])
    refine ⟨x, ?_, ?_⟩
    · have : (doDs m (d :: ds) s) = doDs m ds (doD m s d) := rfl
      rw [this]; simp only [List.length_cons]; omega
    · have : (doDs m (d :: ds) s) = doDs m ds (doD m s d) := rfl
      rw [this]; simp only [List.length_cons]; omega
/-- n blocks from here on: what is told, whether stop is come to -/
def runN (p : Prog) : Nat → Ws → List Int → Int → List Int × Bool
  | 0, _, told, _ => (told, false)
  | n + 1, W, told, here => match p.blocks[here.toNat]? with
    | none => (told, false)
    | some b =>
      let s := doDs p.measure b.deeds (W, told)
      match ledOn s.1 b.ending with
      | none => (s.2, true)
      | some k => runN p n s.1 s.2 k
end Oc
end

section
set_option Elab.async false
set_option linter.all false
set_option maxRecDepth 100000
set_option maxHeartbeats 4000000
namespace Oc.K_k02
open PySem L2 PyProof.Rows
def top (i : Nat) : Stmt := PySem.Challenge.pw_oncenames_k02_worths.main.body.getD i (.Pass ⟨0, 0, 0, 0⟩)
structure Txt (K : PySem.W.Frag) (mg : Str → Option Value) : Prop where
  b_int : mg "int" = none
  b_len : mg "len" = none
  b_list : mg "list" = none
  b_range : mg "range" = none
  c_OPS : TupK K mg "OPS" ["plus", "less", "times", "below", "same"]
abbrev s__law_mixed : Stmt := top 10
abbrev N__law_mixed : List Str := ["_law_cell", "_law_k", "_law_number"]
abbrev P__law_mixed : List Str := ["_law_cell", "_law_k"]
theorem sc__law_mixed : FnScope N__law_mixed P__law_mixed (defScope s__law_mixed) := ⟨rfl, rfl, rfl, by decide +kernel, rfl, by decide +kernel, by decide +kernel⟩
def g__law_mixed : ES := seqS (asgS 0 (op2 (ev2 (rd 0) (kc (.int 2147483629))) modD))
    (seqS (asgS 2 (op2 (ev2 (fz (op2 (ev2 (fz (op2 (ev2 (fz (op2 (ev2 (fz (op2 (ev2 (fz (op2 (ev2 (rd 0) (rd 0)) mulD)) (fz (op2 (ev2 (kc (.int 3)) (rd 0)) mulD))) addD)) (fz (op2 (ev2 (kc (.int 7919)) (rd 1)) mulD))) addD)) (kc (.int 1))) addD)) (kc (.int 48271))) mulD)) (kc (.int 2147483629))) modD))
    (seqS (asgS 2 (op2 (ev2 (fz (op2 (ev2 (fz (op2 (ev2 (rd 2) (rd 2)) mulD)) (kc (.int 7))) addD)) (kc (.int 2147483587))) modD))
    (retS (op2 (ev2 (fz (op2 (ev2 (rd 2) (fz (op2 (ev2 (rd 2) (kc (.int 69621))) addD))) mulD)) (kc (.int 2147483563))) modD))))
def m__law_mixed : Mir := mkM 2 3 g__law_mixed
abbrev s__law_purse : Stmt := top 11
abbrev N__law_purse : List Str := ["_law_script", "_law_cells", "_law_number", "_law_k"]
abbrev P__law_purse : List Str := ["_law_script"]
theorem sc__law_purse : FnScope N__law_purse P__law_purse (defScope s__law_purse) := ⟨rfl, rfl, rfl, by decide +kernel, rfl, by decide +kernel, by decide +kernel⟩
def g__law_purse : ES := seqS (asgS 2 (vx (kc (.int 1))))
    (seqS (forS (itR1 (evC (kc (.int 150)) (evN))) (.nm 3)
    (asgS 2 (op2 (ev2 (fz (op2 (ev2 (rd 2) (kc (.int 2147483587))) mulD)) (fz (callE m__law_mixed (argV (fz (op2 (ev2P 1 (fz (op2 (ev2 (rd 3) (fz (op1 (look 1) lenD))) modD))) ixD)) (argV (rd 3) (argN)))))) addD)))
    (seqS (ifS (tst (op2 (ev2 (fz (op2 (ev2P 1 (kc (.int 0))) ixD)) (fz (op2 (ev2 (kc (.int 10)) (kc (.int 18))) powD))) geR)) (retS (lstE (evC (fz (op2 (ev2 (fz (op2 (ev2P 1 (kc (.int 0))) ixD)) (fz (op2 (ev2 (kc (.int 10)) (kc (.int 18))) powD))) divD)) (evC (rd 2) (evN))))) (nilS))
    (retS (lstE (evC (rd 2) (evC (rd 2) (evN)))))))
def mp : List Int → Option RV := mkP 2 g__law_purse
abbrev s__law_due : Stmt := top 13
abbrev N__law_due : List Str := ["_law_one", "_law_other", "_law_measure", "_law_found"]
abbrev P__law_due : List Str := ["_law_one", "_law_other", "_law_measure"]
theorem sc__law_due : FnScope N__law_due P__law_due (defScope s__law_due) := ⟨rfl, rfl, rfl, by decide +kernel, rfl, by decide +kernel, by decide +kernel⟩
def g__law_due : ES := seqS (asgS 3 (lstE (evC (fz (op2 (ev2 (fz (op2 (ev2 (rd 0) (rd 1)) addD)) (rd 2)) modD)) (evC (fz (op2 (ev2 (fz (op2 (ev2 (rd 0) (rd 1)) subD)) (rd 2)) modD)) (evC (fz (op2 (ev2 (fz (op2 (ev2 (rd 0) (rd 1)) mulD)) (rd 2)) modD)) (evN))))))
    (retS (op2 (ev2 (rd 3) (fz (lstE (evC (fz (op1 (fz (op2 (ev2 (rd 0) (rd 1)) ltR)) intD)) (evC (fz (op1 (fz (op2 (ev2P 0 (rd 1)) eqR)) intD)) (evN)))))) addD))
def m__law_due : Mir := mkM 3 4 g__law_due
abbrev s__law_draw : Stmt := top 12
abbrev N__law_draw : List Str := ["_law_purse_here", "_law_out_of", "_law_drawn"]
abbrev P__law_draw : List Str := ["_law_purse_here", "_law_out_of"]
theorem sc__law_draw : FnScope N__law_draw P__law_draw (defScope s__law_draw) := ⟨rfl, rfl, rfl, by decide +kernel, rfl, by decide +kernel, by decide +kernel⟩
def g__law_draw : ES := seqS (ifS (tst (op2 (ev2 (fz (op2 (ev2P 0 (kc (.int 0))) ixD)) (kc (.int 0))) eqR)) (putS 0 (fz (op2 (ev2P 0 (kc (.int 1))) ixD)) (kc (.int 0))) (nilS))
    (seqS (asgS 2 (op2 (ev2 (fz (op2 (ev2P 0 (kc (.int 0))) ixD)) (rd 1)) modD))
    (seqS (putS 0 (fz (op2 (ev2 (fz (op2 (ev2P 0 (kc (.int 0))) ixD)) (rd 1)) divD)) (kc (.int 0)))
    (retS (mv 2))))
def m__law_draw : Mir := mkM 2 3 g__law_draw
abbrev s_part_worth : Stmt := top 3
abbrev N_part_worth : List Str := ["part", "worths"]
abbrev P_part_worth : List Str := ["part", "worths"]
theorem sc_part_worth : FnScope N_part_worth P_part_worth (defScope s_part_worth) := ⟨rfl, rfl, rfl, by decide +kernel, rfl, by decide +kernel, by decide +kernel⟩
def g_part_worth : ES := seqS (ifS (tst (op2 (ev2 (fz (op2 (ev2P 0 (kc (.int 0))) ixD)) (kc (.str "number"))) eqR)) (retS (op2 (ev2P 0 (kc (.int 1))) ixD)) (nilS))
    (retS (get2E 1 (fz (op2 (ev2P 0 (kc (.int 1))) ixD)) (kc (.int 0))))
def m_part_worth : Mir := mkM 2 2 g_part_worth
abbrev s_op_worth : Stmt := top 4
abbrev N_op_worth : List Str := ["op", "one", "other", "measure"]
abbrev P_op_worth : List Str := ["op", "one", "other", "measure"]
theorem sc_op_worth : FnScope N_op_worth P_op_worth (defScope s_op_worth) := ⟨rfl, rfl, rfl, by decide +kernel, rfl, by decide +kernel, by decide +kernel⟩
def g_op_worth : ES := seqS (ifS (tst (op2 (ev2P 0 (kc (.str "plus"))) eqR)) (retS (op2 (ev2 (fz (op2 (ev2 (rd 1) (rd 2)) addD)) (rd 3)) modD)) (nilS))
    (seqS (ifS (tst (op2 (ev2P 0 (kc (.str "less"))) eqR)) (retS (op2 (ev2 (fz (op2 (ev2 (rd 1) (rd 2)) subD)) (rd 3)) modD)) (nilS))
    (seqS (ifS (tst (op2 (ev2P 0 (kc (.str "times"))) eqR)) (retS (op2 (ev2 (fz (op2 (ev2 (rd 1) (rd 2)) mulD)) (rd 3)) modD)) (nilS))
    (seqS (ifS (tst (op2 (ev2P 0 (kc (.str "below"))) eqR)) (retS (op1 (fz (op2 (ev2 (rd 1) (rd 2)) ltR)) intD)) (nilS))
    (retS (op1 (fz (op2 (ev2P 1 (rd 2)) eqR)) intD)))))
def m_op_worth : Mir := mkM 4 4 g_op_worth
abbrev s_worth_now : Stmt := top 5
abbrev N_worth_now : List Str := ["worth", "worths", "measure"]
abbrev P_worth_now : List Str := ["worth", "worths", "measure"]
theorem sc_worth_now : FnScope N_worth_now P_worth_now (defScope s_worth_now) := ⟨rfl, rfl, rfl, by decide +kernel, rfl, by decide +kernel, by decide +kernel⟩
def g_worth_now : ES := seqS (ifS (tst (inKE false (fz (op2 (ev2P 0 (kc (.int 0))) ixD)) ["plus", "less", "times", "below", "same"])) (retS (callE m_op_worth (argV (fz (op2 (ev2P 0 (kc (.int 0))) ixD)) (argV (fz (callE m_part_worth (argV (fz (op2 (ev2P 0 (kc (.int 1))) ixD)) (argP 1 (argN))))) (argV (fz (callE m_part_worth (argV (fz (op2 (ev2P 0 (kc (.int 2))) ixD)) (argP 1 (argN))))) (argV (rd 2) (argN))))))) (nilS))
    (retS (callE m_part_worth (argV (rd 0) (argP 1 (argN)))))
def m_worth_now : Mir := mkM 3 3 g_worth_now
abbrev s_do_deeds : Stmt := top 6
abbrev N_do_deeds : List Str := ["deeds", "worths", "measure", "told", "deed"]
abbrev P_do_deeds : List Str := ["deeds", "worths", "measure", "told"]
theorem sc_do_deeds : FnScope N_do_deeds P_do_deeds (defScope s_do_deeds) := ⟨rfl, rfl, rfl, by decide +kernel, rfl, by decide +kernel, by decide +kernel⟩
def g_do_deeds : ES := forS (itV (rd 0)) (.nm 4)
    (ifS (tst (op2 (ev2 (fz (op2 (ev2P 4 (kc (.int 0))) ixD)) (kc (.str "put"))) eqR)) (putS 1 (fz (callE m_worth_now (argV (fz (op2 (ev2P 4 (kc (.int 2))) ixD)) (argP 1 (argV (rd 2) (argN)))))) (fz (op2 (ev2P 4 (kc (.int 1))) ixD))) (dropS (appE 3 (fz (callE m_part_worth (argV (fz (op2 (ev2P 4 (kc (.int 1))) ixD)) (argP 1 (argN))))))))
def m_do_deeds : Mir := mkM 4 5 g_do_deeds
abbrev s_leads_to : Stmt := top 2
abbrev N_leads_to : List Str := ["ending"]
abbrev P_leads_to : List Str := ["ending"]
theorem sc_leads_to : FnScope N_leads_to P_leads_to (defScope s_leads_to) := ⟨rfl, rfl, rfl, by decide +kernel, rfl, by decide +kernel, by decide +kernel⟩
def g_leads_to : ES := seqS (ifS (tst (op2 (ev2 (fz (op2 (ev2P 0 (kc (.int 0))) ixD)) (kc (.str "choose"))) eqR)) (retS (lstE (evC (fz (op2 (ev2P 0 (kc (.int 2))) ixD)) (evC (fz (op2 (ev2P 0 (kc (.int 3))) ixD)) (evN))))) (nilS))
    (retS (op1 (fz (slP 0 (eoS (kc (.int 1))) (eoN))) listD))
def m_leads_to : Mir := mkM 1 1 g_leads_to
abbrev s_led_on : Stmt := top 7
abbrev N_led_on : List Str := ["ending", "worths"]
abbrev P_led_on : List Str := ["ending", "worths"]
theorem sc_led_on : FnScope N_led_on P_led_on (defScope s_led_on) := ⟨rfl, rfl, rfl, by decide +kernel, rfl, by decide +kernel, by decide +kernel⟩
def g_led_on : ES := seqS (ifS (tst (op2 (ev2 (fz (op2 (ev2P 0 (kc (.int 0))) ixD)) (kc (.str "stop"))) eqR)) (retS (vx (kc .non))) (nilS))
    (seqS (ifS (andB (tst (op2 (ev2 (fz (op2 (ev2P 0 (kc (.int 0))) ixD)) (kc (.str "choose"))) eqR)) (tst (op2 (ev2 (fz (callE m_part_worth (argV (fz (op2 (ev2P 0 (kc (.int 1))) ixD)) (argP 1 (argN))))) (kc (.int 0))) eqR))) (retS (op2 (ev2P 0 (kc (.int 3))) ixD)) (nilS))
    (retS (op2 (ev2 (fz (callE m_leads_to (argV (rd 0) (argN)))) (kc (.int 0))) ixD)))
def m_led_on : Mir := mkM 2 2 g_led_on
abbrev s_run : Stmt := top 8
abbrev N_run : List Str := ["program", "given", "many", "worths", "told", "here", "turn", "measure", "blocks", "deeds", "ending"]
abbrev P_run : List Str := ["program", "given", "many"]
theorem sc_run : FnScope N_run P_run (defScope s_run) := ⟨rfl, rfl, rfl, by decide +kernel, rfl, by decide +kernel, by decide +kernel⟩
def g_run : ES := seqS (unS [7, 8] (rd 0))
    (seqS (asgS 3 (copyE 1))
    (seqS (asgS 4 (lstE (evN)))
    (seqS (asgS 5 (vx (kc (.int 0))))
    (seqS (forS (itR1 (evC (rd 2) (evN))) (.nm 6)
    (seqS (unS [9, 10] (fz (op2 (ev2P 8 (rd 5)) ixD)))
    (seqS (dropS (callE m_do_deeds (argV (rd 9) (argP 3 (argV (rd 7) (argP 4 (argN)))))))
    (seqS (asgS 5 (callE m_led_on (argV (rd 10) (argP 3 (argN)))))
    (ifS (tst (noneE true (rd 5))) (retS (tupE (evC (rd 4) (evC (kc (.bl true)) (evN))))) (nilS))))))
    (retS (tupE (evC (rd 4) (evC (kc (.bl false)) (evN)))))))))
def m_run : Mir := mkM 3 11 g_run
abbrev s_law : Stmt := top 14
abbrev N_law : List Str := ["_law_script", "_law_purse_here", "_law_turn", "_law_measure", "_law_one", "_law_other", "_law_left", "_law_right", "_law_deeds", "_law_op", "_law_due_here", "_law_first", "_law_given", "_law_again", "_law_more", "_law_behind"]
abbrev P_law : List Str := ["_law_script"]
theorem sc_law : FnScope N_law P_law (defScope s_law) := ⟨rfl, rfl, rfl, by decide +kernel, rfl, by decide +kernel, by decide +kernel⟩
def g_law : ES := seqS (forS (itR1 (evC (kc (.int 6)) (evN))) (.nm 2)
    (seqS (asgS 3 (op2 (ev2 (fz (lstE (evC (kc (.int 2)) (evC (kc (.int 3)) (evC (fz (op2 (ev2 (kc (.int 10)) (kc (.int 9))) powD)) (evC (fz (op2 (ev2 (kc (.int 2)) (fz (callE m__law_draw (argP 1 (argV (kc (.int 1000)) (argN)))))) addD)) (evN))))))) (fz (callE m__law_draw (argP 1 (argV (kc (.int 4)) (argN)))))) ixD))
    (seqS (asgS 4 (op2 (ev2 (fz (lstE (evC (kc (.int 0)) (evC (kc (.int 1)) (evC (fz (op2 (ev2 (rd 3) (kc (.int 1))) subD)) (evC (fz (callE m__law_draw (argP 1 (argV (rd 3) (argN))))) (evN))))))) (fz (callE m__law_draw (argP 1 (argV (kc (.int 4)) (argN)))))) ixD))
    (seqS (asgS 5 (op2 (ev2 (fz (lstE (evC (kc (.int 0)) (evC (kc (.int 1)) (evC (fz (op2 (ev2 (rd 3) (kc (.int 1))) subD)) (evC (fz (callE m__law_draw (argP 1 (argV (rd 3) (argN))))) (evC (rd 4) (evN)))))))) (fz (callE m__law_draw (argP 1 (argV (kc (.int 5)) (argN)))))) ixD))
    (seqS (asgS 6 (op2 (ev2 (fz (lstE (evC (fz (tupE (evC (kc (.str "name")) (evC (kc (.str "a")) (evN))))) (evC (fz (tupE (evC (kc (.str "number")) (evC (rd 4) (evN))))) (evN))))) (fz (callE m__law_draw (argP 1 (argV (kc (.int 2)) (argN)))))) ixD))
    (seqS (asgS 7 (op2 (ev2 (fz (lstE (evC (fz (tupE (evC (kc (.str "name")) (evC (kc (.str "b")) (evN))))) (evC (fz (tupE (evC (kc (.str "number")) (evC (rd 5) (evN))))) (evN))))) (fz (callE m__law_draw (argP 1 (argV (kc (.int 2)) (argN)))))) ixD))
    (seqS (asgS 8 (lstE (evN)))
    (seqS (forS (itV (fz (lstE (evC (kc (.str "plus")) (evC (kc (.str "less")) (evC (kc (.str "times")) (evC (kc (.str "below")) (evC (kc (.str "same")) (evN))))))))) (.nm 9)
    (seqS (dropS (appE 8 (fz (tupE (evC (kc (.str "put")) (evC (kc (.str "c")) (evC (fz (tupE (evC (rd 9) (evC (rd 6) (evC (rd 7) (evN)))))) (evN))))))))
    (dropS (appE 8 (fz (tupE (evC (kc (.str "tell")) (evC (fz (tupE (evC (kc (.str "name")) (evC (kc (.str "c")) (evN))))) (evN)))))))))
    (seqS (asgS 10 (callE m__law_due (argV (rd 4) (argV (rd 5) (argV (rd 3) (argN))))))
    (seqS (asgS 11 (tupE (evC (rd 3) (evC (fz (lstE (evC (fz (tupE (evC (fz (slP 8 (eoN) (eoS (kc (.int 6))))) (evC (fz (tupE (evC (kc (.str "go")) (evC (kc (.int 1)) (evN))))) (evN))))) (evC (fz (tupE (evC (fz (slP 8 (eoS (kc (.int 6))) (eoN))) (evC (fz (tupE (evC (kc (.str "stop")) (evN)))) (evN))))) (evN))))) (evN)))))
    (seqS (asgS 12 (dispE (edC (kc (.str "a")) (rd 4) (edC (kc (.str "b")) (rd 5) (edC (kc (.str "c")) (kc (.int 1)) (edN))))))
    (seqS (ifS (tst (op2 (ev2 (fz (callE m_run (argV (rd 11) (argP 12 (argV (kc (.int 2)) (argN)))))) (fz (tupE (evC (rd 10) (evC (kc (.bl true)) (evN)))))) neR)) (retS (vx (kc (.bl false)))) (nilS))
    (seqS (asgS 13 (lstE (evC (fz (tupE (evC (kc (.str "put")) (evC (kc (.str "a")) (evC (fz (tupE (evC (kc (.str "plus")) (evC (fz (tupE (evC (kc (.str "name")) (evC (kc (.str "a")) (evN))))) (evC (rd 7) (evN)))))) (evN)))))) (evC (fz (tupE (evC (kc (.str "put")) (evC (kc (.str "b")) (evC (rd 6) (evN)))))) (evC (fz (tupE (evC (kc (.str "tell")) (evC (fz (tupE (evC (kc (.str "name")) (evC (kc (.str "a")) (evN))))) (evN))))) (evN))))))
    (seqS (asgS 13 (op2 (ev2 (rd 13) (fz (lstE (evC (fz (tupE (evC (kc (.str "tell")) (evC (fz (tupE (evC (kc (.str "name")) (evC (kc (.str "b")) (evN))))) (evN))))) (evC (fz (tupE (evC (kc (.str "tell")) (evC (rd 6) (evN))))) (evN)))))) addD))
    (seqS (asgS 14 (op2 (ev2 (fz (op2 (ev2 (rd 4) (rd 5)) addD)) (rd 3)) modD))
    (seqS (asgS 15 (op2 (ev2 (fz (lstE (evC (rd 14) (evC (rd 4) (evN))))) (fz (op1 (fz (op2 (ev2 (fz (op2 (ev2P 6 (kc (.int 0))) ixD)) (kc (.str "number"))) eqR)) intD))) ixD))
    (ifS (tst (op2 (ev2 (fz (callE m_run (argV (fz (tupE (evC (rd 3) (evC (fz (lstE (evC (fz (tupE (evC (rd 13) (evC (fz (tupE (evC (kc (.str "stop")) (evN)))) (evN))))) (evN)))) (evN))))) (argP 12 (argV (kc (.int 1)) (argN)))))) (fz (tupE (evC (fz (lstE (evC (rd 14) (evC (rd 15) (evC (rd 15) (evN)))))) (evC (kc (.bl true)) (evN)))))) neR)) (retS (vx (kc (.bl false)))) (nilS))))))))))))))))))
    (retS (vx (kc (.bl true))))
section
variable {P : Program} {w : World} {K : PySem.W.Frag} {mg : Str → Option Value} {base : Heap}
theorem cal__law_mixed (A : DefAt K mg "_law_mixed" s__law_mixed P__law_mixed) (T : Txt K mg)  : Cal P w K mg base "_law_mixed" P__law_mixed 1 m__law_mixed :=
  cal_ok (N := N__law_mixed) (g := g__law_mixed) A sc__law_mixed (by decide) fun f cdv A outer s H vs E hr => by
    have hu65 : (A.deeper (envOfC "_law_mixed" (defScope s__law_mixed) s.heap.objs.size f cdv)).units + 65 < cLine := by have := hr.un; omega
    have hu64 : (A.deeper (envOfC "_law_mixed" (defScope s__law_mixed) s.heap.objs.size f cdv)).units + 64 < cLine := by omega
    have hu1 : (A.deeper (envOfC "_law_mixed" (defScope s__law_mixed) s.heap.objs.size f cdv)).units + 1 < cLine := by omega
    exact (q_cons (q_set 0 sc__law_mixed.nd rfl (by first | exact .inl rfl | exact .inr rfl) (e_mod (o_vv (e_rd 0 (pv 0)) e_int)))
    (q_cons (q_set 2 sc__law_mixed.nd rfl (by first | exact .inl rfl | exact .inr rfl) (e_mod (o_vv (PX.v (e_mul (o_vv (PX.v (e_add (o_vv (PX.v (e_add (o_vv (PX.v (e_add (o_vv (PX.v (e_mul (o_vv (e_rd 0 (pv 0)) (e_rd 0 (pv 0))))) (PX.v (e_mul (o_vv e_int (e_rd 0 (pv 0)))))))) (PX.v (e_mul (o_vv e_int (e_rd 1 (pv 1)))))))) e_int))) e_int))) e_int)))
    (q_cons (q_set 2 sc__law_mixed.nd rfl (by first | exact .inl rfl | exact .inr rfl) (e_mod (o_vv (PX.v (e_add (o_vv (PX.v (e_mul (o_vv (e_rd 2 (pv 2)) (e_rd 2 (pv 2))))) e_int))) e_int)))
    (q_one (q_ret (e_mod (o_vv (PX.v (e_mul (o_vv (e_rd 2 (pv 2)) (PX.v (e_add (o_vv (e_rd 2 (pv 2)) e_int)))))) e_int)))))))
theorem cal__law_purse {f : Addr} {fd : FuncData} (F : Fun K "_law_purse" "_law_purse" s__law_purse f fd) (T : Txt K mg) (C__law_mixed : Cal P w K mg base "_law_mixed" P__law_mixed 1 m__law_mixed) : FnOk P w K mg base CX0 2 f fd P__law_purse (spP K mp) := by
  refine F.ok sc__law_purse (fun vs H Q E h => ?_) (fun cdv A outer s H vs Q E hr h => ⟨_, pss_cons (ps_set (i := 1) sc__law_purse.nd rfl (by first | exact .inl rfl | exact .inr rfl) (pe_op op_catR (pe_slice (SlR.or sl_list (SlR.or sl_tupA sl_str)) (pv 0) po_none (po_some pe_int)) (pe_lst (pa_cons pe_int pa_nil)))) ?_, purse_ok (k := 2) (g := g__law_purse) rfl h⟩)
  · obtain ⟨_, _, _, _, rfl, _⟩ := h
    rfl
  · have hu65 : (A.deeper (envOfC "_law_purse" (defScope s__law_purse) s.heap.objs.size f cdv)).units + 65 < cLine := by have := hr.un; omega
    have hu64 : (A.deeper (envOfC "_law_purse" (defScope s__law_purse) s.heap.objs.size f cdv)).units + 64 < cLine := by omega
    have hu1 : (A.deeper (envOfC "_law_purse" (defScope s__law_purse) s.heap.objs.size f cdv)).units + 1 < cLine := by omega
    exact (q_cons (q_set 2 sc__law_purse.nd rfl (by first | exact .inl rfl | exact .inr rfl) (PV.x e_int))
    (q_cons (q_for PassesOwn.never rfl (i_r1 (by rfl) T.b_range (a_cons e_int a_nil)) (pt := .nm 3) (g_nm (i := 3) sc__law_purse.nd rfl (by first | exact .inl rfl | exact .inr rfl))
    (q_one (q_set 2 sc__law_purse.nd rfl (by first | exact .inl rfl | exact .inr rfl) (e_add (o_vv (PX.v (e_mul (o_vv (e_rd 2 (pv 2)) e_int))) (PX.v (e_cal C__law_mixed (hr.mono (by decide)) (by rfl) (r_v (PX.v (e_ix hu1 (o_pv 1 (pv 1) (PX.v (e_mod (o_vv (e_rd 3 (pv 3)) (PX.v (e_1p (i := 1) c1_len (pe_callB call_lenA (by rfl) T.b_len PySem.boot_len (pa_cons (pv 1) pa_nil)))))))) (fun _ _ => rfl) (fun _ _ => rfl))) (r_v (e_rd 3 (pv 3)) r_nil)))))))))
    (q_cons (q_if (b_ge (o_vv (PX.v (e_ix hu1 (o_pv 1 (pv 1) e_int) (fun _ _ => rfl) (fun _ _ => rfl))) (PX.v (e_pow (o_vv e_int e_int))))) (q_one (q_ret (e_lst (a_cons (PX.v (e_div (o_vv (PX.v (e_ix hu1 (o_pv 1 (pv 1) e_int) (fun _ _ => rfl) (fun _ _ => rfl))) (PX.v (e_pow (o_vv e_int e_int)))))) (a_cons (e_rd 2 (pv 2)) a_nil))))) q_nil)
    (q_one (q_ret (e_lst (a_cons (e_rd 2 (pv 2)) (a_cons (e_rd 2 (pv 2)) a_nil))))))))
theorem cal__law_due (A : DefAt K mg "_law_due" s__law_due P__law_due) (T : Txt K mg)  : Cal P w K mg base "_law_due" P__law_due 1 m__law_due :=
  cal_ok (N := N__law_due) (g := g__law_due) A sc__law_due (by decide) fun f cdv A outer s H vs E hr => by
    have hu65 : (A.deeper (envOfC "_law_due" (defScope s__law_due) s.heap.objs.size f cdv)).units + 65 < cLine := by have := hr.un; omega
    have hu64 : (A.deeper (envOfC "_law_due" (defScope s__law_due) s.heap.objs.size f cdv)).units + 64 < cLine := by omega
    have hu1 : (A.deeper (envOfC "_law_due" (defScope s__law_due) s.heap.objs.size f cdv)).units + 1 < cLine := by omega
    exact (q_cons (q_set 3 sc__law_due.nd rfl (by first | exact .inl rfl | exact .inr rfl) (e_lst (a_cons (PX.v (e_mod (o_vv (PX.v (e_add (o_vv (e_rd 0 (pv 0)) (e_rd 1 (pv 1))))) (e_rd 2 (pv 2))))) (a_cons (PX.v (e_mod (o_vv (PX.v (e_sub (o_vv (e_rd 0 (pv 0)) (e_rd 1 (pv 1))))) (e_rd 2 (pv 2))))) (a_cons (PX.v (e_mod (o_vv (PX.v (e_mul (o_vv (e_rd 0 (pv 0)) (e_rd 1 (pv 1))))) (e_rd 2 (pv 2))))) a_nil)))))
    (q_one (q_ret (e_add (o_vv (e_rd 3 (pv 3)) (PX.v (e_lst (a_cons (PX.v (e_1v (f := fz (op2 (ev2 (rd 0) (rd 1)) ltR)) c1_int (pe_callTy call_int1 (by rfl) T.b_int (by decide +kernel) (pa_cons (PX.v (e_lt (o_vv (e_rd 0 (pv 0)) (e_rd 1 (pv 1))))) pa_nil)))) (a_cons (PX.v (e_1v (f := fz (op2 (ev2P 0 (rd 1)) eqR)) c1_int (pe_callTy call_int1 (by rfl) T.b_int (by decide +kernel) (pa_cons (PX.v (e_eq hu64 (o_pv 0 (pv 0) (e_rd 1 (pv 1))))) pa_nil)))) a_nil)))))))))
theorem cal__law_draw (A : DefAt K mg "_law_draw" s__law_draw P__law_draw) (T : Txt K mg)  : Cal P w K mg base "_law_draw" P__law_draw 1 m__law_draw :=
  cal_ok (N := N__law_draw) (g := g__law_draw) A sc__law_draw (by decide) fun f cdv A outer s H vs E hr => by
    have hu65 : (A.deeper (envOfC "_law_draw" (defScope s__law_draw) s.heap.objs.size f cdv)).units + 65 < cLine := by have := hr.un; omega
    have hu64 : (A.deeper (envOfC "_law_draw" (defScope s__law_draw) s.heap.objs.size f cdv)).units + 64 < cLine := by omega
    have hu1 : (A.deeper (envOfC "_law_draw" (defScope s__law_draw) s.heap.objs.size f cdv)).units + 1 < cLine := by omega
    exact (q_cons (q_if (b_eq hu64 (o_vv (PX.v (e_ix hu1 (o_pv 0 (pv 0) e_int) (fun _ _ => rfl) (fun _ _ => rfl))) e_int)) (q_one (q_put (i := 0) (fv := fz (op2 (ev2P 0 (kc (.int 1))) ixD)) (fk := kc (.int 0)) (ps_dput hu1 (pv 0) e_int (PX.v (e_ix hu1 (o_pv 0 (pv 0) e_int) (fun _ _ => rfl) (fun _ _ => rfl))) rfl) (ps_asg (PX.v (e_ix hu1 (o_pv 0 (pv 0) e_int) (fun _ _ => rfl) (fun _ _ => rfl))) (pg_sub (pv 0) e_int set_list)))) q_nil)
    (q_cons (q_set 2 sc__law_draw.nd rfl (by first | exact .inl rfl | exact .inr rfl) (e_mod (o_vv (PX.v (e_ix hu1 (o_pv 0 (pv 0) e_int) (fun _ _ => rfl) (fun _ _ => rfl))) (e_rd 1 (pv 1)))))
    (q_cons (q_put (i := 0) (fv := fz (op2 (ev2 (fz (op2 (ev2P 0 (kc (.int 0))) ixD)) (rd 1)) divD)) (fk := kc (.int 0)) (ps_dput hu1 (pv 0) e_int (PX.v (e_div (o_vv (PX.v (e_ix hu1 (o_pv 0 (pv 0) e_int) (fun _ _ => rfl) (fun _ _ => rfl))) (e_rd 1 (pv 1))))) rfl) (ps_asg (PX.v (e_div (o_vv (PX.v (e_ix hu1 (o_pv 0 (pv 0) e_int) (fun _ _ => rfl) (fun _ _ => rfl))) (e_rd 1 (pv 1))))) (pg_sub (pv 0) e_int set_list)))
    (q_one (q_ret (e_mv 2 (pv 2)))))))
theorem cal_part_worth (A : DefAt K mg "part_worth" s_part_worth P_part_worth) (T : Txt K mg)  : Cal P w K mg base "part_worth" P_part_worth 1 m_part_worth :=
  cal_ok (N := N_part_worth) (g := g_part_worth) A sc_part_worth (by decide) fun f cdv A outer s H vs E hr => by
    have hu65 : (A.deeper (envOfC "part_worth" (defScope s_part_worth) s.heap.objs.size f cdv)).units + 65 < cLine := by have := hr.un; omega
    have hu64 : (A.deeper (envOfC "part_worth" (defScope s_part_worth) s.heap.objs.size f cdv)).units + 64 < cLine := by omega
    have hu1 : (A.deeper (envOfC "part_worth" (defScope s_part_worth) s.heap.objs.size f cdv)).units + 1 < cLine := by omega
    exact (q_cons (q_if (b_eq hu64 (o_vv (PX.v (e_ix hu1 (o_pv 0 (pv 0) e_int) (fun _ _ => rfl) (fun _ _ => rfl))) e_str)) (q_one (q_ret (e_ix hu1 (o_pv 0 (pv 0) e_int) (fun _ _ => rfl) (fun _ _ => rfl)))) q_nil)
    (q_one (q_ret (e_get2 (i := 1) (fk := fz (op2 (ev2P 0 (kc (.int 1))) ixD)) (fx := kc (.int 0)) (pe_dget2 hu1 (pv 1) (PX.v (e_ix hu1 (o_pv 0 (pv 0) e_int) (fun _ _ => rfl) (fun _ _ => rfl))) e_int ⟨rfl, rfl, rfl, rfl⟩)))))
theorem cal_op_worth (A : DefAt K mg "op_worth" s_op_worth P_op_worth) (T : Txt K mg)  : Cal P w K mg base "op_worth" P_op_worth 1 m_op_worth :=
  cal_ok (N := N_op_worth) (g := g_op_worth) A sc_op_worth (by decide) fun f cdv A outer s H vs E hr => by
    have hu65 : (A.deeper (envOfC "op_worth" (defScope s_op_worth) s.heap.objs.size f cdv)).units + 65 < cLine := by have := hr.un; omega
    have hu64 : (A.deeper (envOfC "op_worth" (defScope s_op_worth) s.heap.objs.size f cdv)).units + 64 < cLine := by omega
    have hu1 : (A.deeper (envOfC "op_worth" (defScope s_op_worth) s.heap.objs.size f cdv)).units + 1 < cLine := by omega
    exact (q_cons (q_if (b_eq hu64 (o_pv 0 (pv 0) e_str)) (q_one (q_ret (e_mod (o_vv (PX.v (e_add (o_vv (e_rd 1 (pv 1)) (e_rd 2 (pv 2))))) (e_rd 3 (pv 3)))))) q_nil)
    (q_cons (q_if (b_eq hu64 (o_pv 0 (pv 0) e_str)) (q_one (q_ret (e_mod (o_vv (PX.v (e_sub (o_vv (e_rd 1 (pv 1)) (e_rd 2 (pv 2))))) (e_rd 3 (pv 3)))))) q_nil)
    (q_cons (q_if (b_eq hu64 (o_pv 0 (pv 0) e_str)) (q_one (q_ret (e_mod (o_vv (PX.v (e_mul (o_vv (e_rd 1 (pv 1)) (e_rd 2 (pv 2))))) (e_rd 3 (pv 3)))))) q_nil)
    (q_cons (q_if (b_eq hu64 (o_pv 0 (pv 0) e_str)) (q_one (q_ret (e_1v (f := fz (op2 (ev2 (rd 1) (rd 2)) ltR)) c1_int (pe_callTy call_int1 (by rfl) T.b_int (by decide +kernel) (pa_cons (PX.v (e_lt (o_vv (e_rd 1 (pv 1)) (e_rd 2 (pv 2))))) pa_nil))))) q_nil)
    (q_one (q_ret (e_1v (f := fz (op2 (ev2P 1 (rd 2)) eqR)) c1_int (pe_callTy call_int1 (by rfl) T.b_int (by decide +kernel) (pa_cons (PX.v (e_eq hu64 (o_pv 1 (pv 1) (e_rd 2 (pv 2))))) pa_nil)))))))))
theorem cal_worth_now (A : DefAt K mg "worth_now" s_worth_now P_worth_now) (T : Txt K mg) (C_op_worth : Cal P w K mg base "op_worth" P_op_worth 1 m_op_worth) (C_part_worth : Cal P w K mg base "part_worth" P_part_worth 1 m_part_worth) : Cal P w K mg base "worth_now" P_worth_now 2 m_worth_now :=
  cal_ok (N := N_worth_now) (g := g_worth_now) A sc_worth_now (by decide) fun f cdv A outer s H vs E hr => by
    have hu65 : (A.deeper (envOfC "worth_now" (defScope s_worth_now) s.heap.objs.size f cdv)).units + 65 < cLine := by have := hr.un; omega
    have hu64 : (A.deeper (envOfC "worth_now" (defScope s_worth_now) s.heap.objs.size f cdv)).units + 64 < cLine := by omega
    have hu1 : (A.deeper (envOfC "worth_now" (defScope s_worth_now) s.heap.objs.size f cdv)).units + 1 < cLine := by omega
    exact (q_cons (q_if (b_inK T.c_OPS (PX.v (e_ix hu1 (o_pv 0 (pv 0) e_int) (fun _ _ => rfl) (fun _ _ => rfl)))) (q_one (q_ret (e_cal C_op_worth (hr.mono (by decide)) (by rfl) (r_v (PX.v (e_ix hu1 (o_pv 0 (pv 0) e_int) (fun _ _ => rfl) (fun _ _ => rfl))) (r_v (PX.v (e_cal C_part_worth (hr.mono (by decide)) (by rfl) (r_v (PX.v (e_ix hu1 (o_pv 0 (pv 0) e_int) (fun _ _ => rfl) (fun _ _ => rfl))) (r_p 1 (pv 1) r_nil)))) (r_v (PX.v (e_cal C_part_worth (hr.mono (by decide)) (by rfl) (r_v (PX.v (e_ix hu1 (o_pv 0 (pv 0) e_int) (fun _ _ => rfl) (fun _ _ => rfl))) (r_p 1 (pv 1) r_nil)))) (r_v (e_rd 2 (pv 2)) r_nil))))))) q_nil)
    (q_one (q_ret (e_cal C_part_worth (hr.mono (by decide)) (by rfl) (r_v (e_rd 0 (pv 0)) (r_p 1 (pv 1) r_nil))))))
theorem cal_do_deeds (A : DefAt K mg "do_deeds" s_do_deeds P_do_deeds) (T : Txt K mg) (C_worth_now : Cal P w K mg base "worth_now" P_worth_now 2 m_worth_now) (C_part_worth : Cal P w K mg base "part_worth" P_part_worth 1 m_part_worth) : Cal P w K mg base "do_deeds" P_do_deeds 3 m_do_deeds :=
  cal_ok (N := N_do_deeds) (g := g_do_deeds) A sc_do_deeds (by decide) fun f cdv A outer s H vs E hr => by
    have hu65 : (A.deeper (envOfC "do_deeds" (defScope s_do_deeds) s.heap.objs.size f cdv)).units + 65 < cLine := by have := hr.un; omega
    have hu64 : (A.deeper (envOfC "do_deeds" (defScope s_do_deeds) s.heap.objs.size f cdv)).units + 64 < cLine := by omega
    have hu1 : (A.deeper (envOfC "do_deeds" (defScope s_do_deeds) s.heap.objs.size f cdv)).units + 1 < cLine := by omega
    exact (q_one (q_for PassesOwn.never rfl (i_v (e_rd 0 (pv 0))) (pt := .nm 4) (g_nm (i := 4) sc_do_deeds.nd rfl (by first | exact .inl rfl | exact .inr rfl))
    (q_one (q_if (b_eq hu64 (o_vv (PX.v (e_ix hu1 (o_pv 4 (pv 4) e_int) (fun _ _ => rfl) (fun _ _ => rfl))) e_str)) (q_one (q_put (i := 1) (fv := fz (callE m_worth_now (argV (fz (op2 (ev2P 4 (kc (.int 2))) ixD)) (argP 1 (argV (rd 2) (argN)))))) (fk := fz (op2 (ev2P 4 (kc (.int 1))) ixD)) (ps_dput hu1 (pv 1) (PX.v (e_ix hu1 (o_pv 4 (pv 4) e_int) (fun _ _ => rfl) (fun _ _ => rfl))) (PX.v (e_cal C_worth_now (hr.mono (by decide)) (by rfl) (r_v (PX.v (e_ix hu1 (o_pv 4 (pv 4) e_int) (fun _ _ => rfl) (fun _ _ => rfl))) (r_p 1 (pv 1) (r_v (e_rd 2 (pv 2)) r_nil))))) rfl) (ps_asg (PX.v (e_cal C_worth_now (hr.mono (by decide)) (by rfl) (r_v (PX.v (e_ix hu1 (o_pv 4 (pv 4) e_int) (fun _ _ => rfl) (fun _ _ => rfl))) (r_p 1 (pv 1) (r_v (e_rd 2 (pv 2)) r_nil))))) (pg_sub (pv 1) (PX.v (e_ix hu1 (o_pv 4 (pv 4) e_int) (fun _ _ => rfl) (fun _ _ => rfl))) set_list)))) (q_one (q_expr (e_app (i := 3) (fe := fz (callE m_part_worth (argV (fz (op2 (ev2P 4 (kc (.int 1))) ixD)) (argP 1 (argN))))) (pe_bm PySem.F.plainAttrs_list PySem.F.slot_list_append PySem.F.type_list_append mt_append (pv 3) (pa_cons (PX.v (e_cal C_part_worth (hr.mono (by decide)) (by rfl) (r_v (PX.v (e_ix hu1 (o_pv 4 (pv 4) e_int) (fun _ _ => rfl) (fun _ _ => rfl))) (r_p 1 (pv 1) r_nil)))) pa_nil)))))))))
theorem cal_leads_to (A : DefAt K mg "leads_to" s_leads_to P_leads_to) (T : Txt K mg)  : Cal P w K mg base "leads_to" P_leads_to 1 m_leads_to :=
  cal_ok (N := N_leads_to) (g := g_leads_to) A sc_leads_to (by decide) fun f cdv A outer s H vs E hr => by
    have hu65 : (A.deeper (envOfC "leads_to" (defScope s_leads_to) s.heap.objs.size f cdv)).units + 65 < cLine := by have := hr.un; omega
    have hu64 : (A.deeper (envOfC "leads_to" (defScope s_leads_to) s.heap.objs.size f cdv)).units + 64 < cLine := by omega
    have hu1 : (A.deeper (envOfC "leads_to" (defScope s_leads_to) s.heap.objs.size f cdv)).units + 1 < cLine := by omega
    exact (q_cons (q_if (b_eq hu64 (o_vv (PX.v (e_ix hu1 (o_pv 0 (pv 0) e_int) (fun _ _ => rfl) (fun _ _ => rfl))) e_str)) (q_one (q_ret (e_lst (a_cons (PX.v (e_ix hu1 (o_pv 0 (pv 0) e_int) (fun _ _ => rfl) (fun _ _ => rfl))) (a_cons (PX.v (e_ix hu1 (o_pv 0 (pv 0) e_int) (fun _ _ => rfl) (fun _ _ => rfl))) a_nil))))) q_nil)
    (q_one (q_ret (e_1v (f := fz (slP 0 (eoS (kc (.int 1))) (eoN))) c1_list (pe_callTy call_list_of (by rfl) T.b_list (by decide +kernel) (pa_cons (PX.v (e_slP 0 (pv 0) (so_s e_int) so_n)) pa_nil))))))
theorem cal_led_on (A : DefAt K mg "led_on" s_led_on P_led_on) (T : Txt K mg) (C_part_worth : Cal P w K mg base "part_worth" P_part_worth 1 m_part_worth) (C_leads_to : Cal P w K mg base "leads_to" P_leads_to 1 m_leads_to) : Cal P w K mg base "led_on" P_led_on 2 m_led_on :=
  cal_ok (N := N_led_on) (g := g_led_on) A sc_led_on (by decide) fun f cdv A outer s H vs E hr => by
    have hu65 : (A.deeper (envOfC "led_on" (defScope s_led_on) s.heap.objs.size f cdv)).units + 65 < cLine := by have := hr.un; omega
    have hu64 : (A.deeper (envOfC "led_on" (defScope s_led_on) s.heap.objs.size f cdv)).units + 64 < cLine := by omega
    have hu1 : (A.deeper (envOfC "led_on" (defScope s_led_on) s.heap.objs.size f cdv)).units + 1 < cLine := by omega
    exact (q_cons (q_if (b_eq hu64 (o_vv (PX.v (e_ix hu1 (o_pv 0 (pv 0) e_int) (fun _ _ => rfl) (fun _ _ => rfl))) e_str)) (q_one (q_ret (PV.x e_non))) q_nil)
    (q_cons (q_if (b_w (w_and (b_eq hu64 (o_vv (PX.v (e_ix hu1 (o_pv 0 (pv 0) e_int) (fun _ _ => rfl) (fun _ _ => rfl))) e_str)) (w_and1 (b_eq hu64 (o_vv (PX.v (e_cal C_part_worth (hr.mono (by decide)) (by rfl) (r_v (PX.v (e_ix hu1 (o_pv 0 (pv 0) e_int) (fun _ _ => rfl) (fun _ _ => rfl))) (r_p 1 (pv 1) r_nil)))) e_int))))) (q_one (q_ret (e_ix hu1 (o_pv 0 (pv 0) e_int) (fun _ _ => rfl) (fun _ _ => rfl)))) q_nil)
    (q_one (q_ret (e_ix hu1 (o_vv (PX.v (e_cal C_leads_to (hr.mono (by decide)) (by rfl) (r_v (e_rd 0 (pv 0)) r_nil))) e_int) (fun _ _ => rfl) (fun _ _ => rfl))))))
theorem cal_run (A : DefAt K mg "run" s_run P_run) (T : Txt K mg) (C_do_deeds : Cal P w K mg base "do_deeds" P_do_deeds 3 m_do_deeds) (C_led_on : Cal P w K mg base "led_on" P_led_on 2 m_led_on) : Cal P w K mg base "run" P_run 4 m_run :=
  cal_ok (N := N_run) (g := g_run) A sc_run (by decide) fun f cdv A outer s H vs E hr => by
    have hu65 : (A.deeper (envOfC "run" (defScope s_run) s.heap.objs.size f cdv)).units + 65 < cLine := by have := hr.un; omega
    have hu64 : (A.deeper (envOfC "run" (defScope s_run) s.heap.objs.size f cdv)).units + 64 < cLine := by omega
    have hu1 : (A.deeper (envOfC "run" (defScope s_run) s.heap.objs.size f cdv)).units + 1 < cLine := by omega
    exact (q_cons (q_un [7, 8] (e_rd 0 (pv 0)) (pg_tup rfl (pgs_cons (pg_name (i := 7) sc_run.nd rfl (by first | exact .inl rfl | exact .inr rfl)) (pgs_cons (pg_name (i := 8) sc_run.nd rfl (by first | exact .inl rfl | exact .inr rfl)) pgs_nil))))
    (q_cons (q_set 3 sc_run.nd rfl (by first | exact .inl rfl | exact .inr rfl) (e_copy (i := 1) (pe_bm0 PySem.F.plainAttrs_dict PySem.F.slot_dict_copy PySem.F.type_dict_copy mt_copy (pv 1))))
    (q_cons (q_set 4 sc_run.nd rfl (by first | exact .inl rfl | exact .inr rfl) (e_lst a_nil))
    (q_cons (q_set 5 sc_run.nd rfl (by first | exact .inl rfl | exact .inr rfl) (PV.x e_int))
    (q_cons (q_for PassesOwn.never rfl (i_r1 (by rfl) T.b_range (a_cons (e_rd 2 (pv 2)) a_nil)) (pt := .nm 6) (g_nm (i := 6) sc_run.nd rfl (by first | exact .inl rfl | exact .inr rfl))
    (q_cons (q_un [9, 10] (PX.v (e_ix hu1 (o_pv 8 (pv 8) (e_rd 5 (pv 5))) (fun _ _ => rfl) (fun _ _ => rfl))) (pg_tup rfl (pgs_cons (pg_name (i := 9) sc_run.nd rfl (by first | exact .inl rfl | exact .inr rfl)) (pgs_cons (pg_name (i := 10) sc_run.nd rfl (by first | exact .inl rfl | exact .inr rfl)) pgs_nil))))
    (q_cons (q_expr (e_cal C_do_deeds (hr.mono (by decide)) (by rfl) (r_v (e_rd 9 (pv 9)) (r_p 3 (pv 3) (r_v (e_rd 7 (pv 7)) (r_p 4 (pv 4) r_nil))))))
    (q_cons (q_set 5 sc_run.nd rfl (by first | exact .inl rfl | exact .inr rfl) (e_cal C_led_on (hr.mono (by decide)) (by rfl) (r_v (e_rd 10 (pv 10)) (r_p 3 (pv 3) r_nil))))
    (q_one (q_if (b_isN (e_rd 5 (pv 5))) (q_one (q_ret (e_tup (a_cons (e_rd 4 (pv 4)) (a_cons e_bl a_nil))))) q_nil))))))
    (q_one (q_ret (e_tup (a_cons (e_rd 4 (pv 4)) (a_cons e_bl a_nil))))))))))
theorem cal_law {f fP : Addr} {fd fdP : FuncData} (F : Fun K "law" "law" s_law f fd) (T : Txt K mg) (GP : FnOk P w K mg base CX0 2 fP fdP P__law_purse (spP K mp)) (gP : mg "_law_purse" = some (.ref fP)) (kP : PySem.W.keepIn K (.ref fP) = true) (bP : Binds K fdP P__law_purse []) (C__law_draw : Cal P w K mg base "_law_draw" P__law_draw 1 m__law_draw) (C__law_due : Cal P w K mg base "_law_due" P__law_due 1 m__law_due) (C_run : Cal P w K mg base "run" P_run 4 m_run)
    (hl : ∀ ns : List Int, ns.length ≤ 63 → lawRuns 14 mp g_law ns) : FnOk P w K mg base CX0 5 f fd P_law (spLaw K) := by
  refine F.ok sc_law (fun vs H Q E h => ?_) (fun cdv A outer s H vs Q E hr h => ⟨_, pss_cons (ps_set (i := 1) sc_law.nd rfl (by first | exact .inl rfl | exact .inr rfl) (pe_call GP (hr.mono (by decide)) (by rfl) gP kP bP .nil pass0 (pa_cons (pv 0) pa_nil))) ?_, law_ok (k := 14) (mp := mp) (g := g_law) rfl hl h⟩)
  · obtain ⟨_, _, rfl, _⟩ := h
    rfl
  · have hu65 : (A.deeper (envOfC "law" (defScope s_law) s.heap.objs.size f cdv)).units + 65 < cLine := by have := hr.un; omega
    have hu64 : (A.deeper (envOfC "law" (defScope s_law) s.heap.objs.size f cdv)).units + 64 < cLine := by omega
    have hu1 : (A.deeper (envOfC "law" (defScope s_law) s.heap.objs.size f cdv)).units + 1 < cLine := by omega
    exact (q_cons (q_for PassesOwn.never rfl (i_r1 (by rfl) T.b_range (a_cons e_int a_nil)) (pt := .nm 2) (g_nm (i := 2) sc_law.nd rfl (by first | exact .inl rfl | exact .inr rfl))
    (q_cons (q_set 3 sc_law.nd rfl (by first | exact .inl rfl | exact .inr rfl) (e_ix hu1 (o_vv (PX.v (e_lst (a_cons e_int (a_cons e_int (a_cons (PX.v (e_pow (o_vv e_int e_int))) (a_cons (PX.v (e_add (o_vv e_int (PX.v (e_cal C__law_draw (hr.mono (by decide)) (by rfl) (r_p 1 (pv 1) (r_v e_int r_nil))))))) a_nil)))))) (PX.v (e_cal C__law_draw (hr.mono (by decide)) (by rfl) (r_p 1 (pv 1) (r_v e_int r_nil))))) (fun _ _ => rfl) (fun _ _ => rfl)))
    (q_cons (q_set 4 sc_law.nd rfl (by first | exact .inl rfl | exact .inr rfl) (e_ix hu1 (o_vv (PX.v (e_lst (a_cons e_int (a_cons e_int (a_cons (PX.v (e_sub (o_vv (e_rd 3 (pv 3)) e_int))) (a_cons (PX.v (e_cal C__law_draw (hr.mono (by decide)) (by rfl) (r_p 1 (pv 1) (r_v (e_rd 3 (pv 3)) r_nil)))) a_nil)))))) (PX.v (e_cal C__law_draw (hr.mono (by decide)) (by rfl) (r_p 1 (pv 1) (r_v e_int r_nil))))) (fun _ _ => rfl) (fun _ _ => rfl)))
    (q_cons (q_set 5 sc_law.nd rfl (by first | exact .inl rfl | exact .inr rfl) (e_ix hu1 (o_vv (PX.v (e_lst (a_cons e_int (a_cons e_int (a_cons (PX.v (e_sub (o_vv (e_rd 3 (pv 3)) e_int))) (a_cons (PX.v (e_cal C__law_draw (hr.mono (by decide)) (by rfl) (r_p 1 (pv 1) (r_v (e_rd 3 (pv 3)) r_nil)))) (a_cons (e_rd 4 (pv 4)) a_nil))))))) (PX.v (e_cal C__law_draw (hr.mono (by decide)) (by rfl) (r_p 1 (pv 1) (r_v e_int r_nil))))) (fun _ _ => rfl) (fun _ _ => rfl)))
    (q_cons (q_set 6 sc_law.nd rfl (by first | exact .inl rfl | exact .inr rfl) (e_ix hu1 (o_vv (PX.v (e_lst (a_cons (PX.v (e_tup (a_cons e_str (a_cons e_str a_nil)))) (a_cons (PX.v (e_tup (a_cons e_str (a_cons (e_rd 4 (pv 4)) a_nil)))) a_nil)))) (PX.v (e_cal C__law_draw (hr.mono (by decide)) (by rfl) (r_p 1 (pv 1) (r_v e_int r_nil))))) (fun _ _ => rfl) (fun _ _ => rfl)))
    (q_cons (q_set 7 sc_law.nd rfl (by first | exact .inl rfl | exact .inr rfl) (e_ix hu1 (o_vv (PX.v (e_lst (a_cons (PX.v (e_tup (a_cons e_str (a_cons e_str a_nil)))) (a_cons (PX.v (e_tup (a_cons e_str (a_cons (e_rd 5 (pv 5)) a_nil)))) a_nil)))) (PX.v (e_cal C__law_draw (hr.mono (by decide)) (by rfl) (r_p 1 (pv 1) (r_v e_int r_nil))))) (fun _ _ => rfl) (fun _ _ => rfl)))
    (q_cons (q_set 8 sc_law.nd rfl (by first | exact .inl rfl | exact .inr rfl) (e_lst a_nil))
    (q_cons (q_for PassesOwn.never rfl (i_v (PX.v (e_lst (a_cons e_str (a_cons e_str (a_cons e_str (a_cons e_str (a_cons e_str a_nil)))))))) (pt := .nm 9) (g_nm (i := 9) sc_law.nd rfl (by first | exact .inl rfl | exact .inr rfl))
    (q_cons (q_expr (e_app (i := 8) (fe := fz (tupE (evC (kc (.str "put")) (evC (kc (.str "c")) (evC (fz (tupE (evC (rd 9) (evC (rd 6) (evC (rd 7) (evN)))))) (evN)))))) (pe_bm PySem.F.plainAttrs_list PySem.F.slot_list_append PySem.F.type_list_append mt_append (pv 8) (pa_cons (PX.v (e_tup (a_cons e_str (a_cons e_str (a_cons (PX.v (e_tup (a_cons (e_rd 9 (pv 9)) (a_cons (e_rd 6 (pv 6)) (a_cons (e_rd 7 (pv 7)) a_nil))))) a_nil))))) pa_nil))))
    (q_one (q_expr (e_app (i := 8) (fe := fz (tupE (evC (kc (.str "tell")) (evC (fz (tupE (evC (kc (.str "name")) (evC (kc (.str "c")) (evN))))) (evN))))) (pe_bm PySem.F.plainAttrs_list PySem.F.slot_list_append PySem.F.type_list_append mt_append (pv 8) (pa_cons (PX.v (e_tup (a_cons e_str (a_cons (PX.v (e_tup (a_cons e_str (a_cons e_str a_nil)))) a_nil)))) pa_nil)))))))
    (q_cons (q_set 10 sc_law.nd rfl (by first | exact .inl rfl | exact .inr rfl) (e_cal C__law_due (hr.mono (by decide)) (by rfl) (r_v (e_rd 4 (pv 4)) (r_v (e_rd 5 (pv 5)) (r_v (e_rd 3 (pv 3)) r_nil)))))
    (q_cons (q_set 11 sc_law.nd rfl (by first | exact .inl rfl | exact .inr rfl) (e_tup (a_cons (e_rd 3 (pv 3)) (a_cons (PX.v (e_lst (a_cons (PX.v (e_tup (a_cons (PX.v (e_slP 8 (pv 8) so_n (so_s e_int))) (a_cons (PX.v (e_tup (a_cons e_str (a_cons e_int a_nil)))) a_nil)))) (a_cons (PX.v (e_tup (a_cons (PX.v (e_slP 8 (pv 8) (so_s e_int) so_n)) (a_cons (PX.v (e_tup (a_cons e_str a_nil))) a_nil)))) a_nil)))) a_nil))))
    (q_cons (q_set 12 sc_law.nd rfl (by first | exact .inl rfl | exact .inr rfl) (e_disp (d_cons e_str (e_rd 4 (pv 4)) (d_cons e_str (e_rd 5 (pv 5)) (d_cons e_str e_int d_nil))) rfl rfl (by intro z; cases z) (by decide)))
    (q_cons (q_if (b_ne hu64 (o_vv (PX.v (e_cal C_run (hr.mono (by decide)) (by rfl) (r_v (e_rd 11 (pv 11)) (r_p 12 (pv 12) (r_v e_int r_nil))))) (PX.v (e_tup (a_cons (e_rd 10 (pv 10)) (a_cons e_bl a_nil)))))) (q_one (q_ret (PV.x e_bl))) q_nil)
    (q_cons (q_set 13 sc_law.nd rfl (by first | exact .inl rfl | exact .inr rfl) (e_lst (a_cons (PX.v (e_tup (a_cons e_str (a_cons e_str (a_cons (PX.v (e_tup (a_cons e_str (a_cons (PX.v (e_tup (a_cons e_str (a_cons e_str a_nil)))) (a_cons (e_rd 7 (pv 7)) a_nil))))) a_nil))))) (a_cons (PX.v (e_tup (a_cons e_str (a_cons e_str (a_cons (e_rd 6 (pv 6)) a_nil))))) (a_cons (PX.v (e_tup (a_cons e_str (a_cons (PX.v (e_tup (a_cons e_str (a_cons e_str a_nil)))) a_nil)))) a_nil)))))
    (q_cons (q_set 13 sc_law.nd rfl (by first | exact .inl rfl | exact .inr rfl) (e_add (o_vv (e_rd 13 (pv 13)) (PX.v (e_lst (a_cons (PX.v (e_tup (a_cons e_str (a_cons (PX.v (e_tup (a_cons e_str (a_cons e_str a_nil)))) a_nil)))) (a_cons (PX.v (e_tup (a_cons e_str (a_cons (e_rd 6 (pv 6)) a_nil)))) a_nil)))))))
    (q_cons (q_set 14 sc_law.nd rfl (by first | exact .inl rfl | exact .inr rfl) (e_mod (o_vv (PX.v (e_add (o_vv (e_rd 4 (pv 4)) (e_rd 5 (pv 5))))) (e_rd 3 (pv 3)))))
    (q_cons (q_set 15 sc_law.nd rfl (by first | exact .inl rfl | exact .inr rfl) (e_ix hu1 (o_vv (PX.v (e_lst (a_cons (e_rd 14 (pv 14)) (a_cons (e_rd 4 (pv 4)) a_nil)))) (PX.v (e_1v (f := fz (op2 (ev2 (fz (op2 (ev2P 6 (kc (.int 0))) ixD)) (kc (.str "number"))) eqR)) c1_int (pe_callTy call_int1 (by rfl) T.b_int (by decide +kernel) (pa_cons (PX.v (e_eq hu64 (o_vv (PX.v (e_ix hu1 (o_pv 6 (pv 6) e_int) (fun _ _ => rfl) (fun _ _ => rfl))) e_str))) pa_nil))))) (fun _ _ => rfl) (fun _ _ => rfl)))
    (q_one (q_if (b_ne hu64 (o_vv (PX.v (e_cal C_run (hr.mono (by decide)) (by rfl) (r_v (PX.v (e_tup (a_cons (e_rd 3 (pv 3)) (a_cons (PX.v (e_lst (a_cons (PX.v (e_tup (a_cons (e_rd 13 (pv 13)) (a_cons (PX.v (e_tup (a_cons e_str a_nil))) a_nil)))) a_nil))) a_nil)))) (r_p 12 (pv 12) (r_v e_int r_nil))))) (PX.v (e_tup (a_cons (PX.v (e_lst (a_cons (e_rd 14 (pv 14)) (a_cons (e_rd 15 (pv 15)) (a_cons (e_rd 15 (pv 15)) a_nil))))) (a_cons e_bl a_nil)))))) (q_one (q_ret (PV.x e_bl))) q_nil))))))))))))))))))
    (q_one (q_ret (PV.x e_bl))))
end
end Oc.K_k02
end

section
set_option Elab.async false
set_option linter.all false
set_option maxRecDepth 100000
set_option maxHeartbeats 4000000
namespace Oc.K_k02
open PySem L2
local macro_rules | `(tactic| walk_at "ev") => `(tactic| simp [seqS_e, seqC_nx, seqC_bk, seqC_ct, seqC_rt, nilS_e, asgS_e, asgC_e, dropS_e, dropC_e, retS_e, retC_e, retN_e, ifS_e, ifC_t, ifC_f, forS_e, forC_e, forL_nil, forL_cons, forB_e, forD_nx, forD_ct, forD_bk, forD_rt, bindP_nm, bindP_tp, bindPs_nil, bindPs_cons, bindC_e, unS_e, unC_e, setAll_nil, setAll_cons, putS_e, putC1_e, putC2_e, putC3_e, putC4_e, putC5_e, put_val, put_tup, put_lst, put_dk, put_dt, augS_e, augC_e, kc_e, fz_e, fzC_v, fzC_c, vx_e, vxC_e, consC_e, rd_fro, rd_own, rd_cons, rd_1, rd_2, rd_3, rd_4, rd_5, rd_6, rd_7, rd_8, rd_9, rd_10, rd_11, rd_12, rd_13, rd_14, rd_15, rd_16, rd_17, rd_18, rd_19, rd_20, rd_21, rd_22, rd_23, rd_24, rd_25, rd_26, rd_27, rd_28, rd_29, rd_30, rd_31, rd_32, rd_33, rd_34, rd_35, rd_36, rd_37, rd_38, rd_39, peek_fro, peek_l, peek_dk, peek_dt, peek_1, peek_2, peek_3, peek_4, peek_5, peek_6, peek_7, peek_8, peek_9, peek_10, peek_11, peek_12, peek_13, peek_14, peek_15, peek_16, peek_17, peek_18, peek_19, peek_20, peek_21, peek_22, peek_23, peek_24, peek_25, peek_26, peek_27, peek_28, peek_29, peek_30, peek_31, peek_32, peek_33, peek_34, peek_35, peek_36, peek_37, peek_38, peek_39, consX_e, mv_fro, mv_own, mv_1, mv_2, mv_3, mv_4, mv_5, mv_6, mv_7, mv_8, mv_9, mv_10, mv_11, mv_12, mv_13, mv_14, mv_15, mv_16, mv_17, mv_18, mv_19, mv_20, mv_21, mv_22, mv_23, mv_24, mv_25, mv_26, mv_27, mv_28, mv_29, mv_30, mv_31, mv_32, mv_33, mv_34, mv_35, mv_36, mv_37, mv_38, mv_39, look_e, lookC_e, ev2_e, ev2C_e, ev2D_e, ev2P_e, ev2PC_e, ev2PD_e, ev2PF_e, ev2Q_e, ev2QC_e, ev2QD_e, evN_e, evC_e, evCC_e, evCD_e, rvE_e, op2_e, op2C_e, op1_e, op1C_e, tst_e, tstC_e, andB_e, andC_t, andC_f, orB_e, orC_t, orC_f, notB_e, notC_e, noneE_e, noneC_e, isNo_n, isNo_i, isNo_l, isNo_t, isNo_s, andX_e, andXC_t, andXC_f, orX_e, orXC_t, orXC_f, notX_e, notXC_e, tupE_e, tupC_e, lstE_e, lstC_e, argN_e, argV_e, argVC_e, argVD_e, argP_e, argPC_e, argPD_e, callE_e, callC_e, callD_e, callF_e, copyE_e, appE_e, appB_e, appC_e, appD_e, popAtE_e, popB_e, popC_e, pop0, get2E_e, getD1_k, getD1_t, getD2_e, getD3_e, getX_e, getF_e, inKE_e, inKC_f, inKC_t, itV_e, itVC_e, itT_e, itTC_e, itR1_e, itRC_e, itR2_e, itR2C_e, itE_e, itEC_e, eoN_e, eoS_e, eoC_e, slV_e, slC_e, slD_e, slF_e, slP_e, slPB_e, slPC_e, slPD_e, slPF_e, dispE_e, dispC_e, edN_e, edC_e, edB_e, edD_e, edF_e, dk0_e, dt0_e, negE_e, negC_e, iteE_e, iteC_t, iteC_f, chainE_e, chC_e, chD_e, lcL_nil, lcL_cons, lcD0_e, lcD1_t, lcD1_f, lcD2_e, lcE_e, lcB_e, lcF_e, yesB_e, ix_l, ix_t, ix_s, ix_k, ix_dt, atI_0, atI_1, atI_2, atI_3, atI_4, atI_5, atI_6, atI_7, atI_neg1, add_i, add_s, add_l, sub_i, mul_i, mod_i, div_i, pow_i, cmp_i, eqR_e, neR_e, inR_e, ninR_e, eq_ii, putD_dk, putD_l, ownD_0, ownL_0, ownD_1, ownL_1, ownD_2, ownL_2, ownD_3, ownL_3, ownD_4, ownL_4, ownD_5, ownL_5, ownD_6, ownL_6, ownD_7, ownL_7, ownD_8, ownL_8, ownD_9, ownL_9, ownD_10, ownL_10, ownD_11, ownL_11, ownD_12, ownL_12, ownD_13, ownL_13, ownD_14, ownL_14, ownD_15, ownL_15, ownD_16, ownL_16, ownD_17, ownL_17, ownD_18, ownL_18, ownD_19, ownL_19, ownD_20, ownL_20, ownD_21, ownL_21, ownD_22, ownL_22, ownD_23, ownL_23, ownD_24, ownL_24, ownD_25, ownL_25, ownD_26, ownL_26, ownD_27, ownL_27, ownD_28, ownL_28, ownD_29, ownL_29, ownD_30, ownL_30, ownD_31, ownL_31, ownD_32, ownL_32, ownD_33, ownL_33, ownD_34, ownL_34, ownD_35, ownL_35, ownD_36, ownL_36, ownD_37, ownL_37, ownD_38, ownL_38, ownD_39, ownL_39, keyOf_i, keyOf_s, dget_k, len_l, len_t, len_k, len_s, list_l, list_t, int_i, int_b, slice_l, slice_t, slotsOf_nil, slotsOf_v, slotsOf_p, outs_nil, outs_own, outs_fro, outs_un, mkM1, mkM2, mkM3, mkM4, mkM5, mkM6, mkC_rt, mkC_nx, sIx_0, sIx_1, sIx_2, sIx_3, sIx_4, sIx_5, sIx_6, sIx_7, sIx_8, sIx_9, sIx_10, sIx_11, HT.sIx_none, cutD, outAt_nil, outAt_v, outAt_p, outAt_pf, outAt_pu, wbS_un, wbS_fro, wbS_own, wbS_none, lim, ixN, places, sameTags, clean, wipeE, backE, *])
theorem draw_ok (t : Nat) (ht : t < 1000) (a b n : Int) (ha : 0 ≤ a) (hb : 0 < b) (hn : 0 < n) (hn2 : DivOk n) : ∃ a' r, m__law_draw [.own t (.lst [.int a, .int b]), .fro (.int n)] = some (.val (.int r), [.own t (.lst [.int a', .int b]), .un]) ∧ 0 ≤ a' ∧ 0 ≤ r ∧ r < n := by
  by_cases h : a = 0
  · refine ⟨b / n, b % n, ?_, Int.ediv_nonneg (by omega) (by omega), Int.emod_nonneg _ (by omega), Int.emod_lt_of_pos _ hn⟩
    unfold m__law_draw g__law_draw
    walk_at "ev"
  · refine ⟨a / n, a % n, ?_, Int.ediv_nonneg (by omega) (by omega), Int.emod_nonneg _ (by omega), Int.emod_lt_of_pos _ hn⟩
    unfold m__law_draw g__law_draw
    walk_at "ev"
theorem mixed_ok (c k : Int) (hk : 0 ≤ k) (hk2 : k < 1000) : ∃ r, m__law_mixed [.fro (.int c), .fro (.int k)] = some (.val (.int r), [.un, .un]) ∧ 0 ≤ r ∧ r < 2147483563 := by
  obtain ⟨x, hx⟩ : ∃ x, x = c % 2147483629 := ⟨_, rfl⟩
  have x0 : 0 ≤ x := by rw [hx]; exact Int.emod_nonneg _ (by decide)
  have x1 : x < 2147483629 := by rw [hx]; exact Int.emod_lt_of_pos _ (by decide)
  have xx : 0 ≤ x * x ∧ x * x < 4611685984067649792 := by
    constructor
    · exact Int.mul_nonneg x0 x0
    · have h1 : x * x ≤ 2147483628 * x := Int.mul_le_mul_of_nonneg_right (by omega) x0
      have h2 : (2147483628 : Int) * x ≤ 2147483628 * 2147483628 := Int.mul_le_mul_of_nonneg_left (by omega) (by decide)
      omega
  have m1 : MulOk x x := mulOk_s (by omega) (by omega) (by omega) (by omega)
  have m2 : MulOk 3 x := mulOk_s (by omega) (by omega) (by omega) (by omega)
  have m3 : MulOk 7919 k := mulOk_s (by omega) (by omega) (by omega) (by omega)
  obtain ⟨y, hy⟩ : ∃ y, y = x * x + 3 * x + 7919 * k + 1 := ⟨_, rfl⟩
  have m4 : MulOk y 48271 := mulOk_s (by omega) (by omega) (by omega) (by omega)
  obtain ⟨z, hz⟩ : ∃ z, z = y * 48271 % 2147483629 := ⟨_, rfl⟩
  have z0 : 0 ≤ z := by rw [hz]; exact Int.emod_nonneg _ (by decide)
  have z1 : z < 2147483629 := by rw [hz]; exact Int.emod_lt_of_pos _ (by decide)
  have m5 : MulOk z z := mulOk_s (by omega) (by omega) (by omega) (by omega)
  obtain ⟨u, hu⟩ : ∃ u, u = (z * z + 7) % 2147483587 := ⟨_, rfl⟩
  have u0 : 0 ≤ u := by rw [hu]; exact Int.emod_nonneg _ (by decide)
  have u1 : u < 2147483587 := by rw [hu]; exact Int.emod_lt_of_pos _ (by decide)
  have m6 : MulOk u (u + 69621) := mulOk_s (by omega) (by omega) (by omega) (by omega)
  refine ⟨u * (u + 69621) % 2147483563, ?_, Int.emod_nonneg _ (by decide), Int.emod_lt_of_pos _ (by decide)⟩
  subst hu hz hy hx
  clear x0 x1 xx z0 z1 u0 u1
  unfold m__law_mixed g__law_mixed
  walk_at "ev"
/-- a purse: two numbers, the first not below 0, the second above -/
def Purse (d : D) : Prop := ∃ a b : Int, d = .lst [.int a, .int b] ∧ 0 ≤ a ∧ 0 < b
theorem purse_loop (cells : List Int) (hc : 0 < cells.length) (hc2 : cells.length ≤ 64) : ∀ (ks : List Int) (n : Int) (s : Slot) (m : Nat), (∀ k ∈ ks, 0 ≤ k ∧ k < 1000) → 0 < n → n.natAbs < 2 ^ (40 * (m + 1)) → m + ks.length ≤ 1000 →
    ∃ n' s', forL (.nm 3) (asgS 2 (op2 (ev2 (fz (op2 (ev2 (rd 2) (kc (.int 2147483587))) mulD)) (fz (callE m__law_mixed (argV (fz (op2 (ev2P 1 (fz (op2 (ev2 (rd 3) (fz (op1 (look 1) lenD))) modD))) ixD)) (argV (rd 3) (argN)))))) addD)) (ks.map D.int) [.un, .own 0 (.lst (cells.map D.int)), .fro (.int n), s] = some ([.un, .own 0 (.lst (cells.map D.int)), .fro (.int n'), s'], .nx) ∧ 0 < n'
  | [], n, s, m, _, hn, _, _ => ⟨n, s, rfl, hn⟩
  | k :: ks, n, s, m, hk, hn, hb, hm => by
    obtain ⟨k0, k1⟩ := hk k (by simp)
    have p1 : 0 < (cells.length : Int) := by omega
    have q0 : 0 ≤ k % (cells.length : Int) := Int.emod_nonneg _ (by omega)
    have q1 : k % (cells.length : Int) < cells.length := Int.emod_lt_of_pos _ p1
    obtain ⟨j, hj⟩ : ∃ j : Nat, k % (cells.length : Int) = (j : Int) := ⟨(k % (cells.length : Int)).toNat, by omega⟩
    have hjl : j < cells.length := by omega
    obtain ⟨r, hr, r0, r1⟩ := mixed_ok cells[j] k k0 k1
    have m1 : MulOk n 2147483587 := mulOk_of (b := 40) hb (by decide) (by omega) (by omega) (by simp at hm; omega)
    have hb2 : (n * 2147483587 + r).natAbs < 2 ^ (40 * (m + 1 + 1)) := by
      have e : (2 : Nat) ^ (40 * (m + 1 + 1)) = 2 ^ (40 * (m + 1)) * 1099511627776 := by
        rw [show 40 * (m + 1 + 1) = 40 * (m + 1) + 40 by omega, Nat.pow_add]
      rw [e]
      generalize (2 : Nat) ^ (40 * (m + 1)) = N at hb ⊢
      omega
    obtain ⟨n', s', h1, h2⟩ := purse_loop cells hc hc2 ks (n * 2147483587 + r) (.fro (.int k)) (m + 1) (fun k hk' => hk k (by simp [hk'])) (by omega) hb2 (by simp at hm ⊢; omega)
    refine ⟨n', s', ?_, h2⟩
    rw [List.map_cons, forL_cons]
    have hix : atI (cells.map D.int) (j : Int) = some (.int cells[j]) := by
      rw [atI_nat, List.getElem?_map, List.getElem?_eq_getElem hjl]
      rfl
    clear hb hb2 q0 q1 r0 r1 k0 k1 hm hk hn
    walk_at "ev"
theorem mp_ok (ns : List Int) : ∃ d, mp ns = some (.cell d) ∧ Purse d := by
  have hl : ((ns.take 63 ++ [0]).length) ≤ 64 := by simp; omega
  have hp : 0 < (ns.take 63 ++ [0]).length := by simp
  obtain ⟨n', s', h1, h2⟩ := purse_loop (ns.take 63 ++ [0]) hp hl ((List.range 150).map fun (i : Nat) => ((i : Nat) : Int)) 1 .un 0 (fun k hk => by simp at hk; obtain ⟨i, hi, rfl⟩ := hk; omega) (by decide) (by decide) (by simp)
  have er : rngD 0 150 = ((List.range 150).map fun (i : Nat) => ((i : Nat) : Int)).map D.int := by
    unfold rngD
    rw [List.map_map]
    congr 1
    funext i
    simp
  have b1 : -big ≤ 150 ∧ (150 : Int) < big := by decide
  obtain ⟨c, r, hc⟩ : ∃ c r, ns.take 63 ++ [0] = c :: r := by
    cases h : ns.take 63 with
    | nil => exact ⟨0, [], rfl⟩
    | cons c r => exact ⟨c, r ++ [0], rfl⟩
  have hp2 : (0 : Int) ≤ 18 ∧ (18 : Int) ≤ 1000000 ∧ (10 : Int).natAbs < 2 ^ 64 := by decide
  have e10 : (10 : Int) ^ (18 : Int).toNat = 1000000000000000000 := by decide
  have dv : DivOk 1000000000000000000 := divOk_s (by decide) (by decide)
  unfold mp mkP g__law_purse purEnv
  rw [← er] at h1
  have h1' := h1
  rw [hc, List.map_cons] at h1
  rw [hc, List.map_cons]
  clear er hc hl hp
  by_cases g : 1000000000000000000 ≤ c
  · refine ⟨.lst [.int (c / 1000000000000000000), .int n'], ?_, _, _, rfl, by omega, h2⟩
    clear h1'
    walk_at "ev"
  · refine ⟨.lst [.int n', .int n'], ?_, _, _, rfl, by omega, h2⟩
    clear h1'
    walk_at "ev"
end Oc.K_k02
end

section
set_option Elab.async false
set_option linter.all false
set_option maxRecDepth 100000
set_option maxHeartbeats 4000000
namespace Oc.K_k02
open PySem L2
local macro_rules | `(tactic| walk_at "ev") => `(tactic| simp [seqS_e, seqC_nx, seqC_bk, seqC_ct, seqC_rt, nilS_e, asgS_e, asgC_e, dropS_e, dropC_e, retS_e, retC_e, retN_e, ifS_e, ifC_t, ifC_f, forS_e, forC_e, forL_nil, forL_cons, forB_e, forD_nx, forD_ct, forD_bk, forD_rt, bindP_nm, bindP_tp, bindPs_nil, bindPs_cons, bindC_e, unS_e, unC_e, setAll_nil, setAll_cons, putS_e, putC1_e, putC2_e, putC3_e, putC4_e, putC5_e, put_val, put_tup, put_lst, put_dk, put_dt, augS_e, augC_e, kc_e, fz_e, fzC_v, fzC_c, vx_e, vxC_e, consC_e, rd_fro, rd_own, rd_cons, rd_1, rd_2, rd_3, rd_4, rd_5, rd_6, rd_7, rd_8, rd_9, rd_10, rd_11, rd_12, rd_13, rd_14, rd_15, rd_16, rd_17, rd_18, rd_19, rd_20, rd_21, rd_22, rd_23, rd_24, rd_25, rd_26, rd_27, rd_28, rd_29, rd_30, rd_31, rd_32, rd_33, rd_34, rd_35, rd_36, rd_37, rd_38, rd_39, peek_fro, peek_l, peek_dk, peek_dt, peek_1, peek_2, peek_3, peek_4, peek_5, peek_6, peek_7, peek_8, peek_9, peek_10, peek_11, peek_12, peek_13, peek_14, peek_15, peek_16, peek_17, peek_18, peek_19, peek_20, peek_21, peek_22, peek_23, peek_24, peek_25, peek_26, peek_27, peek_28, peek_29, peek_30, peek_31, peek_32, peek_33, peek_34, peek_35, peek_36, peek_37, peek_38, peek_39, consX_e, mv_fro, mv_own, mv_1, mv_2, mv_3, mv_4, mv_5, mv_6, mv_7, mv_8, mv_9, mv_10, mv_11, mv_12, mv_13, mv_14, mv_15, mv_16, mv_17, mv_18, mv_19, mv_20, mv_21, mv_22, mv_23, mv_24, mv_25, mv_26, mv_27, mv_28, mv_29, mv_30, mv_31, mv_32, mv_33, mv_34, mv_35, mv_36, mv_37, mv_38, mv_39, look_e, lookC_e, ev2_e, ev2C_e, ev2D_e, ev2P_e, ev2PC_e, ev2PD_e, ev2PF_e, ev2Q_e, ev2QC_e, ev2QD_e, evN_e, evC_e, evCC_e, evCD_e, rvE_e, op2_e, op2C_e, op1_e, op1C_e, tst_e, tstC_e, andB_e, andC_t, andC_f, orB_e, orC_t, orC_f, notB_e, notC_e, noneE_e, noneC_e, isNo_n, isNo_i, isNo_l, isNo_t, isNo_s, andX_e, andXC_t, andXC_f, orX_e, orXC_t, orXC_f, notX_e, notXC_e, tupE_e, tupC_e, lstE_e, lstC_e, argN_e, argV_e, argVC_e, argVD_e, argP_e, argPC_e, argPD_e, callE_e, callC_e, callD_e, callF_e, copyE_e, appE_e, appB_e, appC_e, appD_e, popAtE_e, popB_e, popC_e, pop0, get2E_e, getD1_k, getD1_t, getD2_e, getD3_e, getX_e, getF_e, inKE_e, inKC_f, inKC_t, itV_e, itVC_e, itT_e, itTC_e, itR1_e, itRC_e, itR2_e, itR2C_e, itE_e, itEC_e, eoN_e, eoS_e, eoC_e, slV_e, slC_e, slD_e, slF_e, slP_e, slPB_e, slPC_e, slPD_e, slPF_e, dispE_e, dispC_e, edN_e, edC_e, edB_e, edD_e, edF_e, dk0_e, dt0_e, negE_e, negC_e, iteE_e, iteC_t, iteC_f, chainE_e, chC_e, chD_e, lcL_nil, lcL_cons, lcD0_e, lcD1_t, lcD1_f, lcD2_e, lcE_e, lcB_e, lcF_e, yesB_e, ix_l, ix_t, ix_s, ix_k, ix_dt, atI_0, atI_1, atI_2, atI_3, atI_4, atI_5, atI_6, atI_7, atI_neg1, add_i, add_s, add_l, sub_i, mul_i, mod_i, div_i, pow_i, cmp_i, eqR_e, neR_e, inR_e, ninR_e, eq_ii, putD_dk, putD_l, ownD_0, ownL_0, ownD_1, ownL_1, ownD_2, ownL_2, ownD_3, ownL_3, ownD_4, ownL_4, ownD_5, ownL_5, ownD_6, ownL_6, ownD_7, ownL_7, ownD_8, ownL_8, ownD_9, ownL_9, ownD_10, ownL_10, ownD_11, ownL_11, ownD_12, ownL_12, ownD_13, ownL_13, ownD_14, ownL_14, ownD_15, ownL_15, ownD_16, ownL_16, ownD_17, ownL_17, ownD_18, ownL_18, ownD_19, ownL_19, ownD_20, ownL_20, ownD_21, ownL_21, ownD_22, ownL_22, ownD_23, ownL_23, ownD_24, ownL_24, ownD_25, ownL_25, ownD_26, ownL_26, ownD_27, ownL_27, ownD_28, ownL_28, ownD_29, ownL_29, ownD_30, ownL_30, ownD_31, ownL_31, ownD_32, ownL_32, ownD_33, ownL_33, ownD_34, ownL_34, ownD_35, ownL_35, ownD_36, ownL_36, ownD_37, ownL_37, ownD_38, ownL_38, ownD_39, ownL_39, keyOf_i, keyOf_s, dget_k, len_l, len_t, len_k, len_s, list_l, list_t, int_i, int_b, slice_l, slice_t, slotsOf_nil, slotsOf_v, slotsOf_p, outs_nil, outs_own, outs_fro, outs_un, mkM1, mkM2, mkM3, mkM4, mkM5, mkM6, mkC_rt, mkC_nx, sIx_0, sIx_1, sIx_2, sIx_3, sIx_4, sIx_5, sIx_6, sIx_7, sIx_8, sIx_9, sIx_10, sIx_11, HT.sIx_none, cutD, outAt_nil, outAt_v, outAt_p, outAt_pf, outAt_pu, wbS_un, wbS_fro, wbS_own, wbS_none, lim, ixN, places, sameTags, clean, wipeE, backE, sk_number, sk_name, sk_put, sk_tell, sk_go, sk_choose, sk_stop, sk_plus, sk_less, sk_times, sk_below, sk_same, ne_number_name, ne_name_number, ne_put_tell, ne_tell_put, ne_go_choose, ne_go_stop, ne_choose_go, ne_choose_stop, ne_stop_go, ne_stop_choose, ne_plus_less, ne_plus_times, ne_plus_below, ne_plus_same, ne_less_plus, ne_less_times, ne_less_below, ne_less_same, ne_times_plus, ne_times_less, ne_times_below, ne_times_same, ne_below_plus, ne_below_less, ne_below_times, ne_below_same, ne_same_plus, ne_same_less, ne_same_times, ne_same_below, ne_plus_number, ne_plus_name, ne_less_number, ne_less_name, ne_times_number, ne_times_name, ne_below_number, ne_below_name, ne_same_number, ne_same_name, ct_number, ct_name, ct_put, ct_tell, ct_go, ct_choose, ct_stop, ct_plus, ct_less, ct_times, ct_below, ct_same, eq_ss, *])
theorem part_worth_ok (p : Part) (t : Nat) (W : Ws) : m_part_worth [.fro p.d, .own t (.dk (wd W))] = some (.val (.int (pw W p)), [.un, .own t (.dk (wd W))]) := by
  cases p with
  | num n =>
    unfold m_part_worth g_part_worth
    simp only [Part.d, pw]
    walk_at "ev"
  | nm s =>
    unfold m_part_worth g_part_worth
    simp only [Part.d, pw]
    have e := look_wd s W
    cases h : getW W s with
    | none => rw [h] at e; walk_at "ev"
    | some i => rw [h] at e; walk_at "ev"
theorem op_worth_ok (o : Op) (a b m : Int) (hm : 0 < m) (hm2 : MulOk a b) : m_op_worth [.fro (.str o.s), .fro (.int a), .fro (.int b), .fro (.int m)] = some (.val (.int (opw m o a b)), [.un, .un, .un, .un]) := by
  unfold m_op_worth g_op_worth
  cases o with
  | plus => simp only [Op.s, opw]; walk_at "ev"
  | less => simp only [Op.s, opw]; walk_at "ev"
  | times => simp only [Op.s, opw]; walk_at "ev"
  | below => simp only [Op.s, opw]; walk_at "ev"
  | same => simp only [Op.s, opw]; walk_at "ev"
theorem worth_now_ok (w : Worth) (t : Nat) (ht : t < 1000) (W : Ws) (m : Int) (hm : 2 ≤ m) (hm2 : m ≤ 1000000000) (hw : w.ok m) (hW : WsOk m W) : m_worth_now [.fro w.d, .own t (.dk (wd W)), .fro (.int m)] = some (.val (.int (ww m W w)), [.un, .own t (.dk (wd W)), .un]) := by
  cases w with
  | part p =>
    have h1 := part_worth_ok p 2 W
    unfold m_worth_now g_worth_now
    cases p with
    | num n => simp only [Worth.d, Part.d, ww] at h1 ⊢; walk_at "ev"
    | nm s => simp only [Worth.d, Part.d, ww] at h1 ⊢; walk_at "ev"
  | op o a b =>
    have h1 := part_worth_ok a 2 W
    have h2 := part_worth_ok b 2 W
    obtain ⟨a0, a1⟩ := pw_ok (show 0 < m by omega) hW hw.1
    obtain ⟨b0, b1⟩ := pw_ok (show 0 < m by omega) hW hw.2
    have h3 := op_worth_ok o (pw W a) (pw W b) m (by omega) (mulOk_s (by omega) (by omega) (by omega) (by omega))
    have h4 : inK (["plus", "less", "times", "below", "same"] : List Str) o.s = true := by cases o <;> simp only [Op.s, ct_plus, ct_less, ct_times, ct_below, ct_same]
    unfold m_worth_now g_worth_now
    simp only [Worth.d, ww]
    clear hw hW a0 a1 b0 b1
    walk_at "ev"
theorem do_deeds_loop (m : Int) (hm : 2 ≤ m) (hm2 : m ≤ 1000000000) (x0 : D) (t t' : Nat) (ht : t < 1000) (ht' : t' < 1000) : ∀ (ds : List Deed) (W : Ws) (told : List Int) (s : Slot), WsOk m W → (∀ d ∈ ds, d.ok m) → W.length + ds.length ≤ 900000 → told.length + ds.length ≤ 900000 →
    ∃ s', forL (.nm 4) (ifS (tst (op2 (ev2 (fz (op2 (ev2P 4 (kc (.int 0))) ixD)) (kc (.str "put"))) eqR)) (putS 1 (fz (callE m_worth_now (argV (fz (op2 (ev2P 4 (kc (.int 2))) ixD)) (argP 1 (argV (rd 2) (argN)))))) (fz (op2 (ev2P 4 (kc (.int 1))) ixD))) (dropS (appE 3 (fz (callE m_part_worth (argV (fz (op2 (ev2P 4 (kc (.int 1))) ixD)) (argP 1 (argN)))))))) (ds.map Deed.d) [.fro x0, .own t (.dk (wd W)), .fro (.int m), .own t' (.lst (told.map D.int)), s] = some ([.fro x0, .own t (.dk (wd (doDs m ds (W, told)).1)), .fro (.int m), .own t' (.lst ((doDs m ds (W, told)).2.map D.int)), s'], .nx)
  | [], W, told, s, _, _, _, _ => ⟨s, rfl⟩
  | d :: ds, W, told, s, hW, hd, l1, l2 => by
    have hdo := hd d (by simp)
    obtain ⟨a, b, c⟩ := doD_ok (s := (W, told)) hm hW hdo
    rw [List.length_cons] at l1 l2
    obtain ⟨s', ih⟩ := do_deeds_loop m hm hm2 x0 t t' ht ht' ds (doD m (W, told) d).1 (doD m (W, told) d).2 (.fro d.d) a (fun d' h => hd d' (by simp [h])) (by dsimp only at b; omega) (by dsimp only at c; omega)
    refine ⟨s', ?_⟩
    rw [List.map_cons, forL_cons]
    show _ = some ([.fro x0, .own t (.dk (wd (doDs m ds (doD m (W, told) d)).1)), .fro (.int m), .own t' (.lst ((doDs m ds (doD m (W, told) d)).2.map D.int)), s'], Fl.nx)
    cases d with
    | put x w =>
      have h1 := worth_now_ok w 2 (by decide) W m hm hm2 hdo hW
      have h2 : (wd W).length < 1000000 := by rw [wd_len]; omega
      have h3 := store_wd x (ww m W w) W
      simp only [doD, Deed.d] at ih ⊢
      clear hd hdo a b c l1 l2 hW
      walk_at "ev"
    | tell p =>
      have h1 := part_worth_ok p 2 W
      have h2 : told.length < 1000000 := by omega
      simp only [doD, Deed.d] at ih ⊢
      rw [List.map_append, List.map_singleton] at ih
      clear hd hdo a b c l1 l2 hW
      walk_at "ev"
theorem do_deeds_ok (m : Int) (hm : 2 ≤ m) (hm2 : m ≤ 1000000000) (ds : List Deed) (t t' : Nat) (ht : t < 1000) (ht' : t' < 1000) (W : Ws) (told : List Int) (hW : WsOk m W) (hd : ∀ d ∈ ds, d.ok m) (l1 : W.length + ds.length ≤ 900000) (l2 : told.length + ds.length ≤ 900000) :
    m_do_deeds [.fro (.lst (ds.map Deed.d)), .own t (.dk (wd W)), .fro (.int m), .own t' (.lst (told.map D.int))] = some (.val .non, [.un, .own t (.dk (wd (doDs m ds (W, told)).1)), .un, .own t' (.lst ((doDs m ds (W, told)).2.map D.int))]) := by
  obtain ⟨s', h1⟩ := do_deeds_loop m hm hm2 (.lst (ds.map Deed.d)) t t' ht ht' ds W told .un hW hd l1 l2
  unfold m_do_deeds g_do_deeds
  clear hd hW
  walk_at "ev"
theorem leads_to_ok (g : Ending) : m_leads_to [.fro g.d] = some (.cell (.lst (match g with | .go b => [.int b] | .choose _ b c => [.int b, .int c] | .stop => [])), [.un]) := by
  unfold m_leads_to g_leads_to
  cases g with
  | go b => simp only [Ending.d]; walk_at "ev"
  | choose p b c => simp only [Ending.d]; walk_at "ev"
  | stop => simp only [Ending.d]; walk_at "ev"
theorem led_on_ok (g : Ending) (t : Nat) (ht : t < 1000) (W : Ws) : m_led_on [.fro g.d, .own t (.dk (wd W))] = some (.val (match ledOn W g with | none => .non | some k => .int k), [.un, .own t (.dk (wd W))]) := by
  have h0 := leads_to_ok g
  unfold m_led_on g_led_on
  cases g with
  | go b => simp only [Ending.d, ledOn] at h0 ⊢; walk_at "ev"
  | stop => simp only [Ending.d, ledOn] at h0 ⊢; walk_at "ev"
  | choose p b c =>
    have h1 := part_worth_ok p 2 W
    simp only [Ending.d, ledOn] at h0 ⊢
    by_cases h : pw W p = 0
    · walk_at "ev"
    · walk_at "ev"
end Oc.K_k02
end

section
set_option Elab.async false
set_option linter.all false
set_option maxRecDepth 100000
set_option maxHeartbeats 4000000
namespace Oc.K_k02
open PySem L2
local macro_rules | `(tactic| walk_at "ev") => `(tactic| simp [seqS_e, seqC_nx, seqC_bk, seqC_ct, seqC_rt, nilS_e, asgS_e, asgC_e, dropS_e, dropC_e, retS_e, retC_e, retN_e, ifS_e, ifC_t, ifC_f, forS_e, forC_e, forL_nil, forL_cons, forB_e, forD_nx, forD_ct, forD_bk, forD_rt, bindP_nm, bindP_tp, bindPs_nil, bindPs_cons, bindC_e, unS_e, unC_e, setAll_nil, setAll_cons, putS_e, putC1_e, putC2_e, putC3_e, putC4_e, putC5_e, put_val, put_tup, put_lst, put_dk, put_dt, augS_e, augC_e, kc_e, fz_e, fzC_v, fzC_c, vx_e, vxC_e, consC_e, rd_fro, rd_own, rd_cons, rd_1, rd_2, rd_3, rd_4, rd_5, rd_6, rd_7, rd_8, rd_9, rd_10, rd_11, rd_12, rd_13, rd_14, rd_15, rd_16, rd_17, rd_18, rd_19, rd_20, rd_21, rd_22, rd_23, rd_24, rd_25, rd_26, rd_27, rd_28, rd_29, rd_30, rd_31, rd_32, rd_33, rd_34, rd_35, rd_36, rd_37, rd_38, rd_39, peek_fro, peek_l, peek_dk, peek_dt, peek_1, peek_2, peek_3, peek_4, peek_5, peek_6, peek_7, peek_8, peek_9, peek_10, peek_11, peek_12, peek_13, peek_14, peek_15, peek_16, peek_17, peek_18, peek_19, peek_20, peek_21, peek_22, peek_23, peek_24, peek_25, peek_26, peek_27, peek_28, peek_29, peek_30, peek_31, peek_32, peek_33, peek_34, peek_35, peek_36, peek_37, peek_38, peek_39, consX_e, mv_fro, mv_own, mv_1, mv_2, mv_3, mv_4, mv_5, mv_6, mv_7, mv_8, mv_9, mv_10, mv_11, mv_12, mv_13, mv_14, mv_15, mv_16, mv_17, mv_18, mv_19, mv_20, mv_21, mv_22, mv_23, mv_24, mv_25, mv_26, mv_27, mv_28, mv_29, mv_30, mv_31, mv_32, mv_33, mv_34, mv_35, mv_36, mv_37, mv_38, mv_39, look_e, lookC_e, ev2_e, ev2C_e, ev2D_e, ev2P_e, ev2PC_e, ev2PD_e, ev2PF_e, ev2Q_e, ev2QC_e, ev2QD_e, evN_e, evC_e, evCC_e, evCD_e, rvE_e, op2_e, op2C_e, op1_e, op1C_e, tst_e, tstC_e, andB_e, andC_t, andC_f, orB_e, orC_t, orC_f, notB_e, notC_e, noneE_e, noneC_e, isNo_n, isNo_i, isNo_l, isNo_t, isNo_s, andX_e, andXC_t, andXC_f, orX_e, orXC_t, orXC_f, notX_e, notXC_e, tupE_e, tupC_e, lstE_e, lstC_e, argN_e, argV_e, argVC_e, argVD_e, argP_e, argPC_e, argPD_e, callE_e, callC_e, callD_e, callF_e, copyE_e, appE_e, appB_e, appC_e, appD_e, popAtE_e, popB_e, popC_e, pop0, get2E_e, getD1_k, getD1_t, getD2_e, getD3_e, getX_e, getF_e, inKE_e, inKC_f, inKC_t, itV_e, itVC_e, itT_e, itTC_e, itR1_e, itRC_e, itR2_e, itR2C_e, itE_e, itEC_e, eoN_e, eoS_e, eoC_e, slV_e, slC_e, slD_e, slF_e, slP_e, slPB_e, slPC_e, slPD_e, slPF_e, dispE_e, dispC_e, edN_e, edC_e, edB_e, edD_e, edF_e, dk0_e, dt0_e, negE_e, negC_e, iteE_e, iteC_t, iteC_f, chainE_e, chC_e, chD_e, lcL_nil, lcL_cons, lcD0_e, lcD1_t, lcD1_f, lcD2_e, lcE_e, lcB_e, lcF_e, yesB_e, ix_l, ix_t, ix_s, ix_k, ix_dt, atI_0, atI_1, atI_2, atI_3, atI_4, atI_5, atI_6, atI_7, atI_neg1, add_i, add_s, add_l, sub_i, mul_i, mod_i, div_i, pow_i, cmp_i, eqR_e, neR_e, inR_e, ninR_e, eq_ii, putD_dk, putD_l, ownD_0, ownL_0, ownD_1, ownL_1, ownD_2, ownL_2, ownD_3, ownL_3, ownD_4, ownL_4, ownD_5, ownL_5, ownD_6, ownL_6, ownD_7, ownL_7, ownD_8, ownL_8, ownD_9, ownL_9, ownD_10, ownL_10, ownD_11, ownL_11, ownD_12, ownL_12, ownD_13, ownL_13, ownD_14, ownL_14, ownD_15, ownL_15, ownD_16, ownL_16, ownD_17, ownL_17, ownD_18, ownL_18, ownD_19, ownL_19, ownD_20, ownL_20, ownD_21, ownL_21, ownD_22, ownL_22, ownD_23, ownL_23, ownD_24, ownL_24, ownD_25, ownL_25, ownD_26, ownL_26, ownD_27, ownL_27, ownD_28, ownL_28, ownD_29, ownL_29, ownD_30, ownL_30, ownD_31, ownL_31, ownD_32, ownL_32, ownD_33, ownL_33, ownD_34, ownL_34, ownD_35, ownL_35, ownD_36, ownL_36, ownD_37, ownL_37, ownD_38, ownL_38, ownD_39, ownL_39, keyOf_i, keyOf_s, dget_k, len_l, len_t, len_k, len_s, list_l, list_t, int_i, int_b, slice_l, slice_t, slotsOf_nil, slotsOf_v, slotsOf_p, outs_nil, outs_own, outs_fro, outs_un, mkM1, mkM2, mkM3, mkM4, mkM5, mkM6, mkC_rt, mkC_nx, sIx_0, sIx_1, sIx_2, sIx_3, sIx_4, sIx_5, sIx_6, sIx_7, sIx_8, sIx_9, sIx_10, sIx_11, HT.sIx_none, cutD, outAt_nil, outAt_v, outAt_p, outAt_pf, outAt_pu, wbS_un, wbS_fro, wbS_own, wbS_none, lim, ixN, places, sameTags, clean, wipeE, backE, sk_number, sk_name, sk_put, sk_tell, sk_go, sk_choose, sk_stop, sk_plus, sk_less, sk_times, sk_below, sk_same, ne_number_name, ne_name_number, ne_put_tell, ne_tell_put, ne_go_choose, ne_go_stop, ne_choose_go, ne_choose_stop, ne_stop_go, ne_stop_choose, ne_plus_less, ne_plus_times, ne_plus_below, ne_plus_same, ne_less_plus, ne_less_times, ne_less_below, ne_less_same, ne_times_plus, ne_times_less, ne_times_below, ne_times_same, ne_below_plus, ne_below_less, ne_below_times, ne_below_same, ne_same_plus, ne_same_less, ne_same_times, ne_same_below, ne_plus_number, ne_plus_name, ne_less_number, ne_less_name, ne_times_number, ne_times_name, ne_below_number, ne_below_name, ne_same_number, ne_same_name, ct_number, ct_name, ct_put, ct_tell, ct_go, ct_choose, ct_stop, ct_plus, ct_less, ct_times, ct_below, ct_same, eq_ss, *])
theorem ledOn_ok {m : Int} {n : Nat} {g : Ending} {W : Ws} (hg : g.ok m n) {k : Int} (h : ledOn W g = some k) : 0 ≤ k ∧ k < n := by
  cases g with
  | stop => cases h
  | go b => cases h; exact hg
  | choose p b c =>
    simp only [ledOn, Option.some.injEq] at h
    subst h
    obtain ⟨_, h1, h2⟩ := hg
    split
    · exact h2
    · exact h1
theorem run_loop (p : Prog) (hp : p.ok) (x0 x2 : D) (x1 : List (Key × D)) (t : Nat) (ht : t < 1000) : ∀ (ks : List D) (W : Ws) (told : List Int) (here : Int) (s6 s9 s10 : Slot), WsOk p.measure W → 0 ≤ here → here < p.blocks.length → W.length + 100 * ks.length ≤ 900000 → told.length + 100 * ks.length ≤ 900000 →
    ((runN p ks.length W told here).2 = false ∧ ∃ W' h' s6' s9' s10', forL (.nm 6) (seqS (unS [9, 10] (fz (op2 (ev2P 8 (rd 5)) ixD))) (seqS (dropS (callE m_do_deeds (argV (rd 9) (argP 3 (argV (rd 7) (argP 4 (argN))))))) (seqS (asgS 5 (callE m_led_on (argV (rd 10) (argP 3 (argN))))) (ifS (tst (noneE true (rd 5))) (retS (tupE (evC (rd 4) (evC (kc (.bl true)) (evN))))) (nilS))))) ks [.fro x0, .own t (.dk x1), .fro x2, .own 0 (.dk (wd W)), .own 0 (.lst (told.map D.int)), .fro (.int here), s6, .fro (.int p.measure), .fro (.lst (p.blocks.map Block.d)), s9, s10] = some ([.fro x0, .own t (.dk x1), .fro x2, .own 0 (.dk (wd W')), .own 0 (.lst ((runN p ks.length W told here).1.map D.int)), .fro (.int h'), s6', .fro (.int p.measure), .fro (.lst (p.blocks.map Block.d)), s9', s10'], Fl.nx))
    ∨ ((runN p ks.length W told here).2 = true ∧ ∃ s3 s4 s5 s6' s7 s8 s9' s10', forL (.nm 6) (seqS (unS [9, 10] (fz (op2 (ev2P 8 (rd 5)) ixD))) (seqS (dropS (callE m_do_deeds (argV (rd 9) (argP 3 (argV (rd 7) (argP 4 (argN))))))) (seqS (asgS 5 (callE m_led_on (argV (rd 10) (argP 3 (argN))))) (ifS (tst (noneE true (rd 5))) (retS (tupE (evC (rd 4) (evC (kc (.bl true)) (evN))))) (nilS))))) ks [.fro x0, .own t (.dk x1), .fro x2, .own 0 (.dk (wd W)), .own 0 (.lst (told.map D.int)), .fro (.int here), s6, .fro (.int p.measure), .fro (.lst (p.blocks.map Block.d)), s9, s10] = some ([.fro x0, .own t (.dk x1), .fro x2, s3, s4, s5, s6', s7, s8, s9', s10'], Fl.rt (.cell (.tup [.lst ((runN p ks.length W told here).1.map D.int), .bl true]))))
  | [], W, told, here, s6, s9, s10, _, _, _, _, _ => .inl ⟨rfl, W, here, s6, s9, s10, rfl⟩
  | x :: ks, W, told, here, s6, s9, s10, hW, g0, g1, l1, l2 => by
    obtain ⟨p1, p2, p3, p4, p5⟩ := hp
    obtain ⟨j, rfl⟩ : ∃ j : Nat, here = (j : Int) := ⟨here.toNat, by omega⟩
    have hj : j < p.blocks.length := by omega
    obtain ⟨b, hb⟩ : ∃ b, p.blocks[j]? = some b := ⟨_, List.getElem?_eq_getElem hj⟩
    obtain ⟨q1, q2, q3⟩ := p5 b (List.mem_of_getElem? hb)
    rw [List.length_cons] at l1 l2
    have hix : atI (p.blocks.map Block.d) (j : Int) = some (.tup [.lst (b.deeds.map Deed.d), b.ending.d]) := by
      rw [atI_nat, List.getElem?_map, hb]
      rfl
    obtain ⟨a1, a2, a3⟩ := doDs_ok (m := p.measure) p1 (ds := b.deeds) (s := (W, told)) hW q1
    have hdo := do_deeds_ok p.measure p1 p2 b.deeds 2 4 (by decide) (by decide) W told hW q1 (by omega) (by omega)
    have hr : runN p (ks.length + 1) W told (j : Int) = match ledOn (doDs p.measure b.deeds (W, told)).1 b.ending with
      | none => ((doDs p.measure b.deeds (W, told)).2, true)
      | some k => runN p ks.length (doDs p.measure b.deeds (W, told)).1 (doDs p.measure b.deeds (W, told)).2 k := by
      rw [runN, Int.toNat_natCast, hb] <;> rfl
    rw [List.length_cons, hr]
    simp only [forL_cons]
    dsimp only at a2 a3
    generalize doDs p.measure b.deeds (W, told) = st at *
    have hled := led_on_ok b.ending 2 (by decide) st.1
    cases h : ledOn st.1 b.ending with
    | none =>
      rw [h] at hled
      dsimp only at hled
      refine .inr ⟨rfl, .own 0 (.dk (wd st.1)), .fro (.lst (st.2.map D.int)), .fro .non, .fro x, .fro (.int p.measure), .fro (.lst (p.blocks.map Block.d)), .fro (.lst (b.deeds.map Deed.d)), .fro b.ending.d, ?_⟩
      clear hb hr q1 q2 q3 p1 p2 p3 p4 p5 a1 a2 a3 l1 l2 hj g0 g1 hW
      walk_at "ev"
    | some k =>
      rw [h] at hled
      dsimp only at hled
      obtain ⟨k0, k1⟩ := ledOn_ok q3 h
      have ih := run_loop p ⟨p1, p2, p3, p4, p5⟩ x0 x2 x1 t ht ks st.1 st.2 k (.fro x) (.fro (.lst (b.deeds.map Deed.d))) (.fro b.ending.d) a1 k0 k1 (by omega) (by omega)
      clear hb hr q1 q2 q3 p1 p2 p3 p4 p5 a1 a2 a3 l1 l2 hj g0 g1 hW k0 k1
      rcases ih with ⟨c, W', h', s6', s9', s10', e⟩ | ⟨c, s3, s4, s5, s6', s7, s8, s9', s10', e⟩
      · refine .inl ⟨c, W', h', s6', s9', s10', ?_⟩
        clear c
        walk_at "ev"
      · refine .inr ⟨c, s3, s4, s5, s6', s7, s8, s9', s10', ?_⟩
        clear c
        walk_at "ev"
end Oc.K_k02
end

section
set_option Elab.async false
set_option linter.all false
set_option maxRecDepth 100000
set_option maxHeartbeats 4000000
namespace Oc.K_k02
open PySem L2
local macro_rules | `(tactic| walk_at "ev") => `(tactic| simp [seqS_e, seqC_nx, seqC_bk, seqC_ct, seqC_rt, nilS_e, asgS_e, asgC_e, dropS_e, dropC_e, retS_e, retC_e, retN_e, ifS_e, ifC_t, ifC_f, forS_e, forC_e, forL_nil, forL_cons, forB_e, forD_nx, forD_ct, forD_bk, forD_rt, bindP_nm, bindP_tp, bindPs_nil, bindPs_cons, bindC_e, unS_e, unC_e, setAll_nil, setAll_cons, putS_e, putC1_e, putC2_e, putC3_e, putC4_e, putC5_e, put_val, put_tup, put_lst, put_dk, put_dt, augS_e, augC_e, kc_e, fz_e, fzC_v, fzC_c, vx_e, vxC_e, consC_e, rd_fro, rd_own, rd_cons, rd_1, rd_2, rd_3, rd_4, rd_5, rd_6, rd_7, rd_8, rd_9, rd_10, rd_11, rd_12, rd_13, rd_14, rd_15, rd_16, rd_17, rd_18, rd_19, rd_20, rd_21, rd_22, rd_23, rd_24, rd_25, rd_26, rd_27, rd_28, rd_29, rd_30, rd_31, rd_32, rd_33, rd_34, rd_35, rd_36, rd_37, rd_38, rd_39, peek_fro, peek_l, peek_dk, peek_dt, peek_1, peek_2, peek_3, peek_4, peek_5, peek_6, peek_7, peek_8, peek_9, peek_10, peek_11, peek_12, peek_13, peek_14, peek_15, peek_16, peek_17, peek_18, peek_19, peek_20, peek_21, peek_22, peek_23, peek_24, peek_25, peek_26, peek_27, peek_28, peek_29, peek_30, peek_31, peek_32, peek_33, peek_34, peek_35, peek_36, peek_37, peek_38, peek_39, consX_e, mv_fro, mv_own, mv_1, mv_2, mv_3, mv_4, mv_5, mv_6, mv_7, mv_8, mv_9, mv_10, mv_11, mv_12, mv_13, mv_14, mv_15, mv_16, mv_17, mv_18, mv_19, mv_20, mv_21, mv_22, mv_23, mv_24, mv_25, mv_26, mv_27, mv_28, mv_29, mv_30, mv_31, mv_32, mv_33, mv_34, mv_35, mv_36, mv_37, mv_38, mv_39, look_e, lookC_e, ev2_e, ev2C_e, ev2D_e, ev2P_e, ev2PC_e, ev2PD_e, ev2PF_e, ev2Q_e, ev2QC_e, ev2QD_e, evN_e, evC_e, evCC_e, evCD_e, rvE_e, op2_e, op2C_e, op1_e, op1C_e, tst_e, tstC_e, andB_e, andC_t, andC_f, orB_e, orC_t, orC_f, notB_e, notC_e, noneE_e, noneC_e, isNo_n, isNo_i, isNo_l, isNo_t, isNo_s, andX_e, andXC_t, andXC_f, orX_e, orXC_t, orXC_f, notX_e, notXC_e, tupE_e, tupC_e, lstE_e, lstC_e, argN_e, argV_e, argVC_e, argVD_e, argP_e, argPC_e, argPD_e, callE_e, callC_e, callD_e, callF_e, copyE_e, appE_e, appB_e, appC_e, appD_e, popAtE_e, popB_e, popC_e, pop0, get2E_e, getD1_k, getD1_t, getD2_e, getD3_e, getX_e, getF_e, inKE_e, inKC_f, inKC_t, itV_e, itVC_e, itT_e, itTC_e, itR1_e, itRC_e, itR2_e, itR2C_e, itE_e, itEC_e, eoN_e, eoS_e, eoC_e, slV_e, slC_e, slD_e, slF_e, slP_e, slPB_e, slPC_e, slPD_e, slPF_e, dispE_e, dispC_e, edN_e, edC_e, edB_e, edD_e, edF_e, dk0_e, dt0_e, negE_e, negC_e, iteE_e, iteC_t, iteC_f, chainE_e, chC_e, chD_e, lcL_nil, lcL_cons, lcD0_e, lcD1_t, lcD1_f, lcD2_e, lcE_e, lcB_e, lcF_e, yesB_e, ix_l, ix_t, ix_s, ix_k, ix_dt, atI_0, atI_1, atI_2, atI_3, atI_4, atI_5, atI_6, atI_7, atI_neg1, add_i, add_s, add_l, sub_i, mul_i, mod_i, div_i, pow_i, cmp_i, eqR_e, neR_e, inR_e, ninR_e, eq_ii, putD_dk, putD_l, ownD_0, ownL_0, ownD_1, ownL_1, ownD_2, ownL_2, ownD_3, ownL_3, ownD_4, ownL_4, ownD_5, ownL_5, ownD_6, ownL_6, ownD_7, ownL_7, ownD_8, ownL_8, ownD_9, ownL_9, ownD_10, ownL_10, ownD_11, ownL_11, ownD_12, ownL_12, ownD_13, ownL_13, ownD_14, ownL_14, ownD_15, ownL_15, ownD_16, ownL_16, ownD_17, ownL_17, ownD_18, ownL_18, ownD_19, ownL_19, ownD_20, ownL_20, ownD_21, ownL_21, ownD_22, ownL_22, ownD_23, ownL_23, ownD_24, ownL_24, ownD_25, ownL_25, ownD_26, ownL_26, ownD_27, ownL_27, ownD_28, ownL_28, ownD_29, ownL_29, ownD_30, ownL_30, ownD_31, ownL_31, ownD_32, ownL_32, ownD_33, ownL_33, ownD_34, ownL_34, ownD_35, ownL_35, ownD_36, ownL_36, ownD_37, ownL_37, ownD_38, ownL_38, ownD_39, ownL_39, keyOf_i, keyOf_s, dget_k, len_l, len_t, len_k, len_s, list_l, list_t, int_i, int_b, slice_l, slice_t, slotsOf_nil, slotsOf_v, slotsOf_p, outs_nil, outs_own, outs_fro, outs_un, mkM1, mkM2, mkM3, mkM4, mkM5, mkM6, mkC_rt, mkC_nx, sIx_0, sIx_1, sIx_2, sIx_3, sIx_4, sIx_5, sIx_6, sIx_7, sIx_8, sIx_9, sIx_10, sIx_11, HT.sIx_none, cutD, outAt_nil, outAt_v, outAt_p, outAt_pf, outAt_pu, wbS_un, wbS_fro, wbS_own, wbS_none, lim, ixN, places, sameTags, clean, wipeE, backE, sk_number, sk_name, sk_put, sk_tell, sk_go, sk_choose, sk_stop, sk_plus, sk_less, sk_times, sk_below, sk_same, ne_number_name, ne_name_number, ne_put_tell, ne_tell_put, ne_go_choose, ne_go_stop, ne_choose_go, ne_choose_stop, ne_stop_go, ne_stop_choose, ne_plus_less, ne_plus_times, ne_plus_below, ne_plus_same, ne_less_plus, ne_less_times, ne_less_below, ne_less_same, ne_times_plus, ne_times_less, ne_times_below, ne_times_same, ne_below_plus, ne_below_less, ne_below_times, ne_below_same, ne_same_plus, ne_same_less, ne_same_times, ne_same_below, ne_plus_number, ne_plus_name, ne_less_number, ne_less_name, ne_times_number, ne_times_name, ne_below_number, ne_below_name, ne_same_number, ne_same_name, ct_number, ct_name, ct_put, ct_tell, ct_go, ct_choose, ct_stop, ct_plus, ct_less, ct_times, ct_below, ct_same, eq_ss, -itRC_e, *])
theorem run_s1 (me : Int) (bs : List D) (x1 : Slot) (x2 : D) : unS [7,8] (rd 0) [.fro (.tup [.int me, .lst bs]), x1, .fro x2, .un, .un, .un, .un, .un, .un, .un, .un] = some ([.fro (.tup [.int me, .lst bs]), x1, .fro x2, .un, .un, .un, .un, .fro (.int me), .fro (.lst bs), .un, .un], Fl.nx) := by walk_at "ev"
theorem run_s2 (x0 a b : D) (x1 : List (Key × D)) (x2 : D) : asgS 3 (copyE 1) [.fro x0, .own 2 (.dk x1), .fro x2, .un, .un, .un, .un, .fro a, .fro b, .un, .un] = some ([.fro x0, .own 2 (.dk x1), .fro x2, .own 0 (.dk x1), .un, .un, .un, .fro a, .fro b, .un, .un], Fl.nx) := by walk_at "ev"
theorem run_s3 (x0 a b : D) (x1 x3 : List (Key × D)) (x2 : D) : asgS 4 (lstE evN) [.fro x0, .own 2 (.dk x1), .fro x2, .own 0 (.dk x3), .un, .un, .un, .fro a, .fro b, .un, .un] = some ([.fro x0, .own 2 (.dk x1), .fro x2, .own 0 (.dk x3), .own 0 (.lst []), .un, .un, .fro a, .fro b, .un, .un], Fl.nx) := by walk_at "ev"
theorem run_s4 (x0 a b : D) (x1 x3 : List (Key × D)) (x2 : D) : asgS 5 (vx (kc (.int 0))) [.fro x0, .own 2 (.dk x1), .fro x2, .own 0 (.dk x3), .own 0 (.lst []), .un, .un, .fro a, .fro b, .un, .un] = some ([.fro x0, .own 2 (.dk x1), .fro x2, .own 0 (.dk x3), .own 0 (.lst []), .fro (.int 0), .un, .fro a, .fro b, .un, .un], Fl.nx) := by walk_at "ev"
theorem run_s5 (n : Int) (ks : List D) (hit : ∀ env : Env, itRC ([.int n], env) = some (ks, env)) (x0 a b : D) (x1 x3 : List (Key × D)) (B : ES) : forS (itR1 (evC (rd 2) (evN))) (.nm 6) B [.fro x0, .own 2 (.dk x1), .fro (.int n), .own 0 (.dk x3), .own 0 (.lst []), .fro (.int 0), .un, .fro a, .fro b, .un, .un] = forL (.nm 6) B ks [.fro x0, .own 2 (.dk x1), .fro (.int n), .own 0 (.dk x3), .own 0 (.lst []), .fro (.int 0), .un, .fro a, .fro b, .un, .un] := by walk_at "ev"
theorem run_m (g : ES) (a b c : Slot) : mkM 3 11 g [a, b, c] = (g [a, b, c, .un, .un, .un, .un, .un, .un, .un, .un]).bind (mkC [a, b, c]) := mkM3
theorem rngD_len0 (n : Nat) : (rngD 0 n).length = n := by simp [rngD]
theorem run_ok (p : Prog) (hp : p.ok) (W : Ws) (many : Nat) (hW : WsOk p.measure W) (hl : W.length + 100 * many ≤ 900000) :
    m_run [.fro p.d, .own 2 (.dk (wd W)), .fro (.int many)] = some (.cell (.tup [.lst ((runN p many W [] 0).1.map D.int), .bl (runN p many W [] 0).2]), [.un, .own 2 (.dk (wd W)), .un]) := by
  have b1 : -big ≤ (many : Int) ∧ (many : Int) < big := by
    have e : big = 4611686018427387904 := by unfold big; rfl
    rw [e]; clear hp hW; omega
  have h1 := run_loop p hp (.tup [.int p.measure, .lst (p.blocks.map Block.d)]) (.int many) (wd W) 2 (by decide) (rngD 0 many) W [] 0 .un .un .un hW (Int.le_refl _) (by have := hp.2.2.1; omega) (by rw [rngD_len0]; omega) (by rw [rngD_len0, List.length_nil]; omega)
  have hit : ∀ env : Env, itRC ([.int (many : Int)], env) = some (rngD 0 many, env) := fun env => by rw [itRC_e, if_pos b1]
  clear b1
  rw [rngD_len0] at h1
  generalize rngD 0 (many : Int) = ks at h1 hit
  simp only [List.map_nil] at h1
  have e0 : p.d = .tup [.int p.measure, .lst (p.blocks.map Block.d)] := rfl
  rw [e0]
  unfold m_run g_run
  rw [run_m]
  rw [seqS_e, run_s1, Option.bind_some, seqC_nx]
  rw [seqS_e, run_s2, Option.bind_some, seqC_nx]
  rw [seqS_e, run_s3, Option.bind_some, seqC_nx]
  rw [seqS_e, run_s4, Option.bind_some, seqC_nx]
  rw [seqS_e, run_s5 _ _ hit]
  clear hW hl hit hp
  rcases h1 with ⟨c, W', h', s6', s9', s10', e⟩ | ⟨c, s3, s4, s5, s6', s7, s8, s9', s10', e⟩
  · rw [c]
    rw [e]
    clear c e
    walk_at "ev"
  · rw [c]
    rw [e]
    clear c e
    walk_at "ev"
end Oc.K_k02
end

section
set_option Elab.async false
set_option linter.all false
set_option maxRecDepth 100000
set_option maxHeartbeats 4000000
namespace Oc.K_k02
open PySem L2
local macro_rules | `(tactic| walk_at "ev") => `(tactic| simp [seqS_e, seqC_nx, seqC_bk, seqC_ct, seqC_rt, nilS_e, asgS_e, asgC_e, dropS_e, dropC_e, retS_e, retC_e, retN_e, ifS_e, ifC_t, ifC_f, forS_e, forC_e, forL_nil, forL_cons, forB_e, forD_nx, forD_ct, forD_bk, forD_rt, bindP_nm, bindP_tp, bindPs_nil, bindPs_cons, bindC_e, unS_e, unC_e, setAll_nil, setAll_cons, putS_e, putC1_e, putC2_e, putC3_e, putC4_e, putC5_e, put_val, put_tup, put_lst, put_dk, put_dt, augS_e, augC_e, kc_e, fz_e, fzC_v, fzC_c, vx_e, vxC_e, consC_e, rd_fro, rd_own, rd_cons, rd_1, rd_2, rd_3, rd_4, rd_5, rd_6, rd_7, rd_8, rd_9, rd_10, rd_11, rd_12, rd_13, rd_14, rd_15, rd_16, rd_17, rd_18, rd_19, rd_20, rd_21, rd_22, rd_23, rd_24, rd_25, rd_26, rd_27, rd_28, rd_29, rd_30, rd_31, rd_32, rd_33, rd_34, rd_35, rd_36, rd_37, rd_38, rd_39, peek_fro, peek_l, peek_dk, peek_dt, peek_1, peek_2, peek_3, peek_4, peek_5, peek_6, peek_7, peek_8, peek_9, peek_10, peek_11, peek_12, peek_13, peek_14, peek_15, peek_16, peek_17, peek_18, peek_19, peek_20, peek_21, peek_22, peek_23, peek_24, peek_25, peek_26, peek_27, peek_28, peek_29, peek_30, peek_31, peek_32, peek_33, peek_34, peek_35, peek_36, peek_37, peek_38, peek_39, consX_e, mv_fro, mv_own, mv_1, mv_2, mv_3, mv_4, mv_5, mv_6, mv_7, mv_8, mv_9, mv_10, mv_11, mv_12, mv_13, mv_14, mv_15, mv_16, mv_17, mv_18, mv_19, mv_20, mv_21, mv_22, mv_23, mv_24, mv_25, mv_26, mv_27, mv_28, mv_29, mv_30, mv_31, mv_32, mv_33, mv_34, mv_35, mv_36, mv_37, mv_38, mv_39, look_e, lookC_e, ev2_e, ev2C_e, ev2D_e, ev2P_e, ev2PC_e, ev2PD_e, ev2PF_e, ev2Q_e, ev2QC_e, ev2QD_e, evN_e, evC_e, evCC_e, evCD_e, rvE_e, op2_e, op2C_e, op1_e, op1C_e, tst_e, tstC_e, andB_e, andC_t, andC_f, orB_e, orC_t, orC_f, notB_e, notC_e, noneE_e, noneC_e, isNo_n, isNo_i, isNo_l, isNo_t, isNo_s, andX_e, andXC_t, andXC_f, orX_e, orXC_t, orXC_f, notX_e, notXC_e, tupE_e, tupC_e, lstE_e, lstC_e, argN_e, argV_e, argVC_e, argVD_e, argP_e, argPC_e, argPD_e, callE_e, callC_e, callD_e, callF_e, copyE_e, appE_e, appB_e, appC_e, appD_e, popAtE_e, popB_e, popC_e, pop0, get2E_e, getD1_k, getD1_t, getD2_e, getD3_e, getX_e, getF_e, inKE_e, inKC_f, inKC_t, itV_e, itVC_e, itT_e, itTC_e, itR1_e, itRC_e, itR2_e, itR2C_e, itE_e, itEC_e, eoN_e, eoS_e, eoC_e, slV_e, slC_e, slD_e, slF_e, slP_e, slPB_e, slPC_e, slPD_e, slPF_e, dispE_e, dispC_e, edN_e, edC_e, edB_e, edD_e, edF_e, dk0_e, dt0_e, negE_e, negC_e, iteE_e, iteC_t, iteC_f, chainE_e, chC_e, chD_e, lcL_nil, lcL_cons, lcD0_e, lcD1_t, lcD1_f, lcD2_e, lcE_e, lcB_e, lcF_e, yesB_e, ix_l, ix_t, ix_s, ix_k, ix_dt, atI_0, atI_1, atI_2, atI_3, atI_4, atI_5, atI_6, atI_7, atI_neg1, add_i, add_s, add_l, sub_i, mul_i, mod_i, div_i, pow_i, cmp_i, eqR_e, neR_e, inR_e, ninR_e, eq_ii, putD_dk, putD_l, ownD_0, ownL_0, ownD_1, ownL_1, ownD_2, ownL_2, ownD_3, ownL_3, ownD_4, ownL_4, ownD_5, ownL_5, ownD_6, ownL_6, ownD_7, ownL_7, ownD_8, ownL_8, ownD_9, ownL_9, ownD_10, ownL_10, ownD_11, ownL_11, ownD_12, ownL_12, ownD_13, ownL_13, ownD_14, ownL_14, ownD_15, ownL_15, ownD_16, ownL_16, ownD_17, ownL_17, ownD_18, ownL_18, ownD_19, ownL_19, ownD_20, ownL_20, ownD_21, ownL_21, ownD_22, ownL_22, ownD_23, ownL_23, ownD_24, ownL_24, ownD_25, ownL_25, ownD_26, ownL_26, ownD_27, ownL_27, ownD_28, ownL_28, ownD_29, ownL_29, ownD_30, ownL_30, ownD_31, ownL_31, ownD_32, ownL_32, ownD_33, ownL_33, ownD_34, ownL_34, ownD_35, ownL_35, ownD_36, ownL_36, ownD_37, ownL_37, ownD_38, ownL_38, ownD_39, ownL_39, keyOf_i, keyOf_s, dget_k, len_l, len_t, len_k, len_s, list_l, list_t, int_i, int_b, slice_l, slice_t, slotsOf_nil, slotsOf_v, slotsOf_p, outs_nil, outs_own, outs_fro, outs_un, mkM1, mkM2, mkM3, mkM4, mkM5, mkM6, mkC_rt, mkC_nx, sIx_0, sIx_1, sIx_2, sIx_3, sIx_4, sIx_5, sIx_6, sIx_7, sIx_8, sIx_9, sIx_10, sIx_11, HT.sIx_none, cutD, outAt_nil, outAt_v, outAt_p, outAt_pf, outAt_pu, wbS_un, wbS_fro, wbS_own, wbS_none, lim, ixN, places, sameTags, clean, wipeE, backE, sk_number, sk_name, sk_put, sk_tell, sk_go, sk_choose, sk_stop, sk_plus, sk_less, sk_times, sk_below, sk_same, ne_number_name, ne_name_number, ne_put_tell, ne_tell_put, ne_go_choose, ne_go_stop, ne_choose_go, ne_choose_stop, ne_stop_go, ne_stop_choose, ne_plus_less, ne_plus_times, ne_plus_below, ne_plus_same, ne_less_plus, ne_less_times, ne_less_below, ne_less_same, ne_times_plus, ne_times_less, ne_times_below, ne_times_same, ne_below_plus, ne_below_less, ne_below_times, ne_below_same, ne_same_plus, ne_same_less, ne_same_times, ne_same_below, ne_plus_number, ne_plus_name, ne_less_number, ne_less_name, ne_times_number, ne_times_name, ne_below_number, ne_below_name, ne_same_number, ne_same_name, ct_number, ct_name, ct_put, ct_tell, ct_go, ct_choose, ct_stop, ct_plus, ct_less, ct_times, ct_below, ct_same, eq_ss, *])
theorem eqD_self {d : D} (h : SeqAt.shaped (py d) = true) : eqD d d = some true := by
  unfold eqD
  rw [if_pos ⟨h, h⟩, SeqAt.eqv_refl _ (Bool.and_eq_true_iff.mp h).1]
abbrev N9 : (0 : Int) ≤ 9 ∧ (9 : Int) ≤ 1000000 ∧ (10 : Int).natAbs < 2 ^ 64 := by decide
theorem e9 : (10 : Int) ^ (9 : Int).toNat = 1000000000 := by decide
theorem r4 {r : Int} (h0 : 0 ≤ r) (h1 : r < 4) : r = 0 ∨ r = 1 ∨ r = 2 ∨ r = 3 := by omega
theorem r5 {r : Int} (h0 : 0 ≤ r) (h1 : r < 5) : r = 0 ∨ r = 1 ∨ r = 2 ∨ r = 3 ∨ r = 4 := by omega
theorem r2 {r : Int} (h0 : 0 ≤ r) (h1 : r < 2) : r = 0 ∨ r = 1 := by omega
theorem due_ok (a b m : Int) (hm : 0 < m) (h2 : MulOk a b) : m__law_due [.fro (.int a), .fro (.int b), .fro (.int m)] = some (.cell (.lst [.int ((a + b) % m), .int ((a - b) % m), .int (a * b % m), .int (if a < b then 1 else 0), .int (if a = b then 1 else 0)]), [.un, .un, .un]) := by
  unfold m__law_due g__law_due
  walk_at "ev"
theorem pc0 (a b : Int) (ha : 0 ≤ a) (hb : 0 < b)  (s0 s2 s3 s4 s5 s6 s7 s8 s9 s10 s11 s12 s13 s14 s15 : Slot) : ∃ a' x, 0 ≤ a' ∧ (2 ≤ x ∧ x ≤ 1000000000) ∧ (asgS 3 (op2 (ev2 (fz (lstE (evC (kc (.int 2)) (evC (kc (.int 3)) (evC (fz (op2 (ev2 (kc (.int 10)) (kc (.int 9))) powD)) (evC (fz (op2 (ev2 (kc (.int 2)) (fz (callE m__law_draw (argP 1 (argV (kc (.int 1000)) (argN)))))) addD)) (evN))))))) (fz (callE m__law_draw (argP 1 (argV (kc (.int 4)) (argN)))))) ixD)) [s0, .own 0 (.lst [.int a, .int b]), s2, s3, s4, s5, s6, s7, s8, s9, s10, s11, s12, s13, s14, s15] = some ([s0, .own 0 (.lst [.int a', .int b]), s2, .fro (.int x), s4, s5, s6, s7, s8, s9, s10, s11, s12, s13, s14, s15], Fl.nx) := by
  obtain ⟨a1, q, h1, g1, q0, q1⟩ := draw_ok 1 (by decide) a b 1000 ha hb (by decide) (divOk_s (by decide) (by decide))
  obtain ⟨a2, r, h2, g2, r0, r1⟩ := draw_ok 1 (by decide) a1 b 4 g1 hb (by decide) (divOk_s (by decide) (by decide))
  have n9 := N9
  have ee := e9
  clear ha g1
  rcases r4 r0 r1 with rfl | rfl | rfl | rfl
  · refine ⟨a2, 2, g2, ⟨by omega, by omega⟩, ?_⟩
    clear q0 q1 r0 r1 g2 hb
    walk_at "ev"
  · refine ⟨a2, 3, g2, ⟨by omega, by omega⟩, ?_⟩
    clear q0 q1 r0 r1 g2 hb
    walk_at "ev"
  · refine ⟨a2, 1000000000, g2, ⟨by omega, by omega⟩, ?_⟩
    clear q0 q1 r0 r1 g2 hb
    walk_at "ev"
  · refine ⟨a2, 2 + q, g2, ⟨by omega, by omega⟩, ?_⟩
    clear q0 q1 r0 r1 g2 hb
    walk_at "ev"
theorem pc1 (a b : Int) (ha : 0 ≤ a) (hb : 0 < b) (m : Int) (hm : 2 ≤ m) (hm2 : m ≤ 1000000000) (s0 s2 s4 s5 s6 s7 s8 s9 s10 s11 s12 s13 s14 s15 : Slot) : ∃ a' x, 0 ≤ a' ∧ (0 ≤ x ∧ x < m) ∧ (asgS 4 (op2 (ev2 (fz (lstE (evC (kc (.int 0)) (evC (kc (.int 1)) (evC (fz (op2 (ev2 (rd 3) (kc (.int 1))) subD)) (evC (fz (callE m__law_draw (argP 1 (argV (rd 3) (argN))))) (evN))))))) (fz (callE m__law_draw (argP 1 (argV (kc (.int 4)) (argN)))))) ixD)) [s0, .own 0 (.lst [.int a, .int b]), s2, .fro (.int m), s4, s5, s6, s7, s8, s9, s10, s11, s12, s13, s14, s15] = some ([s0, .own 0 (.lst [.int a', .int b]), s2, .fro (.int m), .fro (.int x), s5, s6, s7, s8, s9, s10, s11, s12, s13, s14, s15], Fl.nx) := by
  obtain ⟨a1, q, h1, g1, q0, q1⟩ := draw_ok 1 (by decide) a b m ha hb (by omega) (divOk_s (by omega) (by omega))
  obtain ⟨a2, r, h2, g2, r0, r1⟩ := draw_ok 1 (by decide) a1 b 4 g1 hb (by decide) (divOk_s (by decide) (by decide))
  clear ha g1
  rcases r4 r0 r1 with rfl | rfl | rfl | rfl
  · refine ⟨a2, 0, g2, ⟨by omega, by omega⟩, ?_⟩
    clear q0 q1 r0 r1 g2 hb hm hm2
    walk_at "ev"
  · refine ⟨a2, 1, g2, ⟨by omega, by omega⟩, ?_⟩
    clear q0 q1 r0 r1 g2 hb hm hm2
    walk_at "ev"
  · refine ⟨a2, m - 1, g2, ⟨by omega, by omega⟩, ?_⟩
    clear q0 q1 r0 r1 g2 hb hm hm2
    walk_at "ev"
  · refine ⟨a2, q, g2, ⟨by omega, by omega⟩, ?_⟩
    clear q0 q1 r0 r1 g2 hb hm hm2
    walk_at "ev"
theorem pc2 (a b : Int) (ha : 0 ≤ a) (hb : 0 < b) (m one : Int) (hm : 2 ≤ m) (hm2 : m ≤ 1000000000) (ho : 0 ≤ one ∧ one < m) (s0 s2 s5 s6 s7 s8 s9 s10 s11 s12 s13 s14 s15 : Slot) : ∃ a' x, 0 ≤ a' ∧ (0 ≤ x ∧ x < m) ∧ (asgS 5 (op2 (ev2 (fz (lstE (evC (kc (.int 0)) (evC (kc (.int 1)) (evC (fz (op2 (ev2 (rd 3) (kc (.int 1))) subD)) (evC (fz (callE m__law_draw (argP 1 (argV (rd 3) (argN))))) (evC (rd 4) (evN)))))))) (fz (callE m__law_draw (argP 1 (argV (kc (.int 5)) (argN)))))) ixD)) [s0, .own 0 (.lst [.int a, .int b]), s2, .fro (.int m), .fro (.int one), s5, s6, s7, s8, s9, s10, s11, s12, s13, s14, s15] = some ([s0, .own 0 (.lst [.int a', .int b]), s2, .fro (.int m), .fro (.int one), .fro (.int x), s6, s7, s8, s9, s10, s11, s12, s13, s14, s15], Fl.nx) := by
  obtain ⟨a1, q, h1, g1, q0, q1⟩ := draw_ok 1 (by decide) a b m ha hb (by omega) (divOk_s (by omega) (by omega))
  obtain ⟨a2, r, h2, g2, r0, r1⟩ := draw_ok 1 (by decide) a1 b 5 g1 hb (by decide) (divOk_s (by decide) (by decide))
  clear ha g1
  rcases r5 r0 r1 with rfl | rfl | rfl | rfl | rfl
  · refine ⟨a2, 0, g2, ⟨by omega, by omega⟩, ?_⟩
    clear q0 q1 r0 r1 g2 hb hm hm2 ho
    walk_at "ev"
  · refine ⟨a2, 1, g2, ⟨by omega, by omega⟩, ?_⟩
    clear q0 q1 r0 r1 g2 hb hm hm2 ho
    walk_at "ev"
  · refine ⟨a2, m - 1, g2, ⟨by omega, by omega⟩, ?_⟩
    clear q0 q1 r0 r1 g2 hb hm hm2 ho
    walk_at "ev"
  · refine ⟨a2, q, g2, ⟨by omega, by omega⟩, ?_⟩
    clear q0 q1 r0 r1 g2 hb hm hm2 ho
    walk_at "ev"
  · refine ⟨a2, one, g2, ⟨by omega, by omega⟩, ?_⟩
    clear q0 q1 r0 r1 g2 hb hm hm2 ho
    walk_at "ev"
theorem pc3 (a b : Int) (ha : 0 ≤ a) (hb : 0 < b) (one : Int) (s0 s2 s3 s5 s6 s7 s8 s9 s10 s11 s12 s13 s14 s15 : Slot) : ∃ (a' : Int) (x : Part), 0 ≤ a' ∧ (x = .nm "a" ∨ x = .num one) ∧ (asgS 6 (op2 (ev2 (fz (lstE (evC (fz (tupE (evC (kc (.str "name")) (evC (kc (.str "a")) (evN))))) (evC (fz (tupE (evC (kc (.str "number")) (evC (rd 4) (evN))))) (evN))))) (fz (callE m__law_draw (argP 1 (argV (kc (.int 2)) (argN)))))) ixD)) [s0, .own 0 (.lst [.int a, .int b]), s2, s3, .fro (.int one), s5, s6, s7, s8, s9, s10, s11, s12, s13, s14, s15] = some ([s0, .own 0 (.lst [.int a', .int b]), s2, s3, .fro (.int one), s5, .fro x.d, s7, s8, s9, s10, s11, s12, s13, s14, s15], Fl.nx) := by
  obtain ⟨a2, r, h2, g2, r0, r1⟩ := draw_ok 1 (by decide) a b 2 ha hb (by decide) (divOk_s (by decide) (by decide))
  rcases r2 r0 r1 with rfl | rfl
  · refine ⟨a2, .nm "a", g2, .inl rfl, ?_⟩
    clear r0 r1 g2 hb ha
    simp only [Part.d]
    walk_at "ev"
  · refine ⟨a2, .num one, g2, .inr rfl, ?_⟩
    clear r0 r1 g2 hb ha
    simp only [Part.d]
    walk_at "ev"
theorem pc4 (a b : Int) (ha : 0 ≤ a) (hb : 0 < b) (other : Int) (s0 s2 s3 s4 s6 s7 s8 s9 s10 s11 s12 s13 s14 s15 : Slot) : ∃ (a' : Int) (x : Part), 0 ≤ a' ∧ (x = .nm "b" ∨ x = .num other) ∧ (asgS 7 (op2 (ev2 (fz (lstE (evC (fz (tupE (evC (kc (.str "name")) (evC (kc (.str "b")) (evN))))) (evC (fz (tupE (evC (kc (.str "number")) (evC (rd 5) (evN))))) (evN))))) (fz (callE m__law_draw (argP 1 (argV (kc (.int 2)) (argN)))))) ixD)) [s0, .own 0 (.lst [.int a, .int b]), s2, s3, s4, .fro (.int other), s6, s7, s8, s9, s10, s11, s12, s13, s14, s15] = some ([s0, .own 0 (.lst [.int a', .int b]), s2, s3, s4, .fro (.int other), s6, .fro x.d, s8, s9, s10, s11, s12, s13, s14, s15], Fl.nx) := by
  obtain ⟨a2, r, h2, g2, r0, r1⟩ := draw_ok 1 (by decide) a b 2 ha hb (by decide) (divOk_s (by decide) (by decide))
  rcases r2 r0 r1 with rfl | rfl
  · refine ⟨a2, .nm "b", g2, .inl rfl, ?_⟩
    clear r0 r1 g2 hb ha
    simp only [Part.d]
    walk_at "ev"
  · refine ⟨a2, .num other, g2, .inr rfl, ?_⟩
    clear r0 r1 g2 hb ha
    simp only [Part.d]
    walk_at "ev"
theorem pc5 (pd : D) (s0 s2 s3 s4 s5 s6 s7 s8 s9 s10 s11 s12 s13 s14 s15 : Slot) : (asgS 8 (lstE (evN))) [s0, .own 0 pd, s2, s3, s4, s5, s6, s7, s8, s9, s10, s11, s12, s13, s14, s15] = some ([s0, .own 0 pd, s2, s3, s4, s5, s6, s7, .own 0 (.lst []), s9, s10, s11, s12, s13, s14, s15], Fl.nx) := by walk_at "ev"
def dds (L R : Part) : List Deed := [.put "c" (.op .plus L R), .tell (.nm "c"), .put "c" (.op .less L R), .tell (.nm "c"), .put "c" (.op .times L R), .tell (.nm "c"), .put "c" (.op .below L R), .tell (.nm "c"), .put "c" (.op .same L R), .tell (.nm "c")]
theorem pc6 (pd : D) (L R : Part) (s0 s2 s3 s4 s5 s9 s10 s11 s12 s13 s14 s15 : Slot) : (forS (itV (fz (lstE (evC (kc (.str "plus")) (evC (kc (.str "less")) (evC (kc (.str "times")) (evC (kc (.str "below")) (evC (kc (.str "same")) (evN))))))))) (.nm 9) (seqS (dropS (appE 8 (fz (tupE (evC (kc (.str "put")) (evC (kc (.str "c")) (evC (fz (tupE (evC (rd 9) (evC (rd 6) (evC (rd 7) (evN)))))) (evN)))))))) (dropS (appE 8 (fz (tupE (evC (kc (.str "tell")) (evC (fz (tupE (evC (kc (.str "name")) (evC (kc (.str "c")) (evN))))) (evN))))))))) [s0, .own 0 pd, s2, s3, s4, s5, .fro L.d, .fro R.d, .own 0 (.lst []), s9, s10, s11, s12, s13, s14, s15] = some ([s0, .own 0 pd, s2, s3, s4, s5, .fro L.d, .fro R.d, .own 0 (.lst ((dds L R).map Deed.d)), .fro (.str "same"), s10, s11, s12, s13, s14, s15], Fl.nx) := by
  simp only [dds, List.map_cons, List.map_nil, Deed.d, Worth.d, Op.s, Part.d]
  walk_at "ev"
theorem pc7 (pd : D) (m one other : Int) (hm : 0 < m) (h2 : MulOk one other) (s0 s2 s6 s7 s8 s9 s10 s11 s12 s13 s14 s15 : Slot) : (asgS 10 (callE m__law_due (argV (rd 4) (argV (rd 5) (argV (rd 3) (argN)))))) [s0, .own 0 pd, s2, .fro (.int m), .fro (.int one), .fro (.int other), s6, s7, s8, s9, s10, s11, s12, s13, s14, s15] = some ([s0, .own 0 pd, s2, .fro (.int m), .fro (.int one), .fro (.int other), s6, s7, s8, s9, .own 0 (.lst [.int ((one + other) % m), .int ((one - other) % m), .int (one * other % m), .int (if one < other then 1 else 0), .int (if one = other then 1 else 0)]), s11, s12, s13, s14, s15], Fl.nx) := by
  have h := due_ok one other m hm h2
  walk_at "ev"
def first (m : Int) (L R : Part) : Prog := ⟨m, [⟨(dds L R).take 6, .go 1⟩, ⟨(dds L R).drop 6, .stop⟩]⟩
theorem pc8 (pd : D) (m : Int) (L R : Part) (s0 s2 s4 s5 s6 s7 s9 s10 s11 s12 s13 s14 s15 : Slot) : (asgS 11 (tupE (evC (rd 3) (evC (fz (lstE (evC (fz (tupE (evC (fz (slP 8 (eoN) (eoS (kc (.int 6))))) (evC (fz (tupE (evC (kc (.str "go")) (evC (kc (.int 1)) (evN))))) (evN))))) (evC (fz (tupE (evC (fz (slP 8 (eoS (kc (.int 6))) (eoN))) (evC (fz (tupE (evC (kc (.str "stop")) (evN)))) (evN))))) (evN))))) (evN))))) [s0, .own 0 pd, s2, .fro (.int m), s4, s5, s6, s7, .own 0 (.lst ((dds L R).map Deed.d)), s9, s10, s11, s12, s13, s14, s15] = some ([s0, .own 0 pd, s2, .fro (.int m), s4, s5, s6, s7, .own 0 (.lst ((dds L R).map Deed.d)), s9, s10, .fro (first m L R).d, s12, s13, s14, s15], Fl.nx) := by
  have e : (first m L R).d = .tup [.int m, .lst [.tup [.lst (((dds L R).map Deed.d).take 6), .tup [.str "go", .int 1]], .tup [.lst (((dds L R).map Deed.d).drop 6), .tup [.str "stop"]]]] := rfl
  have e2 : ((dds L R).map Deed.d).length = 10 := rfl
  rw [e]
  clear e
  generalize (dds L R).map Deed.d = ds at e2 ⊢
  have e3 : (ds.drop 6).take 4 = ds.drop 6 := List.take_of_length_le (by rw [List.length_drop]; omega)
  walk_at "ev"
theorem pc9 (pd : D) (one other : Int) (s0 s2 s3 s6 s7 s8 s9 s10 s11 s12 s13 s14 s15 : Slot) : (asgS 12 (dispE (edC (kc (.str "a")) (rd 4) (edC (kc (.str "b")) (rd 5) (edC (kc (.str "c")) (kc (.int 1)) (edN)))))) [s0, .own 0 pd, s2, s3, .fro (.int one), .fro (.int other), s6, s7, s8, s9, s10, s11, s12, s13, s14, s15] = some ([s0, .own 0 pd, s2, s3, .fro (.int one), .fro (.int other), s6, s7, s8, s9, s10, s11, .own 0 (.dk (wd [("a", one), ("b", other), ("c", 1)])), s13, s14, s15], Fl.nx) := by
  have e : mergeD [] [(.str "a", .int one), (.str "b", .int other), (.str "c", .int 1)] = some [(.inr "a", .int one), (.inr "b", .int other), (.inr "c", .int 1)] := by rfl
  simp only [wd, List.map_cons, List.map_nil]
  walk_at "ev"
end Oc.K_k02
end

section
set_option Elab.async false
set_option linter.all false
set_option maxRecDepth 100000
set_option maxHeartbeats 4000000
namespace Oc.K_k02
open PySem L2
local macro_rules | `(tactic| walk_at "ev") => `(tactic| simp [seqS_e, seqC_nx, seqC_bk, seqC_ct, seqC_rt, nilS_e, asgS_e, asgC_e, dropS_e, dropC_e, retS_e, retC_e, retN_e, ifS_e, ifC_t, ifC_f, forS_e, forC_e, forL_nil, forL_cons, forB_e, forD_nx, forD_ct, forD_bk, forD_rt, bindP_nm, bindP_tp, bindPs_nil, bindPs_cons, bindC_e, unS_e, unC_e, setAll_nil, setAll_cons, putS_e, putC1_e, putC2_e, putC3_e, putC4_e, putC5_e, put_val, put_tup, put_lst, put_dk, put_dt, augS_e, augC_e, kc_e, fz_e, fzC_v, fzC_c, vx_e, vxC_e, consC_e, rd_fro, rd_own, rd_cons, rd_1, rd_2, rd_3, rd_4, rd_5, rd_6, rd_7, rd_8, rd_9, rd_10, rd_11, rd_12, rd_13, rd_14, rd_15, rd_16, rd_17, rd_18, rd_19, rd_20, rd_21, rd_22, rd_23, rd_24, rd_25, rd_26, rd_27, rd_28, rd_29, rd_30, rd_31, rd_32, rd_33, rd_34, rd_35, rd_36, rd_37, rd_38, rd_39, peek_fro, peek_l, peek_dk, peek_dt, peek_1, peek_2, peek_3, peek_4, peek_5, peek_6, peek_7, peek_8, peek_9, peek_10, peek_11, peek_12, peek_13, peek_14, peek_15, peek_16, peek_17, peek_18, peek_19, peek_20, peek_21, peek_22, peek_23, peek_24, peek_25, peek_26, peek_27, peek_28, peek_29, peek_30, peek_31, peek_32, peek_33, peek_34, peek_35, peek_36, peek_37, peek_38, peek_39, consX_e, mv_fro, mv_own, mv_1, mv_2, mv_3, mv_4, mv_5, mv_6, mv_7, mv_8, mv_9, mv_10, mv_11, mv_12, mv_13, mv_14, mv_15, mv_16, mv_17, mv_18, mv_19, mv_20, mv_21, mv_22, mv_23, mv_24, mv_25, mv_26, mv_27, mv_28, mv_29, mv_30, mv_31, mv_32, mv_33, mv_34, mv_35, mv_36, mv_37, mv_38, mv_39, look_e, lookC_e, ev2_e, ev2C_e, ev2D_e, ev2P_e, ev2PC_e, ev2PD_e, ev2PF_e, ev2Q_e, ev2QC_e, ev2QD_e, evN_e, evC_e, evCC_e, evCD_e, rvE_e, op2_e, op2C_e, op1_e, op1C_e, tst_e, tstC_e, andB_e, andC_t, andC_f, orB_e, orC_t, orC_f, notB_e, notC_e, noneE_e, noneC_e, isNo_n, isNo_i, isNo_l, isNo_t, isNo_s, andX_e, andXC_t, andXC_f, orX_e, orXC_t, orXC_f, notX_e, notXC_e, tupE_e, tupC_e, lstE_e, lstC_e, argN_e, argV_e, argVC_e, argVD_e, argP_e, argPC_e, argPD_e, callE_e, callC_e, callD_e, callF_e, copyE_e, appE_e, appB_e, appC_e, appD_e, popAtE_e, popB_e, popC_e, pop0, get2E_e, getD1_k, getD1_t, getD2_e, getD3_e, getX_e, getF_e, inKE_e, inKC_f, inKC_t, itV_e, itVC_e, itT_e, itTC_e, itR1_e, itRC_e, itR2_e, itR2C_e, itE_e, itEC_e, eoN_e, eoS_e, eoC_e, slV_e, slC_e, slD_e, slF_e, slP_e, slPB_e, slPC_e, slPD_e, slPF_e, dispE_e, dispC_e, edN_e, edC_e, edB_e, edD_e, edF_e, dk0_e, dt0_e, negE_e, negC_e, iteE_e, iteC_t, iteC_f, chainE_e, chC_e, chD_e, lcL_nil, lcL_cons, lcD0_e, lcD1_t, lcD1_f, lcD2_e, lcE_e, lcB_e, lcF_e, yesB_e, ix_l, ix_t, ix_s, ix_k, ix_dt, atI_0, atI_1, atI_2, atI_3, atI_4, atI_5, atI_6, atI_7, atI_neg1, add_i, add_s, add_l, sub_i, mul_i, mod_i, div_i, pow_i, cmp_i, eqR_e, neR_e, inR_e, ninR_e, eq_ii, putD_dk, putD_l, ownD_0, ownL_0, ownD_1, ownL_1, ownD_2, ownL_2, ownD_3, ownL_3, ownD_4, ownL_4, ownD_5, ownL_5, ownD_6, ownL_6, ownD_7, ownL_7, ownD_8, ownL_8, ownD_9, ownL_9, ownD_10, ownL_10, ownD_11, ownL_11, ownD_12, ownL_12, ownD_13, ownL_13, ownD_14, ownL_14, ownD_15, ownL_15, ownD_16, ownL_16, ownD_17, ownL_17, ownD_18, ownL_18, ownD_19, ownL_19, ownD_20, ownL_20, ownD_21, ownL_21, ownD_22, ownL_22, ownD_23, ownL_23, ownD_24, ownL_24, ownD_25, ownL_25, ownD_26, ownL_26, ownD_27, ownL_27, ownD_28, ownL_28, ownD_29, ownL_29, ownD_30, ownL_30, ownD_31, ownL_31, ownD_32, ownL_32, ownD_33, ownL_33, ownD_34, ownL_34, ownD_35, ownL_35, ownD_36, ownL_36, ownD_37, ownL_37, ownD_38, ownL_38, ownD_39, ownL_39, keyOf_i, keyOf_s, dget_k, len_l, len_t, len_k, len_s, list_l, list_t, int_i, int_b, slice_l, slice_t, slotsOf_nil, slotsOf_v, slotsOf_p, outs_nil, outs_own, outs_fro, outs_un, mkM1, mkM2, mkM3, mkM4, mkM5, mkM6, mkC_rt, mkC_nx, sIx_0, sIx_1, sIx_2, sIx_3, sIx_4, sIx_5, sIx_6, sIx_7, sIx_8, sIx_9, sIx_10, sIx_11, HT.sIx_none, cutD, outAt_nil, outAt_v, outAt_p, outAt_pf, outAt_pu, wbS_un, wbS_fro, wbS_own, wbS_none, lim, ixN, places, sameTags, clean, wipeE, backE, sk_number, sk_name, sk_put, sk_tell, sk_go, sk_choose, sk_stop, sk_plus, sk_less, sk_times, sk_below, sk_same, ne_number_name, ne_name_number, ne_put_tell, ne_tell_put, ne_go_choose, ne_go_stop, ne_choose_go, ne_choose_stop, ne_stop_go, ne_stop_choose, ne_plus_less, ne_plus_times, ne_plus_below, ne_plus_same, ne_less_plus, ne_less_times, ne_less_below, ne_less_same, ne_times_plus, ne_times_less, ne_times_below, ne_times_same, ne_below_plus, ne_below_less, ne_below_times, ne_below_same, ne_same_plus, ne_same_less, ne_same_times, ne_same_below, ne_plus_number, ne_plus_name, ne_less_number, ne_less_name, ne_times_number, ne_times_name, ne_below_number, ne_below_name, ne_same_number, ne_same_name, ct_number, ct_name, ct_put, ct_tell, ct_go, ct_choose, ct_stop, ct_plus, ct_less, ct_times, ct_below, ct_same, eq_ss, *])
/-- the worths of the second text, c being v -/
abbrev Wv (x y v : Int) : Ws := [("a", x), ("b", y), ("c", v)]
theorem Wv_c (x y v u : Int) : setW (Wv x y v) "c" u = Wv x y u := by rfl
theorem Wv_a (x y v u : Int) : setW (Wv x y v) "a" u = Wv u y v := by rfl
theorem Wv_b (x y v u : Int) : setW (Wv x y v) "b" u = Wv x u v := by rfl
theorem pw_c (x y v : Int) : pw (Wv x y v) (.nm "c") = v := by rfl
theorem pw_a (x y v : Int) : pw (Wv x y v) (.nm "a") = x := by rfl
theorem pw_b (x y v : Int) : pw (Wv x y v) (.nm "b") = y := by rfl
theorem first_told {m one other : Int} {L R : Part} (hL : L = .nm "a" ∨ L = .num one) (hR : R = .nm "b" ∨ R = .num other) :
    runN (first m L R) 2 (Wv one other 1) [] 0 = ([(one + other) % m, (one - other) % m, one * other % m, if one < other then 1 else 0, if one = other then 1 else 0], true) := by
  have l1 : ∀ v, pw (Wv one other v) L = one := fun v => by rcases hL with rfl | rfl <;> rfl
  have r1 : ∀ v, pw (Wv one other v) R = other := fun v => by rcases hR with rfl | rfl <;> rfl
  have b0 : (first m L R).blocks[(0 : Int).toNat]? = some ⟨(dds L R).take 6, .go 1⟩ := rfl
  have b1 : (first m L R).blocks[(1 : Int).toNat]? = some ⟨(dds L R).drop 6, .stop⟩ := rfl
  have d0 : doDs m ((dds L R).take 6) (Wv one other 1, []) = (Wv one other (one * other % m), [(one + other) % m, (one - other) % m, one * other % m]) := by
    simp only [dds, List.take_succ_cons, List.take_zero, doDs, List.foldl_cons, List.foldl_nil, doD, ww, l1, r1, opw, Wv_c, pw_c, List.nil_append, List.cons_append]
  have d1 : doDs m ((dds L R).drop 6) (Wv one other (one * other % m), [(one + other) % m, (one - other) % m, one * other % m]) = (Wv one other (if one = other then 1 else 0), [(one + other) % m, (one - other) % m, one * other % m, if one < other then 1 else 0, if one = other then 1 else 0]) := by
    simp only [dds, List.drop_succ_cons, List.drop_zero, doDs, List.foldl_cons, List.foldl_nil, doD, ww, l1, r1, opw, Wv_c, pw_c, List.nil_append, List.cons_append]
  have mm : (first m L R).measure = m := rfl
  rw [runN, b0]
  simp only [mm, d0, ledOn]
  rw [runN, b1]
  simp only [mm, d1, ledOn]
theorem parts_ok {m one other : Int} {L R : Part} (h1 : 0 ≤ one ∧ one < m) (h2 : 0 ≤ other ∧ other < m) (hL : L = .nm "a" ∨ L = .num one) (hR : R = .nm "b" ∨ R = .num other) : L.ok m ∧ R.ok m := by
  constructor
  · rcases hL with rfl | rfl
    · exact trivial
    · exact h1
  · rcases hR with rfl | rfl
    · exact trivial
    · exact h2
theorem first_ok {m : Int} {L R : Part} (hm : 2 ≤ m) (hm2 : m ≤ 1000000000) (h : L.ok m ∧ R.ok m) : (first m L R).ok := by
  have hd : ∀ d ∈ dds L R, d.ok m := by
    intro d hd
    simp only [dds, List.mem_cons, List.not_mem_nil, or_false] at hd
    rcases hd with rfl | rfl | rfl | rfl | rfl | rfl | rfl | rfl | rfl | rfl
    all_goals first | exact h | exact trivial
  refine ⟨hm, hm2, by show 0 < 2; decide, by show 2 ≤ 1000; decide, ?_⟩
  intro b hb
  simp only [first, List.mem_cons, List.not_mem_nil, or_false] at hb
  rcases hb with rfl | rfl
  · exact ⟨fun d g => hd d (List.mem_of_mem_take g), by simp [dds], by show (0 : Int) ≤ 1; decide, by show (1 : Int) < ((2 : Nat) : Int); decide⟩
  · exact ⟨fun d g => hd d (List.mem_of_mem_drop g), by simp [dds], trivial⟩
theorem Wv_ok {m x y v : Int} (h1 : 0 ≤ x ∧ x < m) (h2 : 0 ≤ y ∧ y < m) (h3 : 0 ≤ v ∧ v < m) : WsOk m (Wv x y v) := by
  intro p hp
  simp only [Wv, List.mem_cons, List.not_mem_nil, or_false] at hp
  rcases hp with rfl | rfl | rfl
  · exact h1
  · exact h2
  · exact h3
def agn (L R : Part) : List Deed := [.put "a" (.op .plus (.nm "a") R), .put "b" (.part L), .tell (.nm "a"), .tell (.nm "b"), .tell L]
def second (m : Int) (L R : Part) : Prog := ⟨m, [⟨agn L R, .stop⟩]⟩
/-- whether the left part is a number -/
def isN : Part → Bool
  | .num _ => true
  | .nm _ => false
theorem second_told {m one other : Int} {L R : Part} (hL : L = .nm "a" ∨ L = .num one) (hR : R = .nm "b" ∨ R = .num other) :
    runN (second m L R) 1 (Wv one other 1) [] 0 = ([(one + other) % m, if isN L then one else (one + other) % m, if isN L then one else (one + other) % m], true) := by
  rcases hL with rfl | rfl <;> rcases hR with rfl | rfl <;> rfl
theorem second_ok {m : Int} {L R : Part} (hm : 2 ≤ m) (hm2 : m ≤ 1000000000) (h : L.ok m ∧ R.ok m) : (second m L R).ok := by
  refine ⟨hm, hm2, by show 0 < 1; decide, by show 1 ≤ 1000; decide, ?_⟩
  intro b hb
  simp only [second, List.mem_cons, List.not_mem_nil, or_false] at hb
  subst hb
  refine ⟨?_, by show 5 ≤ 100; decide, trivial⟩
  intro d hd
  simp only [agn, List.mem_cons, List.not_mem_nil, or_false] at hd
  rcases hd with rfl | rfl | rfl | rfl | rfl
  · exact ⟨trivial, h.2⟩
  · exact h.1
  · exact trivial
  · exact trivial
  · exact h.1
theorem pc10 (pd : D) (p : Prog) (W : Ws) (told : List Int) (h : m_run [.fro p.d, .own 2 (.dk (wd W)), .fro (.int 2)] = some (.cell (.tup [.lst (told.map D.int), .bl true]), [.un, .own 2 (.dk (wd W)), .un])) (hs : SeqAt.shaped (py (.tup [.lst (told.map D.int), .bl true])) = true) (s0 s2 s3 s4 s5 s6 s7 s8 s9 s13 s14 s15 : Slot) : (ifS (tst (op2 (ev2 (fz (callE m_run (argV (rd 11) (argP 12 (argV (kc (.int 2)) (argN)))))) (fz (tupE (evC (rd 10) (evC (kc (.bl true)) (evN)))))) neR)) (retS (vx (kc (.bl false)))) (nilS)) [s0, .own 0 pd, s2, s3, s4, s5, s6, s7, s8, s9, .own 0 (.lst (told.map D.int)), .fro p.d, .own 0 (.dk (wd W)), s13, s14, s15] = some ([s0, .own 0 pd, s2, s3, s4, s5, s6, s7, s8, s9, .fro (.lst (told.map D.int)), .fro p.d, .own 0 (.dk (wd W)), s13, s14, s15], Fl.nx) := by
  have e := eqD_self hs
  clear hs
  walk_at "ev"
theorem pc11 (pd : D) (L R : Part) (s0 s2 s3 s4 s5 s8 s9 s10 s11 s12 s13 s14 s15 : Slot) : (asgS 13 (lstE (evC (fz (tupE (evC (kc (.str "put")) (evC (kc (.str "a")) (evC (fz (tupE (evC (kc (.str "plus")) (evC (fz (tupE (evC (kc (.str "name")) (evC (kc (.str "a")) (evN))))) (evC (rd 7) (evN)))))) (evN)))))) (evC (fz (tupE (evC (kc (.str "put")) (evC (kc (.str "b")) (evC (rd 6) (evN)))))) (evC (fz (tupE (evC (kc (.str "tell")) (evC (fz (tupE (evC (kc (.str "name")) (evC (kc (.str "a")) (evN))))) (evN))))) (evN)))))) [s0, .own 0 pd, s2, s3, s4, s5, .fro L.d, .fro R.d, s8, s9, s10, s11, s12, s13, s14, s15] = some ([s0, .own 0 pd, s2, s3, s4, s5, .fro L.d, .fro R.d, s8, s9, s10, s11, s12, .own 0 (.lst (((agn L R).take 3).map Deed.d)), s14, s15], Fl.nx) := by
  simp only [agn, List.take_succ_cons, List.take_zero, List.map_cons, List.map_nil, Deed.d, Worth.d, Op.s, Part.d]
  walk_at "ev"
theorem pc12 (pd : D) (L R : Part) (s0 s2 s3 s4 s5 s8 s9 s10 s11 s12 s14 s15 : Slot) : (asgS 13 (op2 (ev2 (rd 13) (fz (lstE (evC (fz (tupE (evC (kc (.str "tell")) (evC (fz (tupE (evC (kc (.str "name")) (evC (kc (.str "b")) (evN))))) (evN))))) (evC (fz (tupE (evC (kc (.str "tell")) (evC (rd 6) (evN))))) (evN)))))) addD)) [s0, .own 0 pd, s2, s3, s4, s5, .fro L.d, .fro R.d, s8, s9, s10, s11, s12, .own 0 (.lst (((agn L R).take 3).map Deed.d)), s14, s15] = some ([s0, .own 0 pd, s2, s3, s4, s5, .fro L.d, .fro R.d, s8, s9, s10, s11, s12, .own 0 (.lst ((agn L R).map Deed.d)), s14, s15], Fl.nx) := by
  simp only [agn, List.take_succ_cons, List.take_zero, List.map_cons, List.map_nil, Deed.d, Worth.d, Op.s, Part.d]
  walk_at "ev"
theorem pc13 (pd : D) (m one other : Int) (hm : 0 < m) (s0 s2 s6 s7 s8 s9 s10 s11 s12 s13 s14 s15 : Slot) : (asgS 14 (op2 (ev2 (fz (op2 (ev2 (rd 4) (rd 5)) addD)) (rd 3)) modD)) [s0, .own 0 pd, s2, .fro (.int m), .fro (.int one), .fro (.int other), s6, s7, s8, s9, s10, s11, s12, s13, s14, s15] = some ([s0, .own 0 pd, s2, .fro (.int m), .fro (.int one), .fro (.int other), s6, s7, s8, s9, s10, s11, s12, s13, .fro (.int ((one + other) % m)), s15], Fl.nx) := by walk_at "ev"
theorem pc14 (pd : D) (L : Part) (one more : Int) (s0 s2 s3 s5 s7 s8 s9 s10 s11 s12 s13 s15 : Slot) : (asgS 15 (op2 (ev2 (fz (lstE (evC (rd 14) (evC (rd 4) (evN))))) (fz (op1 (fz (op2 (ev2 (fz (op2 (ev2P 6 (kc (.int 0))) ixD)) (kc (.str "number"))) eqR)) intD))) ixD)) [s0, .own 0 pd, s2, s3, .fro (.int one), s5, .fro L.d, s7, s8, s9, s10, s11, s12, s13, .fro (.int more), s15] = some ([s0, .own 0 pd, s2, s3, .fro (.int one), s5, .fro L.d, s7, s8, s9, s10, s11, s12, s13, .fro (.int more), .fro (.int (if isN L then one else more))], Fl.nx) := by
  cases L with
  | num i => simp only [Part.d, isN]; walk_at "ev"
  | nm s => simp only [Part.d, isN]; walk_at "ev"
theorem pc15 (pd : D) (m : Int) (ds : List Deed) (W : Ws) (x y : Int) (h : m_run [.fro (.tup [.int m, .lst [.tup [.lst (ds.map Deed.d), .tup [.str "stop"]]]]), .own 2 (.dk (wd W)), .fro (.int 1)] = some (.cell (.tup [.lst [.int x, .int y, .int y], .bl true]), [.un, .own 2 (.dk (wd W)), .un])) (s0 s2 s4 s5 s6 s7 s8 s9 s10 s11 : Slot) : (ifS (tst (op2 (ev2 (fz (callE m_run (argV (fz (tupE (evC (rd 3) (evC (fz (lstE (evC (fz (tupE (evC (rd 13) (evC (fz (tupE (evC (kc (.str "stop")) (evN)))) (evN))))) (evN)))) (evN))))) (argP 12 (argV (kc (.int 1)) (argN)))))) (fz (tupE (evC (fz (lstE (evC (rd 14) (evC (rd 15) (evC (rd 15) (evN)))))) (evC (kc (.bl true)) (evN)))))) neR)) (retS (vx (kc (.bl false)))) (nilS)) [s0, .own 0 pd, s2, .fro (.int m), s4, s5, s6, s7, s8, s9, s10, s11, .own 0 (.dk (wd W)), .own 0 (.lst (ds.map Deed.d)), .fro (.int x), .fro (.int y)] = some ([s0, .own 0 pd, s2, .fro (.int m), s4, s5, s6, s7, s8, s9, s10, s11, .own 0 (.dk (wd W)), .fro (.lst (ds.map Deed.d)), .fro (.int x), .fro (.int y)], Fl.nx) := by
  have e : eqD (.tup [.lst [.int x, .int y, .int y], .bl true]) (.tup [.lst [.int x, .int y, .int y], .bl true]) = some true := eqD_self rfl
  walk_at "ev"
end Oc.K_k02
end

section
set_option Elab.async false
set_option linter.all false
set_option maxRecDepth 100000
set_option maxHeartbeats 4000000
namespace Oc.K_k02
open PySem L2
local macro_rules | `(tactic| walk_at "ev") => `(tactic| simp [seqS_e, seqC_nx, seqC_bk, seqC_ct, seqC_rt, nilS_e, asgS_e, asgC_e, dropS_e, dropC_e, retS_e, retC_e, retN_e, ifS_e, ifC_t, ifC_f, forS_e, forC_e, forL_nil, forL_cons, forB_e, forD_nx, forD_ct, forD_bk, forD_rt, bindP_nm, bindP_tp, bindPs_nil, bindPs_cons, bindC_e, unS_e, unC_e, setAll_nil, setAll_cons, putS_e, putC1_e, putC2_e, putC3_e, putC4_e, putC5_e, put_val, put_tup, put_lst, put_dk, put_dt, augS_e, augC_e, kc_e, fz_e, fzC_v, fzC_c, vx_e, vxC_e, consC_e, rd_fro, rd_own, rd_cons, rd_1, rd_2, rd_3, rd_4, rd_5, rd_6, rd_7, rd_8, rd_9, rd_10, rd_11, rd_12, rd_13, rd_14, rd_15, rd_16, rd_17, rd_18, rd_19, rd_20, rd_21, rd_22, rd_23, rd_24, rd_25, rd_26, rd_27, rd_28, rd_29, rd_30, rd_31, rd_32, rd_33, rd_34, rd_35, rd_36, rd_37, rd_38, rd_39, peek_fro, peek_l, peek_dk, peek_dt, peek_1, peek_2, peek_3, peek_4, peek_5, peek_6, peek_7, peek_8, peek_9, peek_10, peek_11, peek_12, peek_13, peek_14, peek_15, peek_16, peek_17, peek_18, peek_19, peek_20, peek_21, peek_22, peek_23, peek_24, peek_25, peek_26, peek_27, peek_28, peek_29, peek_30, peek_31, peek_32, peek_33, peek_34, peek_35, peek_36, peek_37, peek_38, peek_39, consX_e, mv_fro, mv_own, mv_1, mv_2, mv_3, mv_4, mv_5, mv_6, mv_7, mv_8, mv_9, mv_10, mv_11, mv_12, mv_13, mv_14, mv_15, mv_16, mv_17, mv_18, mv_19, mv_20, mv_21, mv_22, mv_23, mv_24, mv_25, mv_26, mv_27, mv_28, mv_29, mv_30, mv_31, mv_32, mv_33, mv_34, mv_35, mv_36, mv_37, mv_38, mv_39, look_e, lookC_e, ev2_e, ev2C_e, ev2D_e, ev2P_e, ev2PC_e, ev2PD_e, ev2PF_e, ev2Q_e, ev2QC_e, ev2QD_e, evN_e, evC_e, evCC_e, evCD_e, rvE_e, op2_e, op2C_e, op1_e, op1C_e, tst_e, tstC_e, andB_e, andC_t, andC_f, orB_e, orC_t, orC_f, notB_e, notC_e, noneE_e, noneC_e, isNo_n, isNo_i, isNo_l, isNo_t, isNo_s, andX_e, andXC_t, andXC_f, orX_e, orXC_t, orXC_f, notX_e, notXC_e, tupE_e, tupC_e, lstE_e, lstC_e, argN_e, argV_e, argVC_e, argVD_e, argP_e, argPC_e, argPD_e, callE_e, callC_e, callD_e, callF_e, copyE_e, appE_e, appB_e, appC_e, appD_e, popAtE_e, popB_e, popC_e, pop0, get2E_e, getD1_k, getD1_t, getD2_e, getD3_e, getX_e, getF_e, inKE_e, inKC_f, inKC_t, itV_e, itVC_e, itT_e, itTC_e, itR1_e, itRC_e, itR2_e, itR2C_e, itE_e, itEC_e, eoN_e, eoS_e, eoC_e, slV_e, slC_e, slD_e, slF_e, slP_e, slPB_e, slPC_e, slPD_e, slPF_e, dispE_e, dispC_e, edN_e, edC_e, edB_e, edD_e, edF_e, dk0_e, dt0_e, negE_e, negC_e, iteE_e, iteC_t, iteC_f, chainE_e, chC_e, chD_e, lcL_nil, lcL_cons, lcD0_e, lcD1_t, lcD1_f, lcD2_e, lcE_e, lcB_e, lcF_e, yesB_e, ix_l, ix_t, ix_s, ix_k, ix_dt, atI_0, atI_1, atI_2, atI_3, atI_4, atI_5, atI_6, atI_7, atI_neg1, add_i, add_s, add_l, sub_i, mul_i, mod_i, div_i, pow_i, cmp_i, eqR_e, neR_e, inR_e, ninR_e, eq_ii, putD_dk, putD_l, ownD_0, ownL_0, ownD_1, ownL_1, ownD_2, ownL_2, ownD_3, ownL_3, ownD_4, ownL_4, ownD_5, ownL_5, ownD_6, ownL_6, ownD_7, ownL_7, ownD_8, ownL_8, ownD_9, ownL_9, ownD_10, ownL_10, ownD_11, ownL_11, ownD_12, ownL_12, ownD_13, ownL_13, ownD_14, ownL_14, ownD_15, ownL_15, ownD_16, ownL_16, ownD_17, ownL_17, ownD_18, ownL_18, ownD_19, ownL_19, ownD_20, ownL_20, ownD_21, ownL_21, ownD_22, ownL_22, ownD_23, ownL_23, ownD_24, ownL_24, ownD_25, ownL_25, ownD_26, ownL_26, ownD_27, ownL_27, ownD_28, ownL_28, ownD_29, ownL_29, ownD_30, ownL_30, ownD_31, ownL_31, ownD_32, ownL_32, ownD_33, ownL_33, ownD_34, ownL_34, ownD_35, ownL_35, ownD_36, ownL_36, ownD_37, ownL_37, ownD_38, ownL_38, ownD_39, ownL_39, keyOf_i, keyOf_s, dget_k, len_l, len_t, len_k, len_s, list_l, list_t, int_i, int_b, slice_l, slice_t, slotsOf_nil, slotsOf_v, slotsOf_p, outs_nil, outs_own, outs_fro, outs_un, mkM1, mkM2, mkM3, mkM4, mkM5, mkM6, mkC_rt, mkC_nx, sIx_0, sIx_1, sIx_2, sIx_3, sIx_4, sIx_5, sIx_6, sIx_7, sIx_8, sIx_9, sIx_10, sIx_11, HT.sIx_none, cutD, outAt_nil, outAt_v, outAt_p, outAt_pf, outAt_pu, wbS_un, wbS_fro, wbS_own, wbS_none, lim, ixN, places, sameTags, clean, wipeE, backE, sk_number, sk_name, sk_put, sk_tell, sk_go, sk_choose, sk_stop, sk_plus, sk_less, sk_times, sk_below, sk_same, ne_number_name, ne_name_number, ne_put_tell, ne_tell_put, ne_go_choose, ne_go_stop, ne_choose_go, ne_choose_stop, ne_stop_go, ne_stop_choose, ne_plus_less, ne_plus_times, ne_plus_below, ne_plus_same, ne_less_plus, ne_less_times, ne_less_below, ne_less_same, ne_times_plus, ne_times_less, ne_times_below, ne_times_same, ne_below_plus, ne_below_less, ne_below_times, ne_below_same, ne_same_plus, ne_same_less, ne_same_times, ne_same_below, ne_plus_number, ne_plus_name, ne_less_number, ne_less_name, ne_times_number, ne_times_name, ne_below_number, ne_below_name, ne_same_number, ne_same_name, ct_number, ct_name, ct_put, ct_tell, ct_go, ct_choose, ct_stop, ct_plus, ct_less, ct_times, ct_below, ct_same, eq_ss, *])
theorem round (a b : Int) (ha : 0 ≤ a) (hb : 0 < b) (s0 s2 s3 s4 s5 s6 s7 s8 s9 s10 s11 s12 s13 s14 s15 : Slot) : ∃ (a' : Int) (t3 t4 t5 t6 t7 t8 t9 t10 t11 t12 t13 t14 t15 : Slot), 0 ≤ a' ∧ (seqS (asgS 3 (op2 (ev2 (fz (lstE (evC (kc (.int 2)) (evC (kc (.int 3)) (evC (fz (op2 (ev2 (kc (.int 10)) (kc (.int 9))) powD)) (evC (fz (op2 (ev2 (kc (.int 2)) (fz (callE m__law_draw (argP 1 (argV (kc (.int 1000)) (argN)))))) addD)) (evN))))))) (fz (callE m__law_draw (argP 1 (argV (kc (.int 4)) (argN)))))) ixD)) (seqS (asgS 4 (op2 (ev2 (fz (lstE (evC (kc (.int 0)) (evC (kc (.int 1)) (evC (fz (op2 (ev2 (rd 3) (kc (.int 1))) subD)) (evC (fz (callE m__law_draw (argP 1 (argV (rd 3) (argN))))) (evN))))))) (fz (callE m__law_draw (argP 1 (argV (kc (.int 4)) (argN)))))) ixD)) (seqS (asgS 5 (op2 (ev2 (fz (lstE (evC (kc (.int 0)) (evC (kc (.int 1)) (evC (fz (op2 (ev2 (rd 3) (kc (.int 1))) subD)) (evC (fz (callE m__law_draw (argP 1 (argV (rd 3) (argN))))) (evC (rd 4) (evN)))))))) (fz (callE m__law_draw (argP 1 (argV (kc (.int 5)) (argN)))))) ixD)) (seqS (asgS 6 (op2 (ev2 (fz (lstE (evC (fz (tupE (evC (kc (.str "name")) (evC (kc (.str "a")) (evN))))) (evC (fz (tupE (evC (kc (.str "number")) (evC (rd 4) (evN))))) (evN))))) (fz (callE m__law_draw (argP 1 (argV (kc (.int 2)) (argN)))))) ixD)) (seqS (asgS 7 (op2 (ev2 (fz (lstE (evC (fz (tupE (evC (kc (.str "name")) (evC (kc (.str "b")) (evN))))) (evC (fz (tupE (evC (kc (.str "number")) (evC (rd 5) (evN))))) (evN))))) (fz (callE m__law_draw (argP 1 (argV (kc (.int 2)) (argN)))))) ixD)) (seqS (asgS 8 (lstE (evN))) (seqS (forS (itV (fz (lstE (evC (kc (.str "plus")) (evC (kc (.str "less")) (evC (kc (.str "times")) (evC (kc (.str "below")) (evC (kc (.str "same")) (evN))))))))) (.nm 9) (seqS (dropS (appE 8 (fz (tupE (evC (kc (.str "put")) (evC (kc (.str "c")) (evC (fz (tupE (evC (rd 9) (evC (rd 6) (evC (rd 7) (evN)))))) (evN)))))))) (dropS (appE 8 (fz (tupE (evC (kc (.str "tell")) (evC (fz (tupE (evC (kc (.str "name")) (evC (kc (.str "c")) (evN))))) (evN))))))))) (seqS (asgS 10 (callE m__law_due (argV (rd 4) (argV (rd 5) (argV (rd 3) (argN)))))) (seqS (asgS 11 (tupE (evC (rd 3) (evC (fz (lstE (evC (fz (tupE (evC (fz (slP 8 (eoN) (eoS (kc (.int 6))))) (evC (fz (tupE (evC (kc (.str "go")) (evC (kc (.int 1)) (evN))))) (evN))))) (evC (fz (tupE (evC (fz (slP 8 (eoS (kc (.int 6))) (eoN))) (evC (fz (tupE (evC (kc (.str "stop")) (evN)))) (evN))))) (evN))))) (evN))))) (seqS (asgS 12 (dispE (edC (kc (.str "a")) (rd 4) (edC (kc (.str "b")) (rd 5) (edC (kc (.str "c")) (kc (.int 1)) (edN)))))) (seqS (ifS (tst (op2 (ev2 (fz (callE m_run (argV (rd 11) (argP 12 (argV (kc (.int 2)) (argN)))))) (fz (tupE (evC (rd 10) (evC (kc (.bl true)) (evN)))))) neR)) (retS (vx (kc (.bl false)))) (nilS)) (seqS (asgS 13 (lstE (evC (fz (tupE (evC (kc (.str "put")) (evC (kc (.str "a")) (evC (fz (tupE (evC (kc (.str "plus")) (evC (fz (tupE (evC (kc (.str "name")) (evC (kc (.str "a")) (evN))))) (evC (rd 7) (evN)))))) (evN)))))) (evC (fz (tupE (evC (kc (.str "put")) (evC (kc (.str "b")) (evC (rd 6) (evN)))))) (evC (fz (tupE (evC (kc (.str "tell")) (evC (fz (tupE (evC (kc (.str "name")) (evC (kc (.str "a")) (evN))))) (evN))))) (evN)))))) (seqS (asgS 13 (op2 (ev2 (rd 13) (fz (lstE (evC (fz (tupE (evC (kc (.str "tell")) (evC (fz (tupE (evC (kc (.str "name")) (evC (kc (.str "b")) (evN))))) (evN))))) (evC (fz (tupE (evC (kc (.str "tell")) (evC (rd 6) (evN))))) (evN)))))) addD)) (seqS (asgS 14 (op2 (ev2 (fz (op2 (ev2 (rd 4) (rd 5)) addD)) (rd 3)) modD)) (seqS (asgS 15 (op2 (ev2 (fz (lstE (evC (rd 14) (evC (rd 4) (evN))))) (fz (op1 (fz (op2 (ev2 (fz (op2 (ev2P 6 (kc (.int 0))) ixD)) (kc (.str "number"))) eqR)) intD))) ixD)) (ifS (tst (op2 (ev2 (fz (callE m_run (argV (fz (tupE (evC (rd 3) (evC (fz (lstE (evC (fz (tupE (evC (rd 13) (evC (fz (tupE (evC (kc (.str "stop")) (evN)))) (evN))))) (evN)))) (evN))))) (argP 12 (argV (kc (.int 1)) (argN)))))) (fz (tupE (evC (fz (lstE (evC (rd 14) (evC (rd 15) (evC (rd 15) (evN)))))) (evC (kc (.bl true)) (evN)))))) neR)) (retS (vx (kc (.bl false)))) (nilS))))))))))))))))) [s0, .own 0 (.lst [.int a, .int b]), s2, s3, s4, s5, s6, s7, s8, s9, s10, s11, s12, s13, s14, s15] = some ([s0, .own 0 (.lst [.int a', .int b]), s2, t3, t4, t5, t6, t7, t8, t9, t10, t11, t12, t13, t14, t15], Fl.nx) := by
  obtain ⟨a0, m, h0, ⟨hm, hm2⟩, e0⟩ := pc0 a b ha hb s0 s2 s3 s4 s5 s6 s7 s8 s9 s10 s11 s12 s13 s14 s15
  obtain ⟨a1, one, h1, h1', e1⟩ := pc1 a0 b h0 hb m hm hm2 s0 s2 s4 s5 s6 s7 s8 s9 s10 s11 s12 s13 s14 s15
  obtain ⟨a2, other, h2, h2', e2⟩ := pc2 a1 b h1 hb m one hm hm2 h1' s0 s2 s5 s6 s7 s8 s9 s10 s11 s12 s13 s14 s15
  obtain ⟨a3, L, h3, hL, e3⟩ := pc3 a2 b h2 hb one s0 s2 (.fro (.int m)) (.fro (.int other)) s6 s7 s8 s9 s10 s11 s12 s13 s14 s15
  obtain ⟨a4, R, h4, hR, e4⟩ := pc4 a3 b h3 hb other s0 s2 (.fro (.int m)) (.fro (.int one)) (.fro L.d) s7 s8 s9 s10 s11 s12 s13 s14 s15
  have hLR := parts_ok h1' h2' hL hR
  have m0 : 0 < m := by omega
  have mul : MulOk one other := mulOk_s (by omega) (by omega) (by omega) (by omega)
  have hW : WsOk m (Wv one other 1) := Wv_ok h1' h2' ⟨by omega, by omega⟩
  have r1 := run_ok (first m L R) (first_ok hm hm2 hLR) (Wv one other 1) 2 hW (by show 3 + 100 * 2 ≤ 900000; decide)
  have r2 := run_ok (second m L R) (second_ok hm hm2 hLR) (Wv one other 1) 1 hW (by show 3 + 100 * 1 ≤ 900000; decide)
  rw [first_told hL hR] at r1
  rw [second_told hL hR] at r2
  refine ⟨a4, .fro (.int m), .fro (.int one), .fro (.int other), .fro L.d, .fro R.d, .own 0 (.lst ((dds L R).map Deed.d)), .fro (.str "same"), .fro (.lst (List.map D.int [(one + other) % m, (one - other) % m, one * other % m, if one < other then 1 else 0, if one = other then 1 else 0])), .fro (first m L R).d, .own 0 (.dk (wd (Wv one other 1))), .fro (.lst ((agn L R).map Deed.d)), .fro (.int ((one + other) % m)), .fro (.int (if isN L then one else (one + other) % m)), h4, ?_⟩
  rw [seqS_e, e0, Option.bind_some, seqC_nx]
  rw [seqS_e, e1, Option.bind_some, seqC_nx]
  rw [seqS_e, e2, Option.bind_some, seqC_nx]
  rw [seqS_e, e3, Option.bind_some, seqC_nx]
  rw [seqS_e, e4, Option.bind_some, seqC_nx]
  rw [seqS_e, pc5, Option.bind_some, seqC_nx]
  rw [seqS_e, pc6, Option.bind_some, seqC_nx]
  rw [seqS_e, pc7 _ m one other m0 mul, Option.bind_some, seqC_nx]
  rw [seqS_e, pc8, Option.bind_some, seqC_nx]
  rw [seqS_e, pc9, Option.bind_some, seqC_nx]
  rw [seqS_e]
  erw [pc10 _ (first m L R) (Wv one other 1) [(one + other) % m, (one - other) % m, one * other % m, if one < other then 1 else 0, if one = other then 1 else 0] r1 rfl]
  rw [Option.bind_some, seqC_nx]
  rw [seqS_e, pc11, Option.bind_some, seqC_nx]
  rw [seqS_e, pc12, Option.bind_some, seqC_nx]
  rw [seqS_e, pc13 _ m one other m0, Option.bind_some, seqC_nx]
  rw [seqS_e, pc14, Option.bind_some, seqC_nx]
  rw [pc15 _ m (agn L R) (Wv one other 1) _ _ r2]
theorem rounds (b : Int) (hb : 0 < b) (s0 : Slot) : ∀ (ks : List D) (a : Int) (_ : 0 ≤ a) (s2 s3 s4 s5 s6 s7 s8 s9 s10 s11 s12 s13 s14 s15 : Slot), ∃ e', forL (.nm 2) (seqS (asgS 3 (op2 (ev2 (fz (lstE (evC (kc (.int 2)) (evC (kc (.int 3)) (evC (fz (op2 (ev2 (kc (.int 10)) (kc (.int 9))) powD)) (evC (fz (op2 (ev2 (kc (.int 2)) (fz (callE m__law_draw (argP 1 (argV (kc (.int 1000)) (argN)))))) addD)) (evN))))))) (fz (callE m__law_draw (argP 1 (argV (kc (.int 4)) (argN)))))) ixD)) (seqS (asgS 4 (op2 (ev2 (fz (lstE (evC (kc (.int 0)) (evC (kc (.int 1)) (evC (fz (op2 (ev2 (rd 3) (kc (.int 1))) subD)) (evC (fz (callE m__law_draw (argP 1 (argV (rd 3) (argN))))) (evN))))))) (fz (callE m__law_draw (argP 1 (argV (kc (.int 4)) (argN)))))) ixD)) (seqS (asgS 5 (op2 (ev2 (fz (lstE (evC (kc (.int 0)) (evC (kc (.int 1)) (evC (fz (op2 (ev2 (rd 3) (kc (.int 1))) subD)) (evC (fz (callE m__law_draw (argP 1 (argV (rd 3) (argN))))) (evC (rd 4) (evN)))))))) (fz (callE m__law_draw (argP 1 (argV (kc (.int 5)) (argN)))))) ixD)) (seqS (asgS 6 (op2 (ev2 (fz (lstE (evC (fz (tupE (evC (kc (.str "name")) (evC (kc (.str "a")) (evN))))) (evC (fz (tupE (evC (kc (.str "number")) (evC (rd 4) (evN))))) (evN))))) (fz (callE m__law_draw (argP 1 (argV (kc (.int 2)) (argN)))))) ixD)) (seqS (asgS 7 (op2 (ev2 (fz (lstE (evC (fz (tupE (evC (kc (.str "name")) (evC (kc (.str "b")) (evN))))) (evC (fz (tupE (evC (kc (.str "number")) (evC (rd 5) (evN))))) (evN))))) (fz (callE m__law_draw (argP 1 (argV (kc (.int 2)) (argN)))))) ixD)) (seqS (asgS 8 (lstE (evN))) (seqS (forS (itV (fz (lstE (evC (kc (.str "plus")) (evC (kc (.str "less")) (evC (kc (.str "times")) (evC (kc (.str "below")) (evC (kc (.str "same")) (evN))))))))) (.nm 9) (seqS (dropS (appE 8 (fz (tupE (evC (kc (.str "put")) (evC (kc (.str "c")) (evC (fz (tupE (evC (rd 9) (evC (rd 6) (evC (rd 7) (evN)))))) (evN)))))))) (dropS (appE 8 (fz (tupE (evC (kc (.str "tell")) (evC (fz (tupE (evC (kc (.str "name")) (evC (kc (.str "c")) (evN))))) (evN))))))))) (seqS (asgS 10 (callE m__law_due (argV (rd 4) (argV (rd 5) (argV (rd 3) (argN)))))) (seqS (asgS 11 (tupE (evC (rd 3) (evC (fz (lstE (evC (fz (tupE (evC (fz (slP 8 (eoN) (eoS (kc (.int 6))))) (evC (fz (tupE (evC (kc (.str "go")) (evC (kc (.int 1)) (evN))))) (evN))))) (evC (fz (tupE (evC (fz (slP 8 (eoS (kc (.int 6))) (eoN))) (evC (fz (tupE (evC (kc (.str "stop")) (evN)))) (evN))))) (evN))))) (evN))))) (seqS (asgS 12 (dispE (edC (kc (.str "a")) (rd 4) (edC (kc (.str "b")) (rd 5) (edC (kc (.str "c")) (kc (.int 1)) (edN)))))) (seqS (ifS (tst (op2 (ev2 (fz (callE m_run (argV (rd 11) (argP 12 (argV (kc (.int 2)) (argN)))))) (fz (tupE (evC (rd 10) (evC (kc (.bl true)) (evN)))))) neR)) (retS (vx (kc (.bl false)))) (nilS)) (seqS (asgS 13 (lstE (evC (fz (tupE (evC (kc (.str "put")) (evC (kc (.str "a")) (evC (fz (tupE (evC (kc (.str "plus")) (evC (fz (tupE (evC (kc (.str "name")) (evC (kc (.str "a")) (evN))))) (evC (rd 7) (evN)))))) (evN)))))) (evC (fz (tupE (evC (kc (.str "put")) (evC (kc (.str "b")) (evC (rd 6) (evN)))))) (evC (fz (tupE (evC (kc (.str "tell")) (evC (fz (tupE (evC (kc (.str "name")) (evC (kc (.str "a")) (evN))))) (evN))))) (evN)))))) (seqS (asgS 13 (op2 (ev2 (rd 13) (fz (lstE (evC (fz (tupE (evC (kc (.str "tell")) (evC (fz (tupE (evC (kc (.str "name")) (evC (kc (.str "b")) (evN))))) (evN))))) (evC (fz (tupE (evC (kc (.str "tell")) (evC (rd 6) (evN))))) (evN)))))) addD)) (seqS (asgS 14 (op2 (ev2 (fz (op2 (ev2 (rd 4) (rd 5)) addD)) (rd 3)) modD)) (seqS (asgS 15 (op2 (ev2 (fz (lstE (evC (rd 14) (evC (rd 4) (evN))))) (fz (op1 (fz (op2 (ev2 (fz (op2 (ev2P 6 (kc (.int 0))) ixD)) (kc (.str "number"))) eqR)) intD))) ixD)) (ifS (tst (op2 (ev2 (fz (callE m_run (argV (fz (tupE (evC (rd 3) (evC (fz (lstE (evC (fz (tupE (evC (rd 13) (evC (fz (tupE (evC (kc (.str "stop")) (evN)))) (evN))))) (evN)))) (evN))))) (argP 12 (argV (kc (.int 1)) (argN)))))) (fz (tupE (evC (fz (lstE (evC (rd 14) (evC (rd 15) (evC (rd 15) (evN)))))) (evC (kc (.bl true)) (evN)))))) neR)) (retS (vx (kc (.bl false)))) (nilS))))))))))))))))) ks [s0, .own 0 (.lst [.int a, .int b]), s2, s3, s4, s5, s6, s7, s8, s9, s10, s11, s12, s13, s14, s15] = some (e', Fl.nx)
  | [], a, ha, s2, s3, s4, s5, s6, s7, s8, s9, s10, s11, s12, s13, s14, s15 => ⟨_, rfl⟩
  | k :: ks, a, ha, s2, s3, s4, s5, s6, s7, s8, s9, s10, s11, s12, s13, s14, s15 => by
    obtain ⟨a', t3, t4, t5, t6, t7, t8, t9, t10, t11, t12, t13, t14, t15, h, e⟩ := round a b ha hb s0 (.fro k) s3 s4 s5 s6 s7 s8 s9 s10 s11 s12 s13 s14 s15
    obtain ⟨e', ih⟩ := rounds b hb s0 ks a' h (.fro k) t3 t4 t5 t6 t7 t8 t9 t10 t11 t12 t13 t14 t15
    refine ⟨e', ?_⟩
    rw [forL_cons]
    have hp : bindP (.nm 2) k [s0, .own 0 (.lst [.int a, .int b]), s2, s3, s4, s5, s6, s7, s8, s9, s10, s11, s12, s13, s14, s15] = some [s0, .own 0 (.lst [.int a, .int b]), .fro k, s3, s4, s5, s6, s7, s8, s9, s10, s11, s12, s13, s14, s15] := rfl
    rw [hp, Option.bind_some, forB_e, e, Option.bind_some, forD_nx, ih]

theorem law_runs : ∀ ns : List Int, ns.length ≤ 63 → lawRuns (N_law.length - 2) mp g_law ns := by
  intro ns _
  obtain ⟨d, hd, a, b, rfl, ha, hb⟩ := mp_ok ns
  obtain ⟨e', he⟩ := rounds b hb .un (rngD 0 6) a ha .un .un .un .un .un .un .un .un .un .un .un .un .un .un
  refine ⟨_, e', hd, ?_⟩
  have hit : ∀ env : Env, itRC ([.int 6], env) = some (rngD 0 6, env) := fun env => by rw [itRC_e, if_pos (by decide)]
  show g_law [.un, .own 0 (.lst [.int a, .int b]), .un, .un, .un, .un, .un, .un, .un, .un, .un, .un, .un, .un, .un, .un] = _
  unfold g_law
  rw [seqS_e]
  have hf : ∀ B : ES, forS (itR1 (evC (kc (.int 6)) (evN))) (.nm 2) B [.un, .own 0 (.lst [.int a, .int b]), .un, .un, .un, .un, .un, .un, .un, .un, .un, .un, .un, .un, .un, .un] = forL (.nm 2) B (rngD 0 6) [.un, .own 0 (.lst [.int a, .int b]), .un, .un, .un, .un, .un, .un, .un, .un, .un, .un, .un, .un, .un, .un] := by
    intro B
    walk_at "ev"
  rw [hf, he, Option.bind_some, seqC_nx]
  rfl
end Oc.K_k02
end

section
set_option Elab.async false
set_option linter.all false
set_option maxHeartbeats 4000000
namespace Oc.K_k02
open PySem L2 PyProof.Rows
set_option maxRecDepth 100000 in
theorem all_mk {P : Program} {w : World} {K : PySem.W.Frag} {h : Heap} {mg : Str → Option Value} {fa : Addr} (X : K.In h) (G : h.Ns mainGlobals mg) (hfa : mg "law" = some (.ref fa))
    {f0 : Addr} {od0 an0 : Option Addr} {sl0 : Array (Option Value)} {oc0 kV0 dc0 pm0 cd0 ct0 : Value}
    {f1 : Addr} {od1 an1 : Option Addr} {sl1 : Array (Option Value)} {oc1 kV1 dc1 pm1 cd1 ct1 : Value}
    {f2 : Addr} {od2 an2 : Option Addr} {sl2 : Array (Option Value)} {oc2 kV2 dc2 pm2 cd2 ct2 : Value}
    {f3 : Addr} {od3 an3 : Option Addr} {sl3 : Array (Option Value)} {oc3 kV3 dc3 pm3 cd3 ct3 : Value}
    {f4 : Addr} {od4 an4 : Option Addr} {sl4 : Array (Option Value)} {oc4 kV4 dc4 pm4 cd4 ct4 : Value}
    {f5 : Addr} {od5 an5 : Option Addr} {sl5 : Array (Option Value)} {oc5 kV5 dc5 pm5 cd5 ct5 : Value}
    {f6 : Addr} {od6 an6 : Option Addr} {sl6 : Array (Option Value)} {oc6 kV6 dc6 pm6 cd6 ct6 : Value}
    {f7 : Addr} {od7 an7 : Option Addr} {sl7 : Array (Option Value)} {oc7 kV7 dc7 pm7 cd7 ct7 : Value}
    {f8 : Addr} {od8 an8 : Option Addr} {sl8 : Array (Option Value)} {oc8 kV8 dc8 pm8 cd8 ct8 : Value}
    {f9 : Addr} {od9 an9 : Option Addr} {sl9 : Array (Option Value)} {oc9 kV9 dc9 pm9 cd9 ct9 : Value}
    {f10 : Addr} {od10 an10 : Option Addr} {sl10 : Array (Option Value)} {oc10 kV10 dc10 pm10 cd10 ct10 : Value}
    {f11 : Addr} {od11 an11 : Option Addr} {sl11 : Array (Option Value)} {oc11 kV11 dc11 pm11 cd11 ct11 : Value}
    {f_OPS : Addr} {od_OPS : Option Addr} {n_OPS : Nat} {sl_OPS : Array (Option Value)} {t_OPS0 t_OPS1 t_OPS2 t_OPS3 t_OPS4 : Tok}
    (a0 : PySem.W.nsIn K mainGlobals "_law_mixed" = some (some (.ref f0)))
    (l0 : K.lookup f0 = some ⟨oc0, od0, .func (PySem.W.fnOf "_law_mixed" "_law_mixed" (defArgs s__law_mixed) (defBody s__law_mixed) (defScope s__law_mixed) .none kV0 dc0 pm0 an0 cd0 ct0), sl0⟩)
    (c0 : PySem.W.codeIn K cd0 "_law_mixed" = true)
    (k0 : PySem.W.keepIn K (.ref f0) = true)
    (a1 : PySem.W.nsIn K mainGlobals "_law_purse" = some (some (.ref f1)))
    (l1 : K.lookup f1 = some ⟨oc1, od1, .func (PySem.W.fnOf "_law_purse" "_law_purse" (defArgs s__law_purse) (defBody s__law_purse) (defScope s__law_purse) .none kV1 dc1 pm1 an1 cd1 ct1), sl1⟩)
    (c1 : PySem.W.codeIn K cd1 "_law_purse" = true)
    (k1 : PySem.W.keepIn K (.ref f1) = true)
    (a2 : PySem.W.nsIn K mainGlobals "_law_due" = some (some (.ref f2)))
    (l2 : K.lookup f2 = some ⟨oc2, od2, .func (PySem.W.fnOf "_law_due" "_law_due" (defArgs s__law_due) (defBody s__law_due) (defScope s__law_due) .none kV2 dc2 pm2 an2 cd2 ct2), sl2⟩)
    (c2 : PySem.W.codeIn K cd2 "_law_due" = true)
    (k2 : PySem.W.keepIn K (.ref f2) = true)
    (a3 : PySem.W.nsIn K mainGlobals "_law_draw" = some (some (.ref f3)))
    (l3 : K.lookup f3 = some ⟨oc3, od3, .func (PySem.W.fnOf "_law_draw" "_law_draw" (defArgs s__law_draw) (defBody s__law_draw) (defScope s__law_draw) .none kV3 dc3 pm3 an3 cd3 ct3), sl3⟩)
    (c3 : PySem.W.codeIn K cd3 "_law_draw" = true)
    (k3 : PySem.W.keepIn K (.ref f3) = true)
    (a4 : PySem.W.nsIn K mainGlobals "part_worth" = some (some (.ref f4)))
    (l4 : K.lookup f4 = some ⟨oc4, od4, .func (PySem.W.fnOf "part_worth" "part_worth" (defArgs s_part_worth) (defBody s_part_worth) (defScope s_part_worth) .none kV4 dc4 pm4 an4 cd4 ct4), sl4⟩)
    (c4 : PySem.W.codeIn K cd4 "part_worth" = true)
    (k4 : PySem.W.keepIn K (.ref f4) = true)
    (a5 : PySem.W.nsIn K mainGlobals "op_worth" = some (some (.ref f5)))
    (l5 : K.lookup f5 = some ⟨oc5, od5, .func (PySem.W.fnOf "op_worth" "op_worth" (defArgs s_op_worth) (defBody s_op_worth) (defScope s_op_worth) .none kV5 dc5 pm5 an5 cd5 ct5), sl5⟩)
    (c5 : PySem.W.codeIn K cd5 "op_worth" = true)
    (k5 : PySem.W.keepIn K (.ref f5) = true)
    (a6 : PySem.W.nsIn K mainGlobals "worth_now" = some (some (.ref f6)))
    (l6 : K.lookup f6 = some ⟨oc6, od6, .func (PySem.W.fnOf "worth_now" "worth_now" (defArgs s_worth_now) (defBody s_worth_now) (defScope s_worth_now) .none kV6 dc6 pm6 an6 cd6 ct6), sl6⟩)
    (c6 : PySem.W.codeIn K cd6 "worth_now" = true)
    (k6 : PySem.W.keepIn K (.ref f6) = true)
    (a7 : PySem.W.nsIn K mainGlobals "do_deeds" = some (some (.ref f7)))
    (l7 : K.lookup f7 = some ⟨oc7, od7, .func (PySem.W.fnOf "do_deeds" "do_deeds" (defArgs s_do_deeds) (defBody s_do_deeds) (defScope s_do_deeds) .none kV7 dc7 pm7 an7 cd7 ct7), sl7⟩)
    (c7 : PySem.W.codeIn K cd7 "do_deeds" = true)
    (k7 : PySem.W.keepIn K (.ref f7) = true)
    (a8 : PySem.W.nsIn K mainGlobals "leads_to" = some (some (.ref f8)))
    (l8 : K.lookup f8 = some ⟨oc8, od8, .func (PySem.W.fnOf "leads_to" "leads_to" (defArgs s_leads_to) (defBody s_leads_to) (defScope s_leads_to) .none kV8 dc8 pm8 an8 cd8 ct8), sl8⟩)
    (c8 : PySem.W.codeIn K cd8 "leads_to" = true)
    (k8 : PySem.W.keepIn K (.ref f8) = true)
    (a9 : PySem.W.nsIn K mainGlobals "led_on" = some (some (.ref f9)))
    (l9 : K.lookup f9 = some ⟨oc9, od9, .func (PySem.W.fnOf "led_on" "led_on" (defArgs s_led_on) (defBody s_led_on) (defScope s_led_on) .none kV9 dc9 pm9 an9 cd9 ct9), sl9⟩)
    (c9 : PySem.W.codeIn K cd9 "led_on" = true)
    (k9 : PySem.W.keepIn K (.ref f9) = true)
    (a10 : PySem.W.nsIn K mainGlobals "run" = some (some (.ref f10)))
    (l10 : K.lookup f10 = some ⟨oc10, od10, .func (PySem.W.fnOf "run" "run" (defArgs s_run) (defBody s_run) (defScope s_run) .none kV10 dc10 pm10 an10 cd10 ct10), sl10⟩)
    (c10 : PySem.W.codeIn K cd10 "run" = true)
    (k10 : PySem.W.keepIn K (.ref f10) = true)
    (a11 : PySem.W.nsIn K mainGlobals "law" = some (some (.ref f11)))
    (l11 : K.lookup f11 = some ⟨oc11, od11, .func (PySem.W.fnOf "law" "law" (defArgs s_law) (defBody s_law) (defScope s_law) .none kV11 dc11 pm11 an11 cd11 ct11), sl11⟩)
    (c11 : PySem.W.codeIn K cd11 "law" = true)
    (k11 : PySem.W.keepIn K (.ref f11) = true)
    (z_int : PySem.W.nsIn K mainGlobals "int" = some none)
    (z_len : PySem.W.nsIn K mainGlobals "len" = some none)
    (z_list : PySem.W.nsIn K mainGlobals "list" = some none)
    (z_range : PySem.W.nsIn K mainGlobals "range" = some none)
    (v_OPS : PySem.W.nsIn K mainGlobals "OPS" = some (some (.ref f_OPS)))
    (w_OPS : K.lookup f_OPS = some ⟨.type "tuple", od_OPS, .seq #[.str "plus" t_OPS0, .str "less" t_OPS1, .str "times" t_OPS2, .str "below" t_OPS3, .str "same" t_OPS4] n_OPS, sl_OPS⟩)
    : ∃ fd : FuncData, (∀ (s : Shared) (v : Value), BindsTo s fd ⟨[v], []⟩ [("_law_script", v)]) ∧ ∀ base : Heap, K.In base → base.Ns mainGlobals mg → FnOk P w K mg base CX0 5 fa fd ["_law_script"] (spLaw K) := by
  have e := hfa.symm.trans (PySem.W.mg_of X G a11)
  cases e
  have T : Txt K mg := ⟨PySem.W.mg_none_of X G z_int, PySem.W.mg_none_of X G z_len, PySem.W.mg_none_of X G z_list, PySem.W.mg_none_of X G z_range, tupK_of (PySem.W.mg_of X G v_OPS) w_OPS rfl rfl (show (5 : Nat) ≤ sizeLine by decide) (by exact (.cons ⟨_, rfl⟩ (.cons ⟨_, rfl⟩ (.cons ⟨_, rfl⟩ (.cons ⟨_, rfl⟩ (.cons ⟨_, rfl⟩ .nil))))))⟩
  have F0 := fun_mk (st := s__law_mixed) l0 c0 k0
  have b0 := F0.binds (ps := P__law_mixed) fun _ _ _ _ _ _ us hl => match us, hl with | [_, _], _ => rfl
  have F1 := fun_mk (st := s__law_purse) l1 c1 k1
  have b1 := F1.binds (ps := P__law_purse) fun _ _ _ _ _ _ us hl => match us, hl with | [_], _ => rfl
  have F2 := fun_mk (st := s__law_due) l2 c2 k2
  have b2 := F2.binds (ps := P__law_due) fun _ _ _ _ _ _ us hl => match us, hl with | [_, _, _], _ => rfl
  have F3 := fun_mk (st := s__law_draw) l3 c3 k3
  have b3 := F3.binds (ps := P__law_draw) fun _ _ _ _ _ _ us hl => match us, hl with | [_, _], _ => rfl
  have F4 := fun_mk (st := s_part_worth) l4 c4 k4
  have b4 := F4.binds (ps := P_part_worth) fun _ _ _ _ _ _ us hl => match us, hl with | [_, _], _ => rfl
  have F5 := fun_mk (st := s_op_worth) l5 c5 k5
  have b5 := F5.binds (ps := P_op_worth) fun _ _ _ _ _ _ us hl => match us, hl with | [_, _, _, _], _ => rfl
  have F6 := fun_mk (st := s_worth_now) l6 c6 k6
  have b6 := F6.binds (ps := P_worth_now) fun _ _ _ _ _ _ us hl => match us, hl with | [_, _, _], _ => rfl
  have F7 := fun_mk (st := s_do_deeds) l7 c7 k7
  have b7 := F7.binds (ps := P_do_deeds) fun _ _ _ _ _ _ us hl => match us, hl with | [_, _, _, _], _ => rfl
  have F8 := fun_mk (st := s_leads_to) l8 c8 k8
  have b8 := F8.binds (ps := P_leads_to) fun _ _ _ _ _ _ us hl => match us, hl with | [_], _ => rfl
  have F9 := fun_mk (st := s_led_on) l9 c9 k9
  have b9 := F9.binds (ps := P_led_on) fun _ _ _ _ _ _ us hl => match us, hl with | [_, _], _ => rfl
  have F10 := fun_mk (st := s_run) l10 c10 k10
  have b10 := F10.binds (ps := P_run) fun _ _ _ _ _ _ us hl => match us, hl with | [_, _, _], _ => rfl
  have F11 := fun_mk (st := s_law) l11 c11 k11
  have b11 := F11.binds (ps := P_law) fun _ _ _ _ _ _ us hl => match us, hl with | [_], _ => rfl
  refine ⟨PySem.W.fnOf "law" "law" (defArgs s_law) (defBody s_law) (defScope s_law) .none kV11 dc11 pm11 an11 cd11 ct11, fun s v => .of_eq rfl, fun base _ _ => ?_⟩
  have C0 := cal__law_mixed (P := P) (w := w) (base := base) ⟨⟨_, _, PySem.W.mg_of X G a0, F0, b0⟩⟩ T 
  have C1 := cal__law_purse (P := P) (w := w) (mg := mg) (base := base) F1 T C0
  have C2 := cal__law_due (P := P) (w := w) (base := base) ⟨⟨_, _, PySem.W.mg_of X G a2, F2, b2⟩⟩ T 
  have C3 := cal__law_draw (P := P) (w := w) (base := base) ⟨⟨_, _, PySem.W.mg_of X G a3, F3, b3⟩⟩ T 
  have C4 := cal_part_worth (P := P) (w := w) (base := base) ⟨⟨_, _, PySem.W.mg_of X G a4, F4, b4⟩⟩ T 
  have C5 := cal_op_worth (P := P) (w := w) (base := base) ⟨⟨_, _, PySem.W.mg_of X G a5, F5, b5⟩⟩ T 
  have C6 := cal_worth_now (P := P) (w := w) (base := base) ⟨⟨_, _, PySem.W.mg_of X G a6, F6, b6⟩⟩ T C5 C4
  have C7 := cal_do_deeds (P := P) (w := w) (base := base) ⟨⟨_, _, PySem.W.mg_of X G a7, F7, b7⟩⟩ T C6 C4
  have C8 := cal_leads_to (P := P) (w := w) (base := base) ⟨⟨_, _, PySem.W.mg_of X G a8, F8, b8⟩⟩ T 
  have C9 := cal_led_on (P := P) (w := w) (base := base) ⟨⟨_, _, PySem.W.mg_of X G a9, F9, b9⟩⟩ T C4 C8
  have C10 := cal_run (P := P) (w := w) (base := base) ⟨⟨_, _, PySem.W.mg_of X G a10, F10, b10⟩⟩ T C7 C9
  exact cal_law F11 T C1 (PySem.W.mg_of X G a1) k1 b1 C3 C2 C10 law_runs
end Oc.K_k02
open PySem PySem.W PyProof.Rows
set_option maxRecDepth 100000 in
set_option maxHeartbeats 0 in
theorem PySem.Challenge.cw_oncenames_k02_worths_holds : PySem.Challenge.rw_oncenames_k02_worths.Holds := by
  w_on; o_law; k_head; (case hw => w_witness2)
  k_fill
  refine L2.walk_of (l := PySem.Challenge.rw_oncenames_k02_worths) (n := 63) (k := 5) (x := "_law_script") (CX := fun _ => L2.CX0) (sp := fun w => Oc.spLaw _) rfl (by decide) rfl ⟨rfl, by decide, by decide⟩ (fun w h Y => PySem.W.kIn_of Y) ?F (fun _ _ a ns hl _ hS => ⟨a, ns, rfl, hS, hl, fun _ => rfl⟩) (fun _ _ _ _ _ h => h)
  case F =>
    intro w mg fa h KX G hmg
    refine' Oc.K_k02.all_mk KX G hmg ?a0 ?l0 ?c0 ?k0 ?a1 ?l1 ?c1 ?k1 ?a2 ?l2 ?c2 ?k2 ?a3 ?l3 ?c3 ?k3 ?a4 ?l4 ?c4 ?k4 ?a5 ?l5 ?c5 ?k5 ?a6 ?l6 ?c6 ?k6 ?a7 ?l7 ?c7 ?k7 ?a8 ?l8 ?c8 ?k8 ?a9 ?l9 ?c9 ?k9 ?a10 ?l10 ?c10 ?k10 ?a11 ?l11 ?c11 ?k11 ?z_int ?z_len ?z_list ?z_range ?v_OPS ?w_OPS
    (case a0 => k_is)
    (case l0 => k_is)
    (case c0 => k_is)
    (case k0 => k_is)
    (case a1 => k_is)
    (case l1 => k_is)
    (case c1 => k_is)
    (case k1 => k_is)
    (case a2 => k_is)
    (case l2 => k_is)
    (case c2 => k_is)
    (case k2 => k_is)
    (case a3 => k_is)
    (case l3 => k_is)
    (case c3 => k_is)
    (case k3 => k_is)
    (case a4 => k_is)
    (case l4 => k_is)
    (case c4 => k_is)
    (case k4 => k_is)
    (case a5 => k_is)
    (case l5 => k_is)
    (case c5 => k_is)
    (case k5 => k_is)
    (case a6 => k_is)
    (case l6 => k_is)
    (case c6 => k_is)
    (case k6 => k_is)
    (case a7 => k_is)
    (case l7 => k_is)
    (case c7 => k_is)
    (case k7 => k_is)
    (case a8 => k_is)
    (case l8 => k_is)
    (case c8 => k_is)
    (case k8 => k_is)
    (case a9 => k_is)
    (case l9 => k_is)
    (case c9 => k_is)
    (case k9 => k_is)
    (case a10 => k_is)
    (case l10 => k_is)
    (case c10 => k_is)
    (case k10 => k_is)
    (case a11 => k_is)
    (case l11 => k_is)
    (case c11 => k_is)
    (case k11 => k_is)
    (case z_int => k_is)
    (case z_len => k_is)
    (case z_list => k_is)
    (case z_range => k_is)
    (case v_OPS => k_is)
    (case w_OPS => k_is)
end
