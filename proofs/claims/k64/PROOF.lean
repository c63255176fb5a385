import PyProof.Rows.All
import Wide.All
import OpenK.AllK
import Wide.FinOn
import HandS.ForMost
import HandS.Walk
import HandS.Evl
import HandS.Strs
import HandS.Zip
import HandS.SetFor
import HandS.SortInts
import KE.GoesMore
import KE.GoesEnum
import HandS.Defaults
import KE.KTupSum
import HandS.TupSets
import PyProof.SeqIndex
import HandS.DictComp
import HandS.WordsDict
import HandS.Style
import HandS.More
import HandS.Head0
import HandS.Head1
import HandS.Head2
import HandS.HeadEnd
import HandS.HeadHook1
import HandS.HeadHook2
import PySem.Challenge.RW_setsadded_k64_main_sets_moved_and_scaled
set_option Elab.async false
set_option linter.all false
set_option maxRecDepth 100000
set_option maxHeartbeats 8000000
/-! EL: what an expression is worth, as a plain Lean value: E; a snapshot S of the objects that are known, within the heap H. -/
namespace EL
open PySem L2 Evl

/-! ### snapshots -/
structure Grow (S H S' H' : Hp) : Prop where
  s : Ex S S'
  i : Ex S' H'
  h : Ex H H'
  n : ∀ q o, S q = none → H q = some o → S' q = none
theorem Grow.refl {S H : Hp} (e : Ex S H) : Grow S H S H := ⟨Ex.refl S, e, Ex.refl H, fun _ _ h _ => h⟩
theorem Grow.trans {S H S1 H1 S2 H2 : Hp} (a : Grow S H S1 H1) (b : Grow S1 H1 S2 H2) : Grow S H S2 H2 :=
  ⟨a.s.trans b.s, b.i, a.h.trans b.h, fun q o h1 h2 => b.n q o (a.n q o h1 h2) (a.h q o h2)⟩
/-- a new object, known from now on -/
theorem Grow.new {S H : Hp} {p : Addr} {o : HO} (e : Ex S H) (h : H p = none) : Grow S H (upd S p o) (upd H p o) := by
  have hS : S p = none := fresh_back e h
  refine ⟨Ex.new hS, fun a u ha => ?_, Ex.new h, fun q u h1 h2 => ?_⟩
  · by_cases hp : a = p
    · subst hp; rw [upd_same] at ha ⊢; exact ha
    · rw [upd_ne hp] at ha ⊢; exact e a u ha
  · have hq : q ≠ p := fun z => by rw [z, h] at h2; cases h2
    rw [upd_ne hq]; exact h1
/-- the heap alone grows -/
theorem Grow.heap {S H H' : Hp} (e : Ex S H) (h : Ex H H') : Grow S H S H' := ⟨Ex.refl S, e.trans h, h, fun _ _ h1 _ => h1⟩
theorem Grow.ex {S H S' H' : Hp} (g : Grow S H S' H') : Ex S H' := g.s.trans g.i
/-- an own object changes -/
theorem Grow.mut {S H S1 H1 : Hp} {p : Addr} {o : HO} (g : Grow S H S1 H1) (h : H p = none) (h1 : S1 p = none) : Grow S H S1 (upd H1 p o) :=
  ⟨g.s, Ex.mut g.i h1, Ex.mut g.h h, g.n⟩
/-- an own object is known from now on -/
theorem Grow.know {S H S1 H1 : Hp} {p : Addr} {o : HO} (g : Grow S H S1 H1) (h : H p = none) (h1 : S1 p = none) (e : H1 p = some o) : Grow S H (upd S1 p o) H1 := by
  refine ⟨g.s.trans (Ex.new h1), fun a u ha => ?_, g.h, fun q u z1 z2 => ?_⟩
  · by_cases hp : a = p
    · subst hp; rw [upd_same] at ha; rw [e]; exact ha
    · rw [upd_ne hp] at ha; exact g.i a u ha
  · have hq : q ≠ p := fun z => by rw [z, h] at z2; cases z2
    rw [upd_ne hq]; exact g.n q u z1 z2
def uni (S1 S2 : Hp) : Hp := fun q => match S1 q with | some o => some o | none => S2 q
theorem uni_l {S1 S2 : Hp} : Ex S1 (uni S1 S2) := fun a o h => by unfold uni; rw [h]
theorem uni_r {S1 S2 H : Hp} (h1 : Ex S1 H) (h2 : Ex S2 H) : Ex S2 (uni S1 S2) := fun a o h => by
  unfold uni
  cases e : S1 a with
  | none => exact h
  | some u =>
    have := h1 a u e
    rw [h2 a o h] at this
    exact this.symm
theorem Grow.more {S S1 H S' H' : Hp} (e : Ex S S1) (e1 : Ex S1 H) (g : Grow S H S' H') : Grow S1 H (uni S1 S') H' := by
  refine ⟨uni_l, fun a o h => ?_, g.h, fun q o h1 h2 => ?_⟩
  · unfold uni at h
    cases z : S1 a with
    | none => rw [z] at h; exact g.i a o h
    | some u => rw [z] at h; cases h; exact g.h a _ (e1 a _ z)
  · have hS : S q = none := by
      cases z : S q with
      | none => rfl
      | some u => rw [e q u z] at h1; cases h1
    unfold uni
    rw [h1]
    exact g.n q o hS h2

/-! ### how plain values stand there -/
structure Rp (α : Type) where
  r : α → V → Hp → Prop
  mono : ∀ {a v S S'}, Ex S S' → r a v S → r a v S'
def aI : Rp Int := ⟨fun i v _ => v = .int i, fun _ h => h⟩
def aB : Rp Bool := ⟨fun b v _ => v = .bl b, fun _ h => h⟩
def aN : Rp Unit := ⟨fun _ v _ => v = .non, fun _ h => h⟩
def aStr : Rp Str := ⟨fun x v _ => v = .str x, fun _ h => h⟩
abbrev All2 {α : Type} (r : Rp α) (S : Hp) : List α → List V → Prop := Paired fun a v => r.r a v S
theorem All2.mono {α : Type} {r : Rp α} {S S' : Hp} (e : Ex S S') : ∀ {xs : List α} {vs : List V}, All2 r S xs vs → All2 r S' xs vs
  | _, _, .nil => .nil
  | _, _, .cons h t => .cons (r.mono e h) (All2.mono e t)
theorem All2.len {α : Type} {r : Rp α} {S : Hp} : ∀ {xs : List α} {vs : List V}, All2 r S xs vs → xs.length = vs.length
  | _, _, .nil => rfl
  | _, _, .cons _ t => congrArg (· + 1) (All2.len t)
theorem All2.get {α : Type} {r : Rp α} {S : Hp} : ∀ {xs : List α} {vs : List V} {i : Nat} {v : V}, All2 r S xs vs → vs[i]? = some v → ∃ a, xs[i]? = some a ∧ r.r a v S
  | _, _, _, _, .nil, e => by simp at e
  | _, _, 0, _, .cons h _, e => by simp at e; subst e; exact ⟨_, rfl, h⟩
  | _, _, i + 1, _, .cons _ t, e => by
    obtain ⟨a, h1, h2⟩ := All2.get (i := i) t (by simpa using e)
    exact ⟨a, by simpa using h1, h2⟩
theorem All2.getL {α : Type} {r : Rp α} {S : Hp} : ∀ {xs : List α} {vs : List V} {i : Nat} {a : α}, All2 r S xs vs → xs[i]? = some a → ∃ v, vs[i]? = some v ∧ r.r a v S
  | _, _, _, _, .nil, e => by simp at e
  | _, _, 0, _, .cons h _, e => by simp at e; subst e; exact ⟨_, rfl, h⟩
  | _, _, i + 1, _, .cons _ t, e => by
    obtain ⟨a, h1, h2⟩ := All2.getL (i := i) t (by simpa using e)
    exact ⟨a, by simpa using h1, h2⟩
theorem All2.append {α : Type} {r : Rp α} {S : Hp} : ∀ {xs ys : List α} {vs ws : List V}, All2 r S xs vs → All2 r S ys ws → All2 r S (xs ++ ys) (vs ++ ws)
  | _, _, _, _, .nil, h => h
  | _, _, _, _, .cons a t, h => .cons a (All2.append t h)
theorem All2.snoc {α : Type} {r : Rp α} {S : Hp} {xs : List α} {vs : List V} {a : α} {v : V} (h : All2 r S xs vs) (h1 : r.r a v S) : All2 r S (xs ++ [a]) (vs ++ [v]) := h.append (.cons h1 .nil)
theorem All2.drop {α : Type} {r : Rp α} {S : Hp} : ∀ {xs : List α} {vs : List V} (n : Nat), All2 r S xs vs → All2 r S (xs.drop n) (vs.drop n)
  | _, _, 0, h => h
  | _, _, _ + 1, .nil => .nil
  | _, _, n + 1, .cons _ t => All2.drop n t
theorem All2.take {α : Type} {r : Rp α} {S : Hp} : ∀ {xs : List α} {vs : List V} (n : Nat), All2 r S xs vs → All2 r S (xs.take n) (vs.take n)
  | _, _, 0, _ => .nil
  | _, _, _ + 1, .nil => .nil
  | _, _, n + 1, .cons h t => .cons h (All2.take n t)
theorem All2.ints {S : Hp} : ∀ {xs : List Int} {vs : List V}, All2 aI S xs vs → vs = xs.map V.int
  | _, _, .nil => rfl
  | _, _, .cons h t => by rw [List.map_cons, ← All2.ints t, show _ = _ from h]
theorem All2.of_ints {S : Hp} : ∀ (xs : List Int), All2 aI S xs (xs.map V.int)
  | [] => .nil
  | _ :: r => .cons rfl (All2.of_ints r)
theorem All2.bls {S : Hp} : ∀ {xs : List Bool} {vs : List V}, All2 aB S xs vs → vs = xs.map V.bl
  | _, _, .nil => rfl
  | _, _, .cons h t => by rw [List.map_cons, ← All2.bls t, show _ = _ from h]
theorem All2.of_bls {S : Hp} : ∀ (xs : List Bool), All2 aB S xs (xs.map V.bl)
  | [] => .nil
  | _ :: r => .cons rfl (All2.of_bls r)
section
variable (K : PySem.W.Frag) {α β : Type}
def aT (r : Rp α) : Rp (List α) := ⟨fun xs v S => ∃ p vs, v = .ref p ∧ SqT K S p vs ∧ All2 r S xs vs, fun e ⟨p, vs, h1, h2, h3⟩ => ⟨p, vs, h1, ex_t e h2, h3.mono e⟩⟩
def aL (r : Rp α) : Rp (List α) := ⟨fun xs v S => ∃ p vs, v = .ref p ∧ SqL K S p vs ∧ All2 r S xs vs, fun e ⟨p, vs, h1, h2, h3⟩ => ⟨p, vs, h1, ex_l e h2, h3.mono e⟩⟩
def aP (r : Rp α) (q : Rp β) : Rp (α × β) := ⟨fun x v S => ∃ p u w, v = .ref p ∧ SqT K S p [u, w] ∧ r.r x.1 u S ∧ q.r x.2 w S, fun e ⟨p, u, w, h1, h2, h3, h4⟩ => ⟨p, u, w, h1, ex_t e h2, r.mono e h3, q.mono e h4⟩⟩
end
section
variable {α β : Type}
def aO (r : Rp α) : Rp (Option α) := ⟨fun x v S => match x with | none => v = .non | some a => r.r a v S, fun {x v S S'} e h => by
  cases x with
  | none => exact h
  | some a => exact r.mono e h⟩
/-- a dict with whole numbers as keys, frozen: nobody changes it any more -/
def DAll (r : Rp α) (S : Hp) : List (Int × α) → List (Key × V) → Prop := Paired fun a b => b.1 = Sum.inl a.1 ∧ r.r a.2 b.2 S
theorem DAll.mono {r : Rp α} {S S' : Hp} (e : Ex S S') : ∀ {xs : List (Int × α)} {vs : List (Key × V)}, DAll r S xs vs → DAll r S' xs vs
  | _, _, .nil => .nil
  | _, _, .cons h t => .cons ⟨h.1, r.mono e h.2⟩ (DAll.mono e t)
theorem DAll.len {r : Rp α} {S : Hp} : ∀ {xs : List (Int × α)} {vs : List (Key × V)}, DAll r S xs vs → xs.length = vs.length
  | _, _, .nil => rfl
  | _, _, .cons _ t => congrArg (· + 1) (DAll.len t)
def aD (r : Rp α) : Rp (List (Int × α)) := ⟨fun xs v S => ∃ d o kvs, v = .ref d ∧ S d = some (.frz o (.dK kvs)) ∧ DAll r S xs kvs, fun e ⟨d, o, kvs, h1, h2, h3⟩ => ⟨d, o, kvs, h1, e _ _ h2, h3.mono e⟩⟩
end

/-! ### what an expression is worth -/
section
variable {K : PySem.W.Frag} {α β γ : Type} {r : Rp α} {q : Rp β} {a : α} {b : β} {σ : St} {S S' H H' : Hp} {te ta tb tc : TE} {tt tu : TT} {v u : V}
def E (te : TE) (σ : St) (S : Hp) (r : Rp α) (a : α) : Prop := ∀ H, Ex S H → ∀ Q : VK, (∀ v S' H', Grow S H S' H' → r.r a v S' → Q v H') → te σ H Q
def ET (tt : TT) (σ : St) (S : Hp) (b : Bool) : Prop := ∀ H, Ex S H → ∀ Q : Bool → Hp → Prop, (∀ H', Ex H H' → Q b H') → tt σ H Q
theorem E.mono (e : Ex S S') (h : E te σ S r a) : E te σ S' r a := fun H1 e1 Q k => h H1 (e.trans e1) Q fun v S2 H2 g hv =>
  k v (uni S' S2) H2 (g.more e e1) (r.mono (uni_r (e1.trans g.h) g.i) hv)
theorem ET.mono {b : Bool} (e : Ex S S') (h : ET tt σ S b) : ET tt σ S' b := fun H1 e1 Q k => h H1 (e.trans e1) Q k
theorem E.eq {a' : α} (h : E te σ S r a) (e : a = a') : E te σ S r a' := e ▸ h
theorem ET.eq {b b' : Bool} (h : ET tt σ S b) (e : b = b') : ET tt σ S b' := e ▸ h
/-- a scalar: the heap alone grows -/
theorem E.int {i : Int} (h : E te σ S aI i) (H : Hp) (e : Ex S H) (Q : VK) (k : ∀ H', Ex H H' → Q (.int i) H') : te σ H Q := h H e Q fun v S' H' g hv => by
  have hv : v = .int i := hv
  subst hv; exact k H' g.h
theorem E.bl {i : Bool} (h : E te σ S aB i) (H : Hp) (e : Ex S H) (Q : VK) (k : ∀ H', Ex H H' → Q (.bl i) H') : te σ H Q := h H e Q fun v S' H' g hv => by
  have hv : v = .bl i := hv
  subst hv; exact k H' g.h
theorem E.of_int {i : Int} (h : ∀ H, Ex S H → ∀ Q : VK, (∀ H', Ex H H' → Q (.int i) H') → te σ H Q) : E te σ S aI i := fun H e Q k => h H e Q fun H' e' => k _ S H' (Grow.heap e e') rfl
theorem E.of_bl {i : Bool} (h : ∀ H, Ex S H → ∀ Q : VK, (∀ H', Ex H H' → Q (.bl i) H') → te σ H Q) : E te σ S aB i := fun H e Q k => h H e Q fun H' e' => k _ S H' (Grow.heap e e') rfl

theorem e_var {i : Nat} (h : σ[i]? = some (some v)) (hr : r.r a v S) : E (tVar i) σ S r a := fun H e Q k => ⟨v, h, k v S H (Grow.refl e) hr⟩
theorem e_int {i : Int} : E (tC (.int i)) σ S aI i := fun H e Q k => k _ S H (Grow.refl e) rfl
theorem e_bl {i : Bool} : E (tC (.bl i)) σ S aB i := fun H e Q k => k _ S H (Grow.refl e) rfl
theorem e_non : E (tC .non) σ S aN () := fun H e Q k => k _ S H (Grow.refl e) rfl
theorem e_str {x : Str} : E (tC (.str x)) σ S aStr x := fun H e Q k => k _ S H (Grow.refl e) rfl
/-- a constant of the module -/
theorem e_c (hr : r.r a v S) : E (tC v) σ S r a := fun H e Q k => k _ S H (Grow.refl e) hr
theorem e_i0 {g : Int → Int → Int} {i j : Int} (h1 : E ta σ S aI i) (h2 : E tb σ S aI j) : E (tOp (rI0 fun i j => .int (g i j)) ta tb) σ S aI (g i j) := .of_int fun H e Q k =>
  h1.int H e _ fun H1 e1 => h2.int H1 (e.trans e1) _ fun H2 e2 => ⟨i, j, rfl, rfl, k H2 (e1.trans e2)⟩
theorem e_i {C : Int → Int → Prop} {g : Int → Int → Int} {i j : Int} (h1 : E ta σ S aI i) (h2 : E tb σ S aI j) (hc : C i j) : E (tOp (rI C fun i j => .int (g i j)) ta tb) σ S aI (g i j) := .of_int fun H e Q k =>
  h1.int H e _ fun H1 e1 => h2.int H1 (e.trans e1) _ fun H2 e2 => ⟨i, j, rfl, rfl, hc, k H2 (e1.trans e2)⟩
theorem e_b0 {g : Int → Int → Bool} {i j : Int} (h1 : E ta σ S aI i) (h2 : E tb σ S aI j) : E (tOp (rI0 fun i j => .bl (g i j)) ta tb) σ S aB (g i j) := .of_bl fun H e Q k =>
  h1.int H e _ fun H1 e1 => h2.int H1 (e.trans e1) _ fun H2 e2 => ⟨i, j, rfl, rfl, k H2 (e1.trans e2)⟩
theorem e_add {i j : Int} (h1 : E ta σ S aI i) (h2 : E tb σ S aI j) : E (tOp (rI0 fun i j => .int (i + j)) ta tb) σ S aI (i + j) := e_i0 (g := fun i j => i + j) h1 h2
theorem e_sub {i j : Int} (h1 : E ta σ S aI i) (h2 : E tb σ S aI j) : E (tOp (rI0 fun i j => .int (i - j)) ta tb) σ S aI (i - j) := e_i0 (g := fun i j => i - j) h1 h2
theorem e_mul {i j : Int} (h1 : E ta σ S aI i) (h2 : E tb σ S aI j) (hc : CMul i j) : E (tOp (rI CMul fun i j => .int (i * j)) ta tb) σ S aI (i * j) := e_i (g := fun i j => i * j) h1 h2 hc
theorem e_fdiv {i j : Int} (h1 : E ta σ S aI i) (h2 : E tb σ S aI j) (hc : CDiv i j) : E (tOp (rI CDiv fun i j => .int (i / j)) ta tb) σ S aI (i / j) := e_i (g := fun i j => i / j) h1 h2 hc
theorem e_mod {i j : Int} (h1 : E ta σ S aI i) (h2 : E tb σ S aI j) (hc : 0 < j) : E (tOp (rI (fun _ j => 0 < j) fun i j => .int (i % j)) ta tb) σ S aI (i % j) := e_i (C := fun _ j => 0 < j) (g := fun i j => i % j) h1 h2 hc
theorem e_pow {i j : Int} (h1 : E ta σ S aI i) (h2 : E tb σ S aI j) (hc : CPow i j) : E (tOp (rI CPow fun i j => .int (i ^ j.toNat)) ta tb) σ S aI (i ^ j.toNat) := e_i (g := fun i j => i ^ j.toNat) h1 h2 hc
theorem e_neg {i : Int} (h1 : E ta σ S aI i) : E (tUn (rU fun i => .int (-i)) ta) σ S aI (-i) := .of_int fun H e Q k => h1.int H e _ fun H1 e1 => ⟨i, rfl, k H1 e1⟩
theorem e_lt {i j : Int} (h1 : E ta σ S aI i) (h2 : E tb σ S aI j) : E (tOp (rI0 fun i j => .bl (decide (i < j))) ta tb) σ S aB (decide (i < j)) := e_b0 (g := fun i j => decide (i < j)) h1 h2
theorem e_le {i j : Int} (h1 : E ta σ S aI i) (h2 : E tb σ S aI j) : E (tOp (rI0 fun i j => .bl (decide (i ≤ j))) ta tb) σ S aB (decide (i ≤ j)) := e_b0 (g := fun i j => decide (i ≤ j)) h1 h2
theorem e_gt {i j : Int} (h1 : E ta σ S aI i) (h2 : E tb σ S aI j) : E (tOp (rI0 fun i j => .bl (decide (j < i))) ta tb) σ S aB (decide (j < i)) := e_b0 (g := fun i j => decide (j < i)) h1 h2
theorem e_ge {i j : Int} (h1 : E ta σ S aI i) (h2 : E tb σ S aI j) : E (tOp (rI0 fun i j => .bl (decide (j ≤ i))) ta tb) σ S aB (decide (j ≤ i)) := e_b0 (g := fun i j => decide (j ≤ i)) h1 h2
theorem dec_V {i j : Int} : decide (V.int i = V.int j) = decide (i = j) := by
  by_cases h : i = j
  · subst h; simp
  · rw [decide_eq_false h, decide_eq_false fun z => h (V.int.inj z)]
theorem dec_VB {i j : Bool} : decide (V.bl i = V.bl j) = (i == j) := dec_bl
theorem e_eq {i j : Int} (h1 : E ta σ S aI i) (h2 : E tb σ S aI j) : E (tOp rEq ta tb) σ S aB (decide (i = j)) := .of_bl fun H e Q k =>
  h1.int H e _ fun H1 e1 => h2.int H1 (e.trans e1) _ fun H2 e2 => ⟨rfl, by rw [dec_V]; exact k H2 (e1.trans e2)⟩
theorem e_ne {i j : Int} (h1 : E ta σ S aI i) (h2 : E tb σ S aI j) : E (tOp rNe ta tb) σ S aB (!decide (i = j)) := .of_bl fun H e Q k =>
  h1.int H e _ fun H1 e1 => h2.int H1 (e.trans e1) _ fun H2 e2 => ⟨rfl, by rw [dec_V]; exact k H2 (e1.trans e2)⟩
theorem e_eqB {i j : Bool} (h1 : E ta σ S aB i) (h2 : E tb σ S aB j) : E (tOp rEq ta tb) σ S aB (i == j) := .of_bl fun H e Q k =>
  h1.bl H e _ fun H1 e1 => h2.bl H1 (e.trans e1) _ fun H2 e2 => ⟨rfl, by rw [dec_VB]; exact k H2 (e1.trans e2)⟩
theorem e_neB {i j : Bool} (h1 : E ta σ S aB i) (h2 : E tb σ S aB j) : E (tOp rNe ta tb) σ S aB (!(i == j)) := .of_bl fun H e Q k =>
  h1.bl H e _ fun H1 e1 => h2.bl H1 (e.trans e1) _ fun H2 e2 => ⟨rfl, by rw [dec_VB]; exact k H2 (e1.trans e2)⟩
/-- a < b < c -/
theorem e_chain {g g' : Int → Int → Bool} {i j l : Int} (h1 : E ta σ S aI i) (h2 : E tb σ S aI j) (h3 : E tc σ S aI l) : E (tChain (rI0 fun i j => .bl (g i j)) (rI0 fun i j => .bl (g' i j)) ta tb tc) σ S aB (g i j && g' j l) := .of_bl fun H e Q k =>
  h1.int H e _ fun H1 e1 => h2.int H1 (e.trans e1) _ fun H2 e2 => ⟨i, j, rfl, rfl, g i j, rfl, by
    cases z : g i j with
    | true =>
      show tc σ H2 _
      exact h3.int H2 ((e.trans e1).trans e2) _ fun H3 e3 => ⟨j, l, rfl, rfl, by rw [z] at k; exact k H3 ((e1.trans e2).trans e3)⟩
    | false => rw [z] at k; exact k H2 (e1.trans e2)⟩
theorem et_test {b : Bool} (h : E te σ S aB b) : ET (tTest te) σ S b := fun H e Q k => h.bl H e _ fun H1 e1 => ⟨b, rfl, k H1 e1⟩
theorem et_B {b : Bool} (h : E te σ S aB b) : ET (tB te) σ S b := fun H e Q k => h.bl H e _ fun H1 e1 => ⟨b, rfl, k H1 e1⟩
theorem et_yes : ET tYes σ S true := fun H e Q k => k H (Ex.refl H)
theorem et_and {a b : Bool} (h1 : ET tt σ S a) (h2 : a = true → ET tu σ S b) : ET (tAnd tt tu) σ S (a && b) := fun H e Q k => h1 H e _ fun H1 e1 => by
  cases a with
  | true => exact h2 rfl H1 (e.trans e1) Q fun H2 e2 => k H2 (e1.trans e2)
  | false => exact k H1 e1
theorem et_or {a b : Bool} (h1 : ET tt σ S a) (h2 : a = false → ET tu σ S b) : ET (tOr tt tu) σ S (a || b) := fun H e Q k => h1 H e _ fun H1 e1 => by
  cases a with
  | true => exact k H1 e1
  | false => exact h2 rfl H1 (e.trans e1) Q fun H2 e2 => k H2 (e1.trans e2)
theorem et_not {a : Bool} (h1 : ET tt σ S a) : ET (tNot tt) σ S (!a) := fun H e Q k => h1 H e _ fun H1 e1 => k H1 e1
theorem e_and {a b : Bool} (h1 : E ta σ S aB a) (h2 : a = true → E tb σ S aB b) : E (tAndV ta tb) σ S aB (a && b) := .of_bl fun H e Q k => h1.bl H e _ fun H1 e1 => ⟨a, rfl, by
  cases a with
  | true => exact (h2 rfl).bl H1 (e.trans e1) Q fun H2 e2 => k H2 (e1.trans e2)
  | false => exact k H1 e1⟩
theorem e_or {a b : Bool} (h1 : E ta σ S aB a) (h2 : a = false → E tb σ S aB b) : E (tOrV ta tb) σ S aB (a || b) := .of_bl fun H e Q k => h1.bl H e _ fun H1 e1 => ⟨a, rfl, by
  cases a with
  | true => exact k H1 e1
  | false => exact (h2 rfl).bl H1 (e.trans e1) Q fun H2 e2 => k H2 (e1.trans e2)⟩
theorem e_not {a : Bool} (h1 : E ta σ S aB a) : E (tNotV ta) σ S aB (!a) := .of_bl fun H e Q k => h1.bl H e _ fun H1 e1 => ⟨a, rfl, k H1 e1⟩
theorem e_if {c : Bool} (h : ET tt σ S c) (h1 : c = true → E ta σ S r a) (h2 : c = false → E tb σ S r a) : E (tIf tt ta tb) σ S r a := fun H e Q k => h H e _ fun H1 e1 => by
  have z : ∀ {v S' H'}, Grow S H1 S' H' → r.r a v S' → Q v H' := fun {v S' H'} g hv => k v S' H' ((Grow.heap e e1).trans g) hv
  cases c with
  | true => exact h1 rfl H1 (e.trans e1) Q fun v S' H' g hv => z g hv
  | false => exact h2 rfl H1 (e.trans e1) Q fun v S' H' g hv => z g hv
end
end EL

namespace EL
open PySem L2 Evl

/-! ### arguments -/
structure Ra where
  P : List V → Hp → Prop
  mono : ∀ {vs S S'}, Ex S S' → P vs S → P vs S'
def aNil : Ra := ⟨fun vs _ => vs = [], fun _ h => h⟩
def aCons {α : Type} (r : Rp α) (a : α) (ra : Ra) : Ra := ⟨fun vs S => ∃ v ws, vs = v :: ws ∧ r.r a v S ∧ ra.P ws S, fun e ⟨v, ws, h1, h2, h3⟩ => ⟨v, ws, h1, r.mono e h2, ra.mono e h3⟩⟩
section
variable {K : PySem.W.Frag} {α β γ : Type} {r : Rp α} {q : Rp β} {a : α} {b : β} {σ : St} {S S' H H' : Hp} {te ta tb tc : TE} {tt tu : TT} {v u : V} {tr : TA} {ra : Ra}
def EA (tr : TA) (σ : St) (S : Hp) (ra : Ra) : Prop := ∀ H, Ex S H → ∀ Q : List V → Hp → Prop, (∀ vs S' H', Grow S H S' H' → ra.P vs S' → Q vs H') → tr σ H Q
theorem ea_nil : EA tNil σ S aNil := fun H e Q k => k [] S H (Grow.refl e) rfl
theorem ea_cons (h : E te σ S r a) (hr : EA tr σ S ra) : EA (tCons te tr) σ S (aCons r a ra) := fun H e Q k => h H e _ fun v S1 H1 g hv => by
  have hr' : EA tr σ S1 ra := fun H2 e2 Q2 k2 => hr H2 (g.s.trans e2) Q2 fun vs S3 H3 g3 h3 => k2 vs _ H3 (g3.more g.s e2) (ra.mono (uni_r (e2.trans g3.h) g3.i) h3)
  exact hr' H1 g.i _ fun vs S2 H2 g2 hvs => k (v :: vs) S2 H2 (g.trans g2) ⟨v, vs, rfl, r.mono g2.s hv, hvs⟩
theorem EA.mono (e : Ex S S') (hr : EA tr σ S ra) : EA tr σ S' ra := fun H2 e2 Q2 k2 => hr H2 (e.trans e2) Q2 fun vs S3 H3 g3 h3 => k2 vs _ H3 (g3.more e e2) (ra.mono (uni_r (e2.trans g3.h) g3.i) h3)
/-- one argument -/
theorem ea_one (h : E te σ S r a) : EA (tCons te tNil) σ S (aCons r a aNil) := ea_cons h ea_nil
theorem arg1 {vs : List V} {S : Hp} (h : (aCons r a aNil).P vs S) : ∃ v, vs = [v] ∧ r.r a v S := by
  obtain ⟨v, ws, rfl, h1, h2⟩ := h
  have h2 : ws = [] := h2
  subst h2; exact ⟨v, rfl, h1⟩
theorem arg2 {vs : List V} {S : Hp} (h : (aCons r a (aCons q b aNil)).P vs S) : ∃ v w, vs = [v, w] ∧ r.r a v S ∧ q.r b w S := by
  obtain ⟨v, ws, rfl, h1, h2⟩ := h
  obtain ⟨w, rfl, h3⟩ := arg1 h2
  exact ⟨v, w, rfl, h1, h3⟩
/-! ### a def that changes nothing that stood -/
def spec {A : Type} (ra : A → Ra) (pre : A → Prop) (r : Rp γ) (f : A → γ) : Sp := fun vs H Q _ => ∃ S x, (ra x).P vs S ∧ Ex S H ∧ pre x ∧ ∀ v S' H', Grow S H S' H' → r.r (f x) v S' → Q v H'
theorem e_call {A : Type} {fa : A → Ra} {pre : A → Prop} {rr : Rp γ} {f : A → γ} {EE : XK} (x : A) (ha : EA tr σ S (fa x)) (hp : pre x) : E (tCall (spec fa pre rr f) [] EE tr) σ S rr (f x) := fun H e Q k =>
  ha H e _ fun vs S1 H1 g hvs => ⟨S1, x, by rw [List.append_nil]; exact hvs, g.i, hp, fun v S2 H2 g2 hv => k v S2 H2 (g.trans g2) hv⟩

/-! ### built-ins -/
theorem e_all {bs : List Bool} (h : E ta σ S (aL K aB) bs) : E (tCB (rAll K) (tCons ta tNil)) σ S aB (bs.all id) := .of_bl fun H e Q k => h H e _ fun v S1 H1 g ⟨p, vs, e1, hl, h2⟩ => by
  have e2 := h2.bls
  subst e1; subst e2
  exact ⟨p, bs, rfl, ex_l g.i hl, k H1 g.h⟩
theorem e_any {bs : List Bool} (h : E ta σ S (aL K aB) bs) : E (tCB (rAny K) (tCons ta tNil)) σ S aB (bs.any id) := .of_bl fun H e Q k => h H e _ fun v S1 H1 g ⟨p, vs, e1, hl, h2⟩ => by
  have e2 := h2.bls
  subst e1; subst e2
  exact ⟨p, bs, rfl, ex_l g.i hl, k H1 g.h⟩
theorem e_sum {ns : List Int} (h : E ta σ S (aL K aI) ns) : E (tCB (rSum K) (tCons ta tNil)) σ S aI ns.sum := .of_int fun H e Q k => h H e _ fun v S1 H1 g ⟨p, vs, e1, hl, h2⟩ => by
  have e2 := h2.ints
  subst e1; subst e2
  exact ⟨p, ns, rfl, ex_l g.i hl, k H1 g.h⟩
theorem e_abs {i : Int} (h : E ta σ S aI i) : E (tCB (fun xs H Q => ∃ i, xs = [.int i] ∧ Q (.int (if i < 0 then -i else i)) H) (tCons ta tNil)) σ S aI (if i < 0 then -i else i) := .of_int fun H e Q k => h.int H e _ fun H1 e1 => ⟨i, rfl, k H1 e1⟩
def rInt1 : List V → Hp → VK → Prop := fun xs H Q => (∃ i, xs = [.int i] ∧ Q (.int i) H) ∨ ∃ k, xs = [.bl k] ∧ Q (.int (if k then 1 else 0)) H
theorem e_intI {i : Int} (h : E ta σ S aI i) : E (tCB (fun xs H Q => (∃ i, xs = [.int i] ∧ Q (.int i) H) ∨ ∃ k, xs = [.bl k] ∧ Q (.int (if k then 1 else 0)) H) (tCons ta tNil)) σ S aI i := .of_int fun H e Q k => h.int H e _ fun H1 e1 => .inl ⟨i, rfl, k H1 e1⟩
abbrev rLenSeq (K : PySem.W.Frag) : List V → Hp → VK → Prop := fun xs H Q => ∃ p ys, xs = [.ref p] ∧ (SqL K H p ys ∨ SqT K H p ys) ∧ Q (.int ys.length) H
theorem e_lenL {xs : List α} (h : E ta σ S (aL K r) xs) : E (tCB (fun xs H Q => ∃ p ys, xs = [.ref p] ∧ (SqL K H p ys ∨ SqT K H p ys) ∧ Q (.int ys.length) H) (tCons ta tNil)) σ S aI (xs.length : Int) := .of_int fun H e Q k => h H e _ fun v S1 H1 g ⟨p, vs, e1, hl, h2⟩ => by
  subst e1
  refine ⟨p, vs, rfl, .inl (ex_l g.i hl), ?_⟩
  rw [← h2.len]; exact k H1 g.h
theorem e_lenT {xs : List α} (h : E ta σ S (aT K r) xs) : E (tCB (fun xs H Q => ∃ p ys, xs = [.ref p] ∧ (SqL K H p ys ∨ SqT K H p ys) ∧ Q (.int ys.length) H) (tCons ta tNil)) σ S aI (xs.length : Int) := .of_int fun H e Q k => h H e _ fun v S1 H1 g ⟨p, vs, e1, hl, h2⟩ => by
  subst e1
  refine ⟨p, vs, rfl, .inr (ex_t g.i hl), ?_⟩
  rw [← h2.len]; exact k H1 g.h
/-- tuple(list), list(tuple), list(list) -/
theorem e_tupleL {xs : List α} (h : E ta σ S (aL K r) xs) : E (tCB (fun xs H Q => ∃ p ys, xs = [.ref p] ∧ ((SqL K H p ys ∧ ∀ l, H l = none → Q (.ref l) (upd H l (.tup ys))) ∨ (SqT K H p ys ∧ Q (.ref p) H))) (tCons ta tNil)) σ S (aT K r) xs := fun H e Q k => h H e _ fun v S1 H1 g ⟨p, vs, e1, hl, h2⟩ => by
  subst e1
  refine ⟨p, vs, rfl, .inl ⟨ex_l g.i hl, fun l hn => ?_⟩⟩
  have g2 := Grow.new (o := .tup vs) g.i hn
  exact k (.ref l) _ _ (g.trans g2) ⟨l, vs, rfl, st_of upd_same, h2.mono g2.s⟩
theorem e_tupleT {xs : List α} (h : E ta σ S (aT K r) xs) : E (tCB (fun xs H Q => ∃ p ys, xs = [.ref p] ∧ ((SqL K H p ys ∧ ∀ l, H l = none → Q (.ref l) (upd H l (.tup ys))) ∨ (SqT K H p ys ∧ Q (.ref p) H))) (tCons ta tNil)) σ S (aT K r) xs := fun H e Q k => h H e _ fun v S1 H1 g ⟨p, vs, e1, hl, h2⟩ => by
  subst e1
  exact ⟨p, vs, rfl, .inr ⟨ex_t g.i hl, k _ _ _ g ⟨p, vs, rfl, hl, h2⟩⟩⟩
theorem e_listL {xs : List α} (h : E ta σ S (aL K r) xs) : E (tCB (fun xs H Q => ∃ p ys, xs = [.ref p] ∧ (SqL K H p ys ∨ SqT K H p ys) ∧ ∀ l, H l = none → Q (.ref l) (upd H l (.lst ys))) (tCons ta tNil)) σ S (aL K r) xs := fun H e Q k => h H e _ fun v S1 H1 g ⟨p, vs, e1, hl, h2⟩ => by
  subst e1
  refine ⟨p, vs, rfl, .inl (ex_l g.i hl), fun l hn => ?_⟩
  have g2 := Grow.new (o := .lst vs) g.i hn
  exact k (.ref l) _ _ (g.trans g2) ⟨l, vs, rfl, sq_of upd_same, h2.mono g2.s⟩
theorem e_listT {xs : List α} (h : E ta σ S (aT K r) xs) : E (tCB (fun xs H Q => ∃ p ys, xs = [.ref p] ∧ (SqL K H p ys ∨ SqT K H p ys) ∧ ∀ l, H l = none → Q (.ref l) (upd H l (.lst ys))) (tCons ta tNil)) σ S (aL K r) xs := fun H e Q k => h H e _ fun v S1 H1 g ⟨p, vs, e1, hl, h2⟩ => by
  subst e1
  refine ⟨p, vs, rfl, .inr (ex_t g.i hl), fun l hn => ?_⟩
  have g2 := Grow.new (o := .lst vs) g.i hn
  exact k (.ref l) _ _ (g.trans g2) ⟨l, vs, rfl, sq_of upd_same, h2.mono g2.s⟩
/-- sorted(list of ints): THE ascending arrangement -/
def sorted (xs : List Int) : List Int := xs.mergeSort (fun a b => decide (a ≤ b))
theorem sorted_perm (xs : List Int) : (sorted xs).Perm xs := List.mergeSort_perm xs _
theorem sorted_pw (xs : List Int) : (sorted xs).Pairwise (· ≤ ·) := by
  have h := List.pairwise_mergeSort (le := fun a b : Int => decide (a ≤ b)) (fun a b c h1 h2 => by
    simp only [decide_eq_true_eq] at *; omega) (fun a b => by
    simp only [Bool.or_eq_true, decide_eq_true_eq]; omega) xs
  exact h.imp fun h => by simpa using h
theorem perm_sorted_eq : ∀ {xs ys : List Int}, xs.Perm ys → xs.Pairwise (· ≤ ·) → ys.Pairwise (· ≤ ·) → xs = ys := fun {xs ys} h h1 h2 => h.eq_of_pairwise (fun a b _ _ h1 h2 => by omega) h1 h2
theorem sorted_uniq {xs ys : List Int} (h : ys.Perm xs) (h1 : ys.Pairwise (· ≤ ·)) : ys = sorted xs := perm_sorted_eq (h.trans (sorted_perm xs).symm) h1 (sorted_pw xs)
theorem e_sorted {xs : List Int} (h : E ta σ S (aL K aI) xs) : E (tCB (rSortedI K) (tCons ta tNil)) σ S (aL K aI) (sorted xs) := fun H e Q k => h H e _ fun v S1 H1 g ⟨p, vs, e1, hl, h2⟩ => by
  have e2 := h2.ints
  subst e1; subst e2
  refine ⟨p, xs, rfl, ex_l g.i hl, fun ns l hp hs hn => ?_⟩
  have e3 := sorted_uniq hp hs
  subst e3
  have g2 := Grow.new (o := .lst ((sorted xs).map V.int)) g.i hn
  exact k (.ref l) _ _ (g.trans g2) ⟨l, _, rfl, sq_of upd_same, All2.of_ints _⟩
/-- min, max of a list of ints -/
theorem e_min {ns : List Int} {m : Int} (h : E ta σ S (aL K aI) ns) (hm : m ∈ ns ∧ ∀ y ∈ ns, m ≤ y) : E (tCB (rMin K) (tCons ta tNil)) σ S aI m := .of_int fun H e Q k => h H e _ fun v S1 H1 g ⟨p, vs, e1, hl, h2⟩ => by
  have e2 := h2.ints
  subst e1; subst e2
  refine ⟨p, ns, rfl, ex_l g.i hl, List.length_pos_of_mem hm.1, fun m' h1 h2 => ?_⟩
  have : m' = m := Int.le_antisymm (h2 m hm.1) (hm.2 m' h1)
  subst this
  exact k H1 g.h
theorem e_max {ns : List Int} {m : Int} (h : E ta σ S (aL K aI) ns) (hm : m ∈ ns ∧ ∀ y ∈ ns, y ≤ m) : E (tCB (rMax K) (tCons ta tNil)) σ S aI m := .of_int fun H e Q k => h H e _ fun v S1 H1 g ⟨p, vs, e1, hl, h2⟩ => by
  have e2 := h2.ints
  subst e1; subst e2
  refine ⟨p, ns, rfl, ex_l g.i hl, List.length_pos_of_mem hm.1, fun m' h1 h2 => ?_⟩
  have : m' = m := Int.le_antisymm (hm.2 m' h1) (h2 m hm.1)
  subst this
  exact k H1 g.h
/-! ### displays, places, slices, in -/
theorem e_tup1 (h : E ta σ S r a) : E (tTup (tCons ta tNil)) σ S (aT K r) [a] := fun H e Q k => (ea_one h) H e _ fun vs S1 H1 g hvs => by
  obtain ⟨v, rfl, hv⟩ := arg1 hvs
  refine ⟨by show 1 ≤ sizeLine; rw [sizeLine_eq]; decide, fun l hn => ?_⟩
  have g2 := Grow.new (o := .tup [v]) g.i hn
  exact k (.ref l) _ _ (g.trans g2) ⟨l, [v], rfl, st_of upd_same, .cons (r.mono g2.s hv) .nil⟩
theorem e_tup2 (h : E ta σ S r a) {a' : α} (h' : E tb σ S r a') : E (tTup (tCons ta (tCons tb tNil))) σ S (aT K r) [a, a'] := fun H e Q k => (ea_cons h (ea_one h')) H e _ fun vs S1 H1 g hvs => by
  obtain ⟨v, w, rfl, hv, hw⟩ := arg2 hvs
  refine ⟨by show 2 ≤ sizeLine; rw [sizeLine_eq]; decide, fun l hn => ?_⟩
  have g2 := Grow.new (o := .tup [v, w]) g.i hn
  exact k (.ref l) _ _ (g.trans g2) ⟨l, [v, w], rfl, st_of upd_same, .cons (r.mono g2.s hv) (.cons (r.mono g2.s hw) .nil)⟩
theorem e_pair (h : E ta σ S r a) (h' : E tb σ S q b) : E (tTup (tCons ta (tCons tb tNil))) σ S (aP K r q) (a, b) := fun H e Q k => (ea_cons h (ea_one h')) H e _ fun vs S1 H1 g hvs => by
  obtain ⟨v, w, rfl, hv, hw⟩ := arg2 hvs
  refine ⟨by show 2 ≤ sizeLine; rw [sizeLine_eq]; decide, fun l hn => ?_⟩
  have g2 := Grow.new (o := .tup [v, w]) g.i hn
  exact k (.ref l) _ _ (g.trans g2) ⟨l, v, w, rfl, st_of upd_same, r.mono g2.s hv, q.mono g2.s hw⟩
/-- a written list of whole numbers (the items' places in a list of V) -/
def aAll : List Int → Ra
  | [] => aNil
  | i :: is => aCons aI i (aAll is)
theorem aAll_P : ∀ {is : List Int} {vs : List V} {S : Hp}, (aAll is).P vs S → vs = is.map V.int
  | [], _, _, h => h
  | i :: is, _, _, ⟨v, ws, h1, h2, h3⟩ => by
    have h2 : v = .int i := h2
    rw [h1, h2, aAll_P h3]; rfl
theorem e_lst {is : List Int} (h : EA tr σ S (aAll is)) (hl : is.length ≤ 1000) : E (tLst tr) σ S (aL K aI) is := fun H e Q k => h H e _ fun vs S1 H1 g hvs => by
  have e1 := aAll_P hvs
  subst e1
  refine ⟨by rw [List.length_map, sizeLine_eq]; omega, fun l hn => ?_⟩
  have g2 := Grow.new (o := .lst (is.map V.int)) g.i hn
  exact k (.ref l) _ _ (g.trans g2) ⟨l, _, rfl, sq_of upd_same, All2.of_ints _⟩
theorem e_ixT {xs : List α} {i : Int} (h : E ta σ S (aT K r) xs) (hi : E tb σ S aI i) (hx : atI xs i = some a) : E (tOp (rIxT K) ta tb) σ S r a := fun H e Q k => h H e _ fun v S1 H1 g ⟨p, vs, e1, hl, h2⟩ => (hi.mono g.s).int H1 g.i _ fun H2 e2 => by
  subst e1
  have hlen : ixN xs.length i = ixN vs.length i := by rw [h2.len]
  obtain ⟨j, hj, hx⟩ := Option.bind_eq_some_iff.mp hx
  obtain ⟨w, hw, hr⟩ := h2.getL hx
  refine ⟨p, vs, i, w, rfl, rfl, ex_t (g.i.trans e2) hl, ?_, k w S1 H2 (g.trans (Grow.heap g.i e2)) hr⟩
  unfold atI; rw [← hlen, hj]; exact hw
theorem e_ixL {xs : List α} {i : Int} (h : E ta σ S (aL K r) xs) (hi : E tb σ S aI i) (hx : atI xs i = some a) : E (tOp (rIxL K) ta tb) σ S r a := fun H e Q k => h H e _ fun v S1 H1 g ⟨p, vs, e1, hl, h2⟩ => (hi.mono g.s).int H1 g.i _ fun H2 e2 => by
  subst e1
  have hlen : ixN xs.length i = ixN vs.length i := by rw [h2.len]
  obtain ⟨j, hj, hx⟩ := Option.bind_eq_some_iff.mp hx
  obtain ⟨w, hw, hr⟩ := h2.getL hx
  refine ⟨p, vs, i, w, rfl, rfl, ex_l (g.i.trans e2) hl, ?_, k w S1 H2 (g.trans (Grow.heap g.i e2)) hr⟩
  unfold atI; rw [← hlen, hj]; exact hw
theorem e_fst (h : E ta σ S (aP K r q) (a, b)) (hi : E tb σ S aI 0) : E (tOp (rIxT K) ta tb) σ S r a := fun H e Q k => h H e _ fun v S1 H1 g ⟨p, u, w, e1, hl, h2, h3⟩ => (hi.mono g.s).int H1 g.i _ fun H2 e2 => by
  subst e1
  exact ⟨p, [u, w], 0, u, rfl, rfl, ex_t (g.i.trans e2) hl, rfl, k u S1 H2 (g.trans (Grow.heap g.i e2)) h2⟩
theorem e_snd (h : E ta σ S (aP K r q) (a, b)) (hi : E tb σ S aI 1) : E (tOp (rIxT K) ta tb) σ S q b := fun H e Q k => h H e _ fun v S1 H1 g ⟨p, u, w, e1, hl, h2, h3⟩ => (hi.mono g.s).int H1 g.i _ fun H2 e2 => by
  subst e1
  exact ⟨p, [u, w], 1, w, rfl, rfl, ex_t (g.i.trans e2) hl, rfl, k w S1 H2 (g.trans (Grow.heap g.i e2)) h3⟩
def EO (to : TO) (σ : St) (S : Hp) (o : Option Int) : Prop := ∀ H, Ex S H → ∀ Q : Option Int → Hp → Prop, (∀ H', Ex H H' → Q o H') → to σ H Q
theorem eo_none : EO tNoPart σ S none := fun H _ Q k => k H (Ex.refl H)
theorem eo_some {i : Int} (h : E te σ S aI i) : EO (tPart te) σ S (some i) := fun H e Q k => h.int H e _ fun H1 e1 => ⟨i, rfl, k H1 e1⟩
theorem EO.mono {to : TO} {o : Option Int} (e : Ex S S') (h : EO to σ S o) : EO to σ S' o := fun H e1 Q k => h H (e.trans e1) Q k
def cut (xs : List α) (lo hi : Option Int) : List α := (xs.drop (HT.sIx xs.length 0 lo)).take (HT.sIx xs.length xs.length hi - HT.sIx xs.length 0 lo)
theorem cut_all2 {xs : List α} {vs : List V} (h : All2 r S xs vs) (lo hi : Option Int) : All2 r S (cut xs lo hi) (cutV vs lo hi) := by
  unfold cut cutV
  rw [h.len]
  exact (h.drop _).take _
/-- xs[lo:hi] of a tuple: the same or a new one -/
def rSlT' (K : PySem.W.Frag) : V → Option Int → Option Int → Hp → VK → Prop := fun x lo hi H Q => ∃ a xs, x = .ref a ∧ SqT K H a xs ∧
  (HT.sIx xs.length 0 lo = 0 ∧ HT.sIx xs.length xs.length hi = xs.length → Q (.ref a) H) ∧ (¬ (HT.sIx xs.length 0 lo = 0 ∧ HT.sIx xs.length xs.length hi = xs.length) → ∀ p, H p = none → Q (.ref p) (upd H p (.tup (cutV xs lo hi))))
theorem e_slL {xs : List α} {lo hi : Option Int} {tl th : TO} (h : E ta σ S (aL K r) xs) (hl : EO tl σ S lo) (hh : EO th σ S hi) : E (tSl (rSlL K) ta tl th) σ S (aL K r) (cut xs lo hi) := fun H e Q k => h H e _ fun v S1 H1 g ⟨p, vs, e1, hp, h2⟩ =>
  (hl.mono g.s) H1 g.i _ fun H2 e2 => (hh.mono g.s) H2 (g.i.trans e2) _ fun H3 e3 => by
  subst e1
  have g3 : Grow S H S1 H3 := g.trans (Grow.heap g.i (e2.trans e3))
  refine ⟨p, vs, rfl, ex_l g3.i hp, fun l hn => ?_⟩
  have g2 := Grow.new (o := .lst (cutV vs lo hi)) g3.i hn
  exact k (.ref l) _ _ (g3.trans g2) ⟨l, _, rfl, sq_of upd_same, (cut_all2 h2 lo hi).mono g2.s⟩
theorem cut_whole {xs : List α} {lo hi : Option Int} (h : HT.sIx xs.length 0 lo = 0 ∧ HT.sIx xs.length xs.length hi = xs.length) : cut xs lo hi = xs := by
  unfold cut; rw [h.1, h.2]; simp
theorem e_slT {xs : List α} {lo hi : Option Int} {tl th : TO} (h : E ta σ S (aT K r) xs) (hl : EO tl σ S lo) (hh : EO th σ S hi) : E (tSl (rSlT' K) ta tl th) σ S (aT K r) (cut xs lo hi) := fun H e Q k => h H e _ fun v S1 H1 g ⟨p, vs, e1, hp, h2⟩ =>
  (hl.mono g.s) H1 g.i _ fun H2 e2 => (hh.mono g.s) H2 (g.i.trans e2) _ fun H3 e3 => by
  subst e1
  have g3 : Grow S H S1 H3 := g.trans (Grow.heap g.i (e2.trans e3))
  refine ⟨p, vs, rfl, ex_t g3.i hp, fun hw => ?_, fun _ l hn => ?_⟩
  · refine k (.ref p) S1 H3 g3 ⟨p, vs, rfl, hp, ?_⟩
    rw [cut_whole (by rw [h2.len]; exact hw)]; exact h2
  · have g2 := Grow.new (o := .tup (cutV vs lo hi)) g3.i hn
    exact k (.ref l) _ _ (g3.trans g2) ⟨l, _, rfl, st_of upd_same, (cut_all2 h2 lo hi).mono g2.s⟩
theorem flat_ints (xs : List Int) : (xs.map V.int).all flatV = true := by
  rw [List.all_eq_true]; intro v hv
  obtain ⟨i, _, rfl⟩ := List.mem_map.mp hv
  rfl
theorem inV_ints (i : Int) : ∀ xs : List Int, inV (.int i) (xs.map V.int) = decide (i ∈ xs)
  | [] => rfl
  | x :: xs => by
    have ih := inV_ints i xs
    unfold inV at ih ⊢
    rw [List.map_cons, List.any_cons, ih]
    have : eqV (V.int x) (.int i) = decide (i = x) := by
      show (x == i) = _
      by_cases h : i = x
      · subst h; simp
      · rw [decide_eq_false h]; simp; omega
    rw [this]
    by_cases h : i = x
    · subst h; simp
    · simp [h]
theorem e_inT {i : Int} {xs : List Int} (hi : E ta σ S aI i) (h : E tb σ S (aT K aI) xs) : E (tOp (rIn K false) ta tb) σ S aB (decide (i ∈ xs)) := .of_bl fun H e Q k => hi.int H e _ fun H1 e1 => h H1 (e.trans e1) _ fun v S1 H2 g ⟨p, vs, e2, hl, h2⟩ => by
  have e3 := h2.ints
  subst e2; subst e3
  exact ⟨p, xs.map V.int, rfl, .inr (ex_t g.i hl), rfl, flat_ints xs, by rw [inV_ints]; exact k H2 (e1.trans g.h)⟩
theorem e_inL {i : Int} {xs : List Int} (hi : E ta σ S aI i) (h : E tb σ S (aL K aI) xs) : E (tOp (rIn K false) ta tb) σ S aB (decide (i ∈ xs)) := .of_bl fun H e Q k => hi.int H e _ fun H1 e1 => h H1 (e.trans e1) _ fun v S1 H2 g ⟨p, vs, e2, hl, h2⟩ => by
  have e3 := h2.ints
  subst e2; subst e3
  exact ⟨p, xs.map V.int, rfl, .inl (ex_l g.i hl), rfl, flat_ints xs, by rw [inV_ints]; exact k H2 (e1.trans g.h)⟩
theorem e_ninT {i : Int} {xs : List Int} (hi : E ta σ S aI i) (h : E tb σ S (aT K aI) xs) : E (tOp (rIn K true) ta tb) σ S aB (!decide (i ∈ xs)) := .of_bl fun H e Q k => hi.int H e _ fun H1 e1 => h H1 (e.trans e1) _ fun v S1 H2 g ⟨p, vs, e2, hl, h2⟩ => by
  have e3 := h2.ints
  subst e2; subst e3
  exact ⟨p, xs.map V.int, rfl, .inr (ex_t g.i hl), rfl, flat_ints xs, by rw [inV_ints]; exact k H2 (e1.trans g.h)⟩
theorem e_ninL {i : Int} {xs : List Int} (hi : E ta σ S aI i) (h : E tb σ S (aL K aI) xs) : E (tOp (rIn K true) ta tb) σ S aB (!decide (i ∈ xs)) := .of_bl fun H e Q k => hi.int H e _ fun H1 e1 => h H1 (e.trans e1) _ fun v S1 H2 g ⟨p, vs, e2, hl, h2⟩ => by
  have e3 := h2.ints
  subst e2; subst e3
  exact ⟨p, xs.map V.int, rfl, .inl (ex_l g.i hl), rfl, flat_ints xs, by rw [inV_ints]; exact k H2 (e1.trans g.h)⟩
end

/-! ### == of plain data -/
/-- a kind of data that == compares: as a datum, at most so deep -/
structure Enc (K : PySem.W.Frag) {α : Type} (r : Rp α) (n : Nat) where
  d : α → PyData
  dp : ∀ {a v S}, r.r a v S → Dp K S v (d a)
  lay : ∀ a, PyData.canLay0 (d a) = true
  dep : ∀ a, PyData.depth (d a) ≤ n
  eqv : ∀ a b, PyData.eqv (d a) (d b) = true ↔ a = b
section
variable {K : PySem.W.Frag} {α β : Type} {r : Rp α} {q : Rp β} {n m : Nat}
def enI : Enc K aI 0 := ⟨.int, fun h => by rw [show _ = _ from h]; exact .int _, fun _ => rfl, fun _ => Nat.le_refl _, fun a b => by show (a == b) = true ↔ _; simp⟩
def enB : Enc K aB 0 := ⟨.bool, fun h => by rw [show _ = _ from h]; exact .bl _, fun _ => rfl, fun _ => Nat.le_refl _, fun a b => by show (a == b) = true ↔ _; simp⟩
theorem Enc.all (en : Enc K r n) : ∀ {xs : List α} {vs : List V} {S : Hp}, All2 r S xs vs → DpAll K S vs (xs.map en.d)
  | _, _, _, .nil => .nil
  | _, _, _, .cons h t => .cons (en.dp h) (en.all t)
theorem Enc.layAll (en : Enc K r n) : ∀ xs : List α, PyData.canLayAll0 (xs.map en.d) = true
  | [] => by simp [PyData.canLayAll0]
  | x :: xs => by simp [PyData.canLayAll0, en.lay x, en.layAll xs]
theorem Enc.depAll (en : Enc K r n) : ∀ xs : List α, PyData.depthAll (xs.map en.d) ≤ n
  | [] => by simp [PyData.depthAll]
  | x :: xs => by
    have h1 := en.dep x
    have h2 := en.depAll xs
    simp only [List.map_cons, PyData.depthAll]
    omega
theorem Enc.eqvAll (en : Enc K r n) : ∀ xs ys : List α, PyData.eqvAll (xs.map en.d) (ys.map en.d) = true ↔ xs = ys
  | [], [] => by simp [PyData.eqvAll]
  | [], _ :: _ => by simp [PyData.eqvAll]
  | _ :: _, [] => by simp [PyData.eqvAll]
  | x :: xs, y :: ys => by simp [PyData.eqvAll, en.eqv x y, en.eqvAll xs ys]
def enT (en : Enc K r n) : Enc K (aT K r) (n + 1) := ⟨fun xs => .tuple (xs.map en.d), fun ⟨p, vs, h1, h2, h3⟩ => by subst h1; exact .tup h2 (en.all h3), fun xs => by
    simp only [PyData.canLay0]; exact en.layAll xs, fun xs => by
    have := en.depAll xs
    simp only [PyData.depth]; omega, fun xs ys => by
    simp only [PyData.eqv]; exact en.eqvAll xs ys⟩
def enL (en : Enc K r n) : Enc K (aL K r) (n + 1) := ⟨fun xs => .list (xs.map en.d), fun ⟨p, vs, h1, h2, h3⟩ => by subst h1; exact .lst h2 (en.all h3), fun xs => by
    simp only [PyData.canLay0]; exact en.layAll xs, fun xs => by
    have := en.depAll xs
    simp only [PyData.depth]; omega, fun xs ys => by
    simp only [PyData.eqv]; exact en.eqvAll xs ys⟩
def enP (en : Enc K r n) (em : Enc K q m) : Enc K (aP K r q) (max n m + 1) := ⟨fun x => .tuple [en.d x.1, em.d x.2], fun ⟨p, u, w, h1, h2, h3, h4⟩ => by subst h1; exact .tup h2 (.cons (en.dp h3) (.cons (em.dp h4) .nil)), fun x => by
    simp [PyData.canLay0, PyData.canLayAll0, en.lay, em.lay], fun x => by
    have := en.dep x.1
    have := em.dep x.2
    simp only [PyData.depth, PyData.depthAll]; omega, fun x y => by
    simp [PyData.eqv, PyData.eqvAll, en.eqv, em.eqv, Prod.ext_iff]⟩
theorem Enc.shaped (en : Enc K r n) (h : n ≤ 64) (a : α) : SeqAt.shaped (en.d a) = true := by
  unfold SeqAt.shaped
  rw [en.lay a, Bool.true_and]
  exact decide_eq_true (Nat.le_trans (en.dep a) h)
theorem Enc.dec [DecidableEq α] (en : Enc K r n) (a b : α) : PyData.eqv (en.d a) (en.d b) = decide (a = b) := by
  by_cases h : a = b
  · rw [decide_eq_true h]; exact (en.eqv a b).mpr h
  · rw [decide_eq_false h]
    cases e : PyData.eqv (en.d a) (en.d b) with
    | false => rfl
    | true => exact absurd ((en.eqv a b).mp e) h
theorem e_eqD [DecidableEq α] (en : Enc K r n) (hn : n ≤ 64) {σ : St} {S : Hp} {ta tb : TE} {a b : α} (h1 : E ta σ S r a) (h2 : E tb σ S r b) : E (tOp (rEqD K) ta tb) σ S aB (decide (a = b)) := .of_bl fun H e Q k =>
  h1 H e _ fun v S1 H1 g hv => (h2.mono g.s) H1 g.i _ fun w S2 H2 g2 hw => by
    have e2 : Ex S2 H2 := g2.i
    refine ⟨en.d a, en.d b, en.dp (r.mono (g2.s.trans e2) hv), en.dp (r.mono e2 hw), en.shaped hn a, en.shaped hn b, ?_⟩
    rw [en.dec]; exact k H2 (g.trans g2).h
theorem e_neD [DecidableEq α] (en : Enc K r n) (hn : n ≤ 64) {σ : St} {S : Hp} {ta tb : TE} {a b : α} (h1 : E ta σ S r a) (h2 : E tb σ S r b) : E (tOp (rNeD K) ta tb) σ S aB (!decide (a = b)) := .of_bl fun H e Q k =>
  h1 H e _ fun v S1 H1 g hv => (h2.mono g.s) H1 g.i _ fun w S2 H2 g2 hw => by
    have e2 : Ex S2 H2 := g2.i
    refine ⟨en.d a, en.d b, en.dp (r.mono (g2.s.trans e2) hv), en.dp (r.mono e2 hw), en.shaped hn a, en.shaped hn b, ?_⟩
    rw [en.dec]; exact k H2 (g.trans g2).h
end
end EL

namespace EL
open PySem L2 Evl RZ

/-! ### what is walked -/
section
variable {K : PySem.W.Frag} {α β γ : Type} {r : Rp α} {q : Rp β} {rr : Rp γ} {a : α} {b : β} {σ : St} {S S' H H' : Hp} {te ta tb tc : TE} {tt tu : TT} {v u : V} {tr : TA} {ra : Ra}
structure WR (J : It) (S : Hp) (r : Rp α) (xs : List α) : Prop where
  goes : ∀ i H, i < xs.length → Ex S H → J.go i H
  stops : ∀ H, Ex S H → J.stop xs.length H
  yields : ∀ i H x H' a, xs[i]? = some a → Ex S H → J.yld i H x H' → ∃ S', Grow S H S' H' ∧ r.r a x S'
theorem WR.mono {J : It} {S S1 : Hp} {xs : List α} (e : Ex S S1) (w : WR J S r xs) : WR J S1 r xs :=
  ⟨fun i H hi h => w.goes i H hi (e.trans h), fun H h => w.stops H (e.trans h), fun i H x H' a ha h y => by
    obtain ⟨S', g, hr⟩ := w.yields i H x H' a ha (e.trans h) y
    exact ⟨uni S1 S', g.more e h, r.mono (uni_r (h.trans g.h) g.i) hr⟩⟩
def EI (wi : TI) (σ : St) (S : Hp) (r : Rp α) (xs : List α) : Prop := ∀ H, Ex S H → ∀ R : It → Hp → Prop, (∀ J S' H', Grow S H S' H' → WR J S' r xs → R J H') → wi σ H R
theorem EI.mono {wi : TI} {xs : List α} (e : Ex S S') (h : EI wi σ S r xs) : EI wi σ S' r xs := fun H1 e1 R k => h H1 (e.trans e1) R fun J S2 H2 g w =>
  k J (uni S' S2) H2 (g.more e e1) (w.mono (uni_r (e1.trans g.h) g.i))
theorem wr_list {p : Addr} {vs : List V} {xs : List α} (hp : SqL K S p vs) (h : All2 r S xs vs) : WR (Itl K p) S r xs := by
  have hl := h.len
  refine ⟨fun i H hi e => ⟨vs, vs[i]'(by omega), ex_l e hp, by simp⟩, fun H e => ⟨vs, ex_l e hp, by omega⟩, fun i H x H' a ha e y => ?_⟩
  obtain ⟨rfl, hy⟩ := y
  obtain ⟨v, hv, hr⟩ := h.getL ha
  have := hy vs (ex_l e hp)
  rw [hv] at this; cases this
  exact ⟨S, Grow.refl e, hr⟩
theorem wr_tup {p : Addr} {vs : List V} {xs : List α} (hp : SqT K S p vs) (h : All2 r S xs vs) : WR (Itt K p) S r xs := by
  have hl := h.len
  refine ⟨fun i H hi e => ⟨vs, vs[i]'(by omega), ex_t e hp, by simp⟩, fun H e => ⟨vs, ex_t e hp, by omega⟩, fun i H x H' a ha e y => ?_⟩
  obtain ⟨rfl, hy⟩ := y
  obtain ⟨v, hv, hr⟩ := h.getL ha
  have := hy vs (ex_t e hp)
  rw [hv] at this; cases this
  exact ⟨S, Grow.refl e, hr⟩
theorem i_list {xs : List α} (h : E ta σ S (aL K r) xs) : EI (iList K ta) σ S r xs := fun H e R k => h H e _ fun v S1 H1 g ⟨p, vs, e1, hl, h2⟩ =>
  ⟨p, e1, ⟨vs, ex_l g.i hl⟩, k _ S1 H1 g (wr_list hl h2)⟩
theorem i_tup {xs : List α} (h : E ta σ S (aT K r) xs) : EI (iTup K ta) σ S r xs := fun H e R k => h H e _ fun v S1 H1 g ⟨p, vs, e1, hl, h2⟩ =>
  ⟨p, e1, ⟨vs, ex_t g.i hl⟩, k _ S1 H1 g (wr_tup hl h2)⟩
/-- range -/
def rg (lo hi : Int) : List Int := (List.range (hi - lo).toNat).map fun (i : Nat) => lo + (i : Int)
theorem rg_len (lo hi : Int) : (rg lo hi).length = (hi - lo).toNat := by unfold rg; simp
theorem rg_get {lo hi : Int} {i : Nat} {a : Int} (h : (rg lo hi)[i]? = some a) : i < (hi - lo).toNat ∧ a = lo + (i : Int) := by
  unfold rg at h
  rw [List.getElem?_map] at h
  by_cases hi' : i < (hi - lo).toNat
  · rw [List.getElem?_range hi'] at h
    exact ⟨hi', (Option.some.inj h).symm⟩
  · rw [List.getElem?_eq_none (by rw [List.length_range]; omega)] at h; cases h
theorem mem_rg {lo hi a : Int} : a ∈ rg lo hi ↔ lo ≤ a ∧ a < hi := by
  unfold rg
  rw [List.mem_map]
  constructor
  · rintro ⟨i, hi, rfl⟩
    rw [List.mem_range] at hi; omega
  · intro h
    exact ⟨(a - lo).toNat, List.mem_range.mpr (by omega), by omega⟩
theorem wr_range {lo : Int} {n : Nat} {hi : Int} (hn : n = (hi - lo).toNat) : WR (Itr lo n) S aI (rg lo hi) := by
  subst hn
  refine ⟨fun i H h e => ?_, fun H e => ?_, fun i H x H' a ha e y => ?_⟩
  · rw [rg_len] at h; exact h
  · rw [rg_len]; exact Nat.le_refl _
  · obtain ⟨rfl, rfl⟩ := y
    obtain ⟨_, rfl⟩ := rg_get ha
    exact ⟨S, Grow.refl e, rfl⟩
theorem i_rng1 {n : Int} (h : E ta σ S aI n) (hb : -(2 ^ 62) ≤ n ∧ n < 2 ^ 62) : EI (iRng1 (tCons ta tNil)) σ S aI (rg 0 n) := fun H e R k => h.int H e _ fun H1 e1 =>
  ⟨n, rfl, hb.1, hb.2, k _ S H1 (Grow.heap e e1) (wr_range (by rw [Int.sub_zero]))⟩
theorem i_rng2 {m n : Int} (h : E ta σ S aI m) (h' : E tb σ S aI n) (hb : -(2 ^ 62) ≤ m ∧ m < 2 ^ 62 ∧ -(2 ^ 62) ≤ n ∧ n < 2 ^ 62) : EI (iRng2 (tCons ta (tCons tb tNil))) σ S aI (rg m n) := fun H e R k => h.int H e _ fun H1 e1 => h'.int H1 (e.trans e1) _ fun H2 e2 =>
  ⟨m, n, rfl, hb, k _ S H2 (Grow.heap e (e1.trans e2)) (wr_range rfl)⟩
/-- zip of two tuples, of two lists -/
theorem zip_get {xs : List α} {ys : List β} {i : Nat} {p : α × β} (h : (xs.zip ys)[i]? = some p) : xs[i]? = some p.1 ∧ ys[i]? = some p.2 := by
  have := List.getElem?_zip_eq_some.mp h
  exact this
theorem wr_pair {J : It} {xs : List (α × β)} (hg : ∀ i H, i < xs.length → Ex S H → J.go i H) (hs : ∀ H, Ex S H → J.stop xs.length H)
    (hy : ∀ i H v H' a, xs[i]? = some a → Ex S H → J.yld i H v H' → ∃ T x y, v = .ref T ∧ H T = none ∧ H' = upd H T (.tup [x, y]) ∧ r.r a.1 x S ∧ q.r a.2 y S) : WR J S (aP K r q) xs := by
  refine ⟨hg, hs, fun i H v H' a ha e y => ?_⟩
  obtain ⟨T, x, z, rfl, hn, rfl, h1, h2⟩ := hy i H v H' a ha e y
  have g := Grow.new (o := .tup [x, z]) e hn
  exact ⟨_, g, T, x, z, rfl, st_of upd_same, r.mono g.s h1, q.mono g.s h2⟩
theorem i_zipT {xs : List α} {ys : List β} (h : E ta σ S (aT K r) xs) (h' : E tb σ S (aT K q) ys) : EI (iZipA K (tCons ta (tCons tb tNil))) σ S (aP K r q) (xs.zip ys) := fun H e R k => (ea_cons h (ea_one h')) H e _ fun vs S1 H1 g hvs => by
  obtain ⟨v, w, rfl, ⟨p, us, rfl, hp, h2⟩, ⟨p', us', rfl, hp', h2'⟩⟩ := arg2 hvs
  refine ⟨p, p', us, us', rfl, .inr ⟨ex_t g.i hp, ex_t g.i hp', k _ S1 H1 g (wr_pair (fun i H2 hi e2 => ?_) (fun H2 e2 => ?_) fun i H2 v H3 a ha e2 y => ?_)⟩⟩
  · rw [List.length_zip] at hi
    have l1 := h2.len
    have l2 := h2'.len
    exact ⟨us, us', us[i]'(by omega), us'[i]'(by omega), ex_t e2 hp, ex_t e2 hp', by simp, by simp⟩
  · have l1 := h2.len
    have l2 := h2'.len
    refine ⟨us, us', ex_t e2 hp, ex_t e2 hp', ?_⟩
    rw [List.length_zip]; omega
  · obtain ⟨T, x, z, h3, h4, h5, h6, h7⟩ := y
    obtain ⟨z1, z2⟩ := zip_get ha
    obtain ⟨x', e3, r1⟩ := h2.getL z1
    obtain ⟨z', e4, r2⟩ := h2'.getL z2
    have := h6 us (ex_t e2 hp)
    rw [e3] at this; cases this
    have := h7 us' (ex_t e2 hp')
    rw [e4] at this; cases this
    exact ⟨T, x, z, h3, h4, h5, r1, r2⟩
/-- enumerate -/
def enum (xs : List α) : List (Int × α) := xs.zipIdx.map fun p => ((p.2 : Int), p.1)
theorem enum_len (xs : List α) : (enum xs).length = xs.length := by unfold enum; simp
theorem enum_get {xs : List α} {i : Nat} {p : Int × α} (h : (enum xs)[i]? = some p) : p.1 = (i : Int) ∧ xs[i]? = some p.2 := by
  unfold enum at h
  rw [List.getElem?_map, List.getElem?_zipIdx] at h
  cases e : xs[i]? with
  | none => rw [e] at h; cases h
  | some x =>
    rw [e] at h
    have := Option.some.inj h
    subst this
    exact ⟨by simp, rfl⟩
/-- enumerate of a tuple (the library has it of a list) -/
def IteT (K : PySem.W.Frag) (a : Addr) : It :=
  ⟨fun i H => ∃ (xs : List V) (x : V), SqT K H a xs ∧ xs[i]? = some x, fun i H v H' => ∃ T x, v = .ref T ∧ H T = none ∧ H' = upd H T (.tup [.int (i : Nat), x]) ∧ ∀ xs, SqT K H a xs → xs[i]? = some x, fun i H => ∃ xs : List V, SqT K H a xs ∧ xs.length = i⟩
def iEnumT (K : PySem.W.Frag) (ta : TA) : TI := fun σ H R => ta σ H fun vs H1 => ∃ a xs, vs = [.ref a] ∧ SqT K H1 a xs ∧ R (IteT K a) H1
theorem i_enumT {xs : List α} (h : E ta σ S (aT K r) xs) : EI (iEnumT K (tCons ta tNil)) σ S (aP K aI r) (enum xs) := fun H e R k => h H e _ fun v S1 H1 g ⟨p, vs, e1, hp, h2⟩ => by
  subst e1
  have l1 := h2.len
  refine ⟨p, vs, rfl, ex_t g.i hp, k _ S1 H1 g (wr_pair (fun i H2 hi e2 => ?_) (fun H2 e2 => ?_) fun i H2 v H3 a ha e2 y => ?_)⟩
  · rw [enum_len] at hi
    exact ⟨vs, vs[i]'(by omega), ex_t e2 hp, by simp⟩
  · exact ⟨vs, ex_t e2 hp, by rw [enum_len]; omega⟩
  · obtain ⟨T, x, h3, h4, h5, h6⟩ := y
    obtain ⟨z1, z2⟩ := enum_get ha
    obtain ⟨x', e3, r1⟩ := h2.getL z2
    have := h6 vs (ex_t e2 hp)
    rw [e3] at this; cases this
    exact ⟨T, .int (i : Nat), x, h3, h4, h5, by rw [z1]; rfl, r1⟩
theorem i_enumL {xs : List α} (h : E ta σ S (aL K r) xs) : EI (iEnum K (tCons ta tNil)) σ S (aP K aI r) (enum xs) := fun H e R k => h H e _ fun v S1 H1 g ⟨p, vs, e1, hp, h2⟩ => by
  subst e1
  have l1 := h2.len
  refine ⟨p, vs, rfl, ex_l g.i hp, k _ S1 H1 g (wr_pair (fun i H2 hi e2 => ?_) (fun H2 e2 => ?_) fun i H2 v H3 a ha e2 y => ?_)⟩
  · rw [enum_len] at hi
    exact ⟨vs, vs[i]'(by omega), ex_l e2 hp, by simp⟩
  · exact ⟨vs, ex_l e2 hp, by rw [enum_len]; omega⟩
  · obtain ⟨T, x, h3, h4, h5, h6⟩ := y
    obtain ⟨z1, z2⟩ := enum_get ha
    obtain ⟨x', e3, r1⟩ := h2.getL z2
    have := h6 vs (ex_l e2 hp)
    rw [e3] at this; cases this
    exact ⟨T, .int (i : Nat), x, h3, h4, h5, by rw [z1]; rfl, r1⟩
/-- a frozen dict, walked by values, by items -/
theorem dall_get {xs : List (Int × α)} {kvs : List (Key × V)} (h : DAll r S xs kvs) : ∀ {i : Nat} {a : Int × α}, xs[i]? = some a → ∃ w, kvs[i]? = some (Sum.inl a.1, w) ∧ r.r a.2 w S := by
  induction h with
  | nil => intro i a e; simp at e
  | cons h _ ih =>
    intro i a e
    cases i with
    | zero =>
      rw [List.getElem?_cons_zero] at e
      cases e
      exact ⟨_, by rw [List.getElem?_cons_zero, ← h.1], h.2⟩
    | succ i =>
      obtain ⟨w, h1, h2⟩ := ih (by simpa using e)
      exact ⟨w, by simpa using h1, h2⟩
theorem i_vals {xs : List (Int × α)} (h : E ta σ S (aD r) xs) : EI (iVals ta) σ S r (xs.map (·.2)) := fun H e R k => h H e _ fun v S1 H1 g ⟨d, o, kvs, e1, hd, h2⟩ => by
  subst e1
  have l1 := h2.len
  refine ⟨d, o, kvs, rfl, g.i _ _ hd, k _ S1 H1 g ⟨fun i H2 hi e2 => ⟨e2 _ _ hd, ?_⟩, fun H2 e2 => ⟨e2 _ _ hd, ?_⟩, fun i H2 x H3 a ha e2 y => ?_⟩⟩
  · rw [List.length_map] at hi; omega
  · rw [List.length_map]; omega
  · obtain ⟨rfl, kk, hy⟩ := y
    rw [List.getElem?_map] at ha
    obtain ⟨p, hp, rfl⟩ := Option.map_eq_some_iff.mp ha
    obtain ⟨w, h3, h4⟩ := dall_get h2 hp
    rw [h3] at hy; cases hy
    exact ⟨S1, Grow.refl e2, h4⟩
theorem i_items {xs : List (Int × α)} (h : E ta σ S (aD r) xs) : EI (iItems ta) σ S (aP K aI r) xs := fun H e R k => h H e _ fun v S1 H1 g ⟨d, o, kvs, e1, hd, h2⟩ => by
  subst e1
  have l1 := h2.len
  refine ⟨d, o, kvs, rfl, g.i _ _ hd, k _ S1 H1 g (wr_pair (fun i H2 hi e2 => ⟨e2 _ _ hd, by omega⟩) (fun H2 e2 => ⟨e2 _ _ hd, by omega⟩) fun i H2 v H3 a ha e2 y => ?_)⟩
  obtain ⟨T, kk, w, h3, h4, h5, h6⟩ := y
  obtain ⟨w', h7, h8⟩ := dall_get h2 ha
  rw [h7] at h3; cases h3
  exact ⟨T, .int a.1, w, h4, h5, h6, rfl, h8⟩

/-! ### targets -/
def Tg (g : TG) (r : Rp α) (bind : α → St → St → Hp → Prop) : Prop := ∀ a v σ S H, r.r a v S → Ex S H → ∀ R : St → Hp → Prop, (∀ σ', bind a σ σ' S → R σ' H) → g v σ H R
def bN (j : Nat) (r : Rp α) : α → St → St → Hp → Prop := fun a σ σ' S => ∃ v, r.r a v S ∧ σ' = σ.set j (some v)
def bP (i j : Nat) (r : Rp α) (q : Rp β) : α × β → St → St → Hp → Prop := fun a σ σ' S => ∃ v w, r.r a.1 v S ∧ q.r a.2 w S ∧ σ' = (σ.set i (some v)).set j (some w)
theorem tg_n {j : Nat} : Tg (gName j) r (bN j r) := fun a v σ S H hr e R k => k _ ⟨v, hr, rfl⟩
theorem tg_p {i j : Nat} : Tg (gTup K 2 (gCons (gName i) (gCons (gName j) gNil))) (aP K r q) (bP i j r q) := fun a v σ S H hr e R k => by
  obtain ⟨p, u, w, rfl, h1, h2, h3⟩ := hr
  exact ⟨p, [u, w], rfl, ex_t e h1, rfl, u, [w], rfl, w, [], rfl, rfl, k _ ⟨u, w, h2, h3, rfl⟩⟩

/-! ### [elt for target in iter if test] -/
/-- what stands within the loop: the new list holds acc -/
def Lc (S H : Hp) (D : Addr) (rr : Rp γ) (acc : List γ) (H' : Hp) : Prop := ∃ S' vs, Grow S H S' H' ∧ S' D = none ∧ H' D = some (.lst vs) ∧ All2 rr S' acc vs
theorem Lc.start {D : Addr} (e : Ex S H) (hD : H D = none) : Lc S H D rr [] (upd H D (.lst [])) := ⟨S, [], Grow.heap e (Ex.new hD), fresh_back e hD, upd_same, .nil⟩
theorem Lc.push {D : Addr} {acc : List γ} {c : γ} {S2 H2 : Hp} {S' : Hp} {vs : List V} {x : V} (g : Grow S H S' H') (hD : H D = none) (h1 : S' D = none) (h2 : H' D = some (.lst vs)) (h3 : All2 rr S' acc vs) (g2 : Grow S' H' S2 H2) (hc : rr.r c x S2) :
    Lc S H D rr (acc ++ [c]) (upd H2 D (.lst (vs ++ [x]))) := by
  have hS2 := g2.n D _ h1 h2
  exact ⟨S2, vs ++ [x], (g.trans g2).mut hD hS2, hS2, upd_same, (h3.mono g2.s).snoc hc⟩
theorem Lc.done {D : Addr} {acc : List γ} (h : Lc S H D rr acc H') (hD : H D = none) : ∃ S', Grow S H S' H' ∧ (aL K rr).r acc (.ref D) S' := by
  obtain ⟨S', vs, g, h1, h2, h3⟩ := h
  exact ⟨_, g.know hD h1 h2, D, vs, rfl, sq_of upd_same, h3.mono (Ex.new h1)⟩
theorem e_lcf {wi : TI} {g : TG} {vs : List Nat} {bind : α → St → St → Hp → Prop} {p : α → Bool} {f : α → γ} (xs : List α) (hi : EI wi σ S r xs) (hg : Tg g r bind) (hl : xs.length ≤ 100000) (hw : ∀ a σ' S', bind a (wipe σ vs) σ' S' → wipe σ' vs = wipe σ vs)
    (ht : ∀ a σ' S', a ∈ xs → Ex S S' → bind a (wipe σ vs) σ' S' → ET tt σ' S' (p a)) (he : ∀ a σ' S', a ∈ xs → p a = true → Ex S S' → bind a (wipe σ vs) σ' S' → E te σ' S' rr (f a)) :
    E (tLc wi g tt te vs) σ S (aL K rr) ((xs.filter p).map f) := fun H e Q k => hi H e _ fun J S1 H1 g1 w D hD => by
  refine ⟨fun i m H2 => m = xs.length - i ∧ i ≤ xs.length ∧ Lc S1 H1 D rr (((xs.take i).filter p).map f) H2, ⟨xs.length, rfl, Nat.zero_le _, by simpa using Lc.start g1.i hD⟩, ?_⟩
  rintro i m H2 ⟨rfl, hi2, hL⟩
  by_cases hlt : i < xs.length
  · obtain ⟨S2, us, g2, h1, h2, h3⟩ := hL
    have hx : xs[i]? = some xs[i] := by simp
    have hm : xs[i] ∈ xs := List.getElem_mem hlt
    refine .inr ⟨w.goes i H2 hlt g2.ex, fun H3 => Lc S1 H1 D rr (((xs.take (i + 1)).filter p).map f) H3, fun H3 h => ⟨xs.length - (i + 1), by omega, rfl, hlt, h⟩, fun x H3 y => ?_⟩
    obtain ⟨S3, g3, hr⟩ := (w.mono g2.s).yields i H2 x H3 _ hx g2.i y
    refine hg _ _ _ S3 H3 hr g3.i _ fun σ2 hb => ⟨hw _ _ _ hb, ?_⟩
    have e3 : Ex S S3 := (g1.s.trans g2.s).trans g3.s
    refine ht _ σ2 S3 hm e3 hb H3 g3.i _ fun H4 e4 => ?_
    have g4 : Grow S2 H2 S3 H4 := g3.trans (Grow.heap g3.i e4)
    have ea : (xs.take (i + 1)).filter p = (xs.take i).filter p ++ if p xs[i] = true then [xs[i]] else [] := by
      rw [List.take_succ_eq_append_getElem hlt, List.filter_append, List.filter_cons, List.filter_nil]
    cases hp : p xs[i] with
    | true =>
      show te σ2 H4 _
      refine he _ σ2 S3 hm hp e3 hb H4 g4.i _ fun z S5 H5 g5 hz => ⟨us, (g4.trans g5).h D _ h2, ?_, ?_⟩
      · have := h3.len
        rw [List.length_map] at this
        have h5 := List.length_filter_le p (xs.take i)
        rw [List.length_take] at h5
        rw [sizeLine_eq]; omega
      · rw [ea, hp, if_pos rfl, List.map_append]
        exact Lc.push g2 hD h1 h2 h3 (g4.trans g5) hz
    | false =>
      show Lc S1 H1 D rr _ H4
      rw [ea, hp, if_neg (by decide), List.append_nil]
      exact ⟨S3, us, g2.trans g4, g4.n D _ h1 h2, g4.h D _ h2, h3.mono g3.s⟩
  · have hii : i = xs.length := by omega
    subst hii
    rw [List.take_length] at hL
    obtain ⟨S2, us, g2, h1, h2, h3⟩ := id hL
    obtain ⟨S4, g4, h4⟩ := hL.done (K := K) hD
    exact .inl ⟨w.stops H2 g2.ex, k _ S4 H2 (g1.trans g4) h4⟩
theorem e_lc {wi : TI} {g : TG} {vs : List Nat} {bind : α → St → St → Hp → Prop} {f : α → γ} (xs : List α) (hi : EI wi σ S r xs) (hg : Tg g r bind) (hl : xs.length ≤ 100000) (hw : ∀ a σ' S', bind a (wipe σ vs) σ' S' → wipe σ' vs = wipe σ vs)
    (he : ∀ a σ' S', a ∈ xs → Ex S S' → bind a (wipe σ vs) σ' S' → E te σ' S' rr (f a)) :
    E (tLc wi g tYes te vs) σ S (aL K rr) (xs.map f) := by
  have h := e_lcf (K := K) (p := fun _ => true) xs hi hg hl hw (fun a σ' S' _ _ _ => et_yes) (fun a σ' S' hm _ e hb => he a σ' S' hm e hb)
  rw [List.filter_eq_self.mpr (fun _ _ => rfl)] at h
  exact h
/-- the words of two clauses -/
def fl2 (p : α → β → Bool) (f : α → β → γ) (ys : α → List β) (a : α) : List γ := ((ys a).filter (p a)).map (f a)
theorem e_lc2f {wi wi1 : TI} {g g1 : TG} {vs vs1 : List Nat} {bind : α → St → St → Hp → Prop} {bind1 : β → St → St → Hp → Prop} {ys : α → List β} {p : α → β → Bool} {f : α → β → γ} (xs : List α)
    (hi : EI wi σ S r xs) (hg : Tg g r bind) (hg1 : Tg g1 q bind1) (hl : xs.length ≤ 1000) (hw : ∀ a σ' S', bind a (wipe σ vs) σ' S' → wipe σ' vs = wipe σ vs)
    (hi1 : ∀ a σ' S', a ∈ xs → Ex S S' → bind a (wipe σ vs) σ' S' → EI wi1 σ' S' q (ys a)) (hl1 : ∀ a ∈ xs, (ys a).length ≤ 1000)
    (hw1 : ∀ a b σ' σ2 S' S2, bind a (wipe σ vs) σ' S' → bind1 b (wipe σ' vs1) σ2 S2 → wipe σ2 vs1 = wipe σ' vs1)
    (ht : ∀ a b σ' σ2 S' S2, a ∈ xs → b ∈ ys a → Ex S S' → Ex S' S2 → bind a (wipe σ vs) σ' S' → bind1 b (wipe σ' vs1) σ2 S2 → ET tt σ2 S2 (p a b))
    (he : ∀ a b σ' σ2 S' S2, a ∈ xs → b ∈ ys a → p a b = true → Ex S S' → Ex S' S2 → bind a (wipe σ vs) σ' S' → bind1 b (wipe σ' vs1) σ2 S2 → E te σ2 S2 rr (f a b)) :
    E (tLc2 wi g tYes wi1 g1 tt te vs vs1) σ S (aL K rr) (xs.flatMap (fl2 p f ys)) := fun H e Q k => hi H e _ fun J S1 H1 gA w D hD => by
  have lenF : ∀ (zs : List α), (∀ a ∈ zs, a ∈ xs) → (zs.flatMap (fl2 p f ys)).length ≤ zs.length * 1000 := by
    intro zs
    induction zs with
    | nil => intro _; simp
    | cons z zs ih =>
      intro h
      rw [List.flatMap_cons, List.length_append, List.length_cons]
      have h1 := ih fun a ha => h a (List.mem_cons_of_mem _ ha)
      have h2 : (fl2 p f ys z).length ≤ 1000 := by
        unfold fl2; rw [List.length_map]
        exact Nat.le_trans (List.length_filter_le _ _) (hl1 z (h z List.mem_cons_self))
      omega
  refine ⟨fun i m H2 => m = xs.length - i ∧ i ≤ xs.length ∧ Lc S1 H1 D rr ((xs.take i).flatMap (fl2 p f ys)) H2, ⟨xs.length, rfl, Nat.zero_le _, by simpa using Lc.start gA.i hD⟩, ?_⟩
  rintro i m H2 ⟨rfl, hi2, hL⟩
  by_cases hlt : i < xs.length
  · obtain ⟨S2, us, g2, h1, h2, h3⟩ := hL
    have hx : xs[i]? = some xs[i] := by simp
    have hm : xs[i] ∈ xs := List.getElem_mem hlt
    refine .inr ⟨w.goes i H2 hlt g2.ex, fun H3 => Lc S1 H1 D rr ((xs.take (i + 1)).flatMap (fl2 p f ys)) H3, fun H3 h => ⟨xs.length - (i + 1), by omega, rfl, hlt, h⟩, fun x H3 y => ?_⟩
    obtain ⟨S3, g3, hr⟩ := (w.mono g2.s).yields i H2 x H3 _ hx g2.i y
    refine hg _ _ _ S3 H3 hr g3.i _ fun σ2 hb => ⟨hw _ _ _ hb, ?_⟩
    have e3 : Ex S S3 := (gA.s.trans g2.s).trans g3.s
    show wi1 σ2 H3 _
    refine hi1 _ σ2 S3 hm e3 hb H3 g3.i _ fun J1 S4 H4 g4 w1 => ?_
    have gB : Grow S1 H1 S4 H4 := (g2.trans g3).trans g4
    have ea : (xs.take (i + 1)).flatMap (fl2 p f ys) = (xs.take i).flatMap (fl2 p f ys) ++ fl2 p f ys xs[i] := by
      rw [List.take_succ_eq_append_getElem hlt, List.flatMap_append, List.flatMap_singleton]
    have lenA := lenF (xs.take i) fun a ha => List.mem_of_mem_take ha
    rw [List.length_take] at lenA
    have hD4 : Lc S1 H1 D rr ((xs.take i).flatMap (fl2 p f ys) ++ []) H4 := by
      rw [List.append_nil]
      have g34 := g3.trans g4
      exact ⟨S4, us, gB, g34.n D _ h1 h2, g34.h D _ h2, h3.mono g34.s⟩
    refine ⟨fun j m H5 => m = (ys xs[i]).length - j ∧ j ≤ (ys xs[i]).length ∧ ∃ S5 us, Ex S4 S5 ∧ Grow S1 H1 S5 H5 ∧ S5 D = none ∧ H5 D = some (.lst us) ∧ All2 rr S5 ((xs.take i).flatMap (fl2 p f ys) ++ (((ys xs[i]).take j).filter (p xs[i])).map (f xs[i])) us, ⟨(ys xs[i]).length, rfl, Nat.zero_le _, ?_⟩, ?_⟩
    · obtain ⟨S5, us5, g5, h5, h6, h7⟩ := hD4
      have g34 := g3.trans g4
      exact ⟨S4, us, Ex.refl S4, gB, g34.n D _ h1 h2, g34.h D _ h2, by simpa using h3.mono g34.s⟩
    · rintro j m H5 ⟨rfl, hj, S5, us5, gE, g5, h5, h6, h7⟩
      by_cases hjl : j < (ys xs[i]).length
      · have hy : (ys xs[i])[j]? = some (ys xs[i])[j] := by simp
        have hmy : (ys xs[i])[j] ∈ ys xs[i] := List.getElem_mem hjl
        refine .inr ⟨w1.goes j H5 hjl (gE.trans g5.i), fun H6 => ∃ S6 us, Ex S4 S6 ∧ Grow S1 H1 S6 H6 ∧ S6 D = none ∧ H6 D = some (.lst us) ∧ All2 rr S6 ((xs.take i).flatMap (fl2 p f ys) ++ (((ys xs[i]).take (j + 1)).filter (p xs[i])).map (f xs[i])) us,
          fun H6 h => ⟨(ys xs[i]).length - (j + 1), by omega, rfl, hjl, h⟩, fun x H6 y => ?_⟩
        obtain ⟨S6, g6, hr6⟩ := (w1.mono gE).yields j H5 x H6 _ hy g5.i y
        refine hg1 _ _ _ S6 H6 hr6 g6.i _ fun σ3 hb1 => ⟨hw1 _ _ _ _ _ _ hb hb1, ?_⟩
        have e36 : Ex S3 S6 := (g4.s.trans gE).trans g6.s
        refine ht _ _ σ2 σ3 S3 S6 hm hmy e3 e36 hb hb1 H6 g6.i _ fun H7 e7 => ?_
        have g7 : Grow S5 H5 S6 H7 := g6.trans (Grow.heap g6.i e7)
        have eb : ((ys xs[i]).take (j + 1)).filter (p xs[i]) = ((ys xs[i]).take j).filter (p xs[i]) ++ if p xs[i] (ys xs[i])[j] = true then [(ys xs[i])[j]] else [] := by
          rw [List.take_succ_eq_append_getElem hjl, List.filter_append, List.filter_cons, List.filter_nil]
        cases hp : p xs[i] (ys xs[i])[j] with
        | true =>
          show te σ3 H7 _
          refine he _ _ σ2 σ3 S3 S6 hm hmy hp e3 e36 hb hb1 H7 g7.i _ fun z S8 H8 g8 hz => ⟨us5, (g7.trans g8).h D _ h6, ?_, ?_⟩
          · have l1 := h7.len
            rw [List.length_append, List.length_map] at l1
            have l2 := List.length_filter_le (p xs[i]) ((ys xs[i]).take j)
            rw [List.length_take] at l2
            have l3 := hl1 _ hm
            rw [sizeLine_eq]
            have l4 : min i xs.length * 1000 ≤ 1000 * 1000 := Nat.mul_le_mul_right _ (by omega)
            omega
          · have g9 := g7.trans g8
            have hn := g9.n D _ h5 h6
            refine ⟨S8, us5 ++ [z], gE.trans g9.s, (g5.trans g9).mut hD hn, hn, upd_same, ?_⟩
            rw [eb, hp, if_pos rfl, List.map_append, ← List.append_assoc]
            exact (h7.mono g9.s).snoc hz
        | false =>
          refine ⟨S6, us5, gE.trans g7.s, g5.trans g7, g7.n D _ h5 h6, g7.h D _ h6, ?_⟩
          rw [eb, hp, if_neg (by decide), List.append_nil]
          exact h7.mono g7.s
      · have hjj : j = (ys xs[i]).length := by omega
        subst hjj
        refine .inl ⟨w1.stops H5 (gE.trans g5.i), ?_⟩
        rw [List.take_length] at h7
        refine ⟨S5, us5, g5, h5, h6, ?_⟩
        rw [ea]; exact h7
  · have hii : i = xs.length := by omega
    subst hii
    rw [List.take_length] at hL
    obtain ⟨S2, us, g2, h1, h2, h3⟩ := id hL
    obtain ⟨S4, g4, h4⟩ := hL.done (K := K) hD
    exact .inl ⟨w.stops H2 g2.ex, k _ S4 H2 (gA.trans g4) h4⟩
end
end EL

namespace EL
open PySem L2 Evl RZ

section
variable {K : PySem.W.Frag} {α β γ : Type} {r : Rp α} {q : Rp β} {rr : Rp γ} {a : α} {b : β} {c : γ} {σ : St} {S S' H H' : Hp} {te ta tb tc : TE} {tt : TT} {v u : V} {tr : TA} {ra : Ra}
theorem fl2_yes {f : α → β → γ} {ys : α → List β} : fl2 (fun _ _ => true) f ys = fun a => (ys a).map (f a) := by
  funext a
  unfold fl2
  rw [List.filter_eq_self.mpr (fun _ _ => rfl)]
theorem e_lc2 {wi wi1 : TI} {g g1 : TG} {vs vs1 : List Nat} {bind : α → St → St → Hp → Prop} {bind1 : β → St → St → Hp → Prop} {ys : α → List β} {f : α → β → γ} (xs : List α)
    (hi : EI wi σ S r xs) (hg : Tg g r bind) (hg1 : Tg g1 q bind1) (hl : xs.length ≤ 1000) (hw : ∀ a σ' S', bind a (wipe σ vs) σ' S' → wipe σ' vs = wipe σ vs)
    (hi1 : ∀ a σ' S', a ∈ xs → Ex S S' → bind a (wipe σ vs) σ' S' → EI wi1 σ' S' q (ys a)) (hl1 : ∀ a ∈ xs, (ys a).length ≤ 1000)
    (hw1 : ∀ a b σ' σ2 S' S2, bind a (wipe σ vs) σ' S' → bind1 b (wipe σ' vs1) σ2 S2 → wipe σ2 vs1 = wipe σ' vs1)
    (he : ∀ a b σ' σ2 S' S2, a ∈ xs → b ∈ ys a → Ex S S' → Ex S' S2 → bind a (wipe σ vs) σ' S' → bind1 b (wipe σ' vs1) σ2 S2 → E te σ2 S2 rr (f a b)) :
    E (tLc2 wi g tYes wi1 g1 tYes te vs vs1) σ S (aL K rr) (xs.flatMap fun a => (ys a).map (f a)) := by
  have h := e_lc2f (K := K) (p := fun _ _ => true) xs hi hg hg1 hl hw hi1 hl1 hw1 (fun _ _ _ _ _ _ _ _ _ _ _ _ => et_yes) (fun a b σ' σ2 S' S2 h1 h2 _ h3 h4 h5 h6 => he a b σ' σ2 S' S2 h1 h2 h3 h4 h5 h6)
  rw [fl2_yes] at h
  exact h

/-! ### statements: what is true behind them, of the slots and of what is known -/
structure Po where
  nx : St → Hp → Prop
  rt : V → Hp → Prop
  bk : St → Hp → Prop := fun _ _ => False
  ct : St → Hp → Prop := fun _ _ => False
def Sx (t : TS) (σ : St) (S : Hp) (P : Po) : Prop := ∀ H D, Ex S H → (∀ σ' S' H', Grow S H S' H' → P.nx σ' S' → D.nx σ' H') → (∀ v S' H', Grow S H S' H' → P.rt v S' → D.rt v H') →
  (∀ σ' S' H', Grow S H S' H' → P.bk σ' S' → D.bk σ' H') → (∀ σ' S' H', Grow S H S' H' → P.ct σ' S' → D.ct σ' H') → t D σ H
variable {P : Po} {t u : TS}
theorem sx_seq {M : St → Hp → Prop} (h : Sx t σ S { P with nx := M }) (k : ∀ σ' S', Ex S S' → M σ' S' → Sx u σ' S' P) : Sx (tSeq t u) σ S P := fun H D e n r b c =>
  h H _ e (fun σ' S' H' g hm => k σ' S' g.s hm H' D g.i (fun σ2 S2 H2 g2 => n σ2 S2 H2 (g.trans g2)) (fun v S2 H2 g2 => r v S2 H2 (g.trans g2)) (fun σ2 S2 H2 g2 => b σ2 S2 H2 (g.trans g2)) (fun σ2 S2 H2 g2 => c σ2 S2 H2 (g.trans g2))) r b c
theorem Sx.imp {P' : Po} (h : Sx t σ S P) (h1 : ∀ σ' S', Ex S S' → P.nx σ' S' → P'.nx σ' S') (h2 : ∀ v S', Ex S S' → P.rt v S' → P'.rt v S') (h3 : ∀ σ' S', Ex S S' → P.bk σ' S' → P'.bk σ' S') (h4 : ∀ σ' S', Ex S S' → P.ct σ' S' → P'.ct σ' S') : Sx t σ S P' := fun H D e n r b c =>
  h H D e (fun σ' S' H' g z => n σ' S' H' g (h1 σ' S' g.s z)) (fun v S' H' g z => r v S' H' g (h2 v S' g.s z)) (fun σ' S' H' g z => b σ' S' H' g (h3 σ' S' g.s z)) (fun σ' S' H' g z => c σ' S' H' g (h4 σ' S' g.s z))
theorem sx_asg {g : TG} {bind : α → St → St → Hp → Prop} (h : E te σ S r a) (hg : Tg g r bind) (k : ∀ σ' S', Ex S S' → bind a σ σ' S' → P.nx σ' S') : Sx (tAsg te g) σ S P := fun H D e n _ _ _ =>
  h H e _ fun v S' H' gr hv => hg a v σ S' H' hv gr.i _ fun σ' hb => n σ' S' H' gr (k σ' S' gr.s hb)
/-- x = e, then the rest -/
theorem sq_set {i : Nat} (h : E te σ S r a) (k : ∀ v S', Ex S S' → r.r a v S' → Sx u (σ.set i (some v)) S' P) : Sx (tSeq (tAsg te (gName i)) u) σ S P :=
  sx_seq (M := fun σ' S' => ∃ v, r.r a v S' ∧ σ' = σ.set i (some v)) (sx_asg h tg_n fun σ' S' _ hb => hb) fun σ' S' e ⟨v, h1, h2⟩ => by subst h2; exact k v S' e h1
theorem sq_asg {g : TG} {bind : α → St → St → Hp → Prop} (h : E te σ S r a) (hg : Tg g r bind) (k : ∀ σ' S', Ex S S' → bind a σ σ' S' → Sx u σ' S' P) : Sx (tSeq (tAsg te g) u) σ S P :=
  sx_seq (M := fun σ' S' => bind a σ σ' S') (sx_asg h hg fun σ' S' _ hb => hb) fun σ' S' e hb => k σ' S' e hb
theorem sx_drop (h : E te σ S r a) (k : P.nx σ S) : Sx (tDrop te) σ S P := fun H D e n _ _ _ => h H e _ fun v S' H' g _ => n σ S H' (Grow.heap e g.h) k
theorem sq_drop (h : E te σ S r a) (k : Sx u σ S P) : Sx (tSeq (tDrop te) u) σ S P := sx_seq (M := fun σ' S' => σ' = σ ∧ S' = S) (sx_drop h ⟨rfl, rfl⟩) fun σ' S' _ ⟨h1, h2⟩ => by subst h1; subst h2; exact k
theorem sx_ret (h : E te σ S r a) (k : ∀ v S', Ex S S' → r.r a v S' → P.rt v S') : Sx (tRet te) σ S P := fun H D e _ n _ _ => h H e _ fun v S' H' g hv => n v S' H' g (k v S' g.s hv)
/-- the def's own result -/
abbrev Ret (r : Rp γ) (c : γ) : Po := { nx := fun _ S => r.r c .non S, rt := fun v S => r.r c v S }
theorem sx_return (h : E te σ S rr c) : Sx (tRet te) σ S (Ret rr c) := sx_ret h fun _ _ _ h => h
theorem sx_next (k : P.nx σ S) : Sx tNext σ S P := fun H D e n _ _ _ => n σ S H (Grow.refl e) k
theorem sx_break (k : P.bk σ S) : Sx tBreak σ S P := fun H D e _ _ n _ => n σ S H (Grow.refl e) k
theorem sx_cont (k : P.ct σ S) : Sx tCont σ S P := fun H D e _ _ _ n => n σ S H (Grow.refl e) k
theorem sx_if {b : Bool} (h : ET tt σ S b) (h1 : b = true → Sx t σ S P) (h2 : b = false → Sx u σ S P) : Sx (tIfS tt t u) σ S P := fun H D e n rt bk ct => h H e _ fun H1 e1 => by
  have z : ∀ {w : TS}, Sx w σ S P → w D σ H1 := fun {w} hw => hw H1 D (e.trans e1) (fun σ2 S2 H2 g2 => n σ2 S2 H2 ((Grow.heap e e1).trans g2)) (fun v S2 H2 g2 => rt v S2 H2 ((Grow.heap e e1).trans g2)) (fun σ2 S2 H2 g2 => bk σ2 S2 H2 ((Grow.heap e e1).trans g2)) (fun σ2 S2 H2 g2 => ct σ2 S2 H2 ((Grow.heap e e1).trans g2))
  cases b with
  | true => exact z (h1 rfl)
  | false => exact z (h2 rfl)
/-- if test: raise (never), then the rest -/
theorem sq_skip (h : ET tt σ S false) (k : Sx u σ S P) : Sx (tSeq (tIfS tt t tNext) u) σ S P :=
  sx_seq (M := fun σ' S' => σ' = σ ∧ S' = S) (sx_if h (fun z => nomatch z) fun _ => sx_next ⟨rfl, rfl⟩) fun σ' S' _ ⟨h1, h2⟩ => by subst h1; subst h2; exact k
theorem sx_skip (h : ET tt σ S false) (k : P.nx σ S) : Sx (tIfS tt t tNext) σ S P := sx_if h (fun z => nomatch z) fun _ => sx_next k
/-- if test: (leaves), then the rest -/
theorem sq_ifret {b : Bool} (h : ET tt σ S b) (h1 : b = true → Sx t σ S { P with nx := fun _ _ => False }) (k : b = false → Sx u σ S P) : Sx (tSeq (tIfS tt t tNext) u) σ S P :=
  sx_seq (M := fun σ' S' => σ' = σ ∧ S' = S ∧ b = false) (sx_if h (fun z => (h1 z).imp (fun _ _ _ f => f.elim) (fun _ _ _ h => h) (fun _ _ _ h => h) (fun _ _ _ h => h)) fun z => sx_next ⟨rfl, rfl, z⟩) fun σ' S' _ ⟨h1, h2, h3⟩ => by subst h1; subst h2; exact k h3
/-- for: Pv by the turn, the slots and what is known -/
theorem sx_for {wi : TI} {g : TG} {bind : α → St → St → Hp → Prop} (xs : List α) (hi : EI wi σ S r xs) (hg : Tg g r bind) (Pv : Nat → St → Hp → Prop) (hm : ∀ i σ' S1 S2, Ex S1 S2 → Pv i σ' S1 → Pv i σ' S2) (h0 : ∀ S', Ex S S' → Pv 0 σ S')
    (hs : ∀ i a σ1 σ2 S', xs[i]? = some a → Ex S S' → Pv i σ1 S' → bind a σ1 σ2 S' → Sx t σ2 S' { nx := Pv (i + 1), ct := Pv (i + 1), bk := P.nx, rt := P.rt }) (hd : ∀ σ' S', Ex S S' → Pv xs.length σ' S' → P.nx σ' S') : Sx (tFor wi g t) σ S P := fun H D e n rt bk ct =>
  hi H e _ fun J S1 H1 g1 w => by
  refine ⟨fun i m σ' H' => m = xs.length - i ∧ i ≤ xs.length ∧ ∃ S', Grow S1 H1 S' H' ∧ Pv i σ' S', ⟨xs.length, rfl, Nat.zero_le _, S1, Grow.refl g1.i, h0 S1 g1.s⟩, ?_⟩
  rintro i m σ' H' ⟨rfl, hi2, S2, g2, hp⟩
  by_cases hlt : i < xs.length
  · have hx : xs[i]? = some xs[i] := by simp
    refine .inr ⟨w.goes i H' hlt g2.ex, fun σ3 H3 => ∃ S3, Grow S1 H1 S3 H3 ∧ Pv (i + 1) σ3 S3, fun σ3 H3 h => ⟨xs.length - (i + 1), by omega, rfl, hlt, h⟩, fun x H3 y => ?_⟩
    obtain ⟨S3, g3, hr⟩ := (w.mono g2.s).yields i H' x H3 _ hx g2.i y
    refine hg _ _ _ S3 H3 hr g3.i _ fun σ2 hb => ?_
    have g4 : Grow S H S3 H3 := (g1.trans g2).trans g3
    exact hs i xs[i] σ' σ2 S3 hx g4.s (hm _ _ _ _ g3.s hp) hb H3 _ g3.i (fun σ5 S5 H5 g5 z => ⟨S5, (g2.trans g3).trans g5, z⟩) (fun v S5 H5 g5 z => rt v S5 H5 (g4.trans g5) z) (fun σ5 S5 H5 g5 z => n σ5 S5 H5 (g4.trans g5) z) (fun σ5 S5 H5 g5 z => ⟨S5, (g2.trans g3).trans g5, z⟩)
  · have hii : i = xs.length := by omega
    subst hii
    exact .inl ⟨w.stops H' g2.ex, n σ' S2 H' (g1.trans g2) (hd σ' S2 (g1.trans g2).s hp)⟩
theorem sq_for {wi : TI} {g : TG} {bind : α → St → St → Hp → Prop} (xs : List α) (hi : EI wi σ S r xs) (hg : Tg g r bind) (Pv : Nat → St → Hp → Prop) (hm : ∀ i σ' S1 S2, Ex S1 S2 → Pv i σ' S1 → Pv i σ' S2) (h0 : ∀ S', Ex S S' → Pv 0 σ S')
    (hs : ∀ i a σ1 σ2 S', xs[i]? = some a → Ex S S' → Pv i σ1 S' → bind a σ1 σ2 S' → Sx t σ2 S' { nx := Pv (i + 1), ct := Pv (i + 1), bk := fun _ _ => False, rt := P.rt }) (hd : ∀ σ' S', Ex S S' → Pv xs.length σ' S' → Sx u σ' S' P) : Sx (tSeq (tFor wi g t) u) σ S P :=
  sx_seq (M := fun σ' S' => Pv xs.length σ' S') (sx_for xs hi hg Pv hm h0 (fun i a σ1 σ2 S' h1 h2 h3 h4 => (hs i a σ1 σ2 S' h1 h2 h3 h4).imp (fun _ _ _ h => h) (fun _ _ _ h => h) (fun _ _ _ h => h.elim) (fun _ _ _ h => h)) (fun _ _ _ h => h)) fun σ' S' e hp => hd σ' S' e hp
/-- while, by a measure that falls -/
theorem sx_while (W : Nat → St → Hp → Prop) (hm : ∀ i σ' S1 S2, Ex S1 S2 → W i σ' S1 → W i σ' S2) (m0 : Nat) (h0 : W m0 σ S)
    (hs : ∀ m σ' S', Ex S S' → W m σ' S' → ∃ b, ET tt σ' S' b ∧ (b = true → Sx t σ' S' { nx := fun σ2 S2 => ∃ m', m' < m ∧ W m' σ2 S2, ct := fun σ2 S2 => ∃ m', m' < m ∧ W m' σ2 S2, bk := P.nx, rt := P.rt }) ∧ (b = false → P.nx σ' S')) : Sx (tWhile tt t) σ S P := fun H D e n rt bk ct => by
  refine ⟨fun m σ' H' => ∃ S', Grow S H S' H' ∧ W m σ' S', ⟨m0, S, Grow.refl e, h0⟩, ?_⟩
  rintro m σ' H' ⟨S2, g2, hw⟩
  obtain ⟨b, hb, h1, h2⟩ := hs m σ' S2 g2.s hw
  refine hb H' g2.i _ fun H3 e3 => ?_
  have g3 : Grow S H S2 H3 := g2.trans (Grow.heap g2.i e3)
  cases b with
  | true =>
    refine ⟨fun σ5 H5 => ∃ m', m' < m ∧ ∃ S5, Grow S H S5 H5 ∧ W m' σ5 S5, fun σ5 H5 h => h, ?_⟩
    exact h1 rfl H3 _ g3.i (fun σ5 S5 H5 g5 ⟨m', hm', z⟩ => ⟨m', hm', S5, g3.trans g5, z⟩) (fun v S5 H5 g5 z => rt v S5 H5 (g3.trans g5) z) (fun σ5 S5 H5 g5 z => n σ5 S5 H5 (g3.trans g5) z) (fun σ5 S5 H5 g5 ⟨m', hm', z⟩ => ⟨m', hm', S5, g3.trans g5, z⟩)
  | false => exact n σ' S2 H3 g3 (h2 rfl)
theorem sq_while (W : Nat → St → Hp → Prop) (hm : ∀ i σ' S1 S2, Ex S1 S2 → W i σ' S1 → W i σ' S2) (m0 : Nat) (h0 : W m0 σ S)
    (hs : ∀ m σ' S', Ex S S' → W m σ' S' → ∃ b, ET tt σ' S' b ∧ (b = true → Sx t σ' S' { nx := fun σ2 S2 => ∃ m', m' < m ∧ W m' σ2 S2, ct := fun σ2 S2 => ∃ m', m' < m ∧ W m' σ2 S2, bk := fun _ _ => False, rt := P.rt }) ∧ (b = false → Sx u σ' S' P)) : Sx (tSeq (tWhile tt t) u) σ S P := by
  refine sx_seq (M := fun σ' S' => Sx u σ' S' P) (sx_while W hm m0 h0 fun m σ' S' e hw => ?_) fun σ' S' _ h => h
  obtain ⟨b, hb, h1, h2⟩ := hs m σ' S' e hw
  exact ⟨b, hb, fun z => (h1 z).imp (fun _ _ _ h => h) (fun _ _ _ h => h) (fun _ _ _ h => h.elim) (fun _ _ _ h => h), h2⟩
/-- two names from two values -/
theorem sx_par {i j : Nat} {a : α} {b : β} (h : EA tr σ S (aCons r a (aCons q b aNil))) (k : ∀ v w S', Ex S S' → r.r a v S' → q.r b w S' → P.nx ((σ.set i (some v)).set j (some w)) S') : Sx (tPar i j tr) σ S P := fun H D e n _ _ _ => h H e _ fun vs S' H' g hvs => by
  obtain ⟨v, w, rfl, h1, h2⟩ := arg2 hvs
  exact ⟨v, w, rfl, n _ S' H' g (k v w S' g.s h1 h2)⟩
theorem sq_par {i j : Nat} {a : α} {b : β} (h : EA tr σ S (aCons r a (aCons q b aNil))) (k : ∀ v w S', Ex S S' → r.r a v S' → q.r b w S' → Sx u ((σ.set i (some v)).set j (some w)) S' P) : Sx (tSeq (tPar i j tr) u) σ S P :=
  sx_seq (M := fun σ' S' => ∃ v w, r.r a v S' ∧ q.r b w S' ∧ σ' = (σ.set i (some v)).set j (some w)) (sx_par h fun v w S' _ h1 h2 => ⟨v, w, h1, h2, rfl⟩) fun σ' S' e ⟨v, w, h1, h2, h3⟩ => by subst h3; exact k v w S' e h1 h2
end
end EL

/-! EL5: set(list of whole numbers), with the table told as sorted(..) and len(..) ask. -/
namespace EL
open PySem PySem.Spec PyProof.Rows L2
section
variable {P : Program} {w : World} {A : Around} {E0 : Value → Shared → Prop} {s : Shared}
/-- the empty set that `set(..)` begins with -/
abbrev set0 (w : World) : Obj := { cls := .type "set", dict := none, data := .set #[] 0 (.fresh 0 0 (!w.params.followText "set-order")) }
theorem call_set_by {x : Value} {Q : Value → Shared → Prop} {R : Heap → Prop}
    (hup : ∀ (A' : Around), A'.handled = A.handled → wpAny (model P w) A' (Builtin.Frozenset.updateFrom "set.__init__" s.heap.objs.size x)
      (fun _ s2 => ∃ h' tk, s2 = { s with heap := h', toks := tk } ∧ R h' ∧ ∀ b o, s.heap.get? b = some o → h'.get? b = some o) E0 { s with heap := s.heap.push (set0 w) })
    (h : ∀ h' tk, R h' → (∀ b o, s.heap.get? b = some o → h'.get? b = some o) → Q (.ref s.heap.objs.size) { s with heap := h', toks := tk }) :
    wpAny (model P w) A (call (.type "set") [x]) Q E0 s := by
  obtain ⟨c, tl, hmro⟩ := F.called_set.mro
  have hmade := F.called_set.made
  have hsub := F.called_set.sub
  refine wpAny_call (codeAny_of_tree ?_)
  show wpAny _ _ (callAny (.type "set") _) _ _ _
  refine wpAny_pure ⟨Code.quiet_builtin _ (by decide +kernel), codeAny_builtin F.entry_type_call ?_⟩
  rw [Around.under_plain (weight_type_call_type "set" [x] []) rfl]
  have h1 := F.called_set.notType
  have h2 := F.called_set.canCreate
  have hct := F.typeCall_set_1 x
  repeat (any_goals (first | assumption | wp_step))
  refine codeAny_mono (code_set_led1 x (E := E0) (Q₁ := fun obj s1 => obj = .ref s.heap.objs.size ∧ s1 = { s with heap := s.heap.push (set0 w) }) ⟨rfl, rfl⟩) fun r s1 hr => ?_
  cases r with
  | error e => exact hr
  | ok fl =>
    cases fl with
    | ret obj =>
      obtain ⟨e1, e2⟩ := hr
      subst e1; subst e2
      have hS : (s.heap.push (set0 w)).get? s.heap.objs.size = some (set0 w) := Heap.get?_push_size _ rfl
      have hT : Shared.TypeIs { s with heap := s.heap.push (set0 w) } (.ref s.heap.objs.size) "set" := ⟨_, hS, rfl⟩
      have hli := F.called_set.init.lookup
      have hbi := F.called_set.init.bind (.ref s.heap.objs.size)
      repeat (any_goals (first | assumption | wp_step))
      refine codeAny_mono (codeAny_call_builtin (R := wants (fun r s2 => r = .none ∧ ∃ h' tk, s2 = { s with heap := h', toks := tk } ∧ R h' ∧ ∀ b o, s.heap.get? b = some o → h'.get? b = some o) E0) F.called_set.init.plain F.entry_set_init (check_set_init_1 hT ?_)) fun r2 s2 hr2 => ?_
      · unfold Builtin.«set.__init__» noKeywords
        generalize hU : Builtin.Frozenset.updateFrom = U
        wp_walk
        subst hU
        refine wpAny_mono (hup A.in1.in1 (by simp)) (fun _ s2 hq => ?_) fun _ _ z => z
        obtain ⟨h', tk, e3, hR, hk⟩ := hq
        subst e3
        refine wpAny_pure ?_
        exact ⟨rfl, h', tk, rfl, hR, hk⟩
      · cases r2 with
        | error e => exact hr2
        | ok fl2 =>
          cases fl2 with
          | ret r =>
            obtain ⟨e3, h', tk, e4, hR, hk⟩ := hr2
            subst e3; subst e4
            repeat (any_goals (first | assumption | wp_step))
            exact h _ _ hR hk
          | _ => exact hr2.elim
    | _ => exact hr.elim
end
end EL

namespace EL
open PySem PySem.Spec PyProof.Rows L2
section
variable {P : Program} {w : World} {A : Around} {E0 : Value → Shared → Prop} {s : Shared}
/-- the members of a list -/
theorem update_list {A' : Around} {l : Addr} {items : Array Value} (ns : List Int) (hh : A'.handled = none) (hl : s.heap.IsList l items) (hit : IntsAre items.toList ns) (hb : ns.length + 1 < scanBound) :
    wpAny (model P w) A' (Builtin.Frozenset.updateFrom "set.__init__" s.heap.objs.size (.ref l))
      (fun _ s2 => ∃ h' tk, s2 = { s with heap := h', toks := tk } ∧ (∃ c, c ≤ ns.length ∧ SetR w h' s.heap.objs.size (fun j => decide (j ∈ ns)) c) ∧ ∀ b o, s.heap.get? b = some o → h'.get? b = some o) E0 { s with heap := s.heap.push (set0 w) } := by
  have hsz : items.size = ns.length := by
    have q := IntsAre.length hit
    rw [Array.length_toList] at q
    exact q
  have hS : (s.heap.push (set0 w)).get? s.heap.objs.size = some (set0 w) := Heap.get?_push_size _ rfl
  have hl1 : (s.heap.push (set0 w)).IsList l items := hl.push _
  have hl1' := hl1
  have hlt : l < s.heap.objs.size := by
    obtain ⟨o, ho, _⟩ := hl
    exact Heap.lt_size ho
  obtain ⟨ol, hol, hcl, nl, hdl⟩ := hl1
  obtain ⟨ocls, odict, odata, oslots⟩ := ol
  simp only at hcl hdl
  subst hcl; subst hdl
  have hsls := F.sub_list_set
  have hslf := F.sub_list_frozenset
  have hne : (Value.type "list" == Value.type "dict") = false := by decide
  unfold Builtin.Frozenset.updateFrom
  generalize hPI : pyIter = PI
  wp_walk
  subst hPI
  refine wpAny_pyIter_list hl1' ?_
  refine wpAny_bind (wpAny_runValue ?_)
  have hz1 : (s.heap.push (set0 w)).objs.size = s.heap.objs.size + 1 := Heap.size_push ..
  have hneI : l ≠ (s.heap.push (set0 w)).objs.size := by rw [hz1]; exact Nat.ne_of_lt (Nat.lt_succ_of_lt hlt)
  have hSf : s.heap.objs.size ∉ [(s.heap.push (set0 w)).objs.size, l] := by
    rw [hz1]
    intro z
    rcases List.mem_cons.mp z with z | z
    · exact absurd z (Nat.ne_of_lt (Nat.lt_succ_self _))
    · exact absurd (List.mem_singleton.mp z) (Nat.ne_of_gt hlt)
  have hval : ∀ (i : Nat) (v : Value), items[i]? = some v → ∃ k t, ns[i]? = some k ∧ v = .int k t := fun i v hv => by
    have hi : i < ns.length := by rw [← hsz]; exact (Array.getElem?_eq_some_iff.mp hv).1
    obtain ⟨t, e⟩ := IntsAre.int_at hit i v (by rw [Array.getElem?_toList]; exact hv)
    refine ⟨ns[i], t, List.getElem?_eq_getElem hi, ?_⟩
    rw [e, List.getD_eq_getElem?_getD, List.getElem?_eq_getElem hi]; rfl
  refine set_update_ints ((Walks.list (A := A'.in1) (by simp [hh]) _ l hneI items).toS) s.heap.objs.size hSf ns hsz hb hval (items.size - 0) 0 _ (by omega) (Nat.zero_le _)
    ⟨⟨_, Heap.get?_push_size _ rfl, rfl, rfl⟩, hl1'.push _⟩ ⟨0, Nat.le_refl 0, setR_new_at (Heap.get?_push_of_some _ hS)⟩ ?_
  intro s' c' hm hc' hS'
  obtain ⟨h', g2, d', tk', os'⟩ := s'
  have eg : g2 = s.gens := hm.gens
  have ed : d' = s.drawn := hm.drawn
  have eo : os' = s.os := hm.os
  subst eg; subst ed; subst eo
  show wpAny _ _ _ _ _ _
  refine wpAny_pure ⟨h', tk', rfl, ⟨c', by rw [← hsz]; exact hc', hS'⟩, fun b o e => ?_⟩
  have hb0 : b < s.heap.objs.size := Heap.lt_size e
  refine hm.heap b o (fun z => ?_) (Heap.get?_push_of_some _ (Heap.get?_push_of_some _ e))
  rcases List.mem_cons.mp z with z | z
  · exact absurd z (Nat.ne_of_lt hb0)
  · have := List.mem_singleton.mp z
    rw [hz1] at this
    exact absurd this (Nat.ne_of_lt (Nat.lt_succ_of_lt hb0))
end
end EL

/-! EL7: rules that the hand layer has not: enumerate of a tuple, a tuple's slice that may be the whole, set(..) of ints, len and sorted of such a set, a dict frozen. -/
namespace EL
open PySem PySem.Spec PyProof.Rows L2 Evl
theorem meets_enum1 {v : Value} {o : Obj} {H : Heap → Prop} (B : Begins v o H) :
    Meets (Builtin.«enumerate.__new__» ⟨[.type "enumerate", v], []⟩) (fun _ R s => H s.heap ∧
      R (.ok (.ret (.ref (s.heap.push o).objs.size))) { s with heap := (s.heap.push o).push { cls := .type "enumerate", data := .fields #[.none, .bool false, .ref s.heap.objs.size, rawInt 0, .none, .none] } }) :=
  .of_wp fun prog w A R s h => by
    obtain ⟨hp, g, d, tk, os⟩ := s
    obtain ⟨h1, h⟩ := h
    have hsub := sub_enumerate
    have q1 : ∀ {A' : Around} {E : Value → Shared → Prop} {Q : Value → Shared → Prop}, Q (.ref hp.objs.size) ⟨hp.push o, g, d, tk, os⟩ → wpAny (model prog w) A' (pyIter v) Q E ⟨hp, g, d, tk, os⟩ :=
      fun q => B.iter prog w _ _ ⟨hp, g, d, tk, os⟩ _ h1 q
    wp_walk using q1
    refine wpAny_stack_any fun st => wpAny_pure ?_
    split
    · rename_i c _ _ _ _ _
      cases (c == Value.type "enumerate") <;> (wp_walk using q1; exact ⟨_, rfl, h⟩)
    · wp_walk using q1
      exact ⟨_, rfl, h⟩
section
variable {prog : Program} {w : World} {A : Around} {E0 : Value → Shared → Prop} {s : Shared}
theorem enum_begins1 {v : Value} {o : Obj} {H : Heap → Prop} {Q : Value → Shared → Prop} (B : Begins v o H) (h1 : H s.heap)
    (h : ∀ h', IsEnum h' (s.heap.objs.size + 1) s.heap.objs.size 0 .none → h'.get? s.heap.objs.size = some o → (∀ b o, s.heap.get? b = some o → h'.get? b = some o) → Q (.ref (s.heap.objs.size + 1)) { s with heap := h' }) :
    wpAny (model prog w) A (call (.type "enumerate") [v]) Q E0 s := by
  refine callType_new F.called_enumerate (by decide) (F.typeCall_enumerate_1 _) (F.newCall_enumerate_1 _) (fun obj => F.args_object_init_2 obj _) F.entry_enumerate_new (meets_enum1 B) ⟨h1, ?_⟩
  have hz : (s.heap.push o).objs.size = s.heap.objs.size + 1 := Heap.size_push ..
  show _ ∧ _
  rw [hz]
  have he : IsEnum ((s.heap.push o).push { cls := .type "enumerate", data := .fields #[.none, .bool false, .ref s.heap.objs.size, rawInt 0, .none, .none] }) (s.heap.objs.size + 1) s.heap.objs.size 0 .none := by
    have q := Heap.get?_push_size (s.heap.push o) (o := { cls := .type "enumerate", data := .fields #[.none, .bool false, .ref s.heap.objs.size, rawInt 0, .none, .none] }) rfl
    rw [hz] at q
    exact q
  exact ⟨⟨_, he, rfl⟩, h _ he (Heap.get?_push_of_some _ (Heap.get?_push_size _ B.free)) fun b o x => Heap.get?_push_of_some _ (Heap.get?_push_of_some _ x)⟩
end
section
variable {X : Cx}
theorem turn_enumT {P : Program} {w : World} {K : PySem.W.Frag} {elts : List Expr} {kk : Nat} {tpos : Pos} (a e it : Addr) :
    Turn P w K (.Tuple elts kk tpos) (IteT K a) [e, it] e (fun i h => (∃ old, IsEnum h e it ((i : Nat) : Int) old) ∧ h.IsTupleIter it a i ∧ e ≠ it ∧ a ≠ it ∧ a ≠ e) where
  mem := List.mem_cons_self
  obj := fun i h st b hb => by
    obtain ⟨⟨old, he⟩, ⟨o, ho, hc, hd⟩, _⟩ := st
    rcases List.mem_cons.mp hb with z | z
    · rw [z]; exact ⟨_, he, fun v q => nomatch q⟩
    · rw [List.mem_singleton.mp z]; exact ⟨o, ho, fun v q => by rw [hd] at q; cases q⟩
  keep := fun i h h' st k => by
    obtain ⟨⟨old, he⟩, hi, r⟩ := st
    exact ⟨⟨old, k e List.mem_cons_self _ he⟩, hi.at fun o q => k it (List.mem_cons_of_mem _ List.mem_cons_self) o q, r⟩
  item := by
    intro X hP hw hK hc i pins s σ H E I hf st hg
    subst hP hw hK
    obtain ⟨⟨old, he⟩, hit, hne, hai, hae⟩ := st
    obtain ⟨xs, x, hq, hx⟩ := hg
    obtain ⟨its, rv, p, hz⟩ := I.tuple hq
    obtain ⟨u, hu, ru⟩ := rv.get hx
    have hel : e < s.heap.objs.size := Heap.lt_size he
    have hil : it < s.heap.objs.size := by
      obtain ⟨_, q, _⟩ := hit
      exact Heap.lt_size q
    have ht : s.heap.IsTuple a its.toArray := p
    have hlt : i < its.toArray.size := by
      rw [List.size_toArray]
      exact (List.getElem?_eq_some_iff.mp hu).1
    have D := Draws.tuple (prog := X.prog) (w := X.w) (A := X.A.in1) (by simp [I.ok.hd hc]) it a hai its.toArray
    refine wpAny_pyNext_enum_itemD D he ⟨hit, ht⟩ hlt hne (fun z => ?_) fun y h' tk hy ho hit' hT hsz hk => ?_
    · rcases List.mem_cons.mp z with z | z
      · exact hne z
      · exact hae (List.mem_singleton.mp z).symm
    have ey : y = u := by
      have hy' : its.toArray[i]? = some y := hy
      rw [List.getElem?_toArray, hu] at hy'
      exact (Option.some.inj hy').symm
    subst ey
    refine ⟨_, rfl, wpAny_letOwnedTupleGo_enum (s := { s with heap := h', toks := tk + 1 }) ho fun h'' he' sb => ?_⟩
    have hT2 : h''.get? s.heap.objs.size = some { cls := .type "tuple", data := .seq #[.int i tk, y] } := (sb.2 _ (Nat.ne_of_gt hel)).trans hT
    have new : ObjOk X.prog X.w (upd H s.heap.objs.size (.tup [.int (i : Nat), x])) h'' s.heap.objs.size (.tup [.int (i : Nat), x]) :=
      ⟨by show 2 ≤ sizeLine; decide, [.int i tk, y], .cons ⟨_, rfl⟩ (.cons ru .nil), ⟨_, hT2, rfl, _, rfl⟩⟩
    have I1 : Inv X pins σ (upd H s.heap.objs.size (.tup [.int (i : Nat), x])) { s with heap := h'', toks := tk + 1 } :=
      I.turnedNew (ch := [e, it]) (fun b ob hb q => (sb.2 b (fun z => hb (by simp [z]))).trans (hk b ob (fun z => hb (by simp [z])) (fun z => hb (by simp [z])) q)) hf (Nat.le_refl _) new
    refine ⟨.ref s.heap.objs.size, _, I1, rfl, ⟨_, x, rfl, I.hok.fresh (Nat.le_refl _), rfl, fun ys hy => by rw [I.tuple_inj hy hq]; exact hx⟩, ⟨⟨y, ?_⟩, hit'.1.at fun o q => (sb.2 it (Ne.symm hne)).trans q, hne, hai, hae⟩, fun b hb => ?_⟩
    · have e1 : ((i + 1 : Nat) : Int) = (i : Int) + 1 := by omega
      rw [e1]; exact he'
    · have hb' : b < s.heap.objs.size := by
        rcases List.mem_cons.mp hb with z | z
        · rw [z]; exact hel
        · rw [List.mem_singleton.mp z]; exact hil
      rw [upd_ne (Nat.ne_of_lt hb')]
      exact (hf b hb).1
  done := by
    intro X hP hw hK hc i pins s σ H E I hf st hg
    subst hP hw hK
    obtain ⟨⟨old, he⟩, hit, hne, hai, hae⟩ := st
    obtain ⟨xs, hq, hx⟩ := hg
    obtain ⟨its, rv, p, hz⟩ := I.tuple hq
    obtain ⟨f0, f1, f2, f3, f4, f5⟩ := hf it (List.mem_cons_of_mem _ List.mem_cons_self)
    have hl := rv.length
    have ht : s.heap.IsTuple a its.toArray := p
    have D := Draws.tuple (prog := X.prog) (w := X.w) (A := X.A.in1) (by simp [I.ok.hd hc]) it a hai its.toArray
    have hi : i = its.toArray.size := by rw [List.size_toArray, ← hl, hx]
    subst hi
    exact wpAny_pyNext_enum_endD D he ⟨hit, ht⟩ fun h' eb => ⟨rfl, I.turned (t' := s.toks) (fun b o hb q => eb b o hb q) f0 f1 f3 f4 f5⟩
  self := fun A i s Q E st h => by
    obtain ⟨⟨_, he⟩, _⟩ := st
    exact wpAny_pyIter_enum he h
theorem pi_enumT {e : Expr} {ta : TA} {p pos tpos : Pos} {elts : List Expr} {kk : Nat} (hg : Gl X "enumerate") (hm : X.mg "enumerate" = none) (ha : PA X [e] ta) (hs : starEach [e] X.env = [(false, eval e X.env)] := by rfl) :
    PI X (.Tuple elts kk tpos) (.Call (.Name "enumerate" p) [e] [] pos) (iEnumT X.K ta) := by
  refine ⟨fun pins s σ H R I h => ?_⟩
  refine Call_ (ld_blt I hg hm boot_enumerate (PyProof.Rows.callWith_type1 (thn (ha.run pos pins s σ H _ I h) fun us s1 ⟨vs, H1, I1, r1, q1⟩ => ?_) hs rfl))
  obtain ⟨a, xs, ex, hq, q⟩ := q1
  subst ex
  have r1 := Vals.ref1 r1
  subst r1
  obtain ⟨its, rv, p', hz⟩ := I1.tuple hq
  have ht : s1.heap.IsTuple a its.toArray := p'
  have hal : a < s1.heap.objs.size := by
    obtain ⟨o, ho, _⟩ := ht
    exact Heap.lt_size ho
  refine enum_begins1 (begins_tuple a its.toArray) ht fun h' he hit hk => wpAny_pyIter_enum he ?_
  have I2 : Inv X pins σ H1 { s1 with heap := h' } := I1.kept (t' := s1.toks) hk
  refine ⟨s1.heap.objs.size + 1, [s1.heap.objs.size + 1, s1.heap.objs.size], _, _, H1, rfl, I2, turn_enumT a (s1.heap.objs.size + 1) s1.heap.objs.size, ⟨⟨.none, he⟩, ⟨_, hit, rfl, rfl⟩, Nat.succ_ne_self _, Nat.ne_of_lt hal, Nat.ne_of_lt (Nat.lt_succ_of_lt hal)⟩, fun b hb => ?_, q⟩
  have hle : s1.heap.objs.size ≤ b := by
    rcases List.mem_cons.mp hb with z | z
    · rw [z]; exact Nat.le_add_right _ _
    · rw [List.mem_singleton.mp z]; exact Nat.le_refl _
  exact I1.fpOk hle (I1.hok.fresh hle)
/-- t[lo:hi], the whole or a new tuple -/
theorem sl_tupW : SlR X (rSlT' X.K) := by
  intro pins s σ H x v vl vu lo hi sl Q I rx hs pl pu h
  obtain ⟨a, xs, ex, hx, hw, hn⟩ := h
  subst ex
  by_cases z : HT.sIx xs.length 0 lo = 0 ∧ HT.sIx xs.length xs.length hi = xs.length
  · have q := hw z
    cases rx
    obtain ⟨its, r, ht, hz⟩ := I.tuple hx
    have hlen : its.toArray.size = xs.length := by rw [List.size_toArray]; exact r.length.symm
    refine ⟨"tuple", _, PyProof.Rows.slot_tuple_getitem.lookup, ht.typeIs, ?_⟩
    obtain ⟨os, hos, hcs, hds⟩ := id hs
    have hTs : s.TypeIs (.ref sl) "slice" := ⟨os, hos, hcs⟩
    unfold getItem
    try with_reducible refine wpAny_holding ?_
    first | refine wpAny_bind (wpAny_pure ?_) | skip
    refine wpAny_bind (wpAny_sequenceKey ht.typeIs (by decide) ?_)
    refine wpAny_bind (wpAny_callSpecial?_slot (name := Str.ofString "__getitem__") ht.typeIs PyProof.Rows.slot_tuple_getitem
      (wpAny_call_entry PyProof.Rows.slot_tuple_getitem ht.typeIs PyProof.Rows.entry_tuple_getitem ?_ (PyProof.Rows.args_tuple_getitem _ _)))
    show wpAny _ _ (Builtin.Tuple.tupleItemsOf (.ref a) >>= _) _ _ s
    refine wpAny_bind (PyProof.Rows.tupleItemsOf_ ht ?_)
    refine wpAny_bind (wpAny_typeOf hTs ?_)
    rw [if_pos (by decide)]
    refine wpAny_bind (HT.sliceApplied_gen hs pl pu ?_)
    have e1 : (((HT.sIx its.toArray.size 0 lo : Nat) : Int) == 0 && (1 : Int) == 1 && (HT.sIx its.toArray.size its.toArray.size hi - HT.sIx its.toArray.size 0 lo) == its.toArray.size) = true := by
      rw [hlen, z.1, z.2]; simp
    show wpAny _ _ (if (((HT.sIx its.toArray.size 0 lo : Nat) : Int) == 0 && (1 : Int) == 1 && (HT.sIx its.toArray.size its.toArray.size hi - HT.sIx its.toArray.size 0 lo) == its.toArray.size) = true then _ else _) _ _ s
    rw [if_pos e1]
    refine wpAny_bind (m := Builtin.Tuple.tupleIsExact _) ?_
    unfold Builtin.Tuple.tupleIsExact
    refine wpAny_bind (wpAny_typeOf ht.typeIs (wpAny_pure ?_))
    rw [if_pos (by decide)]
    refine wpAny_bind (wpAny_rule (wpAny_pure ⟨_, rfl, wpAny_pure ?_⟩))
    exact ⟨.ref a, H, I, rfl, q⟩
  · exact sl_tup pins s σ H (.ref a) v vl vu lo hi sl Q I rx hs pl pu ⟨a, xs, rfl, hx, z, hn z⟩
end
end EL

/-! EL8: sets of whole numbers as values; a dict frozen. -/
namespace EL
open PySem PySem.Spec PyProof.Rows L2 Evl
/-! ### the different numbers of a list, in order of coming; ascending -/
def uniq (xs : List Int) : List Int := xs.foldl (fun acc z => if z ∈ acc then acc else acc ++ [z]) []
theorem uniq_snoc (xs : List Int) (z : Int) : uniq (xs ++ [z]) = if z ∈ uniq xs then uniq xs else uniq xs ++ [z] := by
  unfold uniq
  rw [List.foldl_append]; rfl
theorem list_snoc_ind {α : Type} {p : List α → Prop} (h0 : p []) (h1 : ∀ xs x, p xs → p (xs ++ [x])) : ∀ xs, p xs := fun xs => by
  have : ∀ n (xs : List α), xs.length = n → p xs := by
    intro n
    induction n with
    | zero => intro xs h; rw [List.length_eq_zero_iff.mp h]; exact h0
    | succ n ih =>
      intro xs h
      have hne : xs ≠ [] := fun e => by rw [e] at h; cases h
      rw [← List.dropLast_concat_getLast hne]
      exact h1 _ _ (ih _ (by rw [List.length_dropLast, h]; rfl))
  exact this _ xs rfl
theorem mem_uniq {z : Int} : ∀ {xs : List Int}, z ∈ uniq xs ↔ z ∈ xs := fun {xs} => by
  induction xs using list_snoc_ind with
  | h0 => exact Iff.rfl
  | h1 xs x ih =>
    rw [uniq_snoc]
    by_cases h : x ∈ uniq xs
    · rw [if_pos h, ih, List.mem_append]
      refine ⟨.inl, fun h' => h'.elim id fun e => ?_⟩
      have e := List.mem_singleton.mp e
      subst e
      exact ih.mp h
    · rw [if_neg h, List.mem_append, List.mem_append, ih]
theorem uniq_nodup : ∀ xs : List Int, (uniq xs).Nodup := fun xs => by
  induction xs using list_snoc_ind with
  | h0 => exact List.nodup_nil
  | h1 xs x ih =>
    rw [uniq_snoc]
    by_cases h : x ∈ uniq xs
    · rw [if_pos h]; exact ih
    · rw [if_neg h, List.nodup_append]
      exact ⟨ih, List.nodup_cons.mpr ⟨List.not_mem_nil, List.nodup_nil⟩, fun a ha b hb e => h (by rw [List.mem_singleton.mp hb] at e; rw [← e]; exact ha)⟩
theorem nodup_len_eq {xs ys : List Int} (hx : xs.Nodup) (hy : ys.Nodup) (h : ∀ z, z ∈ xs ↔ z ∈ ys) : xs.length = ys.length := by
  have h1 : xs.Perm ys := (List.perm_ext_iff_of_nodup hx hy).mpr h
  exact h1.length_eq
def asSet (xs : List Int) : List Int := sorted (uniq xs)
theorem mem_asSet {z : Int} {xs : List Int} : z ∈ asSet xs ↔ z ∈ xs := by
  unfold asSet
  rw [(sorted_perm _).mem_iff, mem_uniq]
theorem pw_lt_of {xs : List Int} (h : xs.Pairwise (· ≤ ·)) (hn : xs.Nodup) : xs.Pairwise (· < ·) := by
  induction xs with
  | nil => exact .nil
  | cons x xs ih =>
    have hn' := List.nodup_cons.mp hn
    have hp := List.pairwise_cons.mp h
    refine .cons (fun b hb => ?_) (ih hp.2 hn'.2)
    have h1 := hp.1 b hb
    have h2 : x ≠ b := fun e => hn'.1 (e ▸ hb)
    omega
theorem nodup_of_lt {xs : List Int} (h : xs.Pairwise (· < ·)) : xs.Nodup := h.imp fun h => Int.ne_of_lt h
theorem asSet_pw (xs : List Int) : (asSet xs).Pairwise (· < ·) := pw_lt_of (sorted_pw _) ((sorted_perm _).nodup_iff.mpr (uniq_nodup xs))
theorem asSet_nodup (xs : List Int) : (asSet xs).Nodup := nodup_of_lt (asSet_pw xs)
theorem asSet_len (xs : List Int) : (asSet xs).length = (uniq xs).length := (sorted_perm _).length_eq
/-- two ascending lists with the same members are the same -/
theorem asc_ext {xs ys : List Int} (h1 : xs.Pairwise (· < ·)) (h2 : ys.Pairwise (· < ·)) (h : ∀ z, z ∈ xs ↔ z ∈ ys) : xs = ys :=
  perm_sorted_eq ((List.perm_ext_iff_of_nodup (nodup_of_lt h1) (nodup_of_lt h2)).mpr h) (h1.imp Int.le_of_lt) (h2.imp Int.le_of_lt)
theorem asSet_of {xs ys : List Int} (h1 : ys.Pairwise (· < ·)) (h : ∀ z, z ∈ ys ↔ z ∈ xs) : ys = asSet xs := asc_ext h1 (asSet_pw xs) fun z => (h z).trans mem_asSet.symm

theorem setR_count {w : World} {h : Heap} {a : Addr} {ns : List Int} {c : Nat} (R : SetR w h a (fun j => decide (j ∈ ns)) c) : c = (uniq ns).length := by
  obtain ⟨o, es, ep, t, _, _, _, _, nd, hm, _, _, hn, _⟩ := R
  rw [← hn, ← Array.length_toList, ← List.length_map (f := keyOf)]
  refine nodup_len_eq nd (uniq_nodup ns) fun z => ?_
  rw [← hm z, mem_uniq, decide_eq_true_eq]
/-! ### set(..) -/
def rSetL (K : PySem.W.Frag) (w : World) : List V → Hp → VK → Prop := fun vs H Q => ∃ (a : Addr) (ns : List Int), vs = [V.ref a] ∧ SqL K H a (ns.map V.int) ∧ ns.length + 1 < scanBound ∧
  ∀ p, H p = none → Q (.ref p) (upd H p (SetO w p (fun j => decide (j ∈ ns)) (uniq ns).length))
def rSetT (K : PySem.W.Frag) (w : World) : List V → Hp → VK → Prop := fun vs H Q => ∃ (a : Addr) (ns : List Int), vs = [V.ref a] ∧ SqT K H a (ns.map V.int) ∧ ns.length + 1 < scanBound ∧
  ∀ p, H p = none → Q (.ref p) (upd H p (SetO w p (fun j => decide (j ∈ ns)) (uniq ns).length))
section
variable {X : Cx}
theorem cr_setL (hc : X.calm = true) : CallR X (.type "set") (rSetL X.K X.w) := by
  intro pins s σ H vs us Q I r h
  obtain ⟨a, ns, rfl, hs, hb, q⟩ := h
  have r := Vals.ref1 r
  subst r
  obtain ⟨its, rv, hl, _⟩ := I.list hs
  refine call_set_by (R := fun h' => ∃ c, c ≤ ns.length ∧ SetR X.w h' s.heap.objs.size (fun j => decide (j ∈ ns)) c) (fun A' hA => update_list (items := its.toArray) ns (hA.trans (I.ok.hd hc)) hl.isList (intsAre_of rv) hb) fun h' tk ⟨c, _, R⟩ hk => ?_
  have e := setR_count R
  subst e
  exact ⟨.ref s.heap.objs.size, _, I.laid (t' := tk) hk (Nat.le_refl _) (setO_new R), rfl, q _ (I.hok.fresh (Nat.le_refl _))⟩
theorem cr_setT (hc : X.calm = true) : CallR X (.type "set") (rSetT X.K X.w) := by
  intro pins s σ H vs us Q I r h
  obtain ⟨a, ns, rfl, hs, hb, q⟩ := h
  have r := Vals.ref1 r
  subst r
  obtain ⟨its, rv, hl, _⟩ := I.tuple hs
  refine call_set_tupI (items := its.toArray) ns (I.ok.hd hc) hl (intsAre_of rv) hb fun h' tk c R _ hk => ?_
  have e := setR_count R
  subst e
  exact ⟨.ref s.heap.objs.size, _, I.laid (t' := tk) hk (Nat.le_refl _) (setO_new R), rfl, q _ (I.hok.fresh (Nat.le_refl _))⟩
def rLenSet (w : World) : List V → Hp → VK → Prop := fun vs H Q => ∃ (a : Addr) (S : Int → Bool) (n : Nat), vs = [V.ref a] ∧ H a = some (SetO w a S n) ∧ Q (.int n) H
theorem cr_lenSet : CallR X (.builtin "len") (rLenSet X.w) := by
  intro pins s σ H vs us Q I r h
  obtain ⟨a, S, n, rfl, ha, q⟩ := h
  have r := Vals.ref1 r
  subst r
  obtain ⟨o, es, ep, t, ho, hex, hd, _, _, _, hb, hf, hn, _⟩ := setO_get I ha
  refine call_len_set ho hex hd hf (by unfold scanBound at hb; omega) ⟨.int n, H, I.tok _, ⟨_, by rw [hn]⟩, q⟩
/-- the value of e, frozen: from now on it is only read -/
def tFreeze (te : TE) : TE := fun σ H Q => te σ H fun v H1 => ∃ d u, v = .ref d ∧ H1 d = some u ∧ Mut (some u) ∧ ∀ od, Q v (upd H1 d (.frz od u))
theorem pe_freeze {e : Expr} {te : TE} (h : PE X e te) : PE X e (tFreeze te) := by
  refine ⟨fun pins s σ H Q I hw => ?_⟩
  refine thn (h.run pins s σ H _ I hw) fun v s1 ⟨x, H1, I1, r1, d, u, e1, h1, mu, q⟩ => ?_
  obtain ⟨od, I2⟩ := I1.lock h1 mu
  exact ⟨x, _, I2, r1, q od⟩
end
/-! ### .. as values -/
section
variable {K : PySem.W.Frag} {w : World} {α : Type} {σ : L2.St} {S S' H H' : Hp} {te ta tb : TE}
def aS (w : World) : Rp (List Int) := ⟨fun ns v S => ∃ p, v = .ref p ∧ S p = some (SetO w p (fun j => decide (j ∈ ns)) (uniq ns).length), fun e ⟨p, h1, h2⟩ => ⟨p, h1, e _ _ h2⟩⟩
theorem e_setL {ns : List Int} (h : E ta σ S (aL K aI) ns) (hl : ns.length < 4000) : E (tCB (rSetL K w) (tCons ta tNil)) σ S (aS w) ns := fun H e Q k => h H e _ fun v S1 H1 g ⟨p, vs, e1, hp, h2⟩ => by
  have e2 := h2.ints
  subst e1; subst e2
  refine ⟨p, ns, rfl, ex_l g.i hp, by unfold scanBound; omega, fun l hn => ?_⟩
  exact k (.ref l) _ _ (g.trans (Grow.new g.i hn)) ⟨l, rfl, upd_same⟩
theorem e_setT {ns : List Int} (h : E ta σ S (aT K aI) ns) (hl : ns.length < 4000) : E (tCB (rSetT K w) (tCons ta tNil)) σ S (aS w) ns := fun H e Q k => h H e _ fun v S1 H1 g ⟨p, vs, e1, hp, h2⟩ => by
  have e2 := h2.ints
  subst e1; subst e2
  refine ⟨p, ns, rfl, ex_t g.i hp, by unfold scanBound; omega, fun l hn => ?_⟩
  exact k (.ref l) _ _ (g.trans (Grow.new g.i hn)) ⟨l, rfl, upd_same⟩
theorem e_lenS {ns : List Int} (h : E ta σ S (aS w) ns) : E (tCB (rLenSet w) (tCons ta tNil)) σ S aI ((asSet ns).length : Int) := .of_int fun H e Q k => h H e _ fun v S1 H1 g ⟨p, e1, hp⟩ => by
  subst e1
  refine ⟨p, _, _, rfl, g.i _ _ hp, ?_⟩
  rw [← asSet_len]; exact k H1 g.h
theorem e_sortedS {ns : List Int} (h : E ta σ S (aS w) ns) (hl : (asSet ns).length < 64) : E (tCB (rSortedSet w) (tCons ta tNil)) σ S (aL K aI) (asSet ns) := fun H e Q k => h H e _ fun v S1 H1 g ⟨p, e1, hp⟩ => by
  subst e1
  rw [asSet_len] at hl
  refine ⟨p, _, _, rfl, g.i _ _ hp, hl, fun out l h1 h2 _ hn => ?_⟩
  have e3 := asSet_of (xs := ns) h1 fun z => by rw [h2 z, decide_eq_true_eq]
  subst e3
  have g2 := Grow.new (o := .lst ((asSet ns).map V.int)) g.i hn
  exact k (.ref l) _ _ (g.trans g2) ⟨l, _, rfl, sq_of upd_same, All2.of_ints _⟩
end
end EL

/-! EL9: a def of the text, called by its name; a def that changes nothing that stood. -/
namespace EL
open PySem PySem.Spec PyProof.Rows L2 Evl
structure Callable (P : Program) (w : World) (K : PySem.W.Frag) (mg : Str → Option Value) (base : Heap) (x : Str) (ps : List Str) (sp : Sp) (k : Nat) : Prop where
  ex : ∃ (f : Addr) (fd : FuncData), mg x = some (.ref f) ∧ FnOk P w K mg base CX0 k f fd ps sp ∧ PySem.W.keepIn K (.ref f) = true ∧ Binds K fd ps []
/-- the def st stands at the name x -/
structure At (K : PySem.W.Frag) (mg : Str → Option Value) (x : Str) (st : Stmt) (ps : List Str) : Prop where
  ex : ∃ (f : Addr) (fd : FuncData), mg x = some (.ref f) ∧ FunD K x x (defArgs st) (defBody st) (defScope st) [] [] f fd ∧ Binds K fd ps []
section
variable {P : Program} {w : World} {K : PySem.W.Frag} {mg : Str → Option Value} {base : Heap} {k : Nat} {ps : List Str} {sp : Sp}
theorem Callable.mono {j : Nat} {x : Str} (C : Callable P w K mg base x ps sp j) (h : j ≤ k) : Callable P w K mg base x ps sp k := by
  obtain ⟨f, fd, h1, h2, h3, h4⟩ := C.ex
  exact ⟨f, fd, h1, h2.mono h, h3, h4⟩
theorem pe_fn {X : Cx} {x : Str} {e : Expr} {es : List Expr} {t : TA} {p pos : Pos} (C : Callable X.prog X.w X.K X.mg X.base x ps sp k) (hr : Room k X.A) (hg : Gl X x) (ha : PA X (e :: es) t)
    (hs : starEach (e :: es) X.env = (false, eval e X.env) :: starEach es X.env := by rfl) (hpl : (backTo pos (starEach es X.env)).any (·.1) = false := by rfl) (hd : (x == ("__debug__" : Str)) = false := by decide) :
    PE X (.Call (.Name x p) (e :: es) [] pos) (tCall sp [] E0 t) := by
  obtain ⟨f, fd, h1, h2, h3, h4⟩ := C.ex
  exact pe_call h2 hr hg h1 h3 h4 .nil pass0 ha hd hs hpl
theorem pe_fn0 {X : Cx} {x : Str} {p pos : Pos} (C : Callable X.prog X.w X.K X.mg X.base x ps sp k) (hr : Room k X.A) (hg : Gl X x) (hd : (x == ("__debug__" : Str)) = false := by decide) : PE X (.Call (.Name x p) [] [] pos) (tCall sp [] E0 tNil) := by
  obtain ⟨f, fd, h1, h2, h3, h4⟩ := C.ex
  exact pe_call0 h2 hr hg h1 h3 h4 .nil pass0 hd
/-- a def by its body -/
theorem At.fn {x : Str} {st : Stmt} {N : List Str} (F : At K mg x st ps) (Sc : FnScope N ps (defScope st)) (hlen : ∀ vs H Q E, sp vs H Q E → vs.length = ps.length)
    (hbody : ∀ (f : Addr) (cdv : Value) (A : Around) (outer : List Env) (s : Shared) (H0 : Hp) (E : XK), Room k (A.deeper (envOfC x (defScope st) s.heap.objs.size f cdv)) →
      ∃ t, PSs (cxOf CX0 P w K mg base N x (defScope st) f cdv A outer s H0 E).nox (defBody st) t ∧ ∀ vs H Q E', sp vs H Q E' → t { nx := fun _ H' => Q .non H', rt := Q } (L2.start N vs) H) : Callable P w K mg base x ps sp (k + 1) := by
  obtain ⟨f, fd, h1, F, hb⟩ := F.ex
  refine ⟨f, fd, h1, F.ok Sc hlen fun cdv A outer s H vs Q E hr h => ?_, F.kp, hb⟩
  obtain ⟨t, ht, hw⟩ := hbody f cdv A outer s H E hr
  exact ⟨t, PSs.nox ht, hw vs H Q E h⟩
theorem At.pure {A : Type} {γ : Type} {x : Str} {st : Stmt} {N : List Str} {fa : A → Ra} {pre : A → Prop} {r : Rp γ} {fn : A → γ} (F : At K mg x st ps) (Sc : FnScope N ps (defScope st)) (hlen : ∀ a vs S, (fa a).P vs S → vs.length = ps.length)
    (hbody : ∀ (f : Addr) (cdv : Value) (A' : Around) (outer : List Env) (s : Shared) (H0 : Hp) (E : XK), Room k (A'.deeper (envOfC x (defScope st) s.heap.objs.size f cdv)) →
      ∃ t, PSs (cxOf CX0 P w K mg base N x (defScope st) f cdv A' outer s H0 E).nox (defBody st) t ∧ ∀ a vs S, (fa a).P vs S → pre a → Sx t (L2.start N vs) S (Ret r (fn a))) : Callable P w K mg base x ps (spec fa pre r fn) (k + 1) := by
  refine F.fn Sc (fun vs H Q E ⟨S, a, h, _⟩ => hlen a vs S h) fun f cdv A' outer s H0 E hr => ?_
  obtain ⟨t, ht, hw⟩ := hbody f cdv A' outer s H0 E hr
  refine ⟨t, ht, fun vs H Q E' ⟨S, a, h1, h2, h3, h4⟩ => ?_⟩
  exact hw a vs S h1 h3 H _ h2 (fun σ' S' H' g h => h4 .non S' H' g h) (fun v S' H' g h => h4 v S' H' g h) (fun _ _ _ _ h => h.elim) (fun _ _ _ _ h => h.elim)
end
section
variable {α β γ δ : Type} {r : Rp α} {q : Rp β} {q3 : Rp γ} {q4 : Rp δ} {a : α} {b : β} {c : γ} {d : δ} {vs : List V} {S : Hp}
theorem arg0 (h : aNil.P vs S) : vs = [] := h
theorem arg3 (h : (aCons r a (aCons q b (aCons q3 c aNil))).P vs S) : ∃ v w x, vs = [v, w, x] ∧ r.r a v S ∧ q.r b w S ∧ q3.r c x S := by
  obtain ⟨v, ws, rfl, h1, h2⟩ := h
  obtain ⟨w, x, rfl, h3, h4⟩ := arg2 h2
  exact ⟨v, w, x, rfl, h1, h3, h4⟩
theorem arg4 (h : (aCons r a (aCons q b (aCons q3 c (aCons q4 d aNil)))).P vs S) : ∃ v w x y, vs = [v, w, x, y] ∧ r.r a v S ∧ q.r b w S ∧ q3.r c x S ∧ q4.r d y S := by
  obtain ⟨v, ws, rfl, h1, h2⟩ := h
  obtain ⟨w, x, y, rfl, h3, h4, h5⟩ := arg3 h2
  exact ⟨v, w, x, y, rfl, h1, h3, h4, h5⟩
theorem len1 (h : (aCons r a aNil).P vs S) : vs.length = 1 := by obtain ⟨v, rfl, _⟩ := arg1 h; rfl
theorem len2 (h : (aCons r a (aCons q b aNil)).P vs S) : vs.length = 2 := by obtain ⟨v, w, rfl, _⟩ := arg2 h; rfl
theorem len3 (h : (aCons r a (aCons q b (aCons q3 c aNil))).P vs S) : vs.length = 3 := by obtain ⟨v, w, x, rfl, _⟩ := arg3 h; rfl
theorem len4 (h : (aCons r a (aCons q b (aCons q3 c (aCons q4 d aNil)))).P vs S) : vs.length = 4 := by obtain ⟨v, w, x, y, rfl, _⟩ := arg4 h; rfl
variable {K : PySem.W.Frag} {σ : L2.St} {te ta tb : TE} {tt : TT}
theorem e_ifV {z : Bool} {a' : α} (h : ET tt σ S z) (h1 : z = true → E ta σ S r a) (h2 : z = false → E tb σ S r a') : E (tIf tt ta tb) σ S r (if z = true then a else a') :=
  e_if h (fun e => by rw [if_pos e]; exact h1 e) fun e => by rw [if_neg (by rw [e]; decide)]; exact h2 e
theorem e_ixTd {xs : List α} {i : Int} {d : α} (h : E ta σ S (aT K r) xs) (hi : E tb σ S aI i) (hx : (atI xs i).isSome = true) : E (tOp (rIxT K) ta tb) σ S r ((atI xs i).getD d) := e_ixT h hi (by
  obtain ⟨y, hy⟩ := Option.isSome_iff_exists.mp hx
  rw [hy]; rfl)
theorem e_ixLd {xs : List α} {i : Int} {d : α} (h : E ta σ S (aL K r) xs) (hi : E tb σ S aI i) (hx : (atI xs i).isSome = true) : E (tOp (rIxL K) ta tb) σ S r ((atI xs i).getD d) := e_ixL h hi (by
  obtain ⟨y, hy⟩ := Option.isSome_iff_exists.mp hx
  rw [hy]; rfl)
end
end EL

namespace EL
open PySem PySem.Spec PySem.Calls PyProof.Rows PyProof.V L2 Evl
section
variable {α β γ : Type} {r : Rp α} {q : Rp β} {rr : Rp γ} {a : α} {b : β} {c c' : γ} {S : Hp} {K : PySem.W.Frag} {σ : L2.St} {te ta tb : TE} {tt : TT} {t u : TS}
theorem cut_len (xs : List α) (lo hi : Option Int) : (cut xs lo hi).length ≤ xs.length := by
  unfold cut
  rw [List.length_take, List.length_drop]; omega
/-- if test: return a; the rest returns c -/
theorem sq_ifretV {z : Bool} (h : ET tt σ S z) (h1 : z = true → Sx t σ S { nx := fun _ _ => False, rt := fun v S => rr.r c v S }) (k : z = false → Sx u σ S (Ret rr c')) : Sx (tSeq (tIfS tt t tNext) u) σ S (Ret rr (if z = true then c else c')) := by
  cases z with
  | true => exact sq_ifret h (fun _ => (h1 rfl).imp (fun _ _ _ h => h) (fun _ _ _ h => h) (fun _ _ _ h => h) (fun _ _ _ h => h)) fun e => nomatch e
  | false => exact sq_ifret h (fun e => nomatch e) fun _ => k rfl
/-- t + u of tuples -/
theorem e_catT {xs ys : List α} (h : E ta σ S (aT K r) xs) (h' : E tb σ S (aT K r) ys) (hx : xs ≠ [] ∧ xs.length + ys.length ≤ 100000) : E (tOp (rCatT K) ta tb) σ S (aT K r) (xs ++ ys) := fun H e Q k => h H e _ fun v S1 H1 g ⟨p, us, e1, hp, h2⟩ => (h'.mono g.s) H1 g.i _ fun w' S2 H2 g2 ⟨p', us', e2, hp', h2'⟩ => by
  subst e1; subst e2
  have g3 := g.trans g2
  have l1 := h2.len
  have l2 := h2'.len
  refine ⟨p, p', us, us', rfl, rfl, ex_t (g2.s.trans g2.i) hp, ex_t g2.i hp', fun z => ?_, by rw [sizeLine_eq]; omega, fun z => ?_, fun z l hn => ?_⟩
  · rw [z] at l1; exact hx.1 (List.length_eq_zero_iff.mp l1)
  · have : ys = [] := List.length_eq_zero_iff.mp (by rw [l2, z]; rfl)
    subst this
    refine k _ S2 H2 g3 ⟨p, us, rfl, ex_t g2.s hp, ?_⟩
    rw [List.append_nil]; exact h2.mono g2.s
  · have g4 := Grow.new (o := .tup (us ++ us')) g3.i hn
    exact k (.ref l) _ _ (g3.trans g4) ⟨l, _, rfl, st_of upd_same, (h2.mono (g2.s.trans g4.s)).append (h2'.mono g4.s)⟩
end
section
variable {X : Cx}
/-- sum(t) of a tuple of ints -/
def rSumT (K : PySem.W.Frag) : List V → Hp → VK → Prop := fun vs H Q => ∃ (a : Addr) (ns : List Int), vs = [V.ref a] ∧ SqT K H a (ns.map V.int) ∧ Q (.int ns.sum) H
theorem cr_sumT (hc : X.calm = true) : CallR X (.builtin "sum") (rSumT X.K) := by
  intro pins s σ H vs us Q I r h
  obtain ⟨a, ns, rfl, hs, q⟩ := h
  obtain ⟨its, rv, hl, _⟩ := I.tuple hs
  rw [Vals.ref1 r]
  have hi := rv.ints
  obtain ⟨xs, e⟩ := hi.allInts.items
  have hn : numsOf (intItems xs).toList = ns := by rw [← e]; exact hi.numsOf
  rw [nums_intItems] at hn
  have hl' : s.heap.IsTuple a its.toArray := hl
  rw [e] at hl'
  refine PySem.W.ktm_sumG (I.ok.hd hc) hl' fun h' tk t' hk => ?_
  rw [preSum_eq, List.take_of_length_le (by simp), hn]
  exact ⟨.int ns.sum, H, I.kept (t' := tk) hk, ⟨_, rfl⟩, q⟩
end
section
variable {K : PySem.W.Frag} {σ : L2.St} {S : Hp} {ta : TE}
theorem e_sumT {ns : List Int} (h : E ta σ S (aT K aI) ns) : E (tCB (rSumT K) (tCons ta tNil)) σ S aI ns.sum := .of_int fun H e Q k => h H e _ fun v S1 H1 g ⟨p, vs, e1, hl, h2⟩ => by
  have e2 := h2.ints
  subst e1; subst e2
  exact ⟨p, ns, rfl, ex_t g.i hl, k H1 g.h⟩
end
end EL
namespace EL
open PySem PySem.Spec PyProof.Rows L2 Evl RZ
/-! ### the same rules, the written part named (within a comprehension's block the reading must not speak of the block) -/
abbrev rTupOf (K : PySem.W.Frag) : List V → Hp → VK → Prop := fun xs H Q => ∃ p ys, xs = [.ref p] ∧ ((SqL K H p ys ∧ ∀ l, H l = none → Q (.ref l) (upd H l (.tup ys))) ∨ (SqT K H p ys ∧ Q (.ref p) H))
abbrev rLstOf (K : PySem.W.Frag) : List V → Hp → VK → Prop := fun xs H Q => ∃ p ys, xs = [.ref p] ∧ (SqL K H p ys ∨ SqT K H p ys) ∧ ∀ l, H l = none → Q (.ref l) (upd H l (.lst ys))
section
variable {X : Cx} {K : PySem.W.Frag} {tg l e e2 : Expr} {tl : TE} {ta : TA} {p pos tpos : Pos} {elts : List Expr} {kk : Nat}
theorem pe_const {x : Str} {i : Int} (hg : Gl X x) (hm : ∃ t, X.mg x = some (.int i t)) (hd : (x == ("__debug__" : Str)) = false := by decide) : PE X (.Name x pos) (tC (.int i)) := by
  obtain ⟨t, h⟩ := hm
  exact pe_glob hg h ⟨t, rfl⟩ hd
theorem pi_tupK (hK : X.K = K) (hl : PE X l tl) : PI X tg l (iTup K tl) := hK ▸ pi_tup hl
theorem pi_listK (hK : X.K = K) (hl : PE X l tl) : PI X tg l (iList K tl) := hK ▸ pi_list hl
theorem pi_zipK (hK : X.K = K) (hg : Gl X "zip") (hm : X.mg "zip" = none) (ha : PA X [e, e2] ta) (hs : starEach [e, e2] X.env = (false, eval e X.env) :: starEach [e2] X.env := by rfl) (hpl : (backTo pos (starEach [e2] X.env)).any (·.1) = false := by rfl) :
    PI X (.Tuple elts kk tpos) (.Call (.Name "zip" p) [e, e2] [] pos) (iZipA K ta) := hK ▸ pi_zipA hg hm ha hs hpl
theorem pi_enumK (hK : X.K = K) (hg : Gl X "enumerate") (hm : X.mg "enumerate" = none) (ha : PA X [e] ta) (hs : starEach [e] X.env = [(false, eval e X.env)] := by rfl) :
    PI X (.Tuple elts kk tpos) (.Call (.Name "enumerate" p) [e] [] pos) (iEnum K ta) := hK ▸ pi_enum hg hm ha hs
theorem pi_enumTK (hK : X.K = K) (hg : Gl X "enumerate") (hm : X.mg "enumerate" = none) (ha : PA X [e] ta) (hs : starEach [e] X.env = [(false, eval e X.env)] := by rfl) :
    PI X (.Tuple elts kk tpos) (.Call (.Name "enumerate" p) [e] [] pos) (iEnumT K ta) := hK ▸ pi_enumT hg hm ha hs
theorem pg_tupK {es : List Expr} {k : Nat} {t : TGs} {n : Nat} (hK : X.K = K) (hc : X.calm = true) (h : PGs X es t)
    (hn : (assignEach es X.env).length = n := by rfl) (hst : (assignEach es X.env).findIdx? (·.1) = none := by rfl) : PG X (.Tuple es k pos) (gTup K n t) := hK ▸ pg_tup hc h hn hst
end
end EL

/-! EL11: set(dict of whole numbers). -/
namespace EL
open PySem PySem.Spec PyProof.Rows L2
theorem sizeAbove_go (n : Nat) : ∀ f size, SetTable.sizeAbove.go n f size ≤ max size (2 * n)
  | 0, size => by unfold SetTable.sizeAbove.go; omega
  | f + 1, size => by
    unfold SetTable.sizeAbove.go
    split
    · have := sizeAbove_go n f (size * 2); omega
    · omega
theorem sizeAbove_le (n : Nat) : SetTable.sizeAbove n ≤ max 8 (2 * n) := sizeAbove_go n 64 8
theorem relaid_nil (t : SetTable) (wanted : Nat) : t.relaid #[] wanted = some ({ mask := SetTable.sizeAbove wanted - 1, place := #[], dummies := #[], finger := t.finger, led := t.led, moves := t.movedTo (SetTable.sizeAbove wanted - 1), plain := t.plain }, #[]) := by
  unfold SetTable.relaid SetTable.laid SetTable.layClean
  have e : ((List.range (SetTable.sizeAbove wanted - 1 + 1)).filterMap fun j => ((Array.replicate (SetTable.sizeAbove wanted - 1 + 1) (none : Option Nat)).getD j none).map (j, ·)) = [] := by
    rw [List.filterMap_eq_nil_iff]
    intro j _
    rw [Array.getD_eq_getD_getElem?, Array.getElem?_replicate]
    split <;> rfl
  simp only [Array.foldl_empty, Option.map_some, Option.bind_eq_bind, Option.bind_some, pure]
  rw [e]; rfl
section
variable {P : Program} {w : World} {A : Around} {E0 : Value → Shared → Prop} {s : Shared}
/-- room is made in a new set -/
theorem room_new {A' : Around} {a n : Nat} {Q : Unit → Shared → Prop} (hn : n ≤ 4096) (hS : s.heap.get? a = some (set0 w)) (hQ : ∀ h', Heap.SameBut a s.heap h' → SetR w h' a (fun _ => false) 0 → Q () { s with heap := h' }) :
    wpAny (model P w) A' (setRoomFor a n) Q E0 s := by
  unfold setRoomFor
  refine wpAny_bind (wpAny_setState_of hS rfl (by rfl) ?_)
  have hl : w.params.followText "set-order" = true ∨ (!w.params.followText "set-order") = true := by cases w.params.followText "set-order" <;> first | exact .inl rfl | exact .inr rfl
  have e0 : (SetTable.fresh 0 0 (!w.params.followText "set-order")).roomFor n = if (0 + n) * 5 ≥ 7 * 3 then some ((0 + n) * 2) else none := rfl
  dsimp only
  rw [e0]
  by_cases z : (0 + n) * 5 ≥ 7 * 3
  · rw [if_pos z]
    dsimp only
    have hsz : ¬ SetTable.sizeAbove ((0 + n) * 2) > sizeLine := by
      have := sizeAbove_le ((0 + n) * 2)
      rw [sizeLine_eq]; omega
    rw [setRelay_eq]
    refine wpAny_bind (wpAny_setState_of hS rfl (by rfl) ?_)
    dsimp only
    rw [if_neg hsz]
    refine wpAny_bind ?_
    have er : (Array.map (fun x => x.fst) (#[] : Array (Int × Value))) = #[] := by simp
    rw [er, relaid_nil]
    have ef : ((#[] : Array Nat).filterMap fun x => (#[] : Array (Int × Value))[x]?) = #[] := by simp
    dsimp only
    rw [ef, if_neg (by simp)]
    refine wpAny_pure ?_
    dsimp only
    refine wpAny_storeSet_of hS rfl ?_ (fits_of_scanBound (by decide))
    refine hQ _ (Heap.SameBut.update ..) ?_
    exact ⟨_, #[], _, _, store_at hS rfl, ⟨rfl, rfl, rfl⟩, rfl, fun e he => by simp at he, by simp, fun k => by simp, by decide, by simp [SetTable.fits, SetTable.fill], rfl, List.Pairwise.nil, hl⟩
  · rw [if_neg z]
    exact wpAny_pure (hQ s.heap (Heap.SameBut.refl a s.heap) ⟨_, #[], 0, _, hS, ⟨rfl, rfl, rfl⟩, rfl, fun e he => by simp at he, by simp, fun k => by simp, by decide, by rfl, rfl, List.Pairwise.nil, hl⟩)
theorem update_dict {A' : Around} {d : Addr} {vs : List (Key × Value)} (ns : List Int) (hh : A'.handled = none) (hlo : (d == sysModules) = false) (dd : s.heap.DictOf (mixKind P w) d vs) (hk : vs.map (·.1) = ns.map Sum.inl) (hb : ns.length + 1 < scanBound) :
    wpAny (model P w) A' (Builtin.Frozenset.updateFrom "set.__init__" s.heap.objs.size (.ref d))
      (fun _ s2 => ∃ h' tk, s2 = { s with heap := h', toks := tk } ∧ (∃ c, c ≤ ns.length ∧ SetR w h' s.heap.objs.size (fun j => decide (j ∈ ns)) c) ∧ ∀ b o, s.heap.get? b = some o → h'.get? b = some o) E0 { s with heap := s.heap.push (set0 w) } := by
  have hS : (s.heap.push (set0 w)).get? s.heap.objs.size = some (set0 w) := Heap.get?_push_size _ rfl
  obtain ⟨o, es, ep, ho, hex, hdat, hko, hpr, hnd⟩ := id dd
  have hdlt : d < s.heap.objs.size := Heap.lt_size ho
  have ho1 : (s.heap.push (set0 w)).get? d = some o := Heap.get?_push_of_some _ ho
  obtain ⟨ocls, odict, odata, oslots⟩ := o
  obtain ⟨hcl, hdi, hsl⟩ := hex
  simp only at hcl hdi hdat hsl
  subst hcl; subst hdi; subst hdat; subst hsl
  have hsls : isSubtype (Value.type "dict") (Value.type "set") = pure false := by kernel_rfl
  have hslf : isSubtype (Value.type "dict") (Value.type "frozenset") = pure false := by kernel_rfl
  unfold Builtin.Frozenset.updateFrom
  generalize hRF : setRoomFor = RF
  generalize hAH : setAddHashed = AH
  wp_walk
  subst hRF
  subst hAH
  have hlenN : es.size = ns.length := by
    have q := hpr.length
    rw [Array.length_toList] at q
    have q2 := congrArg List.length hk
    rw [List.length_map, List.length_map] at q2
    omega
  have hent : ∀ (i : Nat) (e : DictEntry), es[i]? = some e → ∃ k tk, ns[i]? = some k ∧ e.key = Value.int k tk ∧ e.hash = (intKind P w).hash k := fun i e he => by
    have hi : i < es.size := (Array.getElem?_eq_some_iff.mp he).1
    have hi2 : i < ns.length := by rw [← hlenN]; exact hi
    have hv : ∃ kv, vs[i]? = some kv ∧ (mixKind P w).is kv.1 e.key = true := by
      have gen : ∀ (l : List DictEntry) (m : List (Key × Value)), Pairs (mixKind P w) l m → ∀ (i : Nat) (e : DictEntry), l[i]? = some e → ∃ kv, m[i]? = some kv ∧ (mixKind P w).is kv.1 e.key = true := by
        intro l m hp
        induction hp with
        | nil => intro i e z; simp at z
        | cons h1 h2 _ ih =>
          intro i e z
          cases i with
          | zero =>
            rw [List.getElem?_cons_zero] at z
            cases z
            exact ⟨_, rfl, h1⟩
          | succ i => exact ih i e (by simpa using z)
      exact gen _ _ hpr i e (by rw [Array.getElem?_toList]; exact he)
    obtain ⟨kv, h1, h2⟩ := hv
    have h3 : kv.1 = Sum.inl ns[i] := by
      have q := congrArg (fun l => l[i]?) hk
      simp only [List.getElem?_map, h1, List.getElem?_eq_getElem hi2, Option.map_some] at q
      exact Option.some.inj q
    rw [h3] at h2
    obtain ⟨tk, hkey⟩ := Value.isInt_shape (k := ns[i]) (v := e.key) h2
    obtain ⟨k', hk1, hk2⟩ := hko e (Array.mem_of_getElem? he)
    have : k' = Sum.inl ns[i] := (mixKind P w).inj _ _ _ hk1 h2
    subst this
    exact ⟨ns[i], tk, List.getElem?_eq_getElem hi2, hkey, hk2⟩
  refine room_new (by rw [hlenN]; unfold scanBound at hb; omega) hS fun h1 sb1 R1 => ?_
  have hdne : d ≠ s.heap.objs.size := Nat.ne_of_lt hdlt
  have ho2 : h1.get? d = some { cls := Value.type "dict", data := Data.dict es ep } := (sb1.2 d hdne).trans ho1
  refine wpAny_bind (wpAny_dictEntries ho2 rfl ?_)
  refine wpAny_bind ?_
  refine PySem.SeqAt.wpAny_forIn_span 0 es.size _ (fun i _ s' => ∃ h', s' = { s with heap := h' } ∧ Heap.SameBut s.heap.objs.size h1 h' ∧ ∃ c, c ≤ i ∧ SetR w h' s.heap.objs.size (fun j => decide (j ∈ ns.take i)) c) _ ?_ ?_ _ ⟨h1, rfl, Heap.SameBut.refl _ _, 0, Nat.le_refl _, R1.congr fun k => by simp⟩
  · rintro i u s' h0 hi ⟨h', e1, sb, c, hc, R⟩
    subst e1
    have ho3 : h'.get? d = some { cls := Value.type "dict", data := Data.dict es ep } := (sb.2 d hdne).trans ho2
    refine wpAny_bind (wpAny_dictEntries ho3 rfl ?_)
    have he : es[i]? = some es[i] := by simp [hi]
    rw [he]
    dsimp only
    obtain ⟨k, tk, h2, h3, h4⟩ := hent i _ he
    rw [h3, h4]
    refine wpAny_bind (wpAny_holding ?_)
    refine setR_add_hashed R (by rw [hlenN] at hi; omega) fun h'' sb2 R2 => ?_
    have ho4 : h''.get? d = some { cls := Value.type "dict", data := Data.dict es ep } := (sb2.2 d hdne).trans ho3
    refine wpAny_bind (wpAny_dictEpoch ho4 rfl ?_)
    rw [if_neg (by simp)]
    refine wpAny_pure ⟨h'', rfl, sb.trans sb2, _, ?_, R2.congr fun j => ?_⟩
    · show (if decide (k ∈ ns.take i) = true then c else c + 1) ≤ i + 1
      split <;> omega
    · rw [List.take_add_one, h2]
      simp [List.mem_append]
  · rintro u s' ⟨h', e1, sb, c, hc, R⟩
    subst e1
    refine wpAny_pure ⟨h', s.toks, rfl, ⟨c, ?_, ?_⟩, fun b o z => ?_⟩
    · rw [Nat.zero_max, hlenN] at hc; exact hc
    · rw [Nat.zero_max, hlenN, List.take_length] at R; exact R
    · have hb0 : b ≠ s.heap.objs.size := Nat.ne_of_lt (Heap.lt_size z)
      exact (sb.2 b hb0).trans ((sb1.2 b hb0).trans (Heap.get?_push_of_some _ z))
end
end EL

/-! EL12: {k: v for .. in .. for .. in ..}: two clauses without tests (the road of the list's two clauses, gone for a dict). -/
namespace EL
open PySem PySem.Spec PyProof.Rows L2
section
variable {kx vx t0 i0 t1 i1 : Expr} {scope : Scope} {pos : Pos}
/-- the comprehension -/
abbrev dcx (kx vx t0 i0 t1 i1 : Expr) (scope : Scope) (pos : Pos) : Expr := .DictComp kx vx [⟨t0, i0, [], 0⟩, ⟨t1, i1, [], 0⟩] scope pos
theorem dcx_turn0 (it acc : Value) (env : Env) : compTurn (dcx kx vx t0 i0 t1 i1 scope pos) 0 it acc env = (do
    standAt i0.pos
    match ← pyNext it with
    | none => pure (.done .next)
    | some v =>
      letOwnedTupleGo t0 it v
      assign t0 env v
      let x ← eval i1 env
      standAt i1.pos
      let x ← foldedSetIterable i1 env x
      let _ ← runOwn (.compStart (dcx kx vx t0 i0 t1 i1 scope pos) 1 (← holding [x] (pyIter x)) acc env) env
      again (.compLoop (dcx kx vx t0 i0 t1 i1 scope pos) 0 it acc env)) := by rfl
theorem dcx_turn1 (it : Value) (D : Addr) (env : Env) : compTurn (dcx kx vx t0 i0 t1 i1 scope pos) 1 it (.ref D) env = (do
    standAt i1.pos
    match ← pyNext it with
    | none => pure (.done .next)
    | some v =>
      letOwnedTupleGo t1 it v
      assign t1 env v
      (do
        let kv ← eval kx env
        let vv ← holding [kv] (eval vx env)
        standAt { kx.pos with endLine := vx.pos.endLine, endCol := vx.pos.endCol }
        holding [kv, vv] (dictSet D kv vv))
      again (.compLoop (dcx kx vx t0 i0 t1 i1 scope pos) 1 it (.ref D) env)) := by rfl
end
section
variable {prog : Program} {w : World} {A : Around} {R : Result → Shared → Prop} {s : Shared} {kx vx t0 i0 t1 i1 : Expr} {scope : Scope} {pos : Pos} {it acc : Value} {env : Env} {D : Addr}
/-- what a turn that raises would tell -/
abbrev nb (prog : Program) (w : World) (A : Around) (env : Env) (R : Result → Shared → Prop) : Value → Shared → Prop := notedBy (model prog w) A env fun e s' => R (.error e) s'
theorem dcx_loop0 (hs : ∀ x, foldedSetIterable i1 env x = pure x) (I : Nat → Shared → Prop)
    (turn : ∀ n s, I n s → wpAny (model prog w) A (pyNext it) (fun r s1 => match r with
      | none => R (.ok .next) s1
      | some v => wpAny (model prog w) A (letOwnedTupleGo t0 it v) (fun _ s2 => wpAny (model prog w) A (assign t0 env v) (fun _ s3 =>
          wpAny (model prog w) A (eval i1 env) (fun x s4 => wpAny (model prog w) A (pyIter x) (fun it1 s5 =>
              codeAny (model prog w) A (.compStart (dcx kx vx t0 i0 t1 i1 scope pos) 1 it1 acc env) (fun r s' => match r with
                | .ok _ => ∃ m, m < n ∧ I m s'
                | .error _ => False) s5) (nb prog w A env R) s4) (nb prog w A env R) s3) (nb prog w A env R) s2) (nb prog w A env R) s1) (nb prog w A env R) s)
    (n : Nat) (h : I n s) : codeAny (model prog w) A (.compLoop (dcx kx vx t0 i0 t1 i1 scope pos) 0 it acc env) R s := by
  refine codeAny_loop rfl I (fun n s hI => ?_) n h
  show wpAny _ A ((compTurn (dcx kx vx t0 i0 t1 i1 scope pos) 0 it acc env).onRaise (fun x => do noteFrame x env; theTreesLotGoes x)) _ _ s
  refine wpAny_noted ?_
  rw [dcx_turn0]
  refine wpAny_bind (wpAny_standAt (wpAny_bind (thn (turn n s hI) fun r s1 h1 => ?_)))
  cases r with
  | none => exact wpAny_pure h1
  | some v =>
    refine wpAny_bind (thn h1 fun _ s2 h2 => wpAny_bind (thn h2 fun _ s3 h3 => wpAny_bind (thn h3 fun x s4 h4 => ?_)))
    refine wpAny_bind (wpAny_standAt (wpAny_bind (wpAny_of_eq (hs x) (wpAny_bind (wpAny_holding (thn h4 fun it1 s5 h5 => ?_))))))
    refine wpAny_bind (wpAny_runOwn ?_)
    rw [Around.mark_none]
    refine codeAny_mono h5 fun r s' hr => ?_
    cases r with
    | ok f => first | exact wpAny_pure ⟨rfl, hr⟩ | exact wpAny_bind (wpAny_pure (wpAny_pure ⟨rfl, hr⟩))
    | error e => exact hr.elim
theorem dcx_loop1 (I : Nat → Shared → Prop)
    (turn : ∀ n s, I n s → wpAny (model prog w) A (pyNext it) (fun r s1 => match r with
      | none => R (.ok .next) s1
      | some v => wpAny (model prog w) A (letOwnedTupleGo t1 it v) (fun _ s2 => wpAny (model prog w) A (assign t1 env v) (fun _ s3 =>
          wpAny (model prog w) A (eval kx env) (fun kv s4 => wpAny (model prog w) A (eval vx env) (fun vv s5 =>
              wpAny (model prog w) A (dictSet D kv vv) (fun _ s6 => ∃ m, m < n ∧ I m s6) (nb prog w A env R) s5) (nb prog w A env R) s4) (nb prog w A env R) s3) (nb prog w A env R) s2) (nb prog w A env R) s1) (nb prog w A env R) s)
    (n : Nat) (h : I n s) : codeAny (model prog w) A (.compLoop (dcx kx vx t0 i0 t1 i1 scope pos) 1 it (.ref D) env) R s := by
  refine codeAny_loop rfl I (fun n s hI => ?_) n h
  show wpAny _ A ((compTurn (dcx kx vx t0 i0 t1 i1 scope pos) 1 it (.ref D) env).onRaise (fun x => do noteFrame x env; theTreesLotGoes x)) _ _ s
  refine wpAny_noted ?_
  rw [dcx_turn1]
  refine wpAny_bind (wpAny_standAt (wpAny_bind (thn (turn n s hI) fun r s1 h1 => ?_)))
  cases r with
  | none => exact wpAny_pure h1
  | some v =>
    refine wpAny_bind (thn h1 fun _ s2 h2 => wpAny_bind (thn h2 fun _ s3 h3 => wpAny_bind (wpAny_bind (thn h3 fun kv s4 h4 => ?_))))
    exact wpAny_bind (wpAny_holding (thn h4 fun vv s5 h5 => wpAny_bind (wpAny_standAt (wpAny_holding (thn h5 fun _ s6 h6 => wpAny_pure ⟨rfl, h6⟩)))))
theorem dcx_start1 (h0 : codeAny (model prog w) A (.compLoop (dcx kx vx t0 i0 t1 i1 scope pos) 1 it acc env) R s)
    (h : wpAny (model prog w) A (pyIter it) (fun it' s' => codeAny (model prog w) A (.compLoop (dcx kx vx t0 i0 t1 i1 scope pos) 1 it' acc env) R s') (nb prog w A env R) s) :
    codeAny (model prog w) A (.compStart (dcx kx vx t0 i0 t1 i1 scope pos) 1 it acc env) R s := by
  refine codeAny_of_tree ?_
  show wpAny _ _ ((compStart (dcx kx vx t0 i0 t1 i1 scope pos) 1 it acc env).onRaise (fun x => do noteFrame x env; standAt theWindowsPlace)) _ _ s
  refine wpAny_notedAt ?_
  unfold compStart
  show wpAny _ _ (ask >>= _) _ _ s
  refine wpAny_bind (wpAny_askSetting (wpAny_ite ?_))
  split
  · first | exact wpAny_bind (wpAny_pure (wpAny_pure ⟨rfl, h0⟩)) | exact wpAny_pure ⟨rfl, h0⟩
  · refine wpAny_bind (wpAny_rule ?_)
    show wpAny _ _ (standAt i1.pos >>= _) _ _ s
    exact wpAny_bind (wpAny_standAt (wpAny_bind (thn h fun it' s' h' => wpAny_pure ⟨rfl, h'⟩)))
end
section
variable {X : Cx}
/-- the reading: D the new dict -/
def tDc2 (wi : TI) (g : TG) (wi1 : TI) (g1 : TG) (tk tv : TE) (vs vs1 : List Nat) : TE := fun σ H Q => wi σ H fun J H1 => ∀ D, H1 D = none → ∃ W : Nat → Nat → Hp → Prop, (∃ m, W 0 m (upd H1 D (.dK []))) ∧ ∀ i m H, W i m H →
  (J.stop i H ∧ Q (.ref D) H) ∨ (J.go i H ∧ ∃ Nx : Hp → Prop, (∀ H', Nx H' → ∃ m', m' < m ∧ W (i + 1) m' H') ∧ ∀ x H', J.yld i H x H' → g x (wipe σ vs) H' fun σ2 H2 => wipe σ2 vs = wipe σ vs ∧
    wi1 σ2 H2 fun J1 H4 => ∃ W1 : Nat → Nat → Hp → Prop, (∃ m, W1 0 m H4) ∧ ∀ j k H, W1 j k H →
      (J1.stop j H ∧ Nx H) ∨ (J1.go j H ∧ ∃ Nx1 : Hp → Prop, (∀ H', Nx1 H' → ∃ k', k' < k ∧ W1 (j + 1) k' H') ∧ ∀ x H', J1.yld j H x H' → g1 x (wipe σ2 vs1) H' fun σ3 H5 => wipe σ3 vs1 = wipe σ2 vs1 ∧
        tk σ3 H5 fun y H6 => tv σ3 H6 fun z H7 => ∃ kvs k, y = kV k ∧ H7 D = some (.dK kvs) ∧ kvs.length < sizeLine ∧ Nx1 (upd H7 D (.dK (putK kvs k z)))))
/-- a state of the block, at the turn n of a loop over (fp, tn, J) with the word W -/
abbrev At0 (X : Cx) (pins : List (Addr × Obj)) (σ : L2.St) (fp : List Addr) (tn : Nat → Heap → Prop) (W : Nat → Nat → Hp → Prop) (n : Nat) (s' : Shared) : Prop :=
  ∃ i H', Inv X pins σ H' s' ∧ tn i s'.heap ∧ (∀ b ∈ fp, H' b = none) ∧ W i n H'
/-- from the state behind a turn (the records pinned) to the state ahead of the next -/
theorem At0.next {P : Program} {w : World} {K : PySem.W.Frag} {tg : Expr} {J : It} {it : Addr} {pins : List (Addr × Obj)} {σ σ' : L2.St} {fp : List Addr} {tn : Nat → Heap → Prop} {W : Nat → Nat → Hp → Prop} {i m : Nat} {h7 : Heap} {s' : Shared} {H' : Hp} (T : Turn P w K tg J fp it tn) (st7 : tn (i + 1) h7)
    (I' : Inv X (pins ++ pinsAt fp h7) σ' H' s') (hl : σ.length = σ'.length) (hk : ∀ (j : Nat) v, σ[j]? = some (some v) → σ'[j]? = some (some v)) (hw : W (i + 1) m H') : At0 X pins σ fp tn W m s' := by
  have pin' : ∀ b ∈ fp, ∀ o, h7.get? b = some o → s'.heap.get? b = some o ∧ H' b = none := fun b hb o e =>
    let z := I'.pin (b, o) (List.mem_append_right _ (List.mem_append_right _ (mem_pinsAt hb e)))
    ⟨z.1, z.2.1⟩
  refine ⟨i + 1, H', I'.unpinned.weak hl hk, T.keep _ _ _ st7 fun b hb o e => (pin' b hb o e).1, fun b hb => ?_, hw⟩
  obtain ⟨o, e, _⟩ := T.obj _ _ st7 b hb
  exact (pin' b hb o e).2
theorem pe_dc2 {kx vx tg iter tg1 iter1 : Expr} {scope : Scope} {own : List (Str × Nat)} {vs1 : List Nat} {pos : Pos} {wi wi1 : TI} {g g1 : TG} {tk tv : TE} (hc : X.calm = true) (hN : X.N.Nodup) (hi : PI X tg iter wi) (ok : BlkOk X.N X.env.scope scope own) (hv : ∀ i ∈ vs1, i ∈ own.map (·.2))
    (hg : ∀ (s : Shared) (H : Hp) (C : Addr) (cl : List (Str × Addr)) (fp : List Addr), PG (X.blk s H scope (compEnvC scope cl C X.env) fp) tg g)
    (hi1 : ∀ (s : Shared) (H : Hp) (C : Addr) (cl : List (Str × Addr)) (fp : List Addr), PI (X.blk s H scope (compEnvC scope cl C X.env) fp) tg1 iter1 wi1)
    (hg1 : ∀ (s : Shared) (H : Hp) (C : Addr) (cl : List (Str × Addr)) (fp : List Addr), PG (X.blk s H scope (compEnvC scope cl C X.env) fp) tg1 g1)
    (hk : ∀ (s : Shared) (H : Hp) (C : Addr) (cl : List (Str × Addr)) (fp : List Addr), PE (X.blk s H scope (compEnvC scope cl C X.env) fp) kx tk)
    (he : ∀ (s : Shared) (H : Hp) (C : Addr) (cl : List (Str × Addr)) (fp : List Addr), PE (X.blk s H scope (compEnvC scope cl C X.env) fp) vx tv)
    (hs : ∀ x, foldedSetIterable iter X.env x = pure x := by intro _; rfl) (hs1 : ∀ env x, foldedSetIterable iter1 env x = pure x := by intro _ _; rfl) :
    PE X (dcx kx vx tg iter tg1 iter1 scope pos) (tDc2 wi g wi1 g1 tk tv (own.map (·.2)) vs1) := by
  refine ⟨fun pins s σ H Q I h => ?_⟩
  rw [arm_eval_DictComp]
  have hfree : ∀ y ∈ scope.names, y.2 = .free → ∃ c, X.env.cells.lookup y.1 = some c := fun y hy e => by
    rcases ok.free y hy e with k | k
    · exact I.ok.has _ (.inl k)
    · exact I.ok.has _ (.inr k)
  refine wpAny_comprehension_free (use := none) rfl hs (closure_ok hfree) ok.kind (fun y hy e => by rw [ok.uniq y hy, e]) (thn (hi.run pins s σ H _ I h) fun xv s1 hx => thn hx fun itv s2 h2 => ?_)
  obtain ⟨it, fp, tn, J, H2, e, I2, T, st2, f2, q⟩ := h2
  subst e
  refine wpAny_newObj_type (newEnv_comp ?_)
  generalize hD : s2.heap.objs.size = D
  have hDn : H2 D = none := I2.hok.fresh (Nat.le_of_eq hD)
  obtain ⟨W, ⟨m0, w0⟩, turn⟩ := q D hDn
  -- the new dict
  generalize hs3 : ({ s2 with heap := s2.heap.push { cls := .type "dict", data := .dict #[] } } : Shared) = s3
  have I3 : Inv X pins σ (upd H2 D (.dK [])) s3 := by
    rw [← hs3]
    refine I2.laid (t' := s2.toks) (fun b o e => Heap.get?_push_of_some _ e) (Nat.le_of_eq hD) ?_
    rw [← hD]; exact dk_empty s2.heap I2.big
  have h3 : s3.heap = s2.heap.push { cls := .type "dict", data := .dict #[] } := by rw [← hs3]
  have f3 : ∀ b ∈ fp, FpOk X pins (upd H2 D (.dK [])) b ∧ b < s3.heap.objs.size := fun b hb => by
    obtain ⟨o, e, _⟩ := T.obj _ _ st2 b hb
    have hlt : b < s2.heap.objs.size := Heap.lt_size e
    refine ⟨⟨?_, (f2 b hb).2⟩, by rw [h3, Heap.size_push]; exact Nat.lt_succ_of_lt hlt⟩
    rw [upd_ne (by rw [← hD]; exact Nat.ne_of_lt hlt)]
    exact (f2 b hb).1
  have st3 : tn 0 s3.heap := T.keep _ _ _ st2 fun b _ o e => by rw [h3]; exact Heap.get?_push_of_some _ e
  have I4 := block_start I3 ok hN f3
  generalize hcl : cellsFrom (s3.heap.objs.size + 1) scope.names (cloFrom X.env.cells scope.names []) = cl at I4
  have pg := hg s3 (upd H2 D (.dK [])) s3.heap.objs.size cl fp
  have pk := hk s3 (upd H2 D (.dK [])) s3.heap.objs.size cl fp
  have pe := he s3 (upd H2 D (.dK [])) s3.heap.objs.size cl fp
  have pi1 := hi1 s3 (upd H2 D (.dK [])) s3.heap.objs.size cl fp
  have pg1 := hg1 s3 (upd H2 D (.dK [])) s3.heap.objs.size cl fp
  show codeAny _ _ (.compStart (dcx kx vx tg iter tg1 iter1 scope pos) 0 (.ref it) (.ref D) (compEnvC scope cl s3.heap.objs.size X.env)) (compPost (model X.prog X.w) X.A X.xe none (fun u s' => EP X pins σ Q u s') (.ref D) s3.heap.objs.size) { s3 with heap := pushCells (s3.heap.push { cls := .type "dict", data := .dict #[] }) scope.names }
  have nfp : ∀ b ∈ fp, (upd H2 D (.dK [])) b = none := fun b hb => (f3 b hb).1.1
  generalize hce : compEnvC scope cl s3.heap.objs.size X.env = ce at I4 pg pk pe pi1 pg1 ⊢
  have cL : ce.locals = s3.heap.objs.size := by subst hce; rfl
  generalize hH3 : upd H2 D (.dK []) = H3 at I3 I4 pg pk pe pi1 pg1 w0 nfp f3
  generalize hs4 : ({ s3 with heap := pushCells (s3.heap.push { cls := .type "dict", data := .dict #[] }) scope.names } : Shared) = s4 at I4 ⊢
  have st4 : tn 0 s4.heap := T.keep _ _ _ st3 fun b _ o e => by rw [← hs4]; exact pushCells_keeps _ _ _ _ (Heap.get?_push_of_some _ e)
  have stat : ∀ {σ' : L2.St} {H' : Hp} {s' : Shared}, Inv (X.blk s3 H3 scope ce fp) [] σ' H' s' → (∀ b ∈ fp, H' b = none) → ∀ b ∈ fp, FpOk (X.blk s3 H3 scope ce fp) [] H' b := fun {σ' H' s'} I' hn b hb =>
    ⟨hn b hb, (I'.ok.exf b hb).1, I'.ok.exfs b hb, .inl hb, fun x c e => (I'.ok.exf b hb).2 x c e, fun p hp => absurd (show p ∈ ([] : List (Addr × Obj)) ++ [] from hp) (by simp)⟩
  have loop : codeAny (model X.prog X.w) X.A (.compLoop (dcx kx vx tg iter tg1 iter1 scope pos) 0 (.ref it) (.ref D) ce) (compPost (model X.prog X.w) X.A X.xe none (fun u s' => EP X pins σ Q u s') (.ref D) s3.heap.objs.size) s4 := by
    refine dcx_loop0 (hs1 ce) (At0 (X.blk s3 H3 scope ce fp) [] (wipe σ (own.map (·.2))) fp tn W) ?_ m0 ⟨0, H3, I4, st4, nfp, w0⟩
    rintro n s5 ⟨i, H5, I5, st5, n5, w5⟩
    rcases turn i n H5 w5 with ⟨stop, qq⟩ | ⟨go, Nx, hNx, step⟩
    · refine thnF (T.done (X.blk s3 H3 scope ce fp) rfl rfl rfl hc i [] s5 _ H5 (fun _ _ => False) I5 (stat I5 n5) st5 stop) fun r s6 ⟨hr, I6⟩ => ?_
      subst hr
      have I7 : Inv X pins σ H5 s6 := I3.call' (ch := fp) I6.os I6.base I6.hok I6.bare fun b hb => ⟨(f3 b hb).1.2.2.2.1, (f3 b hb).1.2.1, (f3 b hb).1.2.2.2.2.1, (f3 b hb).1.2.2.2.2.2⟩
      have nC : H5 s3.heap.objs.size = none := by
        have z : H5 ce.locals = none := I6.free
        rw [cL] at z; exact z
      obtain ⟨m, hn, _⟩ := I6.loc
      have hn : s6.heap.Ns ce.locals m := hn
      rw [cL] at hn
      refine ⟨m, hn, fun h'' sb => ?_⟩
      obtain ⟨g0, g1', g2, g3, g4, g5⟩ := I3.fpOk (H' := H5) (Nat.le_refl _) nC
      exact ⟨.ref D, H5, I7.turned (t' := s6.toks) (fun b o hb e => (sb.2 b hb).trans e) g0 g1' g3 g4 g5, rfl, qq⟩
    · refine thnF (T.item (X.blk s3 H3 scope ce fp) rfl rfl rfl hc i [] s5 _ H5 (fun _ _ => False) I5 (stat I5 n5) st5 go) fun r s6 ⟨u, hr, h6⟩ => ?_
      subst hr
      refine thnF h6 fun _ s7 ⟨x, H7, I7, r7, y7, st7, n7⟩ => ?_
      have I7' := I7.pinned (stat I7 n7) (T.obj _ _ st7)
      refine thnF (pg.run _ s7 _ H7 x u _ I7' r7 (step x H7 y7)) fun _ s8 ⟨σ8, H8, I8, hw8, q8⟩ => ?_
      have hl8 : (wipe σ (own.map (·.2))).length = (wipe σ8 vs1).length := by rw [← hw8, wipe_length, wipe_length]
      have hk9 : ∀ (j : Nat) v, (wipe σ (own.map (·.2)))[j]? = some (some v) → (wipe σ8 vs1)[j]? = some (some v) := fun j v e => by
        rw [← hw8] at e
        obtain ⟨e1, e2⟩ := wipe_some e
        rw [wipe_out fun z => e2 (hv j z)]
        exact e1
      refine thnF (pi1.run _ s8 σ8 H8 _ I8 q8) fun xv s10 hx => thnF hx fun itv s11 h11 => ?_
      obtain ⟨it1, fp1, tn1, J1, H11, e1, I11, T1, st11, f11, W1, ⟨m1, w1⟩, turn1⟩ := h11
      subst e1
      have stat1 : ∀ {H' : Hp}, (∀ b ∈ fp1, H' b = none) → ∀ b ∈ fp1, FpOk (X.blk s3 H3 scope ce fp) ([] ++ pinsAt fp s7.heap) H' b := fun hn b hb => ⟨hn b hb, (f11 b hb).2⟩
      have loop1 : codeAny (model X.prog X.w) X.A (.compLoop (dcx kx vx tg iter tg1 iter1 scope pos) 1 (.ref it1) (.ref D) ce) (fun r s' => match r with
            | .ok _ => ∃ m, m < n ∧ At0 (X.blk s3 H3 scope ce fp) [] (wipe σ (own.map (·.2))) fp tn W m s'
            | .error _ => False) s11 := by
        refine dcx_loop1 (At0 (X.blk s3 H3 scope ce fp) ([] ++ pinsAt fp s7.heap) (wipe σ8 vs1) fp1 tn1 W1) ?_ m1 ⟨0, H11, I11.weak (wipe_length _ _) (fun j v e => (wipe_some e).1), st11, fun b hb => (f11 b hb).1, w1⟩
        rintro k s12 ⟨j, H12, I12, st12, n12, w12⟩
        rcases turn1 j k H12 w12 with ⟨stop1, nx1⟩ | ⟨go1, Nx1, hNx1, step1⟩
        · refine thnF (T1.done (X.blk s3 H3 scope ce fp) rfl rfl rfl hc j _ s12 (wipe σ8 vs1) H12 (fun _ _ => False) I12 (stat1 n12) st12 stop1) fun r s13 ⟨hr, I13⟩ => ?_
          subst hr
          obtain ⟨m', hm, w'⟩ := hNx H12 nx1
          exact ⟨m', hm, At0.next T st7 I13 hl8 hk9 w'⟩
        · refine thnF (T1.item (X.blk s3 H3 scope ce fp) rfl rfl rfl hc j _ s12 (wipe σ8 vs1) H12 (fun _ _ => False) I12 (stat1 n12) st12 go1) fun r s13 ⟨u1, hr, h13⟩ => ?_
          subst hr
          refine thnF h13 fun _ s14 ⟨x1, H14, I14, r14, y14, st14, n14⟩ => ?_
          have I14' := I14.pinned (stat1 n14) (T1.obj _ _ st14)
          refine thnF (pg1.run _ s14 (wipe σ8 vs1) H14 x1 u1 _ I14' r14 (step1 x1 H14 y14)) fun _ s15 ⟨σ15, H15, I15, hw15, q15⟩ => ?_
          refine thnF (pk.run _ s15 σ15 H15 _ I15 q15) fun z s16 ⟨yk, H16, I16, r16, q16⟩ => ?_
          refine thnF (pe.run _ s16 σ15 H16 _ I16 q16) fun z2 s17 ⟨yv, H17, I17, r17, kvs, kk, ek, hD17, hz17, nx⟩ => ?_
          subst ek
          refine d_dictSet (X := X.blk s3 H3 scope ce fp) I17 hD17 hz17 r16 r17 fun s18 I18 => ?_
          obtain ⟨m', hm, w'⟩ := hNx1 _ nx
          exact ⟨m', hm, At0.next T1 st14 I18 (by rw [← hw15, wipe_length]) (fun j v e => by rw [← hw15] at e; exact (wipe_some e).1) w'⟩
      exact dcx_start1 loop1 (T1.self X.A 0 _ _ _ st11 loop1)
  exact codeAny_compStart_dict loop (T.self X.A 0 _ _ _ st4 loop)
end
end EL

/-! EL13: dicts with whole numbers as keys, as plain lists of pairs. -/
namespace EL
open PySem L2
open Evl (Ex ex_t ex_l sq_of st_of fresh_back)
section
variable {α β γ : Type}
/-- d[k] = v -/
def putD (d : List (Int × α)) (k : Int) (v : α) : List (Int × α) := if d.any (fun p => decide (p.1 = k)) then d.map (fun p => if p.1 = k then (p.1, v) else p) else d ++ [(k, v)]
def lookD (d : List (Int × α)) (k : Int) : Option α := (d.find? fun p => decide (p.1 = k)).map (·.2)
variable {r : Rp α} {S : Hp}
theorem lookD_nil {k : Int} : lookD ([] : List (Int × α)) k = none := rfl
theorem lookD_cons {p : Int × α} {d : List (Int × α)} {k : Int} : lookD (p :: d) k = if p.1 = k then some p.2 else lookD d k := by
  unfold lookD
  rw [List.find?_cons]
  by_cases h : p.1 = k
  · simp [h]
  · simp [h]
theorem lookD_any : ∀ (d : List (Int × α)) (k : Int), (d.any fun p => decide (p.1 = k)) = (lookD d k).isSome
  | [], _ => rfl
  | p :: d, k => by
    rw [List.any_cons, lookD_cons, lookD_any d k]
    by_cases h : p.1 = k
    · simp [h]
    · simp [h]
theorem lookD_map (d : List (Int × α)) (k j : Int) (v : α) : lookD (d.map fun p => if p.1 = k then (p.1, v) else p) j = if j = k then (lookD d k).map fun _ => v else lookD d j := by
  induction d with
  | nil => simp [lookD_nil]
  | cons p d ih =>
    rw [List.map_cons, lookD_cons, lookD_cons, lookD_cons, ih]
    by_cases h : p.1 = k
    · rw [if_pos h]
      by_cases hj : j = k
      · subst hj; simp [h]
      · have : ¬ p.1 = j := fun e => hj (e.symm.trans h)
        simp only [h, hj, this, if_false]
        rw [if_neg (fun e => hj e.symm), if_neg (fun e => hj e.symm)]
    · rw [if_neg h]
      by_cases hj : j = k
      · subst hj; simp [h]
      · simp [h, hj]
theorem lookD_snoc (d : List (Int × α)) (k j : Int) (v : α) (h : lookD d k = none) : lookD (d ++ [(k, v)]) j = if j = k then some v else lookD d j := by
  induction d with
  | nil =>
    rw [List.nil_append, lookD_cons, lookD_nil]
    by_cases hj : j = k
    · subst hj; simp
    · have : ¬ k = j := fun e => hj e.symm
      simp [hj, this]
  | cons p d ih =>
    rw [lookD_cons] at h
    by_cases hp : p.1 = k
    · rw [if_pos hp] at h; cases h
    · rw [if_neg hp] at h
      rw [List.cons_append, lookD_cons, lookD_cons, ih h]
      by_cases hj : j = k
      · subst hj; simp [hp]
      · simp [hj]
theorem lookD_put (d : List (Int × α)) (k j : Int) (v : α) : lookD (putD d k v) j = if j = k then some v else lookD d j := by
  unfold putD
  rw [lookD_any]
  cases h : lookD d k with
  | none => rw [if_neg (by simp)]; exact lookD_snoc d k j v h
  | some x =>
    rw [if_pos (by simp), lookD_map, h]; rfl
theorem putD_len (d : List (Int × α)) (k : Int) (v : α) : (putD d k v).length ≤ d.length + 1 := by
  unfold putD
  split
  · rw [List.length_map]; omega
  · rw [List.length_append]; exact Nat.le_refl _
theorem dall_any {xs : List (Int × α)} {kvs : List (Key × V)} (h : DAll r S xs kvs) (k : Int) : (kvs.any fun kv => decide (kv.1 = (Sum.inl k : Key))) = xs.any fun p => decide (p.1 = k) := by
  induction h with
  | nil => rfl
  | @cons a b l1 l2 h _ ih =>
    rw [List.any_cons, List.any_cons, ih, h.1]
    congr 1
    by_cases e : a.1 = k
    · subst e; simp
    · rw [decide_eq_false e, decide_eq_false fun z => e (Sum.inl.inj z)]
theorem dall_look {xs : List (Int × α)} {kvs : List (Key × V)} (h : DAll r S xs kvs) (k : Int) : match lookD xs k with
    | none => valV kvs (Sum.inl k : Key) = none
    | some a => ∃ v, valV kvs (Sum.inl k : Key) = some v ∧ r.r a v S := by
  induction h with
  | nil => rfl
  | @cons a b l1 l2 h _ ih =>
    rw [lookD_cons]
    by_cases e : a.1 = k
    · rw [if_pos e]
      exact ⟨b.2, valV_pos (by rw [h.1, e]), h.2⟩
    · rw [if_neg e, valV_neg (by rw [h.1]; exact fun z => e (Sum.inl.inj z))]
      exact ih
theorem dall_put {xs : List (Int × α)} {kvs : List (Key × V)} (h : DAll r S xs kvs) (k : Int) {a : α} {v : V} (hv : r.r a v S) : DAll r S (putD xs k a) (putK kvs (Sum.inl k : Key) v) := by
  have e := dall_any h k
  unfold putD putK
  rw [e]
  by_cases z : (xs.any fun p => decide (p.1 = k)) = true
  · rw [if_pos z, if_pos z]
    clear z e
    induction h with
    | nil => exact .nil
    | @cons a' b' l1 l2 h _ ih =>
      rw [List.map_cons, List.map_cons]
      refine .cons ?_ ih
      by_cases e : a'.1 = k
      · rw [if_pos e, if_pos (by rw [h.1, e])]; exact ⟨h.1, hv⟩
      · rw [if_neg e, if_neg (by rw [h.1]; exact fun z => e (Sum.inl.inj z))]; exact h
  · rw [if_neg z, if_neg z]
    clear z e
    induction h with
    | nil => exact .cons ⟨rfl, hv⟩ .nil
    | cons h _ ih => exact .cons h ih
/-- a known dict -/
def aM (r : Rp α) : Rp (List (Int × α)) := ⟨fun xs v S => ∃ d kvs, v = .ref d ∧ S d = some (.dK kvs) ∧ DAll r S xs kvs, fun e ⟨d, kvs, h1, h2, h3⟩ => ⟨d, kvs, h1, e _ _ h2, h3.mono e⟩⟩
/-- read: frozen or known -/
def aR (r : Rp α) : Rp (List (Int × α)) := ⟨fun xs v S => ∃ d kvs, v = .ref d ∧ Rd S d (.dK kvs) ∧ DAll r S xs kvs, fun e ⟨d, kvs, h1, h2, h3⟩ => ⟨d, kvs, h1, Evl.ex_rd e h2, h3.mono e⟩⟩
end
section
variable {K : PySem.W.Frag} {α β γ : Type} {r : Rp α} {q : Rp β} {rr : Rp γ} {σ : L2.St} {S S' H H' : Hp} {te ta tb tk tv : TE}
theorem E.ofD {xs : List (Int × α)} (h : E te σ S (aD r) xs) : E te σ S (aR r) xs := fun H e Q k => h H e Q fun v S' H' g ⟨d, o, kvs, h1, h2, h3⟩ => k v S' H' g ⟨d, kvs, h1, .inr ⟨o, h2⟩, h3⟩
theorem E.ofM {xs : List (Int × α)} (h : E te σ S (aM r) xs) : E te σ S (aR r) xs := fun H e Q k => h H e Q fun v S' H' g ⟨d, kvs, h1, h2, h3⟩ => k v S' H' g ⟨d, kvs, h1, .inl h2, h3⟩
theorem rd_get {S H : Hp} {d : Addr} {kvs : List (Key × V)} {k : Int} (e : Ex S H) (h : Rd S d (.dK kvs)) : DGet H d (.int k) (valV kvs (Sum.inl k : Key)) := .inl ⟨kvs, Sum.inl k, Evl.ex_rd e h, rfl, rfl⟩
/-- k in d, k not in d -/
theorem e_din {k : Int} {xs : List (Int × α)} (hk : E ta σ S aI k) (hd : E tb σ S (aR r) xs) : E (tDIn ta tb) σ S aB (lookD xs k).isSome := .of_bl fun H e Q c => hk.int H e _ fun H1 e1 => hd H1 (e.trans e1) _ fun v S1 H2 g ⟨d, kvs, h1, h2, h3⟩ => by
  subst h1
  refine ⟨d, _, rfl, rd_get g.i h2, ?_⟩
  have l := dall_look h3 k
  cases z : lookD xs k with
  | none => rw [z] at l; rw [show valV kvs (Sum.inl k : Key) = none from l]; rw [z] at c; exact c H2 (e1.trans g.h)
  | some a =>
    rw [z] at l
    obtain ⟨v, hv, _⟩ := l
    rw [hv]; rw [z] at c; exact c H2 (e1.trans g.h)
theorem e_dnin {k : Int} {xs : List (Int × α)} (hk : E ta σ S aI k) (hd : E tb σ S (aR r) xs) : E (tDNotIn ta tb) σ S aB (!(lookD xs k).isSome) := .of_bl fun H e Q c => hk.int H e _ fun H1 e1 => hd H1 (e.trans e1) _ fun v S1 H2 g ⟨d, kvs, h1, h2, h3⟩ => by
  subst h1
  refine ⟨d, _, rfl, rd_get g.i h2, ?_⟩
  have l := dall_look h3 k
  cases z : lookD xs k with
  | none => rw [z] at l; rw [show valV kvs (Sum.inl k : Key) = none from l]; rw [z] at c; exact c H2 (e1.trans g.h)
  | some a =>
    rw [z] at l
    obtain ⟨v, hv, _⟩ := l
    rw [hv]; rw [z] at c; exact c H2 (e1.trans g.h)
/-- d.get(k, x) -/
theorem e_dget2 {k : Int} {a : α} {xs : List (Int × α)} {tx : TE} (hd : E ta σ S (aR r) xs) (hk : E tb σ S aI k) (hx : E tx σ S r a) : E (tDGet2 ta tb tx) σ S r ((lookD xs k).getD a) := fun H e Q c => hd H e _ fun v S1 H1 g ⟨d, kvs, h1, h2, h3⟩ => by
  subst h1
  refine ⟨d, rfl, .inl ⟨kvs, Evl.ex_rd g.i h2⟩, (hk.mono g.s).int H1 g.i _ fun H2 e2 => (hx.mono g.s) H2 (g.i.trans e2) _ fun z S3 H3 g3 hz => ?_⟩
  have g4 : Grow S H S3 H3 := (g.trans (Grow.heap g.i e2)).trans g3
  refine ⟨_, rd_get (g3.s.trans g3.i) h2, ?_⟩
  have l := dall_look h3 k
  cases y : lookD xs k with
  | none =>
    rw [y] at l; rw [show valV kvs (Sum.inl k : Key) = none from l]
    rw [y] at c
    exact c z S3 H3 g4 hz
  | some b =>
    rw [y] at l
    obtain ⟨v, hv, hr⟩ := l
    rw [hv]
    rw [y] at c
    exact c v S3 H3 g4 (r.mono g3.s hr)
/-- d[k] -/
theorem e_dget {k : Int} {a : α} {xs : List (Int × α)} (hd : E ta σ S (aR r) xs) (hk : E tb σ S aI k) (hl : lookD xs k = some a) : E (tDGet ta tb) σ S r a := fun H e Q c => hd H e _ fun v S1 H1 g ⟨d, kvs, h1, h2, h3⟩ => by
  subst h1
  refine (hk.mono g.s).int H1 g.i _ fun H2 e2 => ?_
  have l := dall_look h3 k
  rw [hl] at l
  obtain ⟨v, hv, hr⟩ := l
  refine ⟨d, v, rfl, by rw [← hv]; exact rd_get (g.i.trans e2) h2, c v S1 H2 (g.trans (Grow.heap g.i e2)) hr⟩
/-- {k: v for .. in .. for .. in ..} -/
def Dc (S H : Hp) (D : Addr) (rr : Rp γ) (acc : List (Int × γ)) (H' : Hp) : Prop := ∃ S' kvs, Grow S H S' H' ∧ S' D = none ∧ H' D = some (.dK kvs) ∧ DAll rr S' acc kvs
theorem Dc.done {D : Addr} {acc : List (Int × γ)} (h : Dc S H D rr acc H') (hD : H D = none) : ∃ S', Grow S H S' H' ∧ (aM rr).r acc (.ref D) S' := by
  obtain ⟨S', kvs, g, h1, h2, h3⟩ := h
  exact ⟨_, g.know hD h1 h2, D, kvs, rfl, upd_same, h3.mono (Ex.new h1)⟩
def dict2 (kf : α → β → Int) (vf : α → β → γ) (ys : α → List β) (xs : List α) : List (Int × γ) := (xs.flatMap fun a => (ys a).map fun b => (kf a b, vf a b)).foldl (fun d p => putD d p.1 p.2) []
theorem fold_put_len (ps : List (Int × γ)) : ∀ d : List (Int × γ), (ps.foldl (fun d p => putD d p.1 p.2) d).length ≤ d.length + ps.length := by
  induction ps with
  | nil => intro d; simp
  | cons p ps ih =>
    intro d
    rw [List.foldl_cons, List.length_cons]
    have := ih (putD d p.1 p.2)
    have := putD_len d p.1 p.2
    omega
theorem e_dc2 {wi wi1 : TI} {g g1 : TG} {vs vs1 : List Nat} {bind : α → L2.St → L2.St → Hp → Prop} {bind1 : β → L2.St → L2.St → Hp → Prop} {ys : α → List β} {kf : α → β → Int} {vf : α → β → γ} (xs : List α)
    (hi : EI wi σ S r xs) (hg : Tg g r bind) (hg1 : Tg g1 q bind1) (hl : xs.length ≤ 1000) (hw : ∀ a σ' S', bind a (wipe σ vs) σ' S' → wipe σ' vs = wipe σ vs)
    (hi1 : ∀ a σ' S', a ∈ xs → Ex S S' → bind a (wipe σ vs) σ' S' → EI wi1 σ' S' q (ys a)) (hl1 : ∀ a ∈ xs, (ys a).length ≤ 1000)
    (hw1 : ∀ a b σ' σ2 S' S2, bind a (wipe σ vs) σ' S' → bind1 b (wipe σ' vs1) σ2 S2 → wipe σ2 vs1 = wipe σ' vs1)
    (hk : ∀ a b σ' σ2 S' S2, a ∈ xs → b ∈ ys a → Ex S S' → Ex S' S2 → bind a (wipe σ vs) σ' S' → bind1 b (wipe σ' vs1) σ2 S2 → E tk σ2 S2 aI (kf a b))
    (he : ∀ a b σ' σ2 S' S2, a ∈ xs → b ∈ ys a → Ex S S' → Ex S' S2 → bind a (wipe σ vs) σ' S' → bind1 b (wipe σ' vs1) σ2 S2 → E tv σ2 S2 rr (vf a b)) :
    E (tDc2 wi g wi1 g1 tk tv vs vs1) σ S (aM rr) (dict2 kf vf ys xs) := fun H e Q k => hi H e _ fun J S1 H1 gA w D hD => by
  have lenF : ∀ (zs : List α), (∀ a ∈ zs, a ∈ xs) → (zs.flatMap fun a => (ys a).map fun b => (kf a b, vf a b)).length ≤ zs.length * 1000 := by
    intro zs
    induction zs with
    | nil => intro _; simp
    | cons z zs ih =>
      intro h
      rw [List.flatMap_cons, List.length_append, List.length_cons, List.length_map]
      have h1 := ih fun a ha => h a (List.mem_cons_of_mem _ ha)
      have h2 := hl1 z (h z List.mem_cons_self)
      omega
  let F : List (Int × γ) → List (Int × γ) := fun ps => ps.foldl (fun d p => putD d p.1 p.2) []
  have Fs : ∀ ps p, F (ps ++ [p]) = putD (F ps) p.1 p.2 := fun ps p => by show List.foldl _ _ _ = _; rw [List.foldl_append]; rfl
  refine ⟨fun i m H2 => m = xs.length - i ∧ i ≤ xs.length ∧ Dc S1 H1 D rr (F ((xs.take i).flatMap fun a => (ys a).map fun b => (kf a b, vf a b))) H2, ⟨xs.length, rfl, Nat.zero_le _, ?_⟩, ?_⟩
  · exact ⟨S1, [], Grow.heap gA.i (Ex.new hD), fresh_back gA.i hD, upd_same, .nil⟩
  rintro i m H2 ⟨rfl, hi2, hL⟩
  by_cases hlt : i < xs.length
  · obtain ⟨S2, us, g2, h1, h2, h3⟩ := hL
    have hx : xs[i]? = some xs[i] := by simp
    have hm : xs[i] ∈ xs := List.getElem_mem hlt
    refine .inr ⟨w.goes i H2 hlt g2.ex, fun H3 => Dc S1 H1 D rr (F ((xs.take (i + 1)).flatMap fun a => (ys a).map fun b => (kf a b, vf a b))) H3, fun H3 h => ⟨xs.length - (i + 1), by omega, rfl, hlt, h⟩, fun x H3 y => ?_⟩
    obtain ⟨S3, g3, hr⟩ := (w.mono g2.s).yields i H2 x H3 _ hx g2.i y
    refine hg _ _ _ S3 H3 hr g3.i _ fun σ2 hb => ⟨hw _ _ _ hb, ?_⟩
    have e3 : Ex S S3 := (gA.s.trans g2.s).trans g3.s
    refine hi1 _ σ2 S3 hm e3 hb H3 g3.i _ fun J1 S4 H4 g4 w1 => ?_
    have gB : Grow S1 H1 S4 H4 := (g2.trans g3).trans g4
    have g34 := g3.trans g4
    have ea : ((xs.take (i + 1)).flatMap fun a => (ys a).map fun b => (kf a b, vf a b)) = ((xs.take i).flatMap fun a => (ys a).map fun b => (kf a b, vf a b)) ++ (ys xs[i]).map fun b => (kf xs[i] b, vf xs[i] b) := by
      rw [List.take_succ_eq_append_getElem hlt, List.flatMap_append, List.flatMap_singleton]
    have lenA := lenF (xs.take i) fun a ha => List.mem_of_mem_take ha
    rw [List.length_take] at lenA
    generalize hpre : ((xs.take i).flatMap fun a => (ys a).map fun b => (kf a b, vf a b)) = pre at h3 ea lenA
    refine ⟨fun j m H5 => m = (ys xs[i]).length - j ∧ j ≤ (ys xs[i]).length ∧ ∃ S5 us, Ex S4 S5 ∧ Grow S1 H1 S5 H5 ∧ S5 D = none ∧ H5 D = some (.dK us) ∧ DAll rr S5 (F (pre ++ ((ys xs[i]).take j).map fun b => (kf xs[i] b, vf xs[i] b))) us, ⟨(ys xs[i]).length, rfl, Nat.zero_le _, ?_⟩, ?_⟩
    · exact ⟨S4, us, Ex.refl S4, gB, g34.n D _ h1 h2, g34.h D _ h2, by simpa using h3.mono g34.s⟩
    · rintro j m H5 ⟨rfl, hj, S5, us5, gE, g5, h5, h6, h7⟩
      by_cases hjl : j < (ys xs[i]).length
      · have hy : (ys xs[i])[j]? = some (ys xs[i])[j] := by simp
        have hmy : (ys xs[i])[j] ∈ ys xs[i] := List.getElem_mem hjl
        refine .inr ⟨w1.goes j H5 hjl (gE.trans g5.i), fun H6 => ∃ S6 us, Ex S4 S6 ∧ Grow S1 H1 S6 H6 ∧ S6 D = none ∧ H6 D = some (.dK us) ∧ DAll rr S6 (F (pre ++ ((ys xs[i]).take (j + 1)).map fun b => (kf xs[i] b, vf xs[i] b))) us,
          fun H6 h => ⟨(ys xs[i]).length - (j + 1), by omega, rfl, hjl, h⟩, fun x H6 y => ?_⟩
        obtain ⟨S6, g6, hr6⟩ := (w1.mono gE).yields j H5 x H6 _ hy g5.i y
        refine hg1 _ _ _ S6 H6 hr6 g6.i _ fun σ3 hb1 => ⟨hw1 _ _ _ _ _ _ hb hb1, ?_⟩
        have e36 : Ex S3 S6 := (g4.s.trans gE).trans g6.s
        refine (hk _ _ σ2 σ3 S3 S6 hm hmy e3 e36 hb hb1).int H6 g6.i _ fun H7 e7 => ?_
        refine (he _ _ σ2 σ3 S3 S6 hm hmy e3 e36 hb hb1) H7 (g6.i.trans e7) _ fun z S8 H8 g8 hz => ?_
        have g9 : Grow S5 H5 S8 H8 := (g6.trans (Grow.heap g6.i e7)).trans g8
        have hn := g9.n D _ h5 h6
        refine ⟨us5, Sum.inl (kf xs[i] (ys xs[i])[j]), rfl, g9.h D _ h6, ?_, S8, _, gE.trans g9.s, (g5.trans g9).mut hD hn, hn, upd_same, ?_⟩
        · have l1 := h7.len
          have l2 := fold_put_len (pre ++ ((ys xs[i]).take j).map fun b => (kf xs[i] b, vf xs[i] b)) []
          rw [List.length_append, List.length_map, List.length_take] at l2
          have l3 := hl1 _ hm
          have l4 : min i xs.length * 1000 ≤ 1000 * 1000 := Nat.mul_le_mul_right _ (by omega)
          rw [sizeLine_eq]
          have l5 : (F (pre ++ ((ys xs[i]).take j).map fun b => (kf xs[i] b, vf xs[i] b))).length ≤ ([] : List (Int × γ)).length + (pre.length + min j (ys xs[i]).length) := l2
          simp only [List.length_nil] at l5
          omega
        · rw [List.take_succ_eq_append_getElem hjl, List.map_append, ← List.append_assoc, List.map_singleton, Fs]
          exact dall_put (h7.mono g9.s) _ hz
      · have hjj : j = (ys xs[i]).length := by omega
        subst hjj
        refine .inl ⟨w1.stops H5 (gE.trans g5.i), ?_⟩
        rw [List.take_length] at h7
        refine ⟨S5, us5, g5, h5, h6, ?_⟩
        rw [ea]; exact h7
  · have hii : i = xs.length := by omega
    subst hii
    rw [List.take_length] at hL
    obtain ⟨S2, us, g2, h1, h2, h3⟩ := id hL
    obtain ⟨S4, g4, h4⟩ := hL.done hD
    exact .inl ⟨w.stops H2 g2.ex, k _ S4 H2 (gA.trans g4) h4⟩
end
end EL

/-! EL14: own objects that change: O beside the snapshot S. -/
namespace EL
open PySem L2
open Evl (Ex ex_t ex_l sq_of st_of fresh_back)
structure In (S O H : Hp) : Prop where
  s : Ex S H
  o : Ex O H
  d : ∀ q u, O q = some u → S q = none
structure GrO (S O H S' O' H' : Hp) : Prop where
  s : Ex S S'
  i : In S' O' H'
  h : ∀ q u, H q = some u → O q = none → H' q = some u
  n : ∀ q u, H q = some u → S q = none → O q = none → S' q = none ∧ O' q = none
section
variable {S O H S' O' H' S1 O1 H1 : Hp}
theorem In.dis (h : In S O H) {q : Addr} {u : HO} (e : S q = some u) : O q = none := by
  cases z : O q with
  | none => rfl
  | some w => rw [h.d q w z] at e; cases e
theorem GrO.refl (i : In S O H) : GrO S O H S O H := ⟨Ex.refl S, i, fun _ _ h _ => h, fun _ _ _ h1 h2 => ⟨h1, h2⟩⟩
theorem GrO.trans (a : GrO S O H S1 O1 H1) (b : GrO S1 O1 H1 S' O' H') : GrO S O H S' O' H' := by
  refine ⟨a.s.trans b.s, b.i, fun q u h1 h2 => ?_, fun q u h1 h2 h3 => ?_⟩
  · by_cases z : S q = none
    · have := a.n q u h1 z h2
      exact b.h q u (a.h q u h1 h2) this.2
    · obtain ⟨w, hw⟩ := Option.ne_none_iff_exists'.mp z
      have e1 := a.s q w hw
      exact b.h q u (a.h q u h1 h2) (a.i.dis e1)
  · have e1 := a.n q u h1 h2 h3
    exact b.n q u (a.h q u h1 h3) e1.1 e1.2
theorem GrO.of (i : In S O H) (g : Grow S H S' H') : GrO S O H S' O H' :=
  ⟨g.s, ⟨g.i, i.o.trans g.h, fun q u h => g.n q u (i.d q u h) (i.o q u h)⟩, fun q u h _ => g.h q u h, fun q u h1 h2 h3 => ⟨g.n q u h2 h1, h3⟩⟩
theorem GrO.heap (i : In S O H) (h : Ex H H') : GrO S O H S O H' := .of i (.heap i.s h)
/-- an own object changes -/
theorem GrO.mut (i : In S O H) {p : Addr} {u v : HO} (h : O p = some u) : GrO S O H S (upd O p v) (upd H p v) := by
  refine ⟨Ex.refl S, ⟨fun q w e => ?_, fun q w e => ?_, fun q w e => ?_⟩, fun q w e1 e2 => ?_, fun q w e1 e2 e3 => ⟨e2, ?_⟩⟩
  · have : q ≠ p := fun z => by rw [z, i.d p u h] at e; cases e
    rw [upd_ne this]; exact i.s q w e
  · by_cases z : q = p
    · subst z; rw [upd_same] at e ⊢; exact e
    · rw [upd_ne z] at e ⊢; exact i.o q w e
  · by_cases z : q = p
    · subst z; exact i.d q u h
    · rw [upd_ne z] at e; exact i.d q w e
  · have : q ≠ p := fun z => by rw [z, h] at e2; cases e2
    rw [upd_ne this]; exact e1
  · have : q ≠ p := fun z => by rw [z, h] at e3; cases e3
    rw [upd_ne this]; exact e3
/-- a new own object -/
theorem GrO.fresh (i : In S O H) {p : Addr} {v : HO} (h : H p = none) : GrO S O H S (upd O p v) (upd H p v) := by
  refine ⟨Ex.refl S, ⟨fun q w e => ?_, fun q w e => ?_, fun q w e => ?_⟩, fun q w e1 e2 => ?_, fun q w e1 e2 e3 => ⟨e2, ?_⟩⟩
  · have : q ≠ p := fun z => by rw [z, fresh_back i.s h] at e; cases e
    rw [upd_ne this]; exact i.s q w e
  · by_cases z : q = p
    · subst z; rw [upd_same] at e ⊢; exact e
    · rw [upd_ne z] at e ⊢; exact i.o q w e
  · by_cases z : q = p
    · subst z; exact fresh_back i.s h
    · rw [upd_ne z] at e; exact i.d q w e
  · have : q ≠ p := fun z => by rw [z, h] at e1; cases e1
    rw [upd_ne this]; exact e1
  · have : q ≠ p := fun z => by rw [z, h] at e1; cases e1
    rw [upd_ne this]; exact e3
/-- without the object at p -/
def less (O : Hp) (p : Addr) : Hp := fun q => if q = p then none else O q
theorem less_same {p : Addr} : less O p p = none := if_pos rfl
theorem less_ne {p q : Addr} (h : q ≠ p) : less O p q = O q := if_neg h
/-- an own object, frozen or not, is known from now on -/
theorem GrO.know (i : In S O H) {p : Addr} {u v : HO} (h : O p = some u) : GrO S O H (upd S p v) (less O p) (upd H p v) := by
  have hS := i.d p u h
  refine ⟨Ex.new hS, ⟨fun q w e => ?_, fun q w e => ?_, fun q w e => ?_⟩, fun q w e1 e2 => ?_, fun q w e1 e2 e3 => ⟨?_, ?_⟩⟩
  · by_cases z : q = p
    · subst z; rw [upd_same] at e ⊢; exact e
    · rw [upd_ne z] at e ⊢; exact i.s q w e
  · have z : q ≠ p := fun z => by rw [z, less_same] at e; cases e
    rw [less_ne z] at e; rw [upd_ne z]; exact i.o q w e
  · have z : q ≠ p := fun z => by rw [z, less_same] at e; cases e
    rw [less_ne z] at e; rw [upd_ne z]; exact i.d q w e
  · have : q ≠ p := fun z => by rw [z, h] at e2; cases e2
    rw [upd_ne this]; exact e1
  · have : q ≠ p := fun z => by rw [z, h] at e3; cases e3
    rw [upd_ne this]; exact e2
  · have : q ≠ p := fun z => by rw [z, h] at e3; cases e3
    rw [less_ne this]; exact e3
theorem uni_in (i : In S O H) : Ex (uni S O) H := fun q u e => by
  unfold uni at e
  cases z : S q with
  | none => rw [z] at e; exact i.o q u e
  | some w => rw [z] at e; exact i.s q u (by rw [z]; exact e)
theorem uni_o (hd : ∀ q u, O q = some u → S q = none) {q : Addr} {u : HO} (e : O q = some u) : uni S O q = some u := by
  unfold uni; rw [hd q u e]; exact e
def O0 : Hp := fun _ => none
theorem in0 (e : Ex S H) : In S O0 H := ⟨e, fun _ _ h => (nomatch h), fun _ _ h => (nomatch h)⟩
theorem GrO.out (g : GrO S O0 H S' O' H') : Grow S H S' H' := ⟨g.s, g.i.s, fun q u h => g.h q u h rfl, fun q u h1 h2 => (g.n q u h2 h1 rfl).1⟩
end
section
variable {K : PySem.W.Frag} {α β γ : Type} {r : Rp α} {q : Rp β} {rr : Rp γ} {a : α} {b : β} {c : γ} {σ : St} {S S' O O' H H' : Hp} {te ta tb tc : TE} {tt tu : TT} {v u : V} {tr : TA} {ra : Ra} {t w : TS}
/-- an expression that may change what is own -/
def EX (te : TE) (σ : St) (S O : Hp) (r : Rp α) (A : α → Hp → Prop) : Prop := ∀ H, In S O H → ∀ Q : VK, (∀ a v S' O' H', GrO S O H S' O' H' → r.r a v S' → A a O' → Q v H') → te σ H Q
def ETX (tt : TT) (σ : St) (S O : Hp) (A : Bool → Hp → Prop) : Prop := ∀ H, In S O H → ∀ Q : Bool → Hp → Prop, (∀ b S' O' H', GrO S O H S' O' H' → A b O' → Q b H') → tt σ H Q
theorem EX.of (h : E te σ S r a) : EX te σ S O r (fun b O' => b = a ∧ O' = O) := fun H i Q k => h H i.s Q fun v S' H' g hv => k a v S' O H' (.of i g) hv ⟨rfl, rfl⟩
theorem EX.imp {A B : α → Hp → Prop} (h : EX te σ S O r A) (k : ∀ a O', A a O' → B a O') : EX te σ S O r B := fun H i Q c => h H i Q fun a v S' O' H' g hv hA => c a v S' O' H' g hv (k a O' hA)
theorem ETX.of {b : Bool} (h : ET tt σ S b) : ETX tt σ S O (fun b' O' => b' = b ∧ O' = O) := fun H i Q k => h H i.s Q fun H' e => k b S O H' (.heap i e) ⟨rfl, rfl⟩
theorem ETX.imp {A B : Bool → Hp → Prop} (h : ETX tt σ S O A) (k : ∀ a O', A a O' → B a O') : ETX tt σ S O B := fun H i Q c => h H i Q fun a S' O' H' g hA => c a S' O' H' g (k a O' hA)
/-- a part first, then the rest over its value -/
theorem ex_bind (F : TE → TE) {A : α → Hp → Prop} {B : γ → Hp → Prop} (h : EX te σ S O r A) (k : ∀ a v S1 O1, Ex S S1 → r.r a v S1 → A a O1 → EX (F (tC v)) σ S1 O1 rr B) (hF : ∀ H Q, F te σ H Q = te σ H fun v H1 => F (tC v) σ H1 Q := by intros; rfl) : EX (F te) σ S O rr B := fun H i Q c => by
  rw [hF]
  exact h H i _ fun a v S1 O1 H1 g hv hA => k a v S1 O1 g.s hv hA H1 g.i Q fun b w S2 O2 H2 g2 => c b w S2 O2 H2 (g.trans g2)
theorem etx_bind (F : TE → TT) {A : α → Hp → Prop} {B : Bool → Hp → Prop} (h : EX te σ S O r A) (k : ∀ a v S1 O1, Ex S S1 → r.r a v S1 → A a O1 → ETX (F (tC v)) σ S1 O1 B) (hF : ∀ H Q, F te σ H Q = te σ H fun v H1 => F (tC v) σ H1 Q := by intros; rfl) : ETX (F te) σ S O B := fun H i Q c => by
  rw [hF]
  exact h H i _ fun a v S1 O1 H1 g hv hA => k a v S1 O1 g.s hv hA H1 g.i Q fun b S2 O2 H2 g2 => c b S2 O2 H2 (g.trans g2)
theorem etx_B {A : Bool → Hp → Prop} (h : EX te σ S O aB A) : ETX (tB te) σ S O A := fun H i Q c => h H i _ fun a v S1 O1 H1 g hv hA => ⟨a, hv, c a S1 O1 H1 g hA⟩
theorem etx_not {A B : Bool → Hp → Prop} (h : ETX tt σ S O A) (k : ∀ b O', A b O' → B (!b) O') : ETX (tNot tt) σ S O B := fun H i Q c => h H i _ fun a S1 O1 H1 g hA => c _ S1 O1 H1 g (k a O1 hA)
theorem etx_or {A B : Bool → Hp → Prop} (h : ETX tt σ S O A) (h1 : ∀ O', A true O' → B true O') (h2 : ∀ S1 O1, Ex S S1 → A false O1 → ETX tu σ S1 O1 B) : ETX (tOr tt tu) σ S O B := fun H i Q c => h H i _ fun a S1 O1 H1 g hA => by
  cases a with
  | true => exact c true S1 O1 H1 g (h1 O1 hA)
  | false => exact h2 S1 O1 g.s hA H1 g.i Q fun b S2 O2 H2 g2 => c b S2 O2 H2 (g.trans g2)
theorem etx_and {A B : Bool → Hp → Prop} (h : ETX tt σ S O A) (h1 : ∀ O', A false O' → B false O') (h2 : ∀ S1 O1, Ex S S1 → A true O1 → ETX tu σ S1 O1 B) : ETX (tAnd tt tu) σ S O B := fun H i Q c => h H i _ fun a S1 O1 H1 g hA => by
  cases a with
  | false => exact c false S1 O1 H1 g (h1 O1 hA)
  | true => exact h2 S1 O1 g.s hA H1 g.i Q fun b S2 O2 H2 g2 => c b S2 O2 H2 (g.trans g2)
/-- a scalar that reads own objects -/
theorem EX.int {i : Int} (h : (∀ q u, O q = some u → S q = none) → E te σ (uni S O) aI i) : EX te σ S O aI (fun b O' => b = i ∧ O' = O) := fun H n Q k => (h n.d).int H (uni_in n) Q fun H' e => k i _ S O H' (.heap n e) rfl ⟨rfl, rfl⟩
theorem EX.bl {i : Bool} (h : (∀ q u, O q = some u → S q = none) → E te σ (uni S O) aB i) : EX te σ S O aB (fun b O' => b = i ∧ O' = O) := fun H n Q k => (h n.d).bl H (uni_in n) Q fun H' e => k i _ S O H' (.heap n e) rfl ⟨rfl, rfl⟩
theorem ETX.uni {i : Bool} (h : (∀ q u, O q = some u → S q = none) → ET tt σ (uni S O) i) : ETX tt σ S O (fun b O' => b = i ∧ O' = O) := fun H n Q k => (h n.d) H (uni_in n) Q fun H' e => k i S O H' (.heap n e) ⟨rfl, rfl⟩

/-! ### statements with own objects -/
structure PF where
  nx : St → Hp → Hp → Prop
  rt : V → Hp → Hp → Prop
  bk : St → Hp → Hp → Prop := fun _ _ _ => False
  ct : St → Hp → Hp → Prop := fun _ _ _ => False
def Fx (t : TS) (σ : St) (S O : Hp) (P : PF) : Prop := ∀ H D, In S O H → (∀ σ' S' O' H', GrO S O H S' O' H' → P.nx σ' S' O' → D.nx σ' H') → (∀ v S' O' H', GrO S O H S' O' H' → P.rt v S' O' → D.rt v H') →
  (∀ σ' S' O' H', GrO S O H S' O' H' → P.bk σ' S' O' → D.bk σ' H') → (∀ σ' S' O' H', GrO S O H S' O' H' → P.ct σ' S' O' → D.ct σ' H') → t D σ H
variable {P : PF}
theorem fx_seq {M : St → Hp → Hp → Prop} (h : Fx t σ S O { P with nx := M }) (k : ∀ σ' S' O', Ex S S' → M σ' S' O' → Fx w σ' S' O' P) : Fx (tSeq t w) σ S O P := fun H D i n r b c =>
  h H _ i (fun σ' S' O' H' g hm => k σ' S' O' g.s hm H' D g.i (fun σ2 S2 O2 H2 g2 => n σ2 S2 O2 H2 (g.trans g2)) (fun v S2 O2 H2 g2 => r v S2 O2 H2 (g.trans g2)) (fun σ2 S2 O2 H2 g2 => b σ2 S2 O2 H2 (g.trans g2)) (fun σ2 S2 O2 H2 g2 => c σ2 S2 O2 H2 (g.trans g2))) r b c
theorem Fx.imp {P' : PF} (h : Fx t σ S O P) (h1 : ∀ σ' S' O', Ex S S' → P.nx σ' S' O' → P'.nx σ' S' O') (h2 : ∀ v S' O', Ex S S' → P.rt v S' O' → P'.rt v S' O') (h3 : ∀ σ' S' O', Ex S S' → P.bk σ' S' O' → P'.bk σ' S' O') (h4 : ∀ σ' S' O', Ex S S' → P.ct σ' S' O' → P'.ct σ' S' O') : Fx t σ S O P' := fun H D i n r b c =>
  h H D i (fun σ' S' O' H' g z => n σ' S' O' H' g (h1 σ' S' O' g.s z)) (fun v S' O' H' g z => r v S' O' H' g (h2 v S' O' g.s z)) (fun σ' S' O' H' g z => b σ' S' O' H' g (h3 σ' S' O' g.s z)) (fun σ' S' O' H' g z => c σ' S' O' H' g (h4 σ' S' O' g.s z))
/-- a part of the first statement first -/
theorem fx_bind (T : TE → TS) {A : α → Hp → Prop} (h : EX te σ S O r A) (k : ∀ a v S1 O1, Ex S S1 → r.r a v S1 → A a O1 → Fx (T (tC v)) σ S1 O1 P) (hT : ∀ D H, T te D σ H = te σ H fun v H1 => T (tC v) D σ H1 := by intros; rfl) : Fx (T te) σ S O P := fun H D i n rt b c => by
  rw [hT]
  exact h H i _ fun a v S1 O1 H1 g hv hA => k a v S1 O1 g.s hv hA H1 D g.i (fun σ2 S2 O2 H2 g2 => n σ2 S2 O2 H2 (g.trans g2)) (fun v S2 O2 H2 g2 => rt v S2 O2 H2 (g.trans g2)) (fun σ2 S2 O2 H2 g2 => b σ2 S2 O2 H2 (g.trans g2)) (fun σ2 S2 O2 H2 g2 => c σ2 S2 O2 H2 (g.trans g2))
/-- nothing own is touched -/
theorem fx_sx (h : Sx t σ S { nx := fun σ' S' => P.nx σ' S' O, rt := fun v S' => P.rt v S' O, bk := fun σ' S' => P.bk σ' S' O, ct := fun σ' S' => P.ct σ' S' O }) : Fx t σ S O P := fun H D i n rt b c =>
  h H D i.s (fun σ' S' H' g => n σ' S' O H' (.of i g)) (fun v S' H' g => rt v S' O H' (.of i g)) (fun σ' S' H' g => b σ' S' O H' (.of i g)) (fun σ' S' H' g => c σ' S' O H' (.of i g))
/-- from a def's beginning -/
theorem sx_fx {PS : Po} (h : Fx t σ S O0 { nx := fun σ' S' _ => PS.nx σ' S', rt := fun v S' _ => PS.rt v S', bk := fun σ' S' _ => PS.bk σ' S', ct := fun σ' S' _ => PS.ct σ' S' }) : Sx t σ S PS := fun H D e n rt b c =>
  h H D (in0 e) (fun σ' S' O' H' g => n σ' S' H' g.out) (fun v S' O' H' g => rt v S' H' g.out) (fun σ' S' O' H' g => b σ' S' H' g.out) (fun σ' S' O' H' g => c σ' S' H' g.out)
theorem fx_next (k : P.nx σ S O) : Fx tNext σ S O P := fun H D i n _ _ _ => n σ S O H (.refl i) k
theorem fx_break (k : P.bk σ S O) : Fx tBreak σ S O P := fun H D i _ _ n _ => n σ S O H (.refl i) k
theorem fx_ret {A : α → Hp → Prop} (h : EX te σ S O r A) (k : ∀ a v S1 O1, Ex S S1 → r.r a v S1 → A a O1 → P.rt v S1 O1) : Fx (tRet te) σ S O P := fun H D i _ rt _ _ => h H i _ fun a v S1 O1 H1 g hv hA => rt v S1 O1 H1 g (k a v S1 O1 g.s hv hA)
theorem fx_drop {A : α → Hp → Prop} (h : EX te σ S O r A) (k : ∀ a v S1 O1, Ex S S1 → r.r a v S1 → A a O1 → P.nx σ S1 O1) : Fx (tDrop te) σ S O P := fun H D i n _ _ _ => h H i _ fun a v S1 O1 H1 g hv hA => n σ S1 O1 H1 g (k a v S1 O1 g.s hv hA)
theorem fx_set {i : Nat} {A : α → Hp → Prop} (h : EX te σ S O r A) (k : ∀ a v S1 O1, Ex S S1 → r.r a v S1 → A a O1 → P.nx (σ.set i (some v)) S1 O1) : Fx (tAsg te (gName i)) σ S O P := fun H D n' n _ _ _ => h H n' _ fun a v S1 O1 H1 g hv hA => n _ S1 O1 H1 g (k a v S1 O1 g.s hv hA)
theorem qf_set {i : Nat} {A : α → Hp → Prop} (h : EX te σ S O r A) (k : ∀ a v S1 O1, Ex S S1 → r.r a v S1 → A a O1 → Fx w (σ.set i (some v)) S1 O1 P) : Fx (tSeq (tAsg te (gName i)) w) σ S O P :=
  fx_seq (M := fun σ' S' O' => Fx w σ' S' O' P) (fx_set h k) fun _ _ _ _ h => h
theorem qf_drop {A : α → Hp → Prop} (h : EX te σ S O r A) (k : ∀ a v S1 O1, Ex S S1 → r.r a v S1 → A a O1 → Fx w σ S1 O1 P) : Fx (tSeq (tDrop te) w) σ S O P :=
  fx_seq (M := fun σ' S' O' => Fx w σ' S' O' P) (fx_drop h k) fun _ _ _ _ h => h
theorem fx_if {A : Bool → Hp → Prop} (h : ETX tt σ S O A) (h1 : ∀ S1 O1, Ex S S1 → A true O1 → Fx t σ S1 O1 P) (h2 : ∀ S1 O1, Ex S S1 → A false O1 → Fx w σ S1 O1 P) : Fx (tIfS tt t w) σ S O P := fun H D i n rt bk ct => h H i _ fun b S1 O1 H1 g hA => by
  have z : ∀ {w : TS}, Fx w σ S1 O1 P → w D σ H1 := fun {w} hw => hw H1 D g.i (fun σ2 S2 O2 H2 g2 => n σ2 S2 O2 H2 (g.trans g2)) (fun v S2 O2 H2 g2 => rt v S2 O2 H2 (g.trans g2)) (fun σ2 S2 O2 H2 g2 => bk σ2 S2 O2 H2 (g.trans g2)) (fun σ2 S2 O2 H2 g2 => ct σ2 S2 O2 H2 (g.trans g2))
  cases b with
  | true => exact z (h1 S1 O1 g.s hA)
  | false => exact z (h2 S1 O1 g.s hA)
/-- if test: raise or return (never), then the rest -/
theorem qf_skip {A : Bool → Hp → Prop} (h : ETX tt σ S O A) (h1 : ∀ O', ¬ A true O') (k : ∀ S1 O1, Ex S S1 → A false O1 → Fx w σ S1 O1 P) : Fx (tSeq (tIfS tt t tNext) w) σ S O P :=
  fx_seq (M := fun σ' S' O' => Fx w σ' S' O' P) (fx_if h (fun S1 O1 _ z => (h1 O1 z).elim) fun S1 O1 e hA => fx_next (k S1 O1 e hA)) fun _ _ _ _ h => h
theorem fx_skip {A : Bool → Hp → Prop} (h : ETX tt σ S O A) (h1 : ∀ O', ¬ A true O') (k : ∀ S1 O1, Ex S S1 → A false O1 → P.nx σ S1 O1) : Fx (tIfS tt t tNext) σ S O P :=
  fx_if h (fun S1 O1 _ z => (h1 O1 z).elim) fun S1 O1 e hA => fx_next (k S1 O1 e hA)
theorem fx_for {wi : TI} {g : TG} {bind : α → St → St → Hp → Prop} (xs : List α) (hi : EI wi σ S r xs) (hg : Tg g r bind) (Pv : Nat → St → Hp → Hp → Prop) (hm : ∀ i σ' S1 S2 O, Ex S1 S2 → Pv i σ' S1 O → Pv i σ' S2 O) (h0 : ∀ S', Ex S S' → Pv 0 σ S' O)
    (hs : ∀ i a σ1 σ2 S' O', xs[i]? = some a → Ex S S' → Pv i σ1 S' O' → bind a σ1 σ2 S' → Fx t σ2 S' O' { nx := Pv (i + 1), ct := Pv (i + 1), bk := P.nx, rt := P.rt }) (hd : ∀ σ' S' O', Ex S S' → Pv xs.length σ' S' O' → P.nx σ' S' O') : Fx (tFor wi g t) σ S O P := fun H D n0 n rt bk ct =>
  hi H n0.s _ fun J S1 H1 g1 wr => by
  have G1 : GrO S O H S1 O H1 := .of n0 g1
  refine ⟨fun i m σ' H' => m = xs.length - i ∧ i ≤ xs.length ∧ ∃ S' O', GrO S1 O H1 S' O' H' ∧ Pv i σ' S' O', ⟨xs.length, rfl, Nat.zero_le _, S1, O, .refl G1.i, h0 S1 g1.s⟩, ?_⟩
  rintro i m σ' H' ⟨rfl, hi2, S2, O2, g2, hp⟩
  have e2 : Ex S1 H' := g2.s.trans g2.i.s
  by_cases hlt : i < xs.length
  · have hx : xs[i]? = some xs[i] := by simp
    refine .inr ⟨wr.goes i H' hlt e2, fun σ3 H3 => ∃ S3 O3, GrO S1 O H1 S3 O3 H3 ∧ Pv (i + 1) σ3 S3 O3, fun σ3 H3 h => ⟨xs.length - (i + 1), by omega, rfl, hlt, h⟩, fun x H3 y => ?_⟩
    obtain ⟨S3, g3, hr⟩ := (wr.mono g2.s).yields i H' x H3 _ hx g2.i.s y
    have G3 : GrO S2 O2 H' S3 O2 H3 := .of g2.i g3
    refine hg _ _ _ S3 H3 hr g3.i _ fun σ2 hb => ?_
    have g4 := (G1.trans g2).trans G3
    exact hs i xs[i] σ' σ2 S3 O2 hx g4.s (hm _ _ _ _ _ g3.s hp) hb H3 _ G3.i (fun σ5 S5 O5 H5 g5 z => ⟨S5, O5, (g2.trans G3).trans g5, z⟩) (fun v S5 O5 H5 g5 z => rt v S5 O5 H5 (g4.trans g5) z) (fun σ5 S5 O5 H5 g5 z => n σ5 S5 O5 H5 (g4.trans g5) z) (fun σ5 S5 O5 H5 g5 z => ⟨S5, O5, (g2.trans G3).trans g5, z⟩)
  · have hii : i = xs.length := by omega
    subst hii
    exact .inl ⟨wr.stops H' e2, n σ' S2 O2 H' (G1.trans g2) (hd σ' S2 O2 (G1.trans g2).s hp)⟩
theorem qf_for {wi : TI} {g : TG} {bind : α → St → St → Hp → Prop} (xs : List α) (hi : EI wi σ S r xs) (hg : Tg g r bind) (Pv : Nat → St → Hp → Hp → Prop) (hm : ∀ i σ' S1 S2 O, Ex S1 S2 → Pv i σ' S1 O → Pv i σ' S2 O) (h0 : ∀ S', Ex S S' → Pv 0 σ S' O)
    (hs : ∀ i a σ1 σ2 S' O', xs[i]? = some a → Ex S S' → Pv i σ1 S' O' → bind a σ1 σ2 S' → Fx t σ2 S' O' { nx := Pv (i + 1), ct := Pv (i + 1), bk := fun _ _ _ => False, rt := P.rt }) (hd : ∀ σ' S' O', Ex S S' → Pv xs.length σ' S' O' → Fx w σ' S' O' P) : Fx (tSeq (tFor wi g t) w) σ S O P :=
  fx_seq (M := fun σ' S' O' => Fx w σ' S' O' P) (fx_for xs hi hg Pv hm h0 (fun i a σ1 σ2 S' O' h1 h2 h3 h4 => (hs i a σ1 σ2 S' O' h1 h2 h3 h4).imp (fun _ _ _ _ h => h) (fun _ _ _ _ h => h) (fun _ _ _ _ h => h.elim) (fun _ _ _ _ h => h)) hd) fun _ _ _ _ h => h
/-- the iterator's maker first -/
theorem fx_iter (T : TE → TI) {g : TG} {A : α → Hp → Prop} (h : EX te σ S O r A) (k : ∀ a v S1 O1, Ex S S1 → r.r a v S1 → A a O1 → Fx (tFor (T (tC v)) g t) σ S1 O1 P) (hT : ∀ H R, T te σ H R = te σ H fun v H1 => T (tC v) σ H1 R := by intros; rfl) : Fx (tFor (T te) g t) σ S O P :=
  fx_bind (fun te => tFor (T te) g t) h k (fun D H => hT H _)
theorem fx_while (W : Nat → St → Hp → Hp → Prop) (m0 : Nat) (h0 : W m0 σ S O)
    (hs : ∀ m σ' S' O', Ex S S' → W m σ' S' O' → ∃ A : Bool → Hp → Prop, ETX tt σ' S' O' A ∧ (∀ S1 O1, Ex S' S1 → A true O1 → Fx t σ' S1 O1 { nx := fun σ2 S2 O2 => ∃ m', m' < m ∧ W m' σ2 S2 O2, ct := fun σ2 S2 O2 => ∃ m', m' < m ∧ W m' σ2 S2 O2, bk := P.nx, rt := P.rt }) ∧ (∀ S1 O1, Ex S' S1 → A false O1 → P.nx σ' S1 O1)) : Fx (tWhile tt t) σ S O P := fun H D n0 n rt bk ct => by
  refine ⟨fun m σ' H' => ∃ S' O', GrO S O H S' O' H' ∧ W m σ' S' O', ⟨m0, S, O, .refl n0, h0⟩, ?_⟩
  rintro m σ' H' ⟨S2, O2, g2, hw⟩
  obtain ⟨A, hb, h1, h2⟩ := hs m σ' S2 O2 g2.s hw
  refine hb H' g2.i _ fun b S3 O3 H3 g3 hA => ?_
  have g4 := g2.trans g3
  cases b with
  | true =>
    refine ⟨fun σ5 H5 => ∃ m', m' < m ∧ ∃ S5 O5, GrO S O H S5 O5 H5 ∧ W m' σ5 S5 O5, fun σ5 H5 h => h, ?_⟩
    exact h1 S3 O3 g3.s hA H3 _ g3.i (fun σ5 S5 O5 H5 g5 ⟨m', hm', z⟩ => ⟨m', hm', S5, O5, g4.trans g5, z⟩) (fun v S5 O5 H5 g5 z => rt v S5 O5 H5 (g4.trans g5) z) (fun σ5 S5 O5 H5 g5 z => n σ5 S5 O5 H5 (g4.trans g5) z) (fun σ5 S5 O5 H5 g5 ⟨m', hm', z⟩ => ⟨m', hm', S5, O5, g4.trans g5, z⟩)
  | false => exact n σ' S3 O3 H3 g4 (h2 S3 O3 g3.s hA)
/-! ### dicts of one's own -/
def OwnD (r : Rp α) (S O : Hp) (p : Addr) (d : List (Int × α)) : Prop := ∃ kvs, O p = some (.dK kvs) ∧ DAll r S d kvs
theorem OwnD.mono {p : Addr} {d : List (Int × α)} (e : Ex S S') (h : OwnD r S O p d) : OwnD r S' O p d := by
  obtain ⟨kvs, h1, h2⟩ := h; exact ⟨kvs, h1, h2.mono e⟩
theorem OwnD.rd {p : Addr} {d : List (Int × α)} (hd : ∀ q u, O q = some u → S q = none) (h : OwnD r S O p d) : (aR r).r d (.ref p) (uni S O) := by
  obtain ⟨kvs, h1, h2⟩ := h
  exact ⟨p, kvs, rfl, .inl (uni_o hd h1), h2.mono uni_l⟩
/-- d = {} -/
theorem fx_dnew {i : Nat} (k : ∀ p, P.nx (σ.set i (some (.ref p))) S (upd O p (.dK []))) : Fx (tAsg tDNewK (gName i)) σ S O P := fun H D n0 n _ _ _ p hp => n _ S _ _ (.fresh n0 hp) (k p)
/-- d = dict(e) -/
theorem fx_dcopy {i : Nat} {d : List (Int × α)} (h : E te σ S (aR r) d) (k : ∀ p S1 kvs, Ex S S1 → DAll r S1 d kvs → P.nx (σ.set i (some (.ref p))) S1 (upd O p (.dK kvs))) :
    Fx (tAsg (tCB (fun xs H Q => ∃ (a : Addr) (kvs : List (Key × V)), xs = [.ref a] ∧ Rd H a (.dK kvs) ∧ ∀ p, H p = none → Q (.ref p) (upd H p (.dK kvs))) (tCons te tNil)) (gName i)) σ S O P := fun H D n0 n _ _ _ =>
  h H n0.s _ fun v S1 H1 g ⟨a, kvs, h1, h2, h3⟩ => ⟨a, kvs, by rw [h1], Evl.ex_rd g.i h2, fun p hp => n _ S1 _ _ ((GrO.of n0 g).trans (.fresh (GrO.of n0 g).i hp)) (k p S1 kvs g.s h3)⟩
/-- d[k] = v -/
theorem fx_dput {i : Nat} {p : Addr} {d : List (Int × α)} {z : Int} {tk tv : TE} {A : α → Hp → Prop} (hσ : σ[i]? = some (some (.ref p))) (hO : OwnD r S O p d) (hl : d.length < 1000000) (hv : EX tv σ S O r A) (hA : ∀ a O', A a O' → O' = O) (hk : E tk σ S aI z)
    (k : ∀ a S1 O1 O2, Ex S S1 → A a O1 → OwnD r S1 O2 p (putD d z a) → (∀ q, q ≠ p → O2 q = O q) → P.nx σ S1 O2) : Fx (sDPut (tVar i) tk tv) σ S O P := fun H D n0 n _ _ _ => hv H n0 _ fun a v S1 O1 H1 g hva hA1 => by
  have hOO := hA _ _ hA1
  subst hOO
  obtain ⟨kvs, h1, h2⟩ := hO
  refine ⟨.ref p, hσ, (hk.mono g.s).int H1 g.i.s _ fun H2 e2 => ?_⟩
  have G2 := g.trans (.heap g.i e2)
  refine ⟨p, _, rfl, .inl ⟨kvs, Sum.inl z, G2.i.o p _ h1, rfl, by have := h2.len; rw [sizeLine_eq]; omega, rfl⟩, ?_⟩
  exact n σ S1 _ _ (G2.trans (.mut G2.i h1)) (k a S1 _ _ g.s hA1 ⟨_, upd_same, dall_put (h2.mono g.s) z hva⟩ fun q hq => upd_ne hq)
theorem qf_dnew {i : Nat} (k : ∀ p O1, OwnD r S O1 p ([] : List (Int × α)) → (∀ q, q ≠ p → O1 q = O q) → Fx w (σ.set i (some (.ref p))) S O1 P) : Fx (tSeq (tAsg tDNewK (gName i)) w) σ S O P :=
  fx_seq (M := fun σ' S' O' => Fx w σ' S' O' P) (fx_dnew fun p => k p _ ⟨[], upd_same, .nil⟩ fun q hq => upd_ne hq) fun _ _ _ _ h => h
theorem qf_dcopy {i : Nat} {d : List (Int × α)} (h : E te σ S (aR r) d) (k : ∀ p S1 O1, Ex S S1 → OwnD r S1 O1 p d → (∀ q, q ≠ p → O1 q = O q) → Fx w (σ.set i (some (.ref p))) S1 O1 P) :
    Fx (tSeq (tAsg (tCB (fun xs H Q => ∃ (a : Addr) (kvs : List (Key × V)), xs = [.ref a] ∧ Rd H a (.dK kvs) ∧ ∀ p, H p = none → Q (.ref p) (upd H p (.dK kvs))) (tCons te tNil)) (gName i)) w) σ S O P :=
  fx_seq (M := fun σ' S' O' => Fx w σ' S' O' P) (fx_dcopy h fun p S1 kvs e hd => k p S1 _ e ⟨kvs, upd_same, hd⟩ fun q hq => upd_ne hq) fun _ _ _ _ h => h
/-- x = the own dict, frozen and known from now on -/
theorem fx_dfreeze {i j : Nat} {p : Addr} {d : List (Int × α)} (hσ : σ[i]? = some (some (.ref p))) (hO : OwnD r S O p d) (k : ∀ S1, Ex S S1 → (aD r).r d (.ref p) S1 → P.nx (σ.set j (some (.ref p))) S1 (less O p)) : Fx (tAsg (tFreeze (tVar i)) (gName j)) σ S O P := fun H D n0 n _ _ _ => by
  obtain ⟨kvs, h1, h2⟩ := hO
  refine ⟨.ref p, hσ, p, .dK kvs, rfl, n0.o p _ h1, by trivial, fun od => ?_⟩
  have g := GrO.know (v := .frz od (.dK kvs)) n0 h1
  exact n _ _ _ _ g (k _ g.s ⟨p, od, kvs, rfl, upd_same, h2.mono g.s⟩)
theorem qf_dfreeze {i j : Nat} {p : Addr} {d : List (Int × α)} (hσ : σ[i]? = some (some (.ref p))) (hO : OwnD r S O p d) (k : ∀ S1, Ex S S1 → (aD r).r d (.ref p) S1 → Fx w (σ.set j (some (.ref p))) S1 (less O p) P) : Fx (tSeq (tAsg (tFreeze (tVar i)) (gName j)) w) σ S O P :=
  fx_seq (M := fun σ' S' O' => Fx w σ' S' O' P) (fx_dfreeze hσ hO k) fun _ _ _ _ h => h
/-- return the own dict, frozen -/
theorem fx_dret {i : Nat} {p : Addr} {d : List (Int × α)} (hσ : σ[i]? = some (some (.ref p))) (hO : OwnD r S O p d) (k : ∀ S1, Ex S S1 → (aD r).r d (.ref p) S1 → P.rt (.ref p) S1 (less O p)) : Fx (tRet (tFreeze (tVar i))) σ S O P := fun H D n0 _ n _ _ => by
  obtain ⟨kvs, h1, h2⟩ := hO
  refine ⟨.ref p, hσ, p, .dK kvs, rfl, n0.o p _ h1, by trivial, fun od => ?_⟩
  have g := GrO.know (v := .frz od (.dK kvs)) n0 h1
  exact n _ _ _ _ g (k _ g.s ⟨p, od, kvs, rfl, upd_same, h2.mono g.s⟩)
/-- the own dict is known from now on -/
theorem fx_know {p : Addr} {d : List (Int × α)} (hO : OwnD r S O p d) (k : ∀ S1, Ex S S1 → (aM r).r d (.ref p) S1 → Fx t σ S1 (less O p) P) : Fx t σ S O P := fun H D n0 n rt bk ct => by
  obtain ⟨kvs, h1, h2⟩ := hO
  have g := GrO.know (v := .dK kvs) n0 h1
  rw [show upd H p (.dK kvs) = H from funext fun q => by
    by_cases z : q = p
    · subst z; rw [upd_same, n0.o _ _ h1]
    · rw [upd_ne z]] at g
  exact k _ g.s ⟨p, kvs, rfl, upd_same, h2.mono g.s⟩ H D g.i (fun σ2 S2 O2 H2 g2 => n σ2 S2 O2 H2 (g.trans g2)) (fun v S2 O2 H2 g2 => rt v S2 O2 H2 (g.trans g2)) (fun σ2 S2 O2 H2 g2 => bk σ2 S2 O2 H2 (g.trans g2)) (fun σ2 S2 O2 H2 g2 => ct σ2 S2 O2 H2 (g.trans g2))
theorem dall_keys {d : List (Int × α)} {kvs : List (Key × V)} (h : DAll r S d kvs) : All2 aI S' (d.map (·.1)) (kvs.map fun kv => kV kv.1) := by
  induction h with
  | nil => exact .nil
  | cons h _ ih => rw [List.map_cons, List.map_cons]; exact .cons (by rw [h.1]; rfl) ih
/-- list(d), the keys -/
theorem ex_dlist {i : Nat} {p : Addr} {d : List (Int × α)} (hσ : σ[i]? = some (some (.ref p))) (hO : OwnD r S O p d) :
    EX (tCB (fun xs H Q => ∃ (a : Addr) (kvs : List (Key × V)), xs = [.ref a] ∧ Rd H a (.dK kvs) ∧ ∀ p, H p = none → Q (.ref p) (upd H p (.lst (kvs.map fun kv => kV kv.1)))) (tCons (tVar i) tNil)) σ S O (aL K aI) (fun xs O' => xs = d.map (·.1) ∧ O' = O) := fun H n0 Q k => by
  obtain ⟨kvs, h1, h2⟩ := hO
  refine ⟨.ref p, hσ, p, kvs, rfl, .inl (n0.o p _ h1), fun l hl => ?_⟩
  have g := Grow.new (o := .lst (kvs.map fun kv => kV kv.1)) n0.s hl
  exact k _ _ _ O _ (GrO.of n0 g) ⟨l, _, rfl, sq_of upd_same, dall_keys h2⟩ ⟨rfl, rfl⟩
end
end EL

/-! EL15: set(dict), len(dict), and readings of own objects. -/
namespace EL
open PySem PySem.Spec PyProof.Rows L2
open Evl (Ex ex_t ex_l sq_of st_of fresh_back)
def rSetD (w : World) : List V → Hp → VK → Prop := fun vs H Q => ∃ (a : Addr) (kvs : List (Key × V)) (ns : List Int), vs = [V.ref a] ∧ Rd H a (.dK kvs) ∧ kvs.map (·.1) = ns.map Sum.inl ∧ ns.length + 1 < scanBound ∧
  ∀ p, H p = none → Q (.ref p) (upd H p (SetO w p (fun j => decide (j ∈ ns)) (uniq ns).length))
def rLenD : List V → Hp → VK → Prop := fun vs H Q => ∃ a kvs, vs = [V.ref a] ∧ Rd H a (.dK kvs) ∧ Q (.int kvs.length) H
section
variable {X : Cx}
theorem cr_either {f : Value} {r1 r2 : List V → Hp → VK → Prop} (h1 : CallR X f r1) (h2 : CallR X f r2) : CallR X f (fun vs H Q => r1 vs H Q ∨ r2 vs H Q) := fun pins s σ H xs us Q I r h => h.elim (h1 pins s σ H xs us Q I r) (h2 pins s σ H xs us Q I r)
theorem kv_keys {kvs : List (Key × V)} {vs : List (Key × Value)} (h : KV kvs vs) : vs.map (·.1) = kvs.map (·.1) := by
  induction h with
  | nil => rfl
  | cons h _ ih => rw [List.map_cons, List.map_cons, ih, h.1]
theorem cr_setD (hc : X.calm = true) : CallR X (.type "set") (rSetD X.w) := by
  intro pins s σ H vs us Q I r h
  obtain ⟨a, kvs, ns, rfl, hs, hk1, hb, q⟩ := h
  have r := Vals.ref1 r
  subst r
  obtain ⟨z, lo, vs, rel, dd⟩ := dk_rd I.hok hs
  refine call_set_by (R := fun h' => ∃ c, c ≤ ns.length ∧ SetR X.w h' s.heap.objs.size (fun j => decide (j ∈ ns)) c) (fun A' hA => update_dict ns (hA.trans (I.ok.hd hc)) lo dd (by rw [kv_keys rel]; exact hk1) hb) fun h' tk ⟨c, _, R⟩ hk => ?_
  have e := setR_count R
  subst e
  exact ⟨.ref s.heap.objs.size, _, I.laid (t' := tk) hk (Nat.le_refl _) (setO_new R), rfl, q _ (I.hok.fresh (Nat.le_refl _))⟩
theorem cr_lenD : CallR X (.builtin "len") rLenD := by
  intro pins s σ H xs us Q I r h
  obtain ⟨a, kvs, rfl, ha, q⟩ := h
  obtain ⟨u, rfl, ru⟩ := vals1 r
  cases ru
  exact d_len I ha fun t s' I' => ⟨.int kvs.length, H, I', ⟨t, rfl⟩, q⟩
end
section
variable {K : PySem.W.Frag} {w : World} {α β γ : Type} {r : Rp α} {q : Rp β} {rr : Rp γ} {σ : L2.St} {S S' O H H' : Hp} {te ta tb tv : TE} {P : PF}
/-- a list of whole numbers, or the keys of a dict -/
def aK (K : PySem.W.Frag) : Rp (List Int) := ⟨fun xs v S => (aL K aI).r xs v S ∨ ∃ d kvs, v = .ref d ∧ Rd S d (.dK kvs) ∧ kvs.map (·.1) = xs.map Sum.inl, fun {xs v S S'} e h => h.elim (fun h => .inl ((aL K aI).mono e h)) fun ⟨d, kvs, h1, h2, h3⟩ => .inr ⟨d, kvs, h1, Evl.ex_rd e h2, h3⟩⟩
theorem E.rep {q : Rp α} {a : α} (h : E te σ S r a) (k : ∀ v S', r.r a v S' → q.r a v S') : E te σ S q a := fun H e Q c => h H e Q fun v S' H' g hv => c v S' H' g (k v S' hv)
theorem dall_k {xs : List (Int × α)} {kvs : List (Key × V)} (h : DAll r S xs kvs) : kvs.map (·.1) = (xs.map (·.1)).map Sum.inl := by
  induction h with
  | nil => rfl
  | cons h _ ih => rw [List.map_cons, List.map_cons, List.map_cons, ih, h.1]
theorem E.listK {xs : List Int} (h : E te σ S (aL K aI) xs) : E te σ S (aK K) xs := h.rep fun _ _ h => .inl h
theorem E.dictK {xs : List (Int × α)} (h : E te σ S (aR r) xs) : E te σ S (aK K) (xs.map (·.1)) := fun H e Q c => h H e Q fun v S' H' g ⟨d, kvs, h1, h2, h3⟩ => c v S' H' g (.inr ⟨d, kvs, h1, h2, dall_k h3⟩)
theorem e_setK {ns : List Int} (h : E ta σ S (aK K) ns) (hl : ns.length < 4000) : E (tCB (fun vs H Q => rSetL K w vs H Q ∨ rSetD w vs H Q) (tCons ta tNil)) σ S (aS w) ns := fun H e Q k => h H e _ fun v S1 H1 g hr => by
  rcases hr with ⟨p, vs, e1, hp, h2⟩ | ⟨d, kvs, h1, h2, h3⟩
  · have e2 := h2.ints
    subst e1; subst e2
    refine .inl ⟨p, ns, rfl, ex_l g.i hp, by unfold scanBound; omega, fun l hn => ?_⟩
    exact k (.ref l) _ _ (g.trans (Grow.new g.i hn)) ⟨l, rfl, upd_same⟩
  · subst h1
    refine .inr ⟨d, kvs, ns, rfl, Evl.ex_rd g.i h2, h3, by unfold scanBound; omega, fun l hn => ?_⟩
    exact k (.ref l) _ _ (g.trans (Grow.new g.i hn)) ⟨l, rfl, upd_same⟩
theorem e_lenD {xs : List (Int × α)} (h : E ta σ S (aR r) xs) : E (tCB rLenD (tCons ta tNil)) σ S aI (xs.length : Int) := .of_int fun H e Q k => h H e _ fun v S1 H1 g ⟨d, kvs, h1, h2, h3⟩ => by
  refine ⟨d, kvs, by rw [h1], Evl.ex_rd g.i h2, ?_⟩
  rw [← h3.len]; exact k H1 g.h
/-- {k: v}, one pair; frozen from its making on -/
theorem e_disp1 {z : Int} {a : α} {tk : TE} (hk : E tk σ S aI z) (hv : E tv σ S r a) : E (tFreeze (tDisp [(tk, tv)])) σ S (aD r) [(z, a)] := fun H e Q c p hp => by
  have g0 : Grow S H S (upd H p (.dK [])) := Grow.heap e (Ex.new hp)
  refine hk.int _ g0.i _ fun H1 e1 => hv H1 (g0.i.trans e1) _ fun v S2 H2 g2 hr => ?_
  have gA : Grow S H S2 H2 := (g0.trans (Grow.heap g0.i e1)).trans g2
  have eD : H2 p = some (.dK []) := (e1.trans g2.h) p _ upd_same
  have nD : S2 p = none := g2.n p _ (fresh_back e hp) (e1 p _ upd_same)
  refine ⟨eD, [(Sum.inl z, v)], rfl, by show 1 ≤ 15; decide, p, _, rfl, upd_same, by trivial, fun od => ?_⟩
  have gB := (gA.mut (o := .dK (mergeK [] [(Sum.inl z, v)])) hp nD).mut (o := .frz od (.dK (mergeK [] [(Sum.inl z, v)]))) hp nD
  exact c _ _ _ (gB.know hp nD upd_same) ⟨p, od, _, rfl, upd_same, .cons ⟨rfl, r.mono (Ex.new nD) hr⟩ .nil⟩
/-- .. not frozen, one's own -/
theorem fx_disp1 {i : Nat} {z : Int} {a : α} {tk : TE} (hk : E tk σ S aI z) (hv : E tv σ S r a) (k : ∀ p S1 O1, Ex S S1 → OwnD r S1 O1 p [(z, a)] → (∀ q, q ≠ p → O1 q = O q) → P.nx (σ.set i (some (.ref p))) S1 O1) : Fx (tAsg (tDisp [(tk, tv)]) (gName i)) σ S O P := fun H D n0 n _ _ _ p hp => by
  have e := n0.s
  have g0 : Grow S H S (upd H p (.dK [])) := Grow.heap e (Ex.new hp)
  refine hk.int _ g0.i _ fun H1 e1 => hv H1 (g0.i.trans e1) _ fun v S2 H2 g2 hr => ?_
  have gA : Grow S H S2 H2 := (g0.trans (Grow.heap g0.i e1)).trans g2
  have eD : H2 p = some (.dK []) := (e1.trans g2.h) p _ upd_same
  have nD : S2 p = none := g2.n p _ (fresh_back e hp) (e1 p _ upd_same)
  refine ⟨eD, [(Sum.inl z, v)], rfl, by show 1 ≤ 15; decide, ?_⟩
  have G0 := GrO.fresh (v := .dK []) n0 hp
  have G1 := (G0.trans (.heap G0.i e1))
  have G2 := G1.trans (.of G1.i g2)
  have G3 := G2.trans (.mut (v := .dK (mergeK [] [(Sum.inl z, v)])) G2.i upd_same)
  refine n _ _ _ _ G3 (k p _ _ g2.s ⟨_, upd_same, .cons ⟨rfl, hr⟩ .nil⟩ fun q hq => ?_)
  rw [upd_ne hq, upd_ne hq]
theorem qf_disp1 {i : Nat} {z : Int} {a : α} {tk : TE} {u : TS} (hk : E tk σ S aI z) (hv : E tv σ S r a) (k : ∀ p S1 O1, Ex S S1 → OwnD r S1 O1 p [(z, a)] → (∀ q, q ≠ p → O1 q = O q) → Fx u (σ.set i (some (.ref p))) S1 O1 P) : Fx (tSeq (tAsg (tDisp [(tk, tv)]) (gName i)) u) σ S O P :=
  fx_seq (M := fun σ' S' O' => Fx u σ' S' O' P) (fx_disp1 hk hv k) fun _ _ _ _ h => h
theorem _root_.L2.Room.u1 {k : Nat} {A : Around} (r : L2.Room k A) : A.units + 1 < cLine := by have := r.units; omega
/-- d[k] += v, written out -/
def addD (d : List (Int × Int)) (k v : Int) : List (Int × Int) := putD d k ((lookD d k).getD 0 + v)
theorem fx_addD {i : Nat} {p : Addr} {d : List (Int × Int)} {z v : Int} {tk tk' : TE} (hσ : σ[i]? = some (some (.ref p))) (hO : OwnD aI S O p d) (hl : d.length < 1000000) (hk : E tk σ S aI z) (hk' : E tk' σ S aI z) (hv : E tv σ S aI v)
    (k : ∀ S1 O1, Ex S S1 → OwnD aI S1 O1 p (addD d z v) → (∀ q, q ≠ p → O1 q = O q) → P.nx σ S1 O1) : Fx (sDPut (tVar i) tk (tOp (rI0 fun i j => .int (i + j)) (tDGet2 (tVar i) tk' (tC (.int 0))) tv)) σ S O P :=
  fx_dput hσ hO hl (EX.int fun hd => e_add (e_dget2 (e_var hσ (hO.rd hd)) (hk'.mono uni_l) e_int) (hv.mono uni_l)) (fun _ _ h => h.2) hk fun a S1 O1 O2 e h1 h2 h3 => by
    obtain ⟨h4, h5⟩ := h1
    subst h4
    exact k S1 O2 e h2 h3
end
end EL

/-! EL16: own lists; promises that tell a property; the law's state. -/
namespace EL
open PySem PySem.Spec PyProof.Rows L2
open Evl (Ex ex_t ex_l sq_of st_of fresh_back)
section
variable {S O H S' O' H' : Hp}
/-- an object that is own beside what a part knows to be own -/
theorem In.sub {D : Addr} {u : HO} (i : In S (upd O D u) H) (hD : O D = none) : In S O H := ⟨i.s, fun q w h => i.o q w (by
  have : q ≠ D := fun z => by rw [z, hD] at h; cases h
  rw [upd_ne this]; exact h), fun q w h => i.d q w (by
  have : q ≠ D := fun z => by rw [z, hD] at h; cases h
  rw [upd_ne this]; exact h)⟩
theorem GrO.beside {D : Addr} {u : HO} (g : GrO S O H S' O' H') (hD : O D = none) (hS : S D = none) (hH : H D = some u) : GrO S (upd O D u) H S' (upd O' D u) H' ∧ O' D = none := by
  have hn := g.n D u hH hS hD
  refine ⟨⟨g.s, ⟨g.i.s, fun q w e => ?_, fun q w e => ?_⟩, fun q w e1 e2 => ?_, fun q w e1 e2 e3 => ?_⟩, hn.2⟩
  · by_cases z : q = D
    · subst z; rw [upd_same] at e; cases e; exact g.h q _ hH hD
    · rw [upd_ne z] at e; exact g.i.o q w e
  · by_cases z : q = D
    · subst z; exact hn.1
    · rw [upd_ne z] at e; exact g.i.d q w e
  · have z : q ≠ D := fun z => by rw [z, upd_same] at e2; cases e2
    rw [upd_ne z] at e2; exact g.h q w e1 e2
  · have z : q ≠ D := fun z => by rw [z, upd_same] at e3; cases e3
    rw [upd_ne z] at e3; rw [upd_ne z]; exact g.n q w e1 e2 e3
theorem upd_upd {p : Addr} {u v : HO} : upd (upd H p u) p v = upd H p v := funext fun q => by
  by_cases z : q = p
  · subst z; rw [upd_same, upd_same]
  · rw [upd_ne z, upd_ne z, upd_ne z]
theorem less_upd {p : Addr} {u : HO} (h : O p = none) : less (upd O p u) p = O := funext fun q => by
  by_cases z : q = p
  · subst z; rw [less_same, h]
  · rw [less_ne z, upd_ne z]
end
section
variable {K : PySem.W.Frag} {w : World} {α β γ : Type} {r : Rp α} {q : Rp β} {rr : Rp γ} {a : α} {b : β} {σ : L2.St} {S S' O O' H H' : Hp} {te ta tb tv : TE} {tr : TA} {P : PF} {t u : TS}
/-! ### own lists -/
def OwnL (r : Rp α) (S O : Hp) (p : Addr) (xs : List α) : Prop := ∃ vs, O p = some (.lst vs) ∧ All2 r S xs vs
theorem OwnL.mono {p : Addr} {xs : List α} (e : Ex S S') (h : OwnL r S O p xs) : OwnL r S' O p xs := by obtain ⟨vs, h1, h2⟩ := h; exact ⟨vs, h1, h2.mono e⟩
theorem OwnL.rd {p : Addr} {xs : List α} (hd : ∀ q u, O q = some u → S q = none) (h : OwnL r S O p xs) : (aL K r).r xs (.ref p) (uni S O) := by
  obtain ⟨vs, h1, h2⟩ := h
  exact ⟨p, vs, rfl, sq_of (uni_o hd h1), h2.mono uni_l⟩
theorem qf_lnew {i : Nat} (k : ∀ p O1, OwnL r S O1 p ([] : List α) → (∀ q, q ≠ p → O1 q = O q) → Fx u (σ.set i (some (.ref p))) S O1 P) : Fx (tSeq (tAsg (tLst tNil) (gName i)) u) σ S O P :=
  fx_seq (M := fun σ' S' O' => Fx u σ' S' O' P) (fun H D n0 n _ _ _ => ⟨Nat.zero_le _, fun p hp => n _ S _ _ (.fresh n0 hp) (k p _ ⟨[], upd_same, .nil⟩ fun q hq => upd_ne hq)⟩) fun _ _ _ _ h => h
theorem fx_append {i : Nat} {p : Addr} {xs : List α} {A : α → Hp → Prop} (hσ : σ[i]? = some (some (.ref p))) (hO : OwnL r S O p xs) (hl : xs.length < 1000000) (hv : EX tv σ S O r A) (hA : ∀ a O', A a O' → O' = O)
    (k : ∀ a S1 O1 O2, Ex S S1 → A a O1 → OwnL r S1 O2 p (xs ++ [a]) → (∀ q, q ≠ p → O2 q = O q) → P.nx σ S1 O2) : Fx (tDrop (tBM K "list" rAppend (tVar i) (tCons tv tNil))) σ S O P := fun H D n0 n _ _ _ => by
  obtain ⟨vs, h1, h2⟩ := hO
  refine ⟨.ref p, hσ, ?_, hv H n0 _ fun a v S1 O1 H1 g hva hA1 => ?_⟩
  · exact .inl ⟨rfl, vs, sq_of (n0.o p _ h1)⟩
  · have hOO := hA _ _ hA1
    subst hOO
    refine ⟨p, vs, v, rfl, rfl, g.i.o p _ h1, by have := h2.len; rw [sizeLine_eq]; omega, ?_⟩
    exact n σ S1 _ _ (g.trans (.mut g.i h1)) (k a S1 _ _ g.s hA1 ⟨_, upd_same, (h2.mono g.s).snoc hva⟩ fun q hq => upd_ne hq)
/-- the own list is known from now on -/
theorem fx_knowL {p : Addr} {xs : List α} (hO : OwnL r S O p xs) (k : ∀ S1, Ex S S1 → (aL K r).r xs (.ref p) S1 → Fx t σ S1 (less O p) P) : Fx t σ S O P := fun H D n0 n rt bk ct => by
  obtain ⟨vs, h1, h2⟩ := hO
  have g := GrO.know (v := .lst vs) n0 h1
  rw [show upd H p (.lst vs) = H from funext fun q => by
    by_cases z : q = p
    · subst z; rw [upd_same, n0.o _ _ h1]
    · rw [upd_ne z]] at g
  exact k _ g.s ⟨p, vs, rfl, sq_of upd_same, h2.mono g.s⟩ H D g.i (fun σ2 S2 O2 H2 g2 => n σ2 S2 O2 H2 (g.trans g2)) (fun v S2 O2 H2 g2 => rt v S2 O2 H2 (g.trans g2)) (fun σ2 S2 O2 H2 g2 => bk σ2 S2 O2 H2 (g.trans g2)) (fun σ2 S2 O2 H2 g2 => ct σ2 S2 O2 H2 (g.trans g2))
/-! ### a list of two things -/
def aPL (K : PySem.W.Frag) (r : Rp α) (q : Rp β) : Rp (α × β) := ⟨fun x v S => ∃ p u w, v = .ref p ∧ SqL K S p [u, w] ∧ r.r x.1 u S ∧ q.r x.2 w S, fun e ⟨p, u, w, h1, h2, h3, h4⟩ => ⟨p, u, w, h1, ex_l e h2, r.mono e h3, q.mono e h4⟩⟩
theorem e_l0 {x : α × β} (h : E ta σ S (aPL K r q) x) : E (tOp (rIxL K) ta (tC (.int 0))) σ S r x.1 := fun H e Q k => h H e _ fun v S1 H1 g ⟨p, u, w, h1, h2, h3, h4⟩ => ⟨p, [u, w], 0, u, h1, rfl, ex_l g.i h2, rfl, k u S1 H1 g h3⟩
theorem e_l1 {x : α × β} (h : E ta σ S (aPL K r q) x) : E (tOp (rIxL K) ta (tC (.int 1))) σ S q x.2 := fun H e Q k => h H e _ fun v S1 H1 g ⟨p, u, w, h1, h2, h3, h4⟩ => ⟨p, [u, w], 1, w, h1, rfl, ex_l g.i h2, rfl, k w S1 H1 g h4⟩
/-! ### a promise that tells a property -/
def specR {A : Type} (fa : A → Ra) (pre : A → Prop) (r : Rp γ) (post : A → γ → Prop) : Sp := fun vs H Q _ => ∃ S x, (fa x).P vs S ∧ Ex S H ∧ pre x ∧ ∀ y v S' H', Grow S H S' H' → r.r y v S' → post x y → Q v H'
theorem ex_callR {A : Type} {fa : A → Ra} {pre : A → Prop} {post : A → γ → Prop} {EE : XK} (x : A) (ha : EA tr σ S (fa x)) (hp : pre x) : EX (tCall (specR fa pre rr post) [] EE tr) σ S O rr (fun y O' => post x y ∧ O' = O) := fun H n Q k =>
  ha H n.s _ fun vs S1 H1 g hvs => ⟨S1, x, by rw [List.append_nil]; exact hvs, g.i, hp, fun y v S2 H2 g2 hv hp => k y v S2 O H2 (.of n (g.trans g2)) hv ⟨hp, rfl⟩⟩
/-! ### the law's state: a list of the numbers and of how many were taken -/
def St0 (ns : List Int) : Prop := (1 ≤ ns.length ∧ ns.length ≤ 4000) ∧ ∀ z ∈ ns, 0 ≤ z ∧ z < 1009
def LawN (K : PySem.W.Frag) (S : Hp) (pn : Addr) (ns : List Int) : Prop := SqL K S pn (ns.map V.int) ∧ St0 ns
theorem LawN.mono {pn : Addr} {ns : List Int} (e : Ex S S') (h : LawN K S pn ns) : LawN K S' pn ns := ⟨ex_l e h.1, h.2⟩
def LawK (O : Hp) (p pn : Addr) (n : Nat) : Prop := ∃ k : Int, (O = fun q => if q = p then some (.lst [.ref pn, .int k]) else none) ∧ 0 ≤ k ∧ k ≤ n
theorem LawK.le {p pn : Addr} {n m : Nat} (h : LawK O p pn n) (hm : n ≤ m) : LawK O p pn m := by obtain ⟨k, h1, h2, h3⟩ := h; exact ⟨k, h1, h2, by omega⟩
/-- a promise over the state: at most c x numbers are taken -/
def sspec (K : PySem.W.Frag) {A : Type} (fa : A → Ra) (pre : A → Prop) (c : A → Nat) (r : Rp γ) (post : A → γ → Prop) : Sp := fun vs H Q _ => ∃ S O p pn ns n x ws, vs = .ref p :: ws ∧ LawN K S pn ns ∧ LawK O p pn n ∧ In S O H ∧ n + c x ≤ 100000 ∧ (fa x).P ws S ∧ pre x ∧
  ∀ y v S' O' H', GrO S O H S' O' H' → LawK O' p pn (n + c x) → r.r y v S' → post x y → Q v H'
theorem ex_callS {A : Type} {fa : A → Ra} {pre : A → Prop} {c : A → Nat} {post : A → γ → Prop} {EE : XK} {i : Nat} {p pn : Addr} {ns : List Int} {n : Nat} (x : A) (hσ : σ[i]? = some (some (.ref p))) (hN : LawN K S pn ns) (hK : LawK O p pn n) (hn : n + c x ≤ 100000) (ha : EA tr σ S (fa x)) (hp : pre x) :
    EX (tCall (sspec K fa pre c rr post) [] EE (tCons (tVar i) tr)) σ S O rr (fun y O' => LawK O' p pn (n + c x) ∧ post x y) := fun H n0 Q k =>
  ⟨.ref p, hσ, ha H n0.s _ fun vs S1 H1 g hvs => by
    have G := GrO.of n0 g
    exact ⟨S1, O, p, pn, ns, n, x, vs, by rw [List.append_nil], hN.mono g.s, hK, G.i, hn, hvs, hp, fun y v S2 O2 H2 g2 h1 h2 h3 => k y v S2 O2 H2 (G.trans g2) h2 ⟨h1, h3⟩⟩⟩
theorem ex_callS0 {A : Type} {fa : A → Ra} {pre : A → Prop} {c : A → Nat} {post : A → γ → Prop} {EE : XK} {i : Nat} {p pn : Addr} {ns : List Int} {n : Nat} (x : A) (hσ : σ[i]? = some (some (.ref p))) (hN : LawN K S pn ns) (hK : LawK O p pn n) (hn : n + c x ≤ 100000) (ha : (fa x).P [] S) (hp : pre x) :
    EX (tCall (sspec K fa pre c rr post) [] EE (tCons (tVar i) tNil)) σ S O rr (fun y O' => LawK O' p pn (n + c x) ∧ post x y) := fun H n0 Q k =>
  ⟨.ref p, hσ, ⟨S, O, p, pn, ns, n, x, [], by rw [List.append_nil], hN, hK, n0, hn, ha, hp, fun y v S2 O2 H2 g2 h1 h2 h3 => k y v S2 O2 H2 g2 h2 ⟨h1, h3⟩⟩⟩
theorem lawK_d {p pn : Addr} {n : Nat} (hK : LawK O p pn n) : ∃ k : Int, O p = some (.lst [.ref pn, .int k]) ∧ 0 ≤ k ∧ k ≤ n := by
  obtain ⟨k, h1, h2, h3⟩ := hK
  exact ⟨k, by rw [h1]; exact if_pos rfl, h2, h3⟩
theorem law_rd {p pn : Addr} {ns : List Int} {k : Int} (hd : ∀ q u, O q = some u → S q = none) (hN : LawN K S pn ns) (h : O p = some (.lst [.ref pn, .int k])) : (aPL K (aL K aI) aI).r (ns, k) (.ref p) (uni S O) :=
  ⟨p, .ref pn, .int k, rfl, sq_of (uni_o hd h), ⟨pn, _, rfl, ex_l uni_l hN.1, All2.of_ints ns⟩, rfl⟩
/-- state[1] = .. -/
theorem qf_lput {i : Nat} {p pn : Addr} {z k : Int} (hσ : σ[i]? = some (some (.ref p))) (hO : O = fun q => if q = p then some (.lst [.ref pn, .int k]) else none) (hv : EX te σ S O aI (fun b O' => b = z ∧ O' = O))
    (h : ∀ S2 O2, Ex S S2 → (O2 = fun q => if q = p then some (.lst [.ref pn, .int z]) else none) → Fx u σ S2 O2 P) : Fx (tSeq (tAsg te (gSub (tVar i) (tC (.int 1)) L2.rSetL)) u) σ S O P :=
  fx_seq (M := fun σ' S' O' => σ' = σ ∧ Ex S S' ∧ O' = fun q => if q = p then some (.lst [.ref pn, .int z]) else none) (fun H D n0 n _ _ _ => hv H n0 _ fun a v S1 O1 H1 g hva hA1 => by
    obtain ⟨h1, h2⟩ := hA1
    subst h1; subst h2
    have hva : v = .int a := hva
    subst hva
    have hp : O1 p = some (.lst [.ref pn, .int k]) := by rw [hO]; exact if_pos rfl
    refine ⟨.ref p, hσ, p, [.ref pn, .int k], 1, 1, rfl, rfl, g.i.o p _ hp, rfl, ?_⟩
    refine n σ S1 _ _ (g.trans (.mut g.i hp)) ⟨rfl, g.s, funext fun q => ?_⟩
    by_cases hq : q = p
    · subst hq; rw [upd_same, if_pos rfl]; rfl
    · rw [upd_ne hq, if_neg hq, hO]; exact if_neg hq) fun σ' S' O' e ⟨h1, h2, h3⟩ => by
    subst h1
    exact h S' O' h2 h3
/-- [e for x in ..], e one that takes from the state -/
theorem ex_lc {wi : TI} {g : TG} {vs : List Nat} {bind : α → L2.St → L2.St → Hp → Prop} (xs : List α) (Inv : Nat → Hp → Prop) (B : γ → Prop) (hi : EI wi σ S r xs) (hg : Tg g r bind) (hl : xs.length ≤ 100000) (hw : ∀ a σ' S', bind a (wipe σ vs) σ' S' → wipe σ' vs = wipe σ vs)
    (h0 : Inv 0 O) (he : ∀ i a σ' S' O', xs[i]? = some a → Ex S S' → Inv i O' → bind a (wipe σ vs) σ' S' → EX te σ' S' O' rr (fun b O2 => Inv (i + 1) O2 ∧ B b)) :
    EX (tLc wi g tYes te vs) σ S O (aL K rr) (fun bs O' => Inv xs.length O' ∧ bs.length = xs.length ∧ ∀ b ∈ bs, B b) := fun H n0 Q k => hi H n0.s _ fun J S1 H1 g1 wr D hD => by
  have G1 := GrO.of n0 g1
  have hOD : O D = none := fresh_back G1.i.o hD
  refine ⟨fun i m H2 => m = xs.length - i ∧ i ≤ xs.length ∧ ∃ S2 O2 us bs, GrO S1 O H1 S2 (upd O2 D (.lst us)) H2 ∧ O2 D = none ∧ Inv i O2 ∧ All2 rr S2 bs us ∧ bs.length = i ∧ ∀ b ∈ bs, B b, ⟨xs.length, rfl, Nat.zero_le _, S1, O, [], [], .fresh G1.i hD, hOD, h0, .nil, rfl, fun b hb => (nomatch hb)⟩, ?_⟩
  rintro i m H2 ⟨rfl, hi2, S2, O2, us, bs, g2, hO2, hI, hA, hlen, hB⟩
  have e2 : Ex S1 H2 := g2.s.trans g2.i.s
  have hHD : H2 D = some (.lst us) := g2.i.o D _ upd_same
  have hSD : S2 D = none := g2.i.d D _ upd_same
  by_cases hlt : i < xs.length
  · have hx : xs[i]? = some xs[i] := by simp
    refine .inr ⟨wr.goes i H2 hlt e2, fun H3 => ∃ S3 O3 us bs, GrO S1 O H1 S3 (upd O3 D (.lst us)) H3 ∧ O3 D = none ∧ Inv (i + 1) O3 ∧ All2 rr S3 bs us ∧ bs.length = i + 1 ∧ ∀ b ∈ bs, B b, fun H3 h => ⟨xs.length - (i + 1), by omega, rfl, hlt, h⟩, fun x H3 y => ?_⟩
    obtain ⟨S3, g3, hr⟩ := (wr.mono g2.s).yields i H2 x H3 _ hx g2.i.s y
    refine hg _ _ _ S3 H3 hr g3.i _ fun σ2 hb => ⟨hw _ _ _ hb, ?_⟩
    have n2 : In S2 O2 H2 := g2.i.sub hO2
    have G3 := GrO.of n2 g3
    refine he i xs[i] σ2 S3 O2 hx ((g1.s.trans g2.s).trans g3.s) hI hb H3 G3.i _ fun b z S4 O4 H4 g4 hz hA4 => ?_
    obtain ⟨G5, hO4⟩ := (G3.trans g4).beside hO2 hSD hHD
    have hH4 : H4 D = some (.lst us) := G5.i.o D _ upd_same
    refine ⟨us, hH4, by have := hA.len; rw [sizeLine_eq]; omega, S4, O4, us ++ [z], bs ++ [b], ?_, hO4, hA4.1, (hA.mono G5.s).snoc hz, by rw [List.length_append, hlen]; rfl, fun c hc => ?_⟩
    · have G6 := GrO.mut (v := .lst (us ++ [z])) G5.i upd_same
      rw [upd_upd] at G6
      exact (g2.trans G5).trans G6
    · rcases List.mem_append.mp hc with h | h
      · exact hB c h
      · rw [List.mem_singleton.mp h]; exact hA4.2
  · have hii : i = xs.length := by omega
    subst hii
    refine .inl ⟨wr.stops H2 e2, ?_⟩
    have G6 := GrO.know (v := .lst us) g2.i upd_same
    rw [less_upd hO2, show upd H2 D (.lst us) = H2 from funext fun q => by
      by_cases z : q = D
      · subst z; rw [upd_same, hHD]
      · rw [upd_ne z]] at G6
    exact k bs (.ref D) _ O2 H2 ((G1.trans g2).trans G6) ⟨D, us, rfl, sq_of upd_same, hA.mono G6.s⟩ ⟨hI, hlen, hB⟩
end
/-! ### defs with such promises -/
section
variable {P : Program} {w : World} {K : PySem.W.Frag} {mg : Str → Option Value} {base : Heap} {k : Nat} {ps : List Str}
theorem At.rel {A : Type} {γ : Type} {x : Str} {st : Stmt} {N : List Str} {fa : A → Ra} {pre : A → Prop} {r : Rp γ} {post : A → γ → Prop} (F : At K mg x st ps) (Sc : FnScope N ps (defScope st)) (hlen : ∀ a vs S, (fa a).P vs S → vs.length = ps.length)
    (hbody : ∀ (f : Addr) (cdv : Value) (A' : Around) (outer : List Env) (s : Shared) (H0 : Hp) (E : XK), Room k (A'.deeper (envOfC x (defScope st) s.heap.objs.size f cdv)) →
      ∃ t, PSs (cxOf CX0 P w K mg base N x (defScope st) f cdv A' outer s H0 E).nox (defBody st) t ∧ ∀ a vs S, (fa a).P vs S → pre a → Sx t (L2.start N vs) S { nx := fun _ S' => ∃ y, r.r y .non S' ∧ post a y, rt := fun v S' => ∃ y, r.r y v S' ∧ post a y }) : Callable P w K mg base x ps (specR fa pre r post) (k + 1) := by
  refine F.fn Sc (fun vs H Q E ⟨S, a, h, _⟩ => hlen a vs S h) fun f cdv A' outer s H0 E hr => ?_
  obtain ⟨t, ht, hw⟩ := hbody f cdv A' outer s H0 E hr
  refine ⟨t, ht, fun vs H Q E' ⟨S, a, h1, h2, h3, h4⟩ => ?_⟩
  exact hw a vs S h1 h3 H _ h2 (fun σ' S' H' g ⟨y, h, hp⟩ => h4 y .non S' H' g h hp) (fun v S' H' g ⟨y, h, hp⟩ => h4 y v S' H' g h hp) (fun _ _ _ _ h => h.elim) (fun _ _ _ _ h => h.elim)
theorem At.state {A : Type} {γ : Type} {x : Str} {st : Stmt} {N : List Str} {fa : A → Ra} {pre : A → Prop} {c : A → Nat} {r : Rp γ} {post : A → γ → Prop} (F : At K mg x st ps) (Sc : FnScope N ps (defScope st)) (hlen : ∀ a vs S, (fa a).P vs S → vs.length + 1 = ps.length)
    (hbody : ∀ (f : Addr) (cdv : Value) (A' : Around) (outer : List Env) (s : Shared) (H0 : Hp) (E : XK), Room k (A'.deeper (envOfC x (defScope st) s.heap.objs.size f cdv)) →
      ∃ t, PSs (cxOf CX0 P w K mg base N x (defScope st) f cdv A' outer s H0 E).nox (defBody st) t ∧ ∀ a ws S O p pn ns n, (fa a).P ws S → pre a → LawN K S pn ns → LawK O p pn n → n + c a ≤ 100000 →
        Fx t (L2.start N (.ref p :: ws)) S O { nx := fun _ _ _ => False, rt := fun v S' O' => ∃ y, r.r y v S' ∧ post a y ∧ LawK O' p pn (n + c a) }) : Callable P w K mg base x ps (sspec K fa pre c r post) (k + 1) := by
  refine F.fn Sc (fun vs H Q E ⟨S, O, p, pn, ns, n, a, ws, e, _, _, _, _, h, _⟩ => by rw [e]; exact hlen a ws S h) fun f cdv A' outer s H0 E hr => ?_
  obtain ⟨t, ht, hw⟩ := hbody f cdv A' outer s H0 E hr
  refine ⟨t, ht, fun vs H Q E' ⟨S, O, p, pn, ns, n, a, ws, e, hN, hK, hi, hn, h1, h3, h4⟩ => ?_⟩
  subst e
  exact hw a ws S O p pn ns n h1 h3 hN hK hn H _ hi (fun σ' S' O' H' g h => h.elim) (fun v S' O' H' g ⟨y, h, hp, hk⟩ => h4 y v S' O' H' g hk h hp) (fun _ _ _ _ _ h => h.elim) (fun _ _ _ _ _ h => h.elim)
end
end EL

/-! EL17: more steps with own objects in sight. -/
namespace EL
open PySem PySem.Spec PyProof.Rows L2
open Evl (Ex ex_t ex_l sq_of st_of fresh_back)
section
variable {K : PySem.W.Frag} {w : World} {α β γ : Type} {r : Rp α} {q : Rp β} {rr : Rp γ} {a : α} {b : β} {σ : L2.St} {S S' O O' H H' : Hp} {te ta tb tv : TE} {tr : TA} {tt : TT} {P : PF} {t u : TS}
theorem qf_par {i j : Nat} (h : EA tr σ S (aCons r a (aCons q b aNil))) (k : ∀ v w S', Ex S S' → r.r a v S' → q.r b w S' → Fx u ((σ.set i (some v)).set j (some w)) S' O P) : Fx (tSeq (tPar i j tr) u) σ S O P :=
  fx_seq (M := fun σ' S' O' => Fx u σ' S' O' P) (fx_sx (sx_par h fun v w S' e h1 h2 => k v w S' e h1 h2)) fun _ _ _ _ h => h
theorem qf_parC {i j : Nat} {va vb : V} (k : Fx u ((σ.set i (some va)).set j (some vb)) S O P) : Fx (tSeq (tPar i j (tCons (tC va) (tCons (tC vb) tNil))) u) σ S O P :=
  fx_seq (M := fun σ' S' O' => Fx u σ' S' O' P) (fun H D n0 n _ _ _ => ⟨va, vb, rfl, n _ S O H (.refl n0) k⟩) fun _ _ _ _ h => h
theorem qf_par3 {i j l : Nat} {va vb vc : V} (k : Fx u (((σ.set i (some va)).set j (some vb)).set l (some vc)) S O P) : Fx (tSeq (tPar3 i j l (tCons (tC va) (tCons (tC vb) (tCons (tC vc) tNil)))) u) σ S O P :=
  fx_seq (M := fun σ' S' O' => Fx u σ' S' O' P) (fun H D n0 n _ _ _ => ⟨va, vb, vc, rfl, n _ S O H (.refl n0) k⟩) fun _ _ _ _ h => h
/-- a, b, c = x, y, z, by a new tuple -/
theorem qf_tup3 {i j l : Nat} {va vb vc : V} (k : Fx u (((σ.set i (some va)).set j (some vb)).set l (some vc)) S O P) : Fx (tSeq (tAsg (tTup (tCons (tC va) (tCons (tC vb) (tCons (tC vc) tNil)))) (gTup K 3 (gCons (gName i) (gCons (gName j) (gCons (gName l) gNil))))) u) σ S O P :=
  fx_seq (M := fun σ' S' O' => Fx u σ' S' O' P) (fun H D n0 n _ _ _ => ⟨by show 3 ≤ sizeLine; decide, fun p hp => ⟨p, [va, vb, vc], rfl, st_of upd_same, rfl, va, _, rfl, vb, _, rfl, vc, _, rfl, rfl, n _ S O _ (.heap n0 (Ex.new hp)) k⟩⟩) fun _ _ _ _ h => h
theorem qf_tup2 {i j : Nat} {va vb : V} (k : Fx u ((σ.set i (some va)).set j (some vb)) S O P) : Fx (tSeq (tAsg (tTup (tCons (tC va) (tCons (tC vb) tNil))) (gTup K 2 (gCons (gName i) (gCons (gName j) gNil)))) u) σ S O P :=
  fx_seq (M := fun σ' S' O' => Fx u σ' S' O' P) (fun H D n0 n _ _ _ => ⟨by show 2 ≤ sizeLine; decide, fun p hp => ⟨p, [va, vb], rfl, st_of upd_same, rfl, va, _, rfl, vb, _, rfl, rfl, n _ S O _ (.heap n0 (Ex.new hp)) k⟩⟩) fun _ _ _ _ h => h
theorem qf_skipE (h : ET tt σ S false) (k : Fx u σ S O P) : Fx (tSeq (tIfS tt t tNext) u) σ S O P := fun H D n0 n rt bk ct => h H n0.s _ fun H1 e1 => by
  have g := GrO.heap n0 e1
  exact k H1 D g.i (fun σ2 S2 O2 H2 g2 => n σ2 S2 O2 H2 (g.trans g2)) (fun v S2 O2 H2 g2 => rt v S2 O2 H2 (g.trans g2)) (fun σ2 S2 O2 H2 g2 => bk σ2 S2 O2 H2 (g.trans g2)) (fun σ2 S2 O2 H2 g2 => ct σ2 S2 O2 H2 (g.trans g2))
theorem qf_setE {i : Nat} (h : E te σ S r a) (k : ∀ v S1, Ex S S1 → r.r a v S1 → Fx u (σ.set i (some v)) S1 O P) : Fx (tSeq (tAsg te (gName i)) u) σ S O P :=
  qf_set (EX.of h) fun a' v S1 O1 e hv hA => by obtain ⟨h1, h2⟩ := hA; subst h1; subst h2; exact k v S1 e hv
theorem fx_retE (h : E te σ S r a) (k : ∀ v S1, Ex S S1 → r.r a v S1 → P.rt v S1 O) : Fx (tRet te) σ S O P :=
  fx_ret (EX.of h) fun a' v S1 O1 e hv hA => by obtain ⟨h1, h2⟩ := hA; subst h1; subst h2; exact k v S1 e hv
theorem nef {α : Type} [DecidableEq α] {x y : α} (h : x = y) : (!decide (x = y)) = false := by rw [decide_eq_true h]; rfl
theorem neb {x y : Bool} (h : x = y) : (!(x == y)) = false := by subst h; cases x <;> rfl
theorem orf {x y : Bool} (h1 : x = false) (h2 : y = false) : (x || y) = false := by rw [h1, h2]; rfl
/-- the law's state, made -/
theorem qf_state {i : Nat} {tv : TE} (h : EX te σ S O (aL K aI) (fun ns O' => St0 ns ∧ O' = O)) (h0 : O = O0) (k : ∀ p pn ns S1 O1, Ex S S1 → LawN K S1 pn ns → LawK O1 p pn 0 → Fx u (σ.set i (some (.ref p))) S1 O1 P) : Fx (tSeq (tAsg (tLst (tCons te (tCons (tC (.int 0)) tNil))) (gName i)) u) σ S O P :=
  fx_seq (M := fun σ' S' O' => Fx u σ' S' O' P) (fun H D n0 n _ _ _ => h H n0 _ fun ns v S1 O1 H1 g ⟨pn, vs, h1, h2, h3⟩ hA => by
    have e := h3.ints
    subst e
    obtain ⟨hs, hO⟩ := hA
    subst hO
    refine ⟨by show 2 ≤ sizeLine; decide, fun p hp => ?_⟩
    have G := g.trans (.fresh (v := .lst [v, .int 0]) g.i hp)
    refine n _ S1 _ _ G (k p pn ns S1 _ g.s ⟨h2, hs⟩ ⟨0, ?_, Int.le_refl _, Int.le_refl _⟩)
    rw [h0, h1]
    funext q
    by_cases z : q = p
    · subst z; rw [upd_same, if_pos rfl]
    · rw [upd_ne z, if_neg z]; rfl) fun _ _ _ _ h => h
end
/-! ### the law -/
def spLaw (K : PySem.W.Frag) : Sp := fun vs H Q _ => ∃ (a : Addr) (ns : List Int), vs = [.ref a] ∧ SqL K H a (ns.map V.int) ∧ ∀ H', Q (.bl true) H'
section
variable {P : Program} {w : World} {K : PySem.W.Frag} {mg : Str → Option Value} {base : Heap} {k : Nat}
theorem law_fn {x : Str} {st : Stmt} {N : List Str} {f : Addr} {fd : FuncData} (F : FunD K x x (defArgs st) (defBody st) (defScope st) [] [] f fd) (Sc : FnScope N ["script"] (defScope st))
    (hbody : ∀ (f : Addr) (cdv : Value) (A' : Around) (outer : List Env) (s : Shared) (H0 : Hp) (E : XK), Room k (A'.deeper (envOfC x (defScope st) s.heap.objs.size f cdv)) →
      ∃ t, PSs (cxOf CX0 P w K mg base N x (defScope st) f cdv A' outer s H0 E).nox (defBody st) t ∧ ∀ ns v S, (aL K aI).r ns v S → Sx t (L2.start N [v]) S { nx := fun _ _ => False, rt := fun v _ => v = .bl true }) : FnOk P w K mg base CX0 (k + 1) f fd ["script"] (spLaw K) := by
  refine F.ok Sc (fun vs H Q E ⟨a, ns, h, _⟩ => by rw [h]; rfl) fun cdv A outer s H vs Q E hr ⟨a, ns, h1, h2, h3⟩ => ?_
  obtain ⟨t, ht, hw⟩ := hbody f cdv A outer s H E hr
  refine ⟨t, PSs.nox ht, ?_⟩
  subst h1
  exact hw ns (.ref a) H ⟨a, _, rfl, h2, All2.of_ints ns⟩ H _ (Ex.refl H) (fun σ' S' H' g h => h.elim) (fun v S' H' g h => by have h : v = .bl true := h; subst h; exact h3 H') (fun _ _ _ _ h => h.elim) (fun _ _ _ _ h => h.elim)
end
end EL

/-! M64a: small facts about lists of whole numbers. -/
namespace M
open PySem L2 EL
theorem flatMap_len {α β : Type} {f : α → List β} {m : Nat} : ∀ {xs : List α}, (∀ a ∈ xs, (f a).length ≤ m) → (xs.flatMap f).length ≤ xs.length * m
  | [], _ => by simp
  | x :: xs, h => by
    rw [List.flatMap_cons, List.length_append, List.length_cons, Nat.add_mul, Nat.one_mul]
    have := flatMap_len (xs := xs) fun a ha => h a (List.mem_cons_of_mem _ ha)
    have := h x List.mem_cons_self
    omega
theorem nodup_sub_len {α : Type} [DecidableEq α] : ∀ {xs ys : List α}, xs.Nodup → (∀ z ∈ xs, z ∈ ys) → xs.length ≤ ys.length
  | [], _, _, _ => Nat.zero_le _
  | x :: xs, ys, hn, h => by
    have hn' := List.nodup_cons.mp hn
    have hx : x ∈ ys := h x List.mem_cons_self
    have := nodup_sub_len (xs := xs) (ys := ys.erase x) hn'.2 fun z hz => by
      have : z ≠ x := fun e => hn'.1 (e ▸ hz)
      exact (List.mem_erase_of_ne this).mpr (h z (List.mem_cons_of_mem _ hz))
    rw [List.length_erase_of_mem hx] at this
    have : 0 < ys.length := List.length_pos_of_mem hx
    rw [List.length_cons]; omega
theorem asSet_le (xs : List Int) : (asSet xs).length ≤ xs.length := nodup_sub_len (asSet_nodup xs) fun z hz => mem_asSet.mp hz
theorem asSet_sub_le {xs ys : List Int} (h : ∀ z ∈ xs, z ∈ ys) : (asSet xs).length ≤ ys.length := nodup_sub_len (asSet_nodup xs) fun z hz => h z (mem_asSet.mp hz)
theorem cut_drop {α : Type} (xs : List α) (k : Nat) : cut xs (some (k : Int)) none = xs.drop k := by
  unfold cut
  rw [HT.sIx_none, HT.sIx_nat]
  by_cases h : k ≤ xs.length
  · rw [Nat.min_eq_left h, List.take_of_length_le]
    rw [List.length_drop]; exact Nat.le_refl _
  · rw [Nat.min_eq_right (by omega), Nat.sub_self, List.take_zero, List.drop_eq_nil_of_le (by omega)]
theorem cut_take {α : Type} (xs : List α) (k : Nat) : cut xs none (some (k : Int)) = xs.take k := by
  unfold cut
  rw [HT.sIx_none, HT.sIx_nat, List.drop_zero, Nat.sub_zero]
  by_cases h : k ≤ xs.length
  · rw [Nat.min_eq_left h]
  · rw [Nat.min_eq_right (by omega), List.take_of_length_le (Nat.le_refl _), List.take_of_length_le (by omega)]
theorem cut1 {α : Type} (xs : List α) : cut xs (some (1 : Int)) none = xs.drop 1 := cut_drop xs 1
theorem zip_asc : ∀ {xs : List Int}, xs.Pairwise (· < ·) → ∀ p ∈ xs.zip (xs.drop 1), p.1 < p.2
  | [], _, p, h => by simp at h
  | [x], _, p, h => by simp at h
  | x :: y :: r, hp, p, h => by
    have hp' := List.pairwise_cons.mp hp
    rw [List.drop_one, List.tail_cons, List.zip_cons_cons] at h
    rcases List.mem_cons.mp h with e | h
    · subst e; exact hp'.1 y List.mem_cons_self
    · exact zip_asc (xs := y :: r) hp'.2 p (by rw [List.drop_one, List.tail_cons]; exact h)
theorem atI_0 {α : Type} {x : α} {xs : List α} : atI (x :: xs) 0 = some x := atI_nat (j := 0) (by rfl)
theorem atI_m1 {α : Type} {xs : List α} (h : xs ≠ []) : atI xs (-1) = some (xs.getLast h) := by
  have := atI_last xs.dropLast (xs.getLast h)
  rw [List.dropLast_concat_getLast] at this
  exact this
def SetOk (xs : List Int) : Prop := (1 ≤ xs.length ∧ xs.length ≤ 40) ∧ (∀ x ∈ xs, -500 ≤ x ∧ x ≤ 500) ∧ xs.Pairwise (· < ·)
variable {xs : List Int}
theorem setOk_len (h : SetOk xs) : xs.length ≤ 100000 := by have := h.1.2; omega
theorem setOk_len2 (h : SetOk xs) : (xs.zip (cut xs (some 1) none)).length ≤ 100000 := by have := h.1.2; rw [List.length_zip]; omega
theorem setOk_1 (h : SetOk xs) : ((!((decide ((1 : Int) ≤ (xs.length : Int))) && (decide ((xs.length : Int) ≤ (40 : Int))))) || (!((xs.map (fun x1 : Int => (decide ((if x1 < 0 then -x1 else x1) ≤ (500 : Int))))).all id))) = false := by
  have h1 := h.1
  rw [decide_eq_true (by omega), decide_eq_true (by omega)]
  have : (xs.map (fun x1 : Int => (decide ((if x1 < 0 then -x1 else x1) ≤ (500 : Int))))).all id = true := by
    rw [List.all_map, List.all_eq_true]
    intro x hx
    have := h.2.1 x hx
    show decide _ = true
    rw [decide_eq_true_eq]
    split <;> omega
  rw [this]; rfl
theorem setOk_2 (h : SetOk xs) : (!(((xs.zip (cut xs (some (1 : Int)) none)).map (fun x1 : Int × Int => (decide (x1.1 < x1.2)))).all id)) = false := by
  have : ((xs.zip (cut xs (some (1 : Int)) none)).map (fun x1 : Int × Int => (decide (x1.1 < x1.2)))).all id = true := by
    rw [List.all_map, List.all_eq_true]
    intro p hp
    rw [cut1] at hp
    exact decide_eq_true (zip_asc h.2.2 p hp)
  rw [this]; rfl
def l_sums (one other : List Int) : List Int := one.flatMap fun a => other.map fun b => a + b
def l_diffs (one other : List Int) : List Int := one.flatMap fun a => other.map fun b => a - b
theorem l_sums_le (a b : List Int) : (l_sums a b).length ≤ a.length * b.length := flatMap_len fun x _ => by rw [List.length_map]; exact Nat.le_refl _
theorem l_diffs_le (a b : List Int) : (l_diffs a b).length ≤ a.length * b.length := flatMap_len fun x _ => by rw [List.length_map]; exact Nat.le_refl _
theorem l_sums_len {a b : List Int} (h : a.length ≤ 40) (h' : b.length ≤ 40) : (l_sums a b).length < 4000 := by
  have := l_sums_le a b
  have := Nat.mul_le_mul h h'
  omega
theorem l_diffs_len {a b : List Int} (h : a.length ≤ 40) (h' : b.length ≤ 40) : (l_diffs a b).length < 4000 := by
  have := l_diffs_le a b
  have := Nat.mul_le_mul h h'
  omega
/-- over pairs of places -/
def prs {β : Type} (xs : List Int) (f : Int → Int → β) : List β := (enum xs).flatMap fun x1 : Int × Int => (cut xs none (some x1.1)).map fun x2 : Int => f x1.2 x2
theorem prs_len {β : Type} (xs : List Int) (f : Int → Int → β) : (prs xs f).length ≤ xs.length * xs.length := by
  have := flatMap_len (xs := enum xs) (m := xs.length) (f := fun x1 : Int × Int => (cut xs none (some x1.1)).map fun x2 : Int => f x1.2 x2) fun a _ => by rw [List.length_map]; exact cut_len _ _ _
  rwa [enum_len] at this
theorem prs_ok {xs : List Int} {f : Int → Int → Int} (h : xs.length ≤ 7) : (prs xs f).length < 4000 ∧ (asSet (prs xs f)).length < 64 := by
  have := prs_len xs f
  have := Nat.mul_le_mul h h
  have := asSet_le (prs xs f)
  omega
theorem prs_len2 {β : Type} {xs : List Int} {f : Int → Int → β} (h : xs.length ≤ 40) : (prs xs f).length < 4000 := by
  have := prs_len xs f
  have := Nat.mul_le_mul h h
  omega
theorem map_ok {xs : List Int} (f : Int → Int) (h : xs.length ≤ 40) : (xs.map f).length < 4000 ∧ (asSet (xs.map f)).length < 64 := by
  have := asSet_le (xs.map f)
  rw [List.length_map] at this
  rw [List.length_map]
  omega
theorem scaled_ok {f : Int → Int} (h : ∀ x ∈ xs, -500 ≤ f x ∧ f x ≤ 500) : (!(((asSet (xs.map f)).map (fun x : Int => (decide ((if x < 0 then -x else x) ≤ (500 : Int))))).all id)) = false := by
  have : (((asSet (xs.map f)).map (fun x : Int => (decide ((if x < 0 then -x else x) ≤ (500 : Int))))).all id) = true := by
    rw [List.all_map, List.all_eq_true]
    intro z hz
    obtain ⟨x, hx, rfl⟩ := List.mem_map.mp (mem_asSet.mp hz)
    have := h x hx
    show decide _ = true
    rw [decide_eq_true_eq]
    split <;> omega
  rw [this]; rfl
theorem cmul_small {i j : Int} (h : -500 ≤ i ∧ i ≤ 500) : CMul i j := .inl ⟨by omega, by omega⟩
theorem ix_some {xs : List Int} {i : Int} (h : -(xs.length : Int) ≤ i ∧ i < xs.length) : (atI xs i).isSome = true := by
  unfold atI L2.ixN
  by_cases h0 : 0 ≤ i
  · rw [if_pos h0, if_pos h.2, Option.bind_some, List.getElem?_eq_getElem (by omega)]; rfl
  · rw [if_neg h0, if_pos h.1, Option.bind_some, List.getElem?_eq_getElem (by omega)]; rfl
theorem at_mem {xs : List Int} {i : Int} (h : -(xs.length : Int) ≤ i ∧ i < xs.length) (d : Int) : (atI xs i).getD d ∈ xs := by
  unfold atI L2.ixN
  by_cases h0 : 0 ≤ i
  · rw [if_pos h0, if_pos h.2, Option.bind_some, List.getElem?_eq_getElem (by omega)]; exact List.getElem_mem _
  · rw [if_neg h0, if_pos h.1, Option.bind_some, List.getElem?_eq_getElem (by omega)]; exact List.getElem_mem _
theorem ix_mod {xs : List Int} {k : Int} (h : 1 ≤ xs.length) : (atI xs (k % (xs.length : Int))).isSome = true := ix_some ⟨by have := Int.emod_nonneg k (show (xs.length : Int) ≠ 0 by omega); omega, Int.emod_lt_of_pos _ (by omega)⟩
theorem ix_last (h : SetOk xs) : (atI xs (-(1 : Int))).isSome = true := ix_some (by have := h.1; omega)
theorem ix_first (h : SetOk xs) : (atI xs (0 : Int)).isSome = true := ix_some (by have := h.1; omega)
def spanOf (xs : List Int) : Int := (atI xs (-(1 : Int))).getD (0 : Int) - (atI xs (0 : Int)).getD (0 : Int)
theorem span_le (h : SetOk xs) : -1000 ≤ spanOf xs ∧ spanOf xs ≤ 1000 := by
  have h1 := h.2.1 _ (at_mem (i := -1) (by have := h.1; omega) 0)
  have h2 := h.2.1 _ (at_mem (i := 0) (by have := h.1; omega) 0)
  show _ ≤ _ - _ ∧ _ - _ ≤ _
  omega
theorem rng_ok (h : SetOk xs) : -(2 ^ 62) ≤ (1 : Int) ∧ (1 : Int) < 2 ^ 62 ∧ -(2 ^ 62) ≤ spanOf xs + 1 ∧ spanOf xs + 1 < 2 ^ 62 := by have := span_le h; omega
theorem rng_len (h : SetOk xs) : (rg 1 (spanOf xs + 1)).length ≤ 100000 := by rw [rg_len]; have := span_le h; omega
end M

/-! M64b: what the loops compute, in plain lists. -/
namespace M
open PySem L2 EL
def foldN (A : List Int) : Nat → List Int
  | 0 => [0]
  | n + 1 => asSet ((foldN A n).flatMap fun t => A.map fun o => t + o)
def inner (A : List Int) (f : List (Int × Int)) (p : Int × Int) : List (Int × Int) := A.foldl (fun f o => addD f (p.1 + o) p.2) f
def stepD (A : List Int) (c : List (Int × Int)) : List (Int × Int) := c.foldl (inner A) []
def waysD (A : List Int) : Nat → List (Int × Int)
  | 0 => [(0, 1)]
  | n + 1 => stepD A (waysD A n)
def shiftB (o : Int) (f : List (Int × Bool)) (ks : List Int) : List (Int × Bool) := ks.foldl (fun g t => putD g (t + o) true) f
def ptS (A : List Int) : List (Int × Bool) := A.foldl (fun f o => shiftB o f (f.map (·.1))) [(0, true)]
def shiftD (o : Int) (f c : List (Int × Int)) : List (Int × Int) := c.foldl (fun g p => addD g (p.1 + o) p.2) f
def partD (A : List Int) : List (Int × Int) := A.foldl (fun c o => shiftD o c c) [(0, 1)]
def gcdL (xs : List Int) : Int := xs.foldl (fun s x => (Int.gcd s x : Int)) 0
theorem foldl_snoc {α β : Type} (f : β → α → β) (b : β) (xs : List α) {i : Nat} {a : α} (h : xs[i]? = some a) : (xs.take (i + 1)).foldl f b = f ((xs.take i).foldl f b) a := by
  rw [List.take_add_one, h]
  simp
theorem addD_len (f : List (Int × Int)) (k v : Int) : (addD f k v).length ≤ f.length + 1 := putD_len _ _ _
theorem foldl_len {α β : Type} (g : List β → α → List β) (m : Nat) (h : ∀ f a, (g f a).length ≤ f.length + m) : ∀ (xs : List α) (f : List β), (xs.foldl g f).length ≤ f.length + xs.length * m
  | [], f => by simp
  | x :: xs, f => by
    rw [List.foldl_cons, List.length_cons, Nat.add_mul, Nat.one_mul]
    have := foldl_len g m h xs (g f x)
    have := h f x
    omega
theorem inner_len (A : List Int) (f : List (Int × Int)) (p : Int × Int) : (inner A f p).length ≤ f.length + A.length := by
  have := foldl_len (fun (f : List (Int × Int)) (o : Int) => addD f (p.1 + o) p.2) 1 (fun f a => addD_len _ _ _) A f
  rw [Nat.mul_one] at this
  exact this
theorem stepD_len (A : List Int) (c : List (Int × Int)) : (stepD A c).length ≤ c.length * A.length := by
  have := foldl_len (inner A) A.length (inner_len A) c []
  unfold stepD
  simpa using this
theorem shiftB_len (o : Int) (f : List (Int × Bool)) (ks : List Int) : (shiftB o f ks).length ≤ f.length + ks.length := by
  have := foldl_len (fun (g : List (Int × Bool)) (t : Int) => putD g (t + o) true) 1 (fun f a => putD_len _ _ _) ks f
  rw [Nat.mul_one] at this
  exact this
theorem shiftD_len (o : Int) (f c : List (Int × Int)) : (shiftD o f c).length ≤ f.length + c.length := by
  have := foldl_len (fun (g : List (Int × Int)) (p : Int × Int) => addD g (p.1 + o) p.2) 1 (fun f a => addD_len _ _ _) c f
  rw [Nat.mul_one] at this
  exact this
theorem dbl_len {α β : Type} (g : List β → α → List β) (h : ∀ f a, (g f a).length ≤ 2 * f.length) : ∀ (xs : List α) (f : List β), (xs.foldl g f).length ≤ 2 ^ xs.length * f.length
  | [], f => by simp
  | x :: xs, f => by
    rw [List.foldl_cons, List.length_cons, Nat.pow_succ]
    have h1 := dbl_len g h xs (g f x)
    have h2 := Nat.mul_le_mul_left (2 ^ xs.length) (h f x)
    rw [Nat.mul_assoc]
    omega
theorem ptS_len (A : List Int) : (ptS A).length ≤ 2 ^ A.length := by
  have := dbl_len (fun (f : List (Int × Bool)) (o : Int) => shiftB o f (f.map (·.1))) (fun f a => by have := shiftB_len a f (f.map (·.1)); rw [List.length_map] at this; omega) A [(0, true)]
  unfold ptS
  simpa using this
theorem partD_len (A : List Int) : (partD A).length ≤ 2 ^ A.length := by
  have := dbl_len (fun (f : List (Int × Int)) (o : Int) => shiftD o f f) (fun f a => by have := shiftD_len a f f; omega) A [(0, 1)]
  unfold partD
  simpa using this
theorem pow2_le {A : List Int} (h : A.length ≤ 5) (i : Nat) : 2 ^ (A.take i).length ≤ 32 := by
  have : (A.take i).length ≤ 5 := by rw [List.length_take]; omega
  exact Nat.pow_le_pow_right (n := 2) (by decide) this
theorem rows_two {one other : List Int} (h1 : SetOk one) (h2 : SetOk other) (z : decide ((1 : Int) ∈ [(one.length : Int), (other.length : Int)]) = false) : 2 ≤ one.length ∧ 2 ≤ other.length := by
  have z := of_decide_eq_false z
  rw [List.mem_cons, List.mem_cons] at z
  have := h1.1
  have := h2.1
  constructor
  · apply Classical.byContradiction
    intro hh
    exact z (.inl (by omega))
  · apply Classical.byContradiction
    intro hh
    exact z (.inr (.inl (by omega)))
theorem ix2 {xs : List Int} (h : 2 ≤ xs.length) : (atI xs 1).isSome = true ∧ (atI xs 0).isSome = true := ⟨ix_some (by omega), ix_some (by omega)⟩
def m_folded (members : List Int) (many : Int) : List Int := foldN members many.toNat
def m_stepped (members : List Int) (counts : List (Int × Int)) : List (Int × Int) := stepD members counts
def m_ways (members : List Int) (many total : Int) : Int := (lookD (waysD members many.toNat) total).getD 0
def m_part_sums (members : List Int) : List Int := asSet ((ptS members).map (·.1))
def m_part_ways (members : List Int) (total : Int) : Int := (lookD (partD members) total).getD 0
def m_energy (members : List Int) : Int := (((stepD members (stepD members [(0, 1)])).map (·.2)).map fun m => m * m).sum
def m_shared (first second : Int) : Int := (Int.gcd first second : Int)
def m_normal (members : List Int) : List Int := (members.map fun x => x - (atI members 0).getD 0).map fun y => if 0 < gcdL (members.map fun x => x - (atI members 0).getD 0) then y / gcdL (members.map fun x => x - (atI members 0).getD 0) else 0
def waysLen (A : List Int) (n : Nat) : (waysD A n).length ≤ A.length ^ n := by
  induction n with
  | zero => simp [waysD]
  | succ n ih =>
    have := stepD_len A (waysD A n)
    have := Nat.mul_le_mul_right A.length ih
    rw [Nat.pow_succ]
    show (stepD A (waysD A n)).length ≤ _
    omega
end M
namespace M
open PySem L2 EL
theorem fold_ok {A : List Int} {i : Nat} (h : SetOk A) (h1 : (foldN A i).length < 64) (h2 : (foldN A (i + 1)).length < 64) : ((foldN A i).flatMap fun t => A.map fun o => t + o).length < 4000 ∧ (asSet ((foldN A i).flatMap fun t => A.map fun o => t + o)).length < 64 := by
  refine ⟨?_, h2⟩
  have := l_sums_le (foldN A i) A
  have := Nat.mul_le_mul (show (foldN A i).length ≤ 63 by omega) h.1.2
  show (l_sums (foldN A i) A).length < 4000
  omega
theorem energy_ok {A : List Int} (h : SetOk A) : (stepD A [(0, 1)]).length ≤ 10000 := by
  have := stepD_len A [(0, 1)]
  have := h.1.2
  simp only [List.length_cons, List.length_nil] at *
  omega
theorem energy_len {A : List Int} (h : SetOk A) : ((stepD A (stepD A [(0, 1)])).map (·.2)).length ≤ 100000 := by
  have h1 := stepD_len A [(0, 1)]
  have h2 := stepD_len A (stepD A [(0, 1)])
  have h3 := h.1.2
  simp only [List.length_cons, List.length_nil, Nat.zero_add, Nat.one_mul] at h1
  have h4 := Nat.mul_le_mul (Nat.le_trans h1 h3) h3
  rw [List.length_map]
  omega
theorem pt_ok {A : List Int} (h : A.length ≤ 5) : ((ptS A).map (·.1)).length < 4000 ∧ (asSet ((ptS A).map (·.1))).length < 64 := by
  have h1 := ptS_len A
  have h2 := pow2_le h 5
  rw [List.take_of_length_le h] at h2
  have h3 := asSet_le ((ptS A).map (·.1))
  rw [List.length_map] at h3
  rw [List.length_map]
  omega
theorem abs_ite (x : Int) : (if x < 0 then -x else x) = (x.natAbs : Int) := by split <;> omega
theorem gcd_step {a b : Int} (ha : 0 ≤ a) (hb : 0 ≤ b) : Int.gcd b (a % b) = Int.gcd a b := by
  obtain ⟨m, rfl⟩ := Int.eq_ofNat_of_zero_le ha
  obtain ⟨n, rfl⟩ := Int.eq_ofNat_of_zero_le hb
  show Nat.gcd n (m % n) = Nat.gcd m n
  rw [Nat.gcd_comm n, ← Nat.gcd_rec, Nat.gcd_comm]
theorem abs_gcd (a b : Int) : Int.gcd (if a < 0 then -a else a) (if b < 0 then -b else b) = Int.gcd a b := by rw [abs_ite, abs_ite]; rfl
def gapD (marks : List Int) : List (Int × Bool) := dict2 (fun (x1 : Int × Int) (x2 : Int) => x1.2 - x2) (fun (x1 : Int × Int) (x2 : Int) => true) (fun x1 : Int × Int => cut marks none (some x1.1)) (enum marks)
def m_measures_all (marks : List Int) : Bool := (((rg 1 (spanOf marks + 1)).map fun x => (lookD (gapD marks) x).isSome)).all id
theorem gcdL_step (i : Nat) (xs : List Int) : 0 ≤ gcdL (xs.take i) := by
  unfold gcdL
  induction xs.take i using list_snoc_ind with
  | h0 => exact Int.le_refl _
  | h1 ys y _ => rw [List.foldl_append]; exact Int.natCast_nonneg _
theorem gcdL_le {B : Int} (hB : 0 ≤ B) : ∀ (xs : List Int), (∀ x ∈ xs, -B ≤ x ∧ x ≤ B) → ∀ s : Int, 0 ≤ s → s ≤ B → 0 ≤ xs.foldl (fun s x => (Int.gcd s x : Int)) s ∧ xs.foldl (fun s x => (Int.gcd s x : Int)) s ≤ B
  | [], _, s, h0, h1 => ⟨h0, h1⟩
  | x :: xs, h, s, h0, h1 => by
    rw [List.foldl_cons]
    refine gcdL_le hB xs (fun z hz => h z (List.mem_cons_of_mem _ hz)) _ (Int.natCast_nonneg _) ?_
    have hx := h x List.mem_cons_self
    by_cases hz : x = 0
    · subst hz; rw [Int.gcd_zero_right]; omega
    · have := Int.gcd_le_natAbs_right s hz; omega
theorem nrm_div {A : List Int} (h : SetOk A) (hz : 0 < gcdL (A.map fun x1 : Int => (x1 - ((atI A (0 : Int)).getD (0 : Int))))) (i : Int) : CDiv i (gcdL (A.map fun x1 : Int => (x1 - ((atI A (0 : Int)).getD (0 : Int))))) := by
  refine ⟨hz, ?_⟩
  have h0 := h.2.1 _ (at_mem (i := 0) (by have := h.1; omega) 0)
  have := (gcdL_le (B := 1000) (by decide) (A.map fun x1 : Int => (x1 - ((atI A (0 : Int)).getD (0 : Int)))) (fun z hz => by
    obtain ⟨x, hx, rfl⟩ := List.mem_map.mp hz
    have := h.2.1 x hx
    omega) 0 (by decide) (by decide)).2
  show gcdL _ < 1073741824
  have e : gcdL (A.map fun x1 : Int => (x1 - ((atI A (0 : Int)).getD (0 : Int)))) ≤ 1000 := this
  omega
end M

/-! M64c: sums over lists; dicts of counts as functionals. -/
namespace M
open PySem L2 EL
section
variable {α β : Type}
def sm (xs : List α) (f : α → Int) : Int := (xs.map f).sum
theorem sm_nil (f : α → Int) : sm [] f = 0 := rfl
theorem sm_cons (x : α) (xs : List α) (f : α → Int) : sm (x :: xs) f = f x + sm xs f := by unfold sm; rw [List.map_cons, List.sum_cons]
theorem sm_append (xs ys : List α) (f : α → Int) : sm (xs ++ ys) f = sm xs f + sm ys f := by unfold sm; rw [List.map_append, List.sum_append]
theorem sm_congr {xs : List α} {f g : α → Int} (h : ∀ x ∈ xs, f x = g x) : sm xs f = sm xs g := by unfold sm; rw [List.map_congr_left h]
theorem sm_add (xs : List α) (f g : α → Int) : sm xs (fun x => f x + g x) = sm xs f + sm xs g := by
  induction xs with
  | nil => rfl
  | cons x xs ih => rw [sm_cons, sm_cons, sm_cons, ih]; omega
theorem sm_zero (xs : List α) : sm xs (fun _ => 0) = 0 := by
  induction xs with
  | nil => rfl
  | cons x xs ih => rw [sm_cons, ih]; rfl
theorem sm_mul (c : Int) (xs : List α) (f : α → Int) : sm xs (fun x => c * f x) = c * sm xs f := by
  induction xs with
  | nil => rw [sm_nil, sm_nil, Int.mul_zero]
  | cons x xs ih => rw [sm_cons, sm_cons, ih, Int.mul_add]
theorem sm_const (c : Int) (xs : List α) : sm xs (fun _ => c) = xs.length * c := by
  induction xs with
  | nil => rw [sm_nil, List.length_nil]; simp
  | cons x xs ih => rw [sm_cons, ih, List.length_cons]; rw [Int.natCast_add, Int.add_mul]; omega
theorem sm_map (g : β → α) (xs : List β) (f : α → Int) : sm (xs.map g) f = sm xs (fun x => f (g x)) := by unfold sm; rw [List.map_map]; rfl
theorem sm_perm {xs ys : List α} (h : xs.Perm ys) (f : α → Int) : sm xs f = sm ys f := by
  induction h with
  | nil => rfl
  | cons x _ ih => rw [sm_cons, sm_cons, ih]
  | swap x y l => rw [sm_cons, sm_cons, sm_cons, sm_cons]; omega
  | trans _ _ h1 h2 => rw [h1, h2]
theorem sm_swap (xs : List α) (ys : List β) (f : α → β → Int) : sm xs (fun a => sm ys fun b => f a b) = sm ys fun b => sm xs fun a => f a b := by
  induction xs with
  | nil => rw [sm_nil]; exact (sm_zero ys).symm
  | cons x xs ih => rw [sm_cons, ih, ← sm_add]; exact sm_congr fun b _ => (sm_cons x xs fun a => f a b).symm
theorem sm_le {xs : List α} {f g : α → Int} (h : ∀ x ∈ xs, f x ≤ g x) : sm xs f ≤ sm xs g := by
  induction xs with
  | nil => exact Int.le_refl _
  | cons x xs ih =>
    rw [sm_cons, sm_cons]
    have := ih fun z hz => h z (List.mem_cons_of_mem _ hz)
    have := h x List.mem_cons_self
    omega
theorem sm_nonneg {xs : List α} {f : α → Int} (h : ∀ x ∈ xs, 0 ≤ f x) : 0 ≤ sm xs f := by
  have := sm_le (f := fun _ => 0) h
  rw [sm_zero] at this; exact this
theorem sm_ge {xs : List α} {f : α → Int} (h : ∀ x ∈ xs, 0 ≤ f x) {a : α} (ha : a ∈ xs) : f a ≤ sm xs f := by
  induction xs with
  | nil => cases ha
  | cons x xs ih =>
    rw [sm_cons]
    have h1 := h x List.mem_cons_self
    have h2 := sm_nonneg fun z hz => h z (List.mem_cons_of_mem x hz)
    rcases List.mem_cons.mp ha with e | hm
    · subst e; omega
    · have := ih (fun z hz => h z (List.mem_cons_of_mem _ hz)) hm; omega
/-- none above: all alike where the sums are -/
theorem sm_eq_all {xs : List α} {f g : α → Int} (h : ∀ x ∈ xs, f x ≤ g x) (e : sm xs g = sm xs f) : ∀ x ∈ xs, g x = f x := by
  intro x hx
  have h1 : sm xs (fun x => g x + -1 * f x) = sm xs g + -1 * sm xs f := by rw [sm_add, sm_mul]
  have h2 := sm_ge (f := fun x => g x + -1 * f x) (fun z hz => by have := h z hz; omega) hx
  have h3 := h x hx
  have h4 : g x + -1 * f x ≤ sm xs (fun x => g x + -1 * f x) := h2
  omega
theorem sm_one {xs : List Int} (hn : xs.Nodup) (a : Int) (g : Int → Int) : sm xs (fun x => if x = a then g x else 0) = if a ∈ xs then g a else 0 := by
  induction xs with
  | nil => rfl
  | cons x xs ih =>
    have hn' := List.nodup_cons.mp hn
    rw [sm_cons, ih hn'.2]
    by_cases h : x = a
    · subst h
      rw [if_pos rfl, if_neg hn'.1, if_pos List.mem_cons_self]; omega
    · have : (a ∈ x :: xs) ↔ a ∈ xs := by rw [List.mem_cons]; exact ⟨fun z => z.elim (fun e => absurd e.symm h) id, .inr⟩
      rw [if_neg h]
      by_cases h2 : a ∈ xs
      · rw [if_pos h2, if_pos (this.mpr h2)]; omega
      · rw [if_neg h2, if_neg (fun z => h2 (this.mp z))]; omega
end
/-! ### dicts of counts -/
def mass (d : List (Int × Int)) (g : Int → Int) : Int := sm d fun p => p.2 * g p.1
def keys (d : List (Int × Int)) : List Int := d.map (·.1)
def cnt (d : List (Int × Int)) (k : Int) : Int := (lookD d k).getD 0
theorem look_none {α : Type} {d : List (Int × α)} {k : Int} : lookD d k = none ↔ k ∉ d.map (·.1) := by
  induction d with
  | nil => exact ⟨fun _ h => (nomatch h), fun _ => rfl⟩
  | cons p d ih =>
    rw [lookD_cons, List.map_cons, List.mem_cons]
    by_cases h : p.1 = k
    · rw [if_pos h]
      exact ⟨fun z => (nomatch z), fun z => absurd (Or.inl h.symm) z⟩
    · rw [if_neg h, ih]
      exact ⟨fun z w => w.elim (fun e => h e.symm) z, fun z w => z (.inr w)⟩
theorem look_some {α : Type} {d : List (Int × α)} {k : Int} : (lookD d k).isSome = true ↔ k ∈ d.map (·.1) := by
  cases e : lookD d k with
  | none => exact ⟨fun h => (nomatch h), fun h => absurd h (look_none.mp e)⟩
  | some v =>
    refine ⟨fun _ => ?_, fun _ => rfl⟩
    apply Classical.byContradiction
    intro h
    rw [look_none.mpr h] at e; cases e
theorem put_keys {α : Type} (d : List (Int × α)) (k : Int) (v : α) : (putD d k v).map (·.1) = if k ∈ d.map (·.1) then d.map (·.1) else d.map (·.1) ++ [k] := by
  unfold putD
  rw [lookD_any]
  by_cases h : k ∈ d.map (·.1)
  · rw [if_pos h, if_pos (look_some.mpr h), List.map_map]
    refine List.map_congr_left fun p _ => ?_
    show (if p.1 = k then (p.1, v) else p).1 = p.1
    split <;> rfl
  · rw [if_neg h, if_neg (fun z => h (look_some.mp z)), List.map_append]; rfl
theorem put_nodup {α : Type} {d : List (Int × α)} (k : Int) (v : α) (h : (d.map (·.1)).Nodup) : ((putD d k v).map (·.1)).Nodup := by
  rw [put_keys]
  split
  · exact h
  · rename_i hk
    rw [List.nodup_append]
    exact ⟨h, List.nodup_cons.mpr ⟨List.not_mem_nil, List.nodup_nil⟩, fun a ha b hb e => hk (by rw [List.mem_singleton.mp hb] at e; rw [← e]; exact ha)⟩
theorem mem_put {α : Type} {d : List (Int × α)} {k z : Int} {v : α} : z ∈ (putD d k v).map (·.1) ↔ z ∈ d.map (·.1) ∨ z = k := by
  rw [put_keys]
  split
  · rename_i hk
    exact ⟨.inl, fun h => h.elim id fun e => e ▸ hk⟩
  · rw [List.mem_append, List.mem_singleton]
theorem look_mem {d : List (Int × Int)} (hn : (keys d).Nodup) {p : Int × Int} (hp : p ∈ d) : lookD d p.1 = some p.2 := by
  induction d with
  | nil => cases hp
  | cons x d ih =>
    have hn' := List.nodup_cons.mp hn
    rw [lookD_cons]
    rcases List.mem_cons.mp hp with e | h
    · subst e; rw [if_pos rfl]
    · have : x.1 ≠ p.1 := fun e => hn'.1 (by show x.1 ∈ d.map (·.1); rw [e]; exact List.mem_map.mpr ⟨p, h, rfl⟩)
      rw [if_neg this]; exact ih hn'.2 h
theorem cnt_mass {d : List (Int × Int)} (hn : (keys d).Nodup) (t : Int) : cnt d t = mass d fun x => if x = t then 1 else 0 := by
  unfold cnt
  induction d with
  | nil => rfl
  | cons x d ih =>
    have hn' := List.nodup_cons.mp hn
    rw [lookD_cons]
    show _ = sm (x :: d) _
    rw [sm_cons]
    by_cases h : x.1 = t
    · rw [if_pos h]
      have e : sm d (fun p => p.2 * if p.1 = t then 1 else 0) = 0 := by
        rw [sm_congr (g := fun _ => 0), sm_zero]
        intro p hp
        have : p.1 ≠ t := fun e => hn'.1 (by show x.1 ∈ d.map (·.1); rw [h, ← e]; exact List.mem_map.mpr ⟨p, hp, rfl⟩)
        rw [if_neg this, Int.mul_zero]
      rw [e]; simp [h]
    · rw [if_neg h, ih hn'.2]
      have e : x.2 * (if x.1 = t then (1 : Int) else 0) = 0 := by rw [if_neg h, Int.mul_zero]
      show mass d _ = (x.2 * if x.1 = t then (1 : Int) else 0) + mass d (fun x => if x = t then (1 : Int) else 0)
      rw [e, Int.zero_add]
theorem mass_rep {d : List (Int × Int)} (hn : (keys d).Nodup) (k v : Int) (g : Int → Int) (hk : k ∈ keys d) : sm d (fun p => (if p.1 = k then (p.1, v) else p).2 * g (if p.1 = k then (p.1, v) else p).1) = mass d g + (v - cnt d k) * g k := by
  induction d with
  | nil => cases hk
  | cons x d ih =>
    have hn' := List.nodup_cons.mp hn
    unfold mass cnt
    rw [sm_cons, sm_cons, lookD_cons]
    by_cases h : x.1 = k
    · rw [if_pos h, if_pos h]
      have e : sm d (fun p => (if p.1 = k then (p.1, v) else p).2 * g (if p.1 = k then (p.1, v) else p).1) = sm d fun p => p.2 * g p.1 := by
        refine sm_congr fun p hp => ?_
        have : p.1 ≠ k := fun e => hn'.1 (by show x.1 ∈ d.map (·.1); rw [h, ← e]; exact List.mem_map.mpr ⟨p, hp, rfl⟩)
        rw [if_neg this]
      rw [e, h]
      show v * g k + _ = _ + (v - x.2) * g k
      rw [Int.sub_mul]; omega
    · have hk' : k ∈ keys d := (List.mem_cons.mp hk).elim (fun e => absurd e.symm h) id
      have := ih hn'.2 hk'
      unfold mass cnt at this
      rw [if_neg h, if_neg h, this]; omega
theorem mass_put {d : List (Int × Int)} (hn : (keys d).Nodup) (k v : Int) (g : Int → Int) : mass (putD d k v) g = mass d g + (v - cnt d k) * g k := by
  unfold putD
  rw [lookD_any]
  by_cases h : k ∈ d.map (·.1)
  · rw [if_pos (look_some.mpr h)]
    rw [← mass_rep hn k v g h]
    unfold mass
    rw [sm_map]
  · rw [if_neg (fun z => h (look_some.mp z))]
    unfold mass cnt
    rw [look_none.mpr h, sm_append, sm_cons, sm_nil]
    simp
theorem add_nodup {d : List (Int × Int)} (k v : Int) (h : (keys d).Nodup) : (keys (addD d k v)).Nodup := put_nodup _ _ h
theorem mass_add {d : List (Int × Int)} (hn : (keys d).Nodup) (k v : Int) (g : Int → Int) : mass (addD d k v) g = mass d g + v * g k := by
  unfold addD
  rw [mass_put hn]
  show _ + ((cnt d k + v) - cnt d k) * g k = _
  rw [Int.add_comm (cnt d k) v, Int.add_sub_cancel]
theorem mem_add {d : List (Int × Int)} {k z v : Int} : z ∈ keys (addD d k v) ↔ z ∈ keys d ∨ z = k := mem_put
/-- all counts are at least 1 -/
def Pos (d : List (Int × Int)) : Prop := ∀ p ∈ d, 1 ≤ p.2
theorem look_in {α : Type} {d : List (Int × α)} {k : Int} {v : α} (h : lookD d k = some v) : (k, v) ∈ d := by
  induction d with
  | nil => cases h
  | cons x d ih =>
    rw [lookD_cons] at h
    by_cases e : x.1 = k
    · rw [if_pos e] at h; cases h; subst e; exact List.mem_cons_self
    · rw [if_neg e] at h; exact List.mem_cons_of_mem _ (ih h)
theorem Pos.cnt {d : List (Int × Int)} (h : Pos d) (k : Int) : 0 ≤ cnt d k := by
  unfold M.cnt
  cases e : lookD d k with
  | none => exact Int.le_refl _
  | some v => have := h _ (look_in e); show 0 ≤ v; have : 1 ≤ v := this; omega
theorem Pos.add {d : List (Int × Int)} (h : Pos d) {k v : Int} (hv : 1 ≤ v) : Pos (addD d k v) := by
  have h0 := h.cnt k
  unfold M.cnt at h0
  intro p hp
  unfold addD putD at hp
  split at hp
  · obtain ⟨z, hz, e⟩ := List.mem_map.mp hp
    by_cases e2 : z.1 = k
    · rw [if_pos e2] at e; subst e; show 1 ≤ _ + v; omega
    · rw [if_neg e2] at e; subst e; exact h z hz
  · rcases List.mem_append.mp hp with hz | hz
    · exact h p hz
    · rw [List.mem_singleton] at hz; subst hz; show 1 ≤ _ + v; omega
/-! ### many additions -/
/-- f, with v x added at k x for every x of xs -/
def adds {α : Type} (k v : α → Int) (xs : List α) (f : List (Int × Int)) : List (Int × Int) := xs.foldl (fun f x => addD f (k x) (v x)) f
section
variable {α : Type} {k v : α → Int}
theorem adds_nodup : ∀ (xs : List α) (f : List (Int × Int)), (keys f).Nodup → (keys (adds k v xs f)).Nodup
  | [], _, h => h
  | x :: xs, f, h => adds_nodup xs _ (add_nodup _ _ h)
theorem adds_mass (g : Int → Int) : ∀ (xs : List α) (f : List (Int × Int)), (keys f).Nodup → mass (adds k v xs f) g = mass f g + sm xs fun x => v x * g (k x)
  | [], f, _ => by rw [sm_nil, Int.add_zero]; rfl
  | x :: xs, f, h => by
    have := adds_mass g xs (addD f (k x) (v x)) (add_nodup _ _ h)
    rw [mass_add h] at this
    rw [sm_cons]
    show mass (adds k v xs (addD f (k x) (v x))) g = _
    rw [this]; omega
theorem adds_mem {z : Int} : ∀ (xs : List α) (f : List (Int × Int)), z ∈ keys (adds k v xs f) ↔ z ∈ keys f ∨ ∃ x ∈ xs, z = k x
  | [], f => ⟨.inl, fun h => h.elim id fun ⟨x, hx, _⟩ => nomatch hx⟩
  | x :: xs, f => by
    show z ∈ keys (adds k v xs (addD f (k x) (v x))) ↔ _
    rw [adds_mem xs, mem_add]
    constructor
    · rintro ((h | h) | ⟨y, h, e⟩)
      · exact .inl h
      · exact .inr ⟨x, List.mem_cons_self, h⟩
      · exact .inr ⟨y, List.mem_cons_of_mem _ h, e⟩
    · rintro (h | ⟨y, h, e⟩)
      · exact .inl (.inl h)
      · rcases List.mem_cons.mp h with e2 | h
        · subst e2; exact .inl (.inr e)
        · exact .inr ⟨y, h, e⟩
theorem adds_pos : ∀ (xs : List α) (f : List (Int × Int)), Pos f → (∀ x ∈ xs, 1 ≤ v x) → Pos (adds k v xs f)
  | [], _, h, _ => h
  | x :: xs, f, h, hv => adds_pos xs _ (h.add (hv x List.mem_cons_self)) fun y hy => hv y (List.mem_cons_of_mem _ hy)
end
/-! ### the steps -/
theorem inner_eq (A : List Int) (f : List (Int × Int)) (p : Int × Int) : inner A f p = adds (fun o => p.1 + o) (fun _ => p.2) A f := rfl
theorem stepD_eq (A : List Int) : ∀ (c f : List (Int × Int)), c.foldl (inner A) f = adds (fun x : (Int × Int) × Int => x.1.1 + x.2) (fun x => x.1.2) (c.flatMap fun p => A.map fun o => (p, o)) f
  | [], f => rfl
  | p :: c, f => by
    rw [List.foldl_cons, stepD_eq A c, List.flatMap_cons]
    unfold adds
    rw [List.foldl_append, List.foldl_map]; rfl
theorem sm_flatMap {α β : Type} (xs : List α) (ys : α → List β) (f : β → Int) : sm (xs.flatMap ys) f = sm xs fun a => sm (ys a) f := by
  induction xs with
  | nil => rfl
  | cons x xs ih => rw [List.flatMap_cons, sm_append, sm_cons, ih]
theorem step_nodup (A : List Int) (c : List (Int × Int)) : (keys (stepD A c)).Nodup := by
  unfold stepD
  rw [stepD_eq]
  exact adds_nodup _ _ List.nodup_nil
theorem step_mass (A : List Int) (c : List (Int × Int)) (g : Int → Int) : mass (stepD A c) g = sm A fun o => mass c fun x => g (x + o) := by
  unfold stepD
  rw [stepD_eq, adds_mass g _ [] (show (keys []).Nodup from List.nodup_nil), sm_flatMap]
  show mass [] g + sm c (fun p => sm (A.map fun o => (p, o)) _) = _
  rw [show mass [] g = 0 from rfl, Int.zero_add]
  unfold mass
  rw [sm_swap]
  exact sm_congr fun p _ => by rw [sm_map]
theorem step_mem (A : List Int) (c : List (Int × Int)) (z : Int) : z ∈ keys (stepD A c) ↔ ∃ x ∈ keys c, ∃ o ∈ A, z = x + o := by
  unfold stepD
  rw [stepD_eq, adds_mem]
  constructor
  · rintro (h | ⟨x, h, e⟩)
    · cases h
    · obtain ⟨p, hp, h2⟩ := List.mem_flatMap.mp h
      obtain ⟨o, ho, e2⟩ := List.mem_map.mp h2
      subst e2
      exact ⟨p.1, List.mem_map.mpr ⟨p, hp, rfl⟩, o, ho, e⟩
  · rintro ⟨x, hx, o, ho, e⟩
    obtain ⟨p, hp, rfl⟩ := List.mem_map.mp hx
    exact .inr ⟨(p, o), List.mem_flatMap.mpr ⟨p, hp, List.mem_map.mpr ⟨o, ho, rfl⟩⟩, e⟩
theorem step_pos (A : List Int) {c : List (Int × Int)} (h : Pos c) : Pos (stepD A c) := by
  unfold stepD
  rw [stepD_eq]
  refine adds_pos _ _ (fun p hp => nomatch hp) fun x hx => ?_
  obtain ⟨p, hp, h2⟩ := List.mem_flatMap.mp hx
  obtain ⟨o, ho, e2⟩ := List.mem_map.mp h2
  subst e2
  exact h p hp
theorem shift_eq (o : Int) (f c : List (Int × Int)) : shiftD o f c = adds (fun p : Int × Int => p.1 + o) (fun p => p.2) c f := rfl
theorem shift_mass (o : Int) {f : List (Int × Int)} (c : List (Int × Int)) (hn : (keys f).Nodup) (g : Int → Int) : mass (shiftD o f c) g = mass f g + mass c fun x => g (x + o) := by
  rw [shift_eq, adds_mass _ _ _ hn]; rfl
/-! ### ways -/
theorem waysD_nodup (A : List Int) (n : Nat) : (keys (waysD A n)).Nodup := by
  cases n with
  | zero => exact List.nodup_cons.mpr ⟨List.not_mem_nil, List.nodup_nil⟩
  | succ n => exact step_nodup _ _
theorem waysD_pos (A : List Int) : ∀ n, Pos (waysD A n)
  | 0 => fun p hp => by rw [show waysD A 0 = [(0, 1)] from rfl, List.mem_singleton] at hp; subst hp; decide
  | n + 1 => step_pos A (waysD_pos A n)
def wM (A : List Int) (n : Nat) (g : Int → Int) : Int := mass (waysD A n) g
theorem wM_0 (A : List Int) (g : Int → Int) : wM A 0 g = g 0 := by
  show sm [((0 : Int), (1 : Int))] (fun p => p.2 * g p.1) = g 0
  rw [sm_cons, sm_nil]; show 1 * g 0 + 0 = g 0; omega
theorem wM_s (A : List Int) (n : Nat) (g : Int → Int) : wM A (n + 1) g = sm A fun o => wM A n fun x => g (x + o) := step_mass A _ g
theorem ways_eq (A : List Int) (n : Nat) (t : Int) : m_ways A (n : Int) t = wM A n fun x => if x = t then 1 else 0 := by
  show cnt (waysD A ((n : Int)).toNat) t = _
  rw [Int.toNat_natCast]
  exact cnt_mass (waysD_nodup A n) t
theorem waysD_mem (A : List Int) : ∀ (n : Nat) (z : Int), z ∈ keys (waysD A n) ↔ z ∈ foldN A n
  | 0, z => Iff.rfl
  | n + 1, z => by
    show z ∈ keys (stepD A (waysD A n)) ↔ z ∈ asSet _
    rw [step_mem, mem_asSet, List.mem_flatMap]
    constructor
    · rintro ⟨x, hx, o, ho, e⟩
      exact ⟨x, (waysD_mem A n x).mp hx, List.mem_map.mpr ⟨o, ho, e.symm⟩⟩
    · rintro ⟨x, hx, h⟩
      obtain ⟨o, ho, e⟩ := List.mem_map.mp h
      exact ⟨x, (waysD_mem A n x).mpr hx, o, ho, e.symm⟩
/-- over a list that holds all the keys, once each -/
theorem mass_over {d : List (Int × Int)} {xs : List Int} (hx : xs.Nodup) (h : ∀ z ∈ keys d, z ∈ xs) (f : Int → Int) : sm xs (fun t => f t * mass d fun x => if x = t then 1 else 0) = mass d f := by
  unfold mass
  have e : ∀ t, f t * sm d (fun p => p.2 * if p.1 = t then 1 else 0) = sm d fun p => if t = p.1 then p.2 * f t else 0 := fun t => by
    rw [← sm_mul]
    refine sm_congr fun p _ => ?_
    by_cases h : p.1 = t
    · rw [if_pos h, if_pos h.symm, Int.mul_one, Int.mul_comm]
    · rw [if_neg h, if_neg fun z => h z.symm, Int.mul_zero, Int.mul_zero]
  rw [sm_congr fun t _ => e t, sm_swap]
  refine sm_congr fun p hp => ?_
  rw [sm_one hx p.1 (fun t => p.2 * f t), if_pos (h p.1 (List.mem_map.mpr ⟨p, hp, rfl⟩))]
theorem wM_one (A : List Int) : ∀ n, wM A n (fun _ => 1) = (A.length : Int) ^ n
  | 0 => by rw [wM_0]; rfl
  | n + 1 => by rw [wM_s, wM_one A n, sm_const, Int.pow_succ, Int.mul_comm]
theorem ways_sum (A : List Int) (n : Nat) : sm (foldN A n) (fun t => m_ways A (n : Int) t) = (A.length : Int) ^ n := by
  rw [← wM_one A n]
  have hn : (foldN A n).Nodup := by
    cases n with
    | zero => exact List.nodup_cons.mpr ⟨List.not_mem_nil, List.nodup_nil⟩
    | succ n => exact asSet_nodup _
  unfold wM
  rw [← mass_over hn (fun z hz => (waysD_mem A n z).mp hz)]
  refine sm_congr fun t _ => ?_
  rw [ways_eq]; unfold wM; rw [Int.one_mul]
theorem ways_pos (A : List Int) (n : Nat) {t : Int} (h : t ∈ foldN A n) : m_ways A (n : Int) t ≠ 0 := by
  have h1 := (waysD_mem A n t).mpr h
  obtain ⟨p, hp, e⟩ := List.mem_map.mp h1
  have e : p.1 = t := e
  have h2 := look_mem (waysD_nodup A n) hp
  have h3 := waysD_pos A n p hp
  unfold m_ways
  rw [Int.toNat_natCast, ← e, h2]
  show p.2 ≠ 0
  omega
theorem ways_next (A : List Int) (n : Nat) (t : Int) : m_ways A ((n : Int) + 1) t = sm A fun o => m_ways A (n : Int) (t - o) := by
  have e : ((n : Int) + 1) = ((n + 1 : Nat) : Int) := by omega
  rw [e, ways_eq, wM_s]
  refine sm_congr fun o _ => ?_
  rw [ways_eq]
  congr 1
  funext x
  by_cases h : x + o = t
  · rw [if_pos h, if_pos (by omega)]
  · rw [if_neg h, if_neg (by omega)]
end M

/-! M64d: sums, differences, energies, gaps of moved and scaled sets. -/
namespace M
open PySem L2 EL
abbrev Asc (A : List Int) : Prop := A.Pairwise (· < ·)
theorem Asc.nodup {A : List Int} (h : Asc A) : A.Nodup := nodup_of_lt h
theorem asSet_self {A : List Int} (h : Asc A) : asSet A = A := (asSet_of h fun _ => Iff.rfl).symm
theorem asSet_perm {xs : List Int} (h : xs.Nodup) : (asSet xs).Perm xs := (List.perm_ext_iff_of_nodup (asSet_nodup xs) h).mpr fun z => mem_asSet
theorem asSet_congr {xs ys : List Int} (h : ∀ z, z ∈ xs ↔ z ∈ ys) : asSet xs = asSet ys := asSet_of (asSet_pw xs) fun z => mem_asSet.trans (h z)
def sumS (A B : List Int) : List Int := asSet (l_sums A B)
def difS (A B : List Int) : List Int := asSet (l_diffs A B)
def scl (A : List Int) (f s : Int) : List Int := asSet (A.map fun x => x * f + s)
theorem mem_sums {A B : List Int} {z : Int} : z ∈ sumS A B ↔ ∃ a ∈ A, ∃ b ∈ B, z = a + b := by
  unfold sumS l_sums
  rw [mem_asSet, List.mem_flatMap]
  constructor
  · rintro ⟨a, ha, h⟩
    obtain ⟨b, hb, e⟩ := List.mem_map.mp h
    exact ⟨a, ha, b, hb, e.symm⟩
  · rintro ⟨a, ha, b, hb, e⟩
    exact ⟨a, ha, List.mem_map.mpr ⟨b, hb, e.symm⟩⟩
theorem mem_difs {A B : List Int} {z : Int} : z ∈ difS A B ↔ ∃ a ∈ A, ∃ b ∈ B, z = a - b := by
  unfold difS l_diffs
  rw [mem_asSet, List.mem_flatMap]
  constructor
  · rintro ⟨a, ha, h⟩
    obtain ⟨b, hb, e⟩ := List.mem_map.mp h
    exact ⟨a, ha, b, hb, e.symm⟩
  · rintro ⟨a, ha, b, hb, e⟩
    exact ⟨a, ha, List.mem_map.mpr ⟨b, hb, e.symm⟩⟩
theorem mem_scl {A : List Int} {f s z : Int} : z ∈ scl A f s ↔ ∃ a ∈ A, z = a * f + s := by
  unfold scl
  rw [mem_asSet, List.mem_map]
  exact ⟨fun ⟨a, h, e⟩ => ⟨a, h, e.symm⟩, fun ⟨a, h, e⟩ => ⟨a, h, e.symm⟩⟩
theorem scl_asc (A : List Int) (f s : Int) : Asc (scl A f s) := asSet_pw _
theorem ext_asc {A B : List Int} (h1 : Asc A) (h2 : Asc B) (h : ∀ z, z ∈ A ↔ z ∈ B) : A = B := asc_ext h1 h2 h
theorem T1 (A B : List Int) (f s t : Int) : sumS (scl A f s) (scl B f t) = scl (sumS A B) f (s + t) := by
  refine ext_asc (asSet_pw _) (asSet_pw _) fun z => ?_
  rw [mem_sums, mem_scl]
  constructor
  · rintro ⟨x, hx, y, hy, e⟩
    obtain ⟨a, ha, e1⟩ := mem_scl.mp hx
    obtain ⟨b, hb, e2⟩ := mem_scl.mp hy
    refine ⟨a + b, mem_sums.mpr ⟨a, ha, b, hb, rfl⟩, ?_⟩
    rw [e, e1, e2, Int.add_mul]; omega
  · rintro ⟨x, hx, e⟩
    obtain ⟨a, ha, b, hb, e1⟩ := mem_sums.mp hx
    refine ⟨a * f + s, mem_scl.mpr ⟨a, ha, rfl⟩, b * f + t, mem_scl.mpr ⟨b, hb, rfl⟩, ?_⟩
    rw [e, e1, Int.add_mul]; omega
theorem T2 (A B : List Int) (f s t : Int) : difS (scl A f s) (scl B f t) = scl (difS A B) f (s - t) := by
  refine ext_asc (asSet_pw _) (asSet_pw _) fun z => ?_
  rw [mem_difs, mem_scl]
  constructor
  · rintro ⟨x, hx, y, hy, e⟩
    obtain ⟨a, ha, e1⟩ := mem_scl.mp hx
    obtain ⟨b, hb, e2⟩ := mem_scl.mp hy
    refine ⟨a - b, mem_difs.mpr ⟨a, ha, b, hb, rfl⟩, ?_⟩
    rw [e, e1, e2, Int.sub_mul]; omega
  · rintro ⟨x, hx, e⟩
    obtain ⟨a, ha, b, hb, e1⟩ := mem_difs.mp hx
    refine ⟨a * f + s, mem_scl.mpr ⟨a, ha, rfl⟩, b * f + t, mem_scl.mpr ⟨b, hb, rfl⟩, ?_⟩
    rw [e, e1, Int.sub_mul]; omega
theorem T3 (A B : List Int) : sumS A B = sumS B A := by
  refine ext_asc (asSet_pw _) (asSet_pw _) fun z => ?_
  rw [mem_sums, mem_sums]
  constructor
  · rintro ⟨a, ha, b, hb, e⟩; exact ⟨b, hb, a, ha, by omega⟩
  · rintro ⟨a, ha, b, hb, e⟩; exact ⟨b, hb, a, ha, by omega⟩
theorem T4 (A B : List Int) : difS B A = scl (difS A B) (-1) 0 := by
  refine ext_asc (asSet_pw _) (asSet_pw _) fun z => ?_
  rw [mem_difs, mem_scl]
  constructor
  · rintro ⟨b, hb, a, ha, e⟩; exact ⟨a - b, mem_difs.mpr ⟨a, ha, b, hb, rfl⟩, by omega⟩
  · rintro ⟨x, hx, e⟩
    obtain ⟨a, ha, b, hb, e1⟩ := mem_difs.mp hx
    exact ⟨b, hb, a, ha, by omega⟩
/-! ### energy -/
def rp (A : List Int) (t : Int) : Int := sm A fun a => sm A fun b => if b + a = t then 1 else 0
def en (A : List Int) : Int := sm A fun a => sm A fun b => rp A (b + a)
theorem w2 (A : List Int) (g : Int → Int) : wM A 2 g = sm A fun a => sm A fun b => g (b + a) := by
  rw [wM_s]
  refine sm_congr fun a _ => ?_
  rw [wM_s]
  refine sm_congr fun b _ => ?_
  rw [wM_0, Int.zero_add]
theorem cnt2 (A : List Int) (t : Int) : cnt (waysD A 2) t = rp A t := by
  rw [cnt_mass (waysD_nodup A 2)]
  exact w2 A _
theorem energy_eq (A : List Int) : m_energy A = en A := by
  show (((waysD A 2).map (·.2)).map fun m => m * m).sum = _
  rw [List.map_map]
  show sm (waysD A 2) (fun p => p.2 * p.2) = _
  unfold en
  rw [← w2 A (rp A)]
  unfold wM mass
  refine sm_congr fun p hp => ?_
  rw [← cnt2]
  unfold cnt
  rw [look_mem (waysD_nodup A 2) hp]; rfl
theorem rp_perm {A B : List Int} (h : A.Perm B) (t : Int) : rp A t = rp B t := by
  unfold rp
  rw [sm_perm h]
  exact sm_congr fun a _ => sm_perm h _
theorem en_perm {A B : List Int} (h : A.Perm B) : en A = en B := by
  unfold en
  rw [sm_perm h]
  refine sm_congr fun a _ => ?_
  rw [sm_perm h]
  exact sm_congr fun b _ => rp_perm h _
theorem aff_inj {f s x y : Int} (hf : f ≠ 0) (h : x * f + s = y * f + s) : x = y := Int.eq_of_mul_eq_mul_right hf (by omega)
theorem en_map (A : List Int) {f : Int} (s : Int) (hf : f ≠ 0) : en (A.map fun x => x * f + s) = en A := by
  unfold en rp
  rw [sm_map]
  refine sm_congr fun a _ => ?_
  rw [sm_map]
  refine sm_congr fun b _ => ?_
  rw [sm_map]
  refine sm_congr fun c _ => ?_
  rw [sm_map]
  refine sm_congr fun d _ => ?_
  by_cases h : d + c = b + a
  · rw [if_pos h, if_pos]
    have : (d + c) * f = (b + a) * f := by rw [h]
    rw [Int.add_mul, Int.add_mul] at this; omega
  · rw [if_neg h, if_neg]
    intro z
    exact h (Int.eq_of_mul_eq_mul_right hf (by rw [Int.add_mul, Int.add_mul]; omega))
theorem map_nodup {A : List Int} (h : A.Nodup) {f : Int} (s : Int) (hf : f ≠ 0) : (A.map fun x => x * f + s).Nodup := by
  refine List.pairwise_map.mpr (h.imp fun {a b} hab e => hab (aff_inj hf e))
theorem scl_perm {A : List Int} (h : A.Nodup) {f : Int} (s : Int) (hf : f ≠ 0) : (scl A f s).Perm (A.map fun x => x * f + s) := asSet_perm (map_nodup h s hf)
theorem scl_len {A : List Int} (h : A.Nodup) {f : Int} (s : Int) (hf : f ≠ 0) : (scl A f s).length = A.length := by rw [(scl_perm h s hf).length_eq, List.length_map]
theorem T5 {A : List Int} (h : Asc A) {f : Int} (s : Int) (hf : f ≠ 0) : m_energy (scl A f s) = m_energy A := by
  rw [energy_eq, energy_eq, en_perm (scl_perm h.nodup s hf), en_map A s hf]
/-! ### sets whose sums are unlike -/
def Sid (A : List Int) : Prop := ∀ a ∈ A, ∀ b ∈ A, ∀ c ∈ A, ∀ d ∈ A, d + c = b + a → (c = a ∧ d = b) ∨ (c = b ∧ d = a)
theorem Sid_scl {A : List Int} {f : Int} (s : Int) (hf : f ≠ 0) : Sid (scl A f s) ↔ Sid A := by
  constructor
  · intro h a ha b hb c hc d hd e
    have := h (a * f + s) (mem_scl.mpr ⟨a, ha, rfl⟩) (b * f + s) (mem_scl.mpr ⟨b, hb, rfl⟩) (c * f + s) (mem_scl.mpr ⟨c, hc, rfl⟩) (d * f + s) (mem_scl.mpr ⟨d, hd, rfl⟩) (by
      have : (d + c) * f = (b + a) * f := by rw [e]
      rw [Int.add_mul, Int.add_mul] at this; omega)
    exact this.imp (fun h => ⟨aff_inj hf h.1, aff_inj hf h.2⟩) fun h => ⟨aff_inj hf h.1, aff_inj hf h.2⟩
  · intro h a ha b hb c hc d hd e
    obtain ⟨a', ha', ea⟩ := mem_scl.mp ha
    obtain ⟨b', hb', eb⟩ := mem_scl.mp hb
    obtain ⟨c', hc', ec⟩ := mem_scl.mp hc
    obtain ⟨d', hd', ed⟩ := mem_scl.mp hd
    subst ea; subst eb; subst ec; subst ed
    have := h a' ha' b' hb' c' hc' d' hd' (Int.eq_of_mul_eq_mul_right hf (by rw [Int.add_mul, Int.add_mul]; omega))
    exact this.imp (fun h => ⟨by rw [h.1], by rw [h.2]⟩) fun h => ⟨by rw [h.1], by rw [h.2]⟩
theorem nodup_pairs {α β : Type} : ∀ {xs : List α} {ys : List β}, xs.Nodup → ys.Nodup → (xs.flatMap fun a => ys.map fun b => (a, b)).Nodup
  | [], _, _, _ => List.nodup_nil
  | x :: xs, ys, hx, hy => by
    have hx' := List.nodup_cons.mp hx
    rw [List.flatMap_cons, List.nodup_append]
    refine ⟨List.pairwise_map.mpr (hy.imp fun {a b} h e => h (Prod.mk.inj e).2), nodup_pairs hx'.2 hy, fun p hp q hq e => ?_⟩
    obtain ⟨b, hb, e1⟩ := List.mem_map.mp hp
    obtain ⟨a, ha, h2⟩ := List.mem_flatMap.mp hq
    obtain ⟨c, hc, e2⟩ := List.mem_map.mp h2
    rw [← e1, ← e2] at e
    have := (Prod.mk.inj e).1
    subst this
    exact hx'.1 ha
def pairs (A : List Int) : List (Int × Int) := A.flatMap fun a => A.map fun b => (a, b)
theorem mem_pairs {A : List Int} {p : Int × Int} : p ∈ pairs A ↔ p.1 ∈ A ∧ p.2 ∈ A := by
  unfold pairs
  rw [List.mem_flatMap]
  constructor
  · rintro ⟨a, ha, h⟩
    obtain ⟨b, hb, e⟩ := List.mem_map.mp h
    subst e; exact ⟨ha, hb⟩
  · rintro ⟨h1, h2⟩
    exact ⟨p.1, h1, List.mem_map.mpr ⟨p.2, h2, rfl⟩⟩
theorem sm_ind {α : Type} (xs : List α) (p : α → Bool) : sm xs (fun x => if p x = true then 1 else 0) = ((xs.filter p).length : Int) := by
  induction xs with
  | nil => rfl
  | cons x xs ih =>
    rw [sm_cons, ih, List.filter_cons]
    split
    · rw [List.length_cons]; omega
    · omega
theorem rp_len (A : List Int) (t : Int) : rp A t = (((pairs A).filter fun p => decide (p.2 + p.1 = t)).length : Int) := by
  rw [← sm_ind]
  unfold pairs rp
  rw [sm_flatMap]
  refine sm_congr fun a _ => ?_
  rw [sm_map]
  refine sm_congr fun b _ => ?_
  by_cases h : b + a = t
  · rw [if_pos h, if_pos (decide_eq_true h)]
  · rw [if_neg h, if_neg fun z => h (of_decide_eq_true z)]
def tw (a b : Int) : List (Int × Int) := if a = b then [(a, b)] else [(a, b), (b, a)]
theorem tw_nodup (a b : Int) : (tw a b).Nodup := by
  unfold tw
  split
  · exact List.nodup_cons.mpr ⟨List.not_mem_nil, List.nodup_nil⟩
  · rename_i h
    refine List.nodup_cons.mpr ⟨fun z => ?_, List.nodup_cons.mpr ⟨List.not_mem_nil, List.nodup_nil⟩⟩
    rw [List.mem_singleton] at z
    exact h (Prod.mk.inj z).1
theorem tw_len (a b : Int) : ((tw a b).length : Int) = if a = b then 1 else 2 := by
  unfold tw
  split <;> rfl
theorem mem_tw {a b : Int} {p : Int × Int} : p ∈ tw a b ↔ p = (a, b) ∨ p = (b, a) := by
  unfold tw
  split
  · rename_i h
    subst h
    rw [List.mem_singleton]
    exact ⟨.inl, fun h => h.elim id id⟩
  · rw [List.mem_cons, List.mem_singleton]
theorem tw_sub {A : List Int} {a b : Int} (ha : a ∈ A) (hb : b ∈ A) : ∀ p ∈ tw a b, p ∈ (pairs A).filter fun p => decide (p.2 + p.1 = b + a) := fun p hp => by
  rw [List.mem_filter, mem_pairs, decide_eq_true_eq]
  rcases mem_tw.mp hp with e | e
  · subst e; exact ⟨⟨ha, hb⟩, rfl⟩
  · subst e; exact ⟨⟨hb, ha⟩, by show a + b = b + a; omega⟩
theorem rp_ge {A : List Int} (hn : A.Nodup) {a b : Int} (ha : a ∈ A) (hb : b ∈ A) : (if a = b then (1 : Int) else 2) ≤ rp A (b + a) := by
  rw [rp_len, ← tw_len]
  have := nodup_sub_len (tw_nodup a b) (tw_sub ha hb)
  omega
theorem rp_eq {A : List Int} (hn : A.Nodup) {a b : Int} (ha : a ∈ A) (hb : b ∈ A) : rp A (b + a) = (if a = b then (1 : Int) else 2) ↔ ∀ c ∈ A, ∀ d ∈ A, d + c = b + a → (c = a ∧ d = b) ∨ (c = b ∧ d = a) := by
  rw [rp_len, ← tw_len]
  have hF : ((pairs A).filter fun p => decide (p.2 + p.1 = b + a)).Nodup := (nodup_pairs hn hn).filter _
  constructor
  · intro h c hc d hd e
    apply Classical.byContradiction
    intro hh
    have hz : (c, d) ∉ tw a b := fun z => hh ((mem_tw.mp z).imp (fun e => ⟨(Prod.mk.inj e).1, (Prod.mk.inj e).2⟩) fun e => ⟨(Prod.mk.inj e).1, (Prod.mk.inj e).2⟩)
    have := nodup_sub_len (xs := (c, d) :: tw a b) (ys := (pairs A).filter fun p => decide (p.2 + p.1 = b + a)) (List.nodup_cons.mpr ⟨hz, tw_nodup a b⟩) fun p hp => by
      rcases List.mem_cons.mp hp with e2 | hp
      · subst e2
        rw [List.mem_filter, mem_pairs, decide_eq_true_eq]
        exact ⟨⟨hc, hd⟩, e⟩
      · exact tw_sub ha hb p hp
    rw [List.length_cons] at this
    omega
  · intro h
    have h1 := nodup_sub_len (tw_nodup a b) (tw_sub ha hb)
    have h2 := nodup_sub_len hF (ys := tw a b) fun p hp => by
      rw [List.mem_filter, mem_pairs, decide_eq_true_eq] at hp
      exact mem_tw.mpr ((h p.1 hp.1.1 p.2 hp.1.2 hp.2).imp (fun e => Prod.ext e.1 e.2) fun e => Prod.ext e.1 e.2)
    omega
theorem en_least {A : List Int} (hn : A.Nodup) : sm A (fun a => sm A fun b => if a = b then (1 : Int) else 2) = 2 * A.length * A.length - A.length := by
  have h1 : ∀ a ∈ A, sm A (fun b => if a = b then (1 : Int) else 2) = 2 * A.length - 1 := fun a ha => by
    have h2 : sm A (fun b => if a = b then (1 : Int) else 2) = sm A fun b => 2 + -1 * (if b = a then (1 : Int) else 0) := sm_congr fun b _ => by
      by_cases h : a = b
      · rw [if_pos h, if_pos h.symm]; rfl
      · rw [if_neg h, if_neg fun z => h z.symm]; rfl
    rw [h2, sm_add, sm_const, sm_mul, sm_one hn a (fun _ => 1), if_pos ha]; omega
  rw [sm_congr h1, sm_const, Int.mul_sub]
  rw [Int.mul_one, ← Int.mul_assoc, Int.mul_comm (A.length : Int) 2]
theorem energy_sid {A : List Int} (hn : A.Nodup) : en A = 2 * A.length * A.length - A.length ↔ Sid A := by
  rw [← en_least hn]
  constructor
  · intro h a ha b hb c hc d hd e
    have h1 := sm_eq_all (xs := A) (f := fun a => sm A fun b => if a = b then (1 : Int) else 2) (g := fun a => sm A fun b => rp A (b + a)) (fun a ha => sm_le fun b hb => rp_ge hn ha hb) h a ha
    have h2 := sm_eq_all (xs := A) (f := fun b => if a = b then (1 : Int) else 2) (g := fun b => rp A (b + a)) (fun b hb => rp_ge hn ha hb) h1 b hb
    exact (rp_eq hn ha hb).mp h2 c hc d hd e
  · intro h
    refine sm_congr fun a ha => sm_congr fun b hb => ?_
    exact (rp_eq hn ha hb).mpr (h a ha b hb)
/-! ### pairs of places -/
theorem flatMap_congr {α β : Type} {f g : α → List β} : ∀ {xs : List α}, (∀ x ∈ xs, f x = g x) → xs.flatMap f = xs.flatMap g
  | [], _ => rfl
  | x :: xs, h => by rw [List.flatMap_cons, List.flatMap_cons, h x List.mem_cons_self, flatMap_congr fun z hz => h z (List.mem_cons_of_mem _ hz)]
theorem mem_enum {A : List Int} {p : Int × Int} (h : p ∈ enum A) : ∃ n : Nat, n < A.length ∧ p.1 = (n : Int) ∧ A[n]? = some p.2 := by
  obtain ⟨n, hn⟩ := List.mem_iff_getElem?.mp h
  obtain ⟨h1, h2⟩ := enum_get hn
  exact ⟨n, (List.getElem?_eq_some_iff.mp h2).1, h1, h2⟩
theorem enum_snoc (A : List Int) (x : Int) : enum (A ++ [x]) = enum A ++ [((A.length : Int), x)] := by
  unfold enum
  rw [List.zipIdx_append, List.map_append]
  show _ ++ [(((0 + A.length : Nat) : Int), x)] = _
  rw [Nat.zero_add]
theorem prs_snoc {β : Type} (A : List Int) (x : Int) (f : Int → Int → β) : prs (A ++ [x]) f = prs A f ++ A.map (f x) := by
  unfold prs
  rw [enum_snoc, List.flatMap_append, List.flatMap_singleton]
  congr 1
  · refine flatMap_congr fun p hp => ?_
    obtain ⟨n, hn, h1, _⟩ := mem_enum hp
    rw [h1, cut_take, cut_take, List.take_append_of_le_length (Nat.le_of_lt hn)]
  · show List.map _ (cut (A ++ [x]) none (some (A.length : Int))) = _
    rw [cut_take, List.take_left' rfl]
theorem prs_map {β γ : Type} (A : List Int) (f : Int → Int → β) (g : β → γ) : prs A (fun h l => g (f h l)) = (prs A f).map g := by
  unfold prs
  rw [List.map_flatMap]
  refine flatMap_congr fun p _ => ?_
  rw [List.map_map]; rfl
def prsP (A : List Int) : List (Int × Int) := prs A Prod.mk
theorem asc_snoc {A : List Int} {x : Int} (h : Asc (A ++ [x])) : Asc A ∧ ∀ a ∈ A, a < x := by
  have := List.pairwise_append.mp h
  exact ⟨this.1, fun a ha => this.2.2 a ha x (List.mem_singleton.mpr rfl)⟩
theorem mem_prsP {A : List Int} : Asc A → ∀ p : Int × Int, p ∈ prsP A ↔ p.1 ∈ A ∧ p.2 ∈ A ∧ p.2 < p.1 := by
  induction A using list_snoc_ind with
  | h0 => intro _ p; exact ⟨fun h => (nomatch h), fun h => (nomatch h.1)⟩
  | h1 A x ih =>
    intro hA p
    obtain ⟨h1, h2⟩ := asc_snoc hA
    unfold prsP
    rw [prs_snoc, List.mem_append, List.mem_append, List.mem_append, List.mem_singleton, List.mem_singleton]
    have := ih h1 p
    unfold prsP at this
    rw [this, List.mem_map]
    constructor
    · rintro (⟨h3, h4, h5⟩ | ⟨a, ha, e⟩)
      · exact ⟨.inl h3, .inl h4, h5⟩
      · subst e; exact ⟨.inr rfl, .inl ha, h2 a ha⟩
    · rintro ⟨h3 | h3, h4 | h4, h5⟩
      · exact .inl ⟨h3, h4, h5⟩
      · have := h2 _ h3; omega
      · exact .inr ⟨p.2, h4, by rw [← h3]⟩
      · omega
theorem nodup_prsP {A : List Int} : Asc A → (prsP A).Nodup := by
  induction A using list_snoc_ind with
  | h0 => intro _; exact List.nodup_nil
  | h1 A x ih =>
    intro hA
    obtain ⟨h1, h2⟩ := asc_snoc hA
    unfold prsP
    rw [prs_snoc, List.nodup_append]
    refine ⟨ih h1, List.pairwise_map.mpr (h1.nodup.imp fun {a b} h e => h (Prod.mk.inj e).2), fun p hp q hq e => ?_⟩
    have h3 := (mem_prsP h1 p).mp hp
    obtain ⟨b, hb, e1⟩ := List.mem_map.mp hq
    rw [← e1] at e
    have := h2 _ h3.1
    rw [e] at this
    exact absurd this (Int.lt_irrefl _)
def gapL (A : List Int) : List Int := prs A fun h l => h - l
theorem gapL_eq (A : List Int) : gapL A = (prsP A).map fun p => p.1 - p.2 := prs_map A Prod.mk fun p => p.1 - p.2
theorem mem_gapL {A : List Int} (h : Asc A) (z : Int) : z ∈ gapL A ↔ ∃ a ∈ A, ∃ b ∈ A, b < a ∧ z = a - b := by
  rw [gapL_eq, List.mem_map]
  constructor
  · rintro ⟨p, hp, e⟩
    have := (mem_prsP h p).mp hp
    exact ⟨p.1, this.1, p.2, this.2.1, this.2.2, e.symm⟩
  · rintro ⟨a, ha, b, hb, h1, e⟩
    exact ⟨(a, b), (mem_prsP h _).mpr ⟨ha, hb, h1⟩, e.symm⟩
def unl (A : List Int) : Bool := decide (((asSet (gapL A)).length : Int) = ((gapL A).length : Int))
theorem asSet_len_nodup {xs : List Int} : (asSet xs).length = xs.length ↔ xs.Nodup := by
  constructor
  · intro h
    apply Classical.byContradiction
    intro hn
    have : ∀ {ys : List Int}, ¬ ys.Nodup → (uniq ys).length < ys.length := fun {ys} => by
      induction ys using list_snoc_ind with
      | h0 => intro h; exact absurd List.nodup_nil h
      | h1 ys y ih =>
        intro h
        rw [uniq_snoc, List.length_append]
        have hle : (uniq ys).length ≤ ys.length := nodup_sub_len (uniq_nodup ys) fun z hz => mem_uniq.mp hz
        by_cases hy : y ∈ uniq ys
        · rw [if_pos hy]; show _ < ys.length + 1; omega
        · rw [if_neg hy, List.length_append]
          have : ¬ ys.Nodup := fun hn => h (List.nodup_append.mpr ⟨hn, List.nodup_cons.mpr ⟨List.not_mem_nil, List.nodup_nil⟩, fun a ha b hb e => hy (mem_uniq.mpr (by rw [List.mem_singleton.mp hb] at e; rw [← e]; exact ha))⟩)
          have := ih this
          omega
    have := this hn
    rw [← asSet_len] at this
    omega
  · intro h
    exact (asSet_perm h).length_eq
theorem nodup_map_iff {α : Type} {xs : List α} {f : α → Int} (hn : xs.Nodup) : (xs.map f).Nodup ↔ ∀ a ∈ xs, ∀ b ∈ xs, f a = f b → a = b := by
  induction xs with
  | nil => exact ⟨fun _ a h => (nomatch h), fun _ => List.nodup_nil⟩
  | cons x xs ih =>
    have hn' := List.nodup_cons.mp hn
    rw [List.map_cons, List.nodup_cons, ih hn'.2]
    constructor
    · rintro ⟨h1, h2⟩ a ha b hb e
      rcases List.mem_cons.mp ha with ea | ha'
      · rcases List.mem_cons.mp hb with eb | hb'
        · rw [ea, eb]
        · subst ea; exact absurd (List.mem_map.mpr ⟨b, hb', e.symm⟩) h1
      · rcases List.mem_cons.mp hb with eb | hb'
        · subst eb; exact absurd (List.mem_map.mpr ⟨a, ha', e⟩) h1
        · exact h2 a ha' b hb' e
    · intro h
      refine ⟨fun hm => ?_, fun a ha b hb => h a (List.mem_cons_of_mem _ ha) b (List.mem_cons_of_mem _ hb)⟩
      obtain ⟨a, ha, e⟩ := List.mem_map.mp hm
      have := h a (List.mem_cons_of_mem _ ha) x List.mem_cons_self e
      subst this
      exact hn'.1 ha
theorem unl_sid {A : List Int} (h : Asc A) : unl A = true ↔ Sid A := by
  unfold unl
  rw [decide_eq_true_eq]
  have : ((asSet (gapL A)).length : Int) = ((gapL A).length : Int) ↔ (gapL A).Nodup := by rw [← asSet_len_nodup]; omega
  rw [this, gapL_eq, nodup_map_iff (nodup_prsP h)]
  constructor
  · intro hh a ha b hb c hc d hd e
    rcases Int.lt_trichotomy c a with h1 | h1 | h1
    · have := hh (a, c) ((mem_prsP h _).mpr ⟨ha, hc, h1⟩) (d, b) ((mem_prsP h _).mpr ⟨hd, hb, by show b < d; omega⟩) (by show a - c = d - b; omega)
      have e := Prod.mk.inj this
      exact .inr ⟨e.2, e.1.symm⟩
    · exact .inl ⟨h1, by omega⟩
    · have := hh (c, a) ((mem_prsP h _).mpr ⟨hc, ha, h1⟩) (b, d) ((mem_prsP h _).mpr ⟨hb, hd, by show d < b; omega⟩) (by show c - a = b - d; omega)
      have e := Prod.mk.inj this
      exact .inr ⟨e.1, e.2.symm⟩
  · intro hh p hp q hq e
    have h1 := (mem_prsP h p).mp hp
    have h2 := (mem_prsP h q).mp hq
    have e : p.1 - p.2 = q.1 - q.2 := e
    rcases hh p.2 h1.2.1 q.1 h2.1 q.2 h2.2.1 p.1 h1.1 (by omega) with h3 | h3
    · exact Prod.ext h3.2 h3.1.symm
    · omega
theorem bool_ext {a b : Bool} (h : a = true ↔ b = true) : a = b := by
  cases a <;> cases b <;> simp at h ⊢
theorem C1 {A : List Int} (h : Asc A) : unl A = decide (m_energy A = 2 * A.length * A.length - A.length) := bool_ext (by
  rw [unl_sid h, decide_eq_true_eq, energy_eq, energy_sid h.nodup])
theorem T6 {A : List Int} (h : Asc A) {f : Int} (s : Int) (hf : f ≠ 0) : unl (scl A f s) = unl A := bool_ext (by rw [unl_sid (scl_asc _ _ _), unl_sid h, Sid_scl s hf])
/-! ### gaps of moved sets -/
theorem sorted_map_mul {xs : List Int} {c : Int} (hc : 0 ≤ c) : sorted (xs.map fun z => c * z) = (sorted xs).map fun z => c * z := by
  refine perm_sorted_eq ((sorted_perm _).trans ((sorted_perm xs).symm.map _)) (sorted_pw _) ?_
  exact List.pairwise_map.mpr ((sorted_pw xs).imp fun {a b} h => Int.mul_le_mul_of_nonneg_left h hc)
theorem T7 {A : List Int} (h : Asc A) {f : Int} (s : Int) (hf : f ≠ 0) : sorted (gapL (scl A f s)) = (sorted (gapL A)).map fun z => (if f < 0 then -f else f) * z := by
  have hc : 0 ≤ (if f < 0 then -f else f) := by split <;> omega
  rw [← sorted_map_mul hc]
  have hp : (gapL (scl A f s)).Perm ((gapL A).map fun z => (if f < 0 then -f else f) * z) := by
    rw [gapL_eq, gapL_eq, List.map_map]
    have h1 : (prsP (scl A f s)).Perm ((prsP A).map fun p => if f < 0 then (p.2 * f + s, p.1 * f + s) else (p.1 * f + s, p.2 * f + s)) := by
      refine (List.perm_ext_iff_of_nodup (nodup_prsP (scl_asc _ _ _)) ?_).mpr fun q => ?_
      · refine List.pairwise_map.mpr ((nodup_prsP h).imp fun {a b} hab e => hab ?_)
        by_cases hz : f < 0
        · rw [if_pos hz, if_pos hz] at e
          have e := Prod.mk.inj e
          exact Prod.ext (aff_inj hf e.2) (aff_inj hf e.1)
        · rw [if_neg hz, if_neg hz] at e
          have e := Prod.mk.inj e
          exact Prod.ext (aff_inj hf e.1) (aff_inj hf e.2)
      · rw [mem_prsP (scl_asc _ _ _), List.mem_map]
        constructor
        · rintro ⟨h1, h2, h3⟩
          obtain ⟨a, ha, ea⟩ := mem_scl.mp h1
          obtain ⟨b, hb, eb⟩ := mem_scl.mp h2
          by_cases hz : f < 0
          · refine ⟨(b, a), (mem_prsP h _).mpr ⟨hb, ha, ?_⟩, ?_⟩
            · show a < b
              apply Classical.byContradiction
              intro hh
              have := Int.mul_le_mul_of_nonpos_right (show b ≤ a by omega) (show f ≤ 0 by omega)
              omega
            · rw [if_pos hz]; exact Prod.ext ea.symm eb.symm
          · refine ⟨(a, b), (mem_prsP h _).mpr ⟨ha, hb, ?_⟩, ?_⟩
            · show b < a
              apply Classical.byContradiction
              intro hh
              have := Int.mul_le_mul_of_nonneg_right (show a ≤ b by omega) (show 0 ≤ f by omega)
              omega
            · rw [if_neg hz]; exact Prod.ext ea.symm eb.symm
        · rintro ⟨p, hp, e⟩
          have h1 := (mem_prsP h p).mp hp
          by_cases hz : f < 0
          · rw [if_pos hz] at e
            subst e
            refine ⟨mem_scl.mpr ⟨p.2, h1.2.1, rfl⟩, mem_scl.mpr ⟨p.1, h1.1, rfl⟩, ?_⟩
            have := Int.mul_lt_mul_of_neg_right h1.2.2 hz
            show p.1 * f + s < p.2 * f + s
            omega
          · rw [if_neg hz] at e
            subst e
            refine ⟨mem_scl.mpr ⟨p.1, h1.1, rfl⟩, mem_scl.mpr ⟨p.2, h1.2.1, rfl⟩, ?_⟩
            have := Int.mul_lt_mul_of_pos_right h1.2.2 (show 0 < f by omega)
            show p.2 * f + s < p.1 * f + s
            omega
    refine (h1.map _).trans ?_
    rw [List.map_map]
    refine List.Perm.of_eq (List.map_congr_left fun p _ => ?_)
    show (if f < 0 then (p.2 * f + s, p.1 * f + s) else (p.1 * f + s, p.2 * f + s)).1 - (if f < 0 then (p.2 * f + s, p.1 * f + s) else (p.1 * f + s, p.2 * f + s)).2 = (if f < 0 then -f else f) * (p.1 - p.2)
    split
    · rw [Int.neg_mul, Int.mul_sub, Int.mul_comm f p.1, Int.mul_comm f p.2]; omega
    · rw [Int.mul_sub, Int.mul_comm f p.1, Int.mul_comm f p.2]; omega
  exact perm_sorted_eq ((sorted_perm _).trans (hp.trans (sorted_perm _).symm)) (sorted_pw _) (sorted_pw _)
end M

/-! M64e: free and measuring sets, normal form, rows, parts, folds. -/
namespace M
open PySem L2 EL
theorem any_false {xs : List Bool} : (!(xs.any id)) = true ↔ ∀ b ∈ xs, b = false := by
  rw [Bool.not_eq_true', List.any_eq_false]
  exact ⟨fun h b hb => by have := h b hb; simpa using this, fun h b hb => by have := h b hb; simpa using this⟩
def freeS (A : List Int) : Bool := !((A.flatMap fun x => A.map fun y => decide (x + y ∈ A)).any id)
def ufreeS (A : List Int) : Bool := !((prs A fun h l => decide (h + l ∈ A)).any id)
theorem freeS_iff {A : List Int} : freeS A = true ↔ ∀ a ∈ A, ∀ b ∈ A, a + b ∉ A := by
  unfold freeS
  rw [any_false]
  constructor
  · intro h a ha b hb
    exact of_decide_eq_false (h _ (List.mem_flatMap.mpr ⟨a, ha, List.mem_map.mpr ⟨b, hb, rfl⟩⟩))
  · intro h x hx
    obtain ⟨a, ha, h2⟩ := List.mem_flatMap.mp hx
    obtain ⟨b, hb, e⟩ := List.mem_map.mp h2
    rw [← e]; exact decide_eq_false (h a ha b hb)
theorem ufreeS_iff {A : List Int} (hA : Asc A) : ufreeS A = true ↔ ∀ a ∈ A, ∀ b ∈ A, b < a → a + b ∉ A := by
  unfold ufreeS
  rw [any_false, prs_map A Prod.mk fun p => decide (p.1 + p.2 ∈ A)]
  constructor
  · intro h a ha b hb hl
    exact of_decide_eq_false (h _ (List.mem_map.mpr ⟨(a, b), (mem_prsP hA _).mpr ⟨ha, hb, hl⟩, rfl⟩))
  · intro h x hx
    obtain ⟨p, hp, e⟩ := List.mem_map.mp hx
    have := (mem_prsP hA p).mp hp
    rw [← e]; exact decide_eq_false (h p.1 this.1 p.2 this.2.1 this.2.2)
theorem T8 {A : List Int} {f : Int} (hf : f ≠ 0) : freeS (scl A f 0) = freeS A := bool_ext (by
  rw [freeS_iff, freeS_iff]
  constructor
  · intro h a ha b hb hm
    refine h (a * f + 0) (mem_scl.mpr ⟨a, ha, rfl⟩) (b * f + 0) (mem_scl.mpr ⟨b, hb, rfl⟩) (mem_scl.mpr ⟨a + b, hm, ?_⟩)
    rw [Int.add_mul]; omega
  · intro h a' ha' b' hb' hm
    obtain ⟨a, ha, ea⟩ := mem_scl.mp ha'
    obtain ⟨b, hb, eb⟩ := mem_scl.mp hb'
    obtain ⟨c, hc, ec⟩ := mem_scl.mp hm
    have : a + b = c := Int.eq_of_mul_eq_mul_right hf (by rw [Int.add_mul]; omega)
    exact h a ha b hb (by rw [this]; exact hc))
theorem T11 {A : List Int} (h : Asc A) {f : Int} (hf : f ≠ 0) : ufreeS (scl A f 0) = ufreeS A := bool_ext (by
  rw [ufreeS_iff (scl_asc _ _ _), ufreeS_iff h]
  have key : ∀ {B : List Int} (hB : Asc B), (∀ a ∈ B, ∀ b ∈ B, b < a → a + b ∉ B) ↔ ∀ a ∈ B, ∀ b ∈ B, a ≠ b → a + b ∉ B := fun hB => by
    constructor
    · intro h a ha b hb hne
      rcases Int.lt_trichotomy b a with h1 | h1 | h1
      · exact h a ha b hb h1
      · exact absurd h1.symm hne
      · rw [Int.add_comm]; exact h b hb a ha h1
    · intro h a ha b hb hl
      exact h a ha b hb (by omega)
  rw [key (scl_asc _ _ _), key h]
  constructor
  · intro h a ha b hb hne hm
    refine h (a * f + 0) (mem_scl.mpr ⟨a, ha, rfl⟩) (b * f + 0) (mem_scl.mpr ⟨b, hb, rfl⟩) (fun e => hne (aff_inj hf e)) (mem_scl.mpr ⟨a + b, hm, ?_⟩)
    rw [Int.add_mul]; omega
  · intro h a' ha' b' hb' hne hm
    obtain ⟨a, ha, ea⟩ := mem_scl.mp ha'
    obtain ⟨b, hb, eb⟩ := mem_scl.mp hb'
    obtain ⟨c, hc, ec⟩ := mem_scl.mp hm
    have : a + b = c := Int.eq_of_mul_eq_mul_right hf (by rw [Int.add_mul]; omega)
    exact h a ha b hb (fun e => hne (by rw [ea, eb, e])) (by rw [this]; exact hc))
/-! ### ends -/
theorem ends {A : List Int} (h : Asc A) (hne : A ≠ []) : ∃ lo ∈ A, ∃ hi ∈ A, (∀ x ∈ A, lo ≤ x ∧ x ≤ hi) ∧ (atI A 0).getD 0 = lo ∧ (atI A (-1)).getD 0 = hi := by
  cases A with
  | nil => exact absurd rfl hne
  | cons x r =>
    have h1 : (atI (x :: r) 0).getD 0 = x := by rw [atI_0]; rfl
    have h2 : (atI (x :: r) (-1)).getD 0 = (x :: r).getLast hne := by rw [atI_m1 hne]; rfl
    refine ⟨x, List.mem_cons_self, (x :: r).getLast hne, List.getLast_mem hne, fun z hz => ⟨?_, ?_⟩, h1, h2⟩
    · rcases List.mem_cons.mp hz with e | hz
      · omega
      · exact Int.le_of_lt ((List.pairwise_cons.mp h).1 z hz)
    · have e := List.dropLast_concat_getLast hne
      have h3 : Asc ((x :: r).dropLast ++ [(x :: r).getLast hne]) := by rw [e]; exact h
      have h4 := asc_snoc h3
      have hz' : z ∈ (x :: r).dropLast ++ [(x :: r).getLast hne] := by rw [e]; exact hz
      rcases List.mem_append.mp hz' with hz' | hz'
      · exact Int.le_of_lt (h4.2 z hz')
      · rw [List.mem_singleton.mp hz']; exact Int.le_refl _
theorem ne_of_len {α : Type} {A : List α} (h : 1 ≤ A.length) : A ≠ [] := fun e => by subst e; simp at h
theorem span_scl {A : List Int} (h : Asc A) (hne : 1 ≤ A.length) {f : Int} (s : Int) (hf : f = 1 ∨ f = -1) : spanOf (scl A f s) = spanOf A := by
  have hf0 : f ≠ 0 := by omega
  obtain ⟨lo, hlo, hi, hhi, hb, e1, e2⟩ := ends h (ne_of_len hne)
  obtain ⟨lo', hlo', hi', hhi', hb', e1', e2'⟩ := ends (scl_asc A f s) (ne_of_len (by rw [scl_len h.nodup s hf0]; exact hne))
  unfold spanOf
  rw [e1, e2, e1', e2']
  obtain ⟨a, ha, ea⟩ := mem_scl.mp hlo'
  obtain ⟨b, hb2, eb⟩ := mem_scl.mp hhi'
  have h1 := hb a ha
  have h2 := hb b hb2
  have h3 := hb' _ (mem_scl.mpr ⟨lo, hlo, rfl⟩)
  have h4 := hb' _ (mem_scl.mpr ⟨hi, hhi, rfl⟩)
  rcases hf with e | e
  · subst e; omega
  · subst e; omega
/-! ### measuring sets -/
theorem fold_put_look {ps : List (Int × Bool)} (x : Int) : ∀ d : List (Int × Bool), (lookD (ps.foldl (fun d p => putD d p.1 p.2) d) x).isSome = true ↔ (lookD d x).isSome = true ∨ ∃ p ∈ ps, p.1 = x := by
  induction ps with
  | nil => intro d; exact ⟨.inl, fun h => h.elim id fun ⟨p, hp, _⟩ => nomatch hp⟩
  | cons q ps ih =>
    intro d
    rw [List.foldl_cons, ih, lookD_put]
    by_cases h : x = q.1
    · rw [if_pos h]
      exact ⟨fun _ => .inr ⟨q, List.mem_cons_self, h.symm⟩, fun _ => .inl rfl⟩
    · rw [if_neg h]
      constructor
      · rintro (h1 | ⟨p, hp, e⟩)
        · exact .inl h1
        · exact .inr ⟨p, List.mem_cons_of_mem _ hp, e⟩
      · rintro (h1 | ⟨p, hp, e⟩)
        · exact .inl h1
        · rcases List.mem_cons.mp hp with e2 | hp
          · subst e2; exact absurd e.symm h
          · exact .inr ⟨p, hp, e⟩
theorem gapD_look (A : List Int) (x : Int) : (lookD (gapD A) x).isSome = true ↔ x ∈ gapL A := by
  unfold gapD dict2
  rw [fold_put_look]
  constructor
  · rintro (h | ⟨p, hp, e⟩)
    · cases h
    · obtain ⟨a, ha, h2⟩ := List.mem_flatMap.mp hp
      obtain ⟨b, hb, e2⟩ := List.mem_map.mp h2
      subst e2
      exact List.mem_flatMap.mpr ⟨a, ha, List.mem_map.mpr ⟨b, hb, e⟩⟩
  · intro h
    obtain ⟨a, ha, h2⟩ := List.mem_flatMap.mp h
    obtain ⟨b, hb, e2⟩ := List.mem_map.mp h2
    exact .inr ⟨_, List.mem_flatMap.mpr ⟨a, ha, List.mem_map.mpr ⟨b, hb, rfl⟩⟩, e2⟩
theorem meas_iff (A : List Int) : m_measures_all A = true ↔ ∀ x, 1 ≤ x → x < spanOf A + 1 → x ∈ gapL A := by
  unfold m_measures_all
  rw [List.all_map, List.all_eq_true]
  constructor
  · intro h x h1 h2
    exact (gapD_look A x).mp (h x (mem_rg.mpr ⟨h1, h2⟩))
  · intro h x hx
    have := mem_rg.mp hx
    exact (gapD_look A x).mpr (h x this.1 this.2)
theorem gap_scl {A : List Int} (h : Asc A) {f : Int} (s : Int) (hf : f = 1 ∨ f = -1) (z : Int) : z ∈ gapL (scl A f s) ↔ z ∈ gapL A := by
  rw [← (sorted_perm (gapL (scl A f s))).mem_iff, T7 h s (by omega), ← (sorted_perm (gapL A)).mem_iff, List.mem_map]
  have e : (if f < 0 then -f else f) = 1 := by split <;> omega
  rw [e]
  exact ⟨fun ⟨a, ha, ea⟩ => by rw [Int.one_mul] at ea; rw [← ea]; exact ha, fun hz => ⟨z, hz, Int.one_mul z⟩⟩
theorem T9 {A : List Int} (h : Asc A) (hne : 1 ≤ A.length) {f : Int} (s : Int) (hf : f = 1 ∨ f = -1) : m_measures_all (scl A f s) = m_measures_all A := bool_ext (by
  rw [meas_iff, meas_iff, span_scl h hne s hf]
  exact ⟨fun hh x h1 h2 => (gap_scl h s hf x).mp (hh x h1 h2), fun hh x h1 h2 => (gap_scl h s hf x).mpr (hh x h1 h2)⟩)
def lostG (A : List Int) : List Int := ((rg (1 : Int) (spanOf A + 1)).filter fun x => (!decide (x ∈ sorted (gapL A)))).map fun x => x
def perf (A : List Int) : Bool := unl A && decide (((lostG A).length : Int) = 0)
theorem lost_iff (A : List Int) : decide (((lostG A).length : Int) = 0) = true ↔ m_measures_all A = true := by
  rw [decide_eq_true_eq, meas_iff]
  unfold lostG
  rw [List.length_map]
  have : (((rg (1 : Int) (spanOf A + 1)).filter fun x => (!decide (x ∈ sorted (gapL A)))).length : Int) = 0 ↔ ((rg (1 : Int) (spanOf A + 1)).filter fun x => (!decide (x ∈ sorted (gapL A)))) = [] := by
    rw [← List.length_eq_zero_iff]; omega
  rw [this, List.filter_eq_nil_iff]
  constructor
  · intro h x h1 h2
    have := h x (mem_rg.mpr ⟨h1, h2⟩)
    rw [Bool.not_eq_true, Bool.not_eq_false', decide_eq_true_eq, (sorted_perm _).mem_iff] at this
    exact this
  · intro h x hx
    have := mem_rg.mp hx
    rw [Bool.not_eq_true, Bool.not_eq_false', decide_eq_true_eq, (sorted_perm _).mem_iff]
    exact h x this.1 this.2
theorem T10 {A : List Int} (h : Asc A) (hne : 1 ≤ A.length) {f : Int} (s : Int) (hf : f = 1 ∨ f = -1) : perf (scl A f s) = perf A := by
  unfold perf
  rw [T6 h s (by omega)]
  congr 1
  exact bool_ext ((lost_iff (scl A f s)).trans ((by rw [T9 h hne s hf] : _ ↔ _).trans (lost_iff A).symm))
/-! ### normal form -/
theorem scl_pos {A : List Int} (h : Asc A) {f : Int} (s : Int) (hf : 0 < f) : scl A f s = A.map fun x => x * f + s := by
  refine (asSet_of ?_ fun _ => Iff.rfl).symm
  exact List.pairwise_map.mpr (h.imp fun {a b} hab => by have := Int.mul_lt_mul_of_pos_right hab hf; omega)
theorem gcdL_mul {f : Int} (hf : 0 < f) : ∀ (xs : List Int) (s : Int), (xs.map fun x => f * x).foldl (fun s x => (Int.gcd s x : Int)) (f * s) = f * xs.foldl (fun s x => (Int.gcd s x : Int)) s
  | [], _ => rfl
  | x :: xs, s => by
    rw [List.map_cons, List.foldl_cons, List.foldl_cons, ← gcdL_mul hf xs]
    congr 1
    rw [Int.gcd_mul_left]
    have : (f.natAbs : Int) = f := by omega
    rw [Int.natCast_mul, this]
theorem T12 {A : List Int} (h : Asc A) (hne : 1 ≤ A.length) {f : Int} (s : Int) (hf : 0 < f) : m_normal (scl A f s) = m_normal A := by
  cases A with
  | nil => exact absurd hne (by decide)
  | cons x r =>
    rw [scl_pos h s hf]
    unfold m_normal
    rw [List.map_cons, atI_0, atI_0]
    simp only [Option.getD_some]
    have e : (((x * f + s) :: r.map fun x => x * f + s).map fun z => z - (x * f + s)) = ((x :: r).map fun z => z - x).map fun y => f * y := by
      rw [← List.map_cons (f := fun x => x * f + s), List.map_map, List.map_map]
      refine List.map_congr_left fun z _ => ?_
      show z * f + s - (x * f + s) = f * (z - x)
      rw [Int.mul_sub, Int.mul_comm f z, Int.mul_comm f x]; omega
    rw [e]
    have e2 : gcdL (((x :: r).map fun z => z - x).map fun y => f * y) = f * gcdL ((x :: r).map fun z => z - x) := by
      have := gcdL_mul hf ((x :: r).map fun z => z - x) 0
      rw [Int.mul_zero] at this; exact this
    rw [e2, List.map_map]
    refine List.map_congr_left fun y _ => ?_
    show (if 0 < f * _ then f * y / (f * _) else 0) = if 0 < _ then y / _ else 0
    by_cases hg : 0 < gcdL ((x :: r).map fun z => z - x)
    · rw [if_pos hg, if_pos (Int.mul_pos hf hg), Int.mul_ediv_mul_of_pos _ _ hf]
    · rw [if_neg hg, if_neg]
      intro hh
      have := Int.mul_nonpos_of_nonneg_of_nonpos (show 0 ≤ f by omega) (show gcdL ((x :: r).map fun z => z - x) ≤ 0 by omega)
      omega
/-! ### how many sums -/
theorem sum_len_snoc {A B : List Int} {x : Int} (h : Asc (A ++ [x])) (hB : Asc B) (hne : 1 ≤ B.length) : (sumS A B).length + 1 ≤ (sumS (A ++ [x]) B).length := by
  obtain ⟨lo, hlo, hi, hhi, hb, _, _⟩ := ends hB (ne_of_len hne)
  have h2 := asc_snoc h
  have hz : x + hi ∉ sumS A B := fun hm => by
    obtain ⟨a, ha, b, hb2, e⟩ := mem_sums.mp hm
    have := h2.2 a ha
    have := hb b hb2
    omega
  have := nodup_sub_len (xs := (x + hi) :: sumS A B) (ys := sumS (A ++ [x]) B) (List.nodup_cons.mpr ⟨hz, asSet_nodup _⟩) fun z hz => by
    rcases List.mem_cons.mp hz with e | hz
    · exact mem_sums.mpr ⟨x, List.mem_append.mpr (.inr (List.mem_singleton.mpr rfl)), hi, hhi, e⟩
    · obtain ⟨a, ha, b, hb2, e⟩ := mem_sums.mp hz
      exact mem_sums.mpr ⟨a, List.mem_append.mpr (.inl ha), b, hb2, e⟩
  rw [List.length_cons] at this; exact this
theorem sum_len_cons {A B : List Int} {x : Int} (h : Asc (x :: A)) (hB : Asc B) (hne : 1 ≤ B.length) : (sumS A B).length + 1 ≤ (sumS (x :: A) B).length := by
  obtain ⟨lo, hlo, hi, hhi, hb, _, _⟩ := ends hB (ne_of_len hne)
  have h2 := List.pairwise_cons.mp h
  have hz : x + lo ∉ sumS A B := fun hm => by
    obtain ⟨a, ha, b, hb2, e⟩ := mem_sums.mp hm
    have := h2.1 a ha
    have := hb b hb2
    omega
  have := nodup_sub_len (xs := (x + lo) :: sumS A B) (ys := sumS (x :: A) B) (List.nodup_cons.mpr ⟨hz, asSet_nodup _⟩) fun z hz => by
    rcases List.mem_cons.mp hz with e | hz
    · exact mem_sums.mpr ⟨x, List.mem_cons_self, lo, hlo, e⟩
    · obtain ⟨a, ha, b, hb2, e⟩ := mem_sums.mp hz
      exact mem_sums.mpr ⟨a, List.mem_cons_of_mem _ ha, b, hb2, e⟩
  rw [List.length_cons] at this; exact this
theorem sum_one {x : Int} {B : List Int} (hB : Asc B) : (sumS [x] B).length = B.length := by
  have : sumS [x] B = B.map fun b => x + b := by
    refine (asSet_of (List.pairwise_map.mpr (hB.imp fun {a b} h => by omega)) fun z => ?_).symm
    unfold l_sums
    rw [List.flatMap_cons, List.flatMap_nil, List.append_nil]
  rw [this, List.length_map]
theorem sum_least {A B : List Int} (hB : Asc B) (hb : 1 ≤ B.length) : Asc A → 1 ≤ A.length → A.length + B.length ≤ (sumS A B).length + 1 := by
  induction A using list_snoc_ind with
  | h0 => intro _ h; exact absurd h (by decide)
  | h1 A x ih =>
    intro hA _
    by_cases hz : A = []
    · subst hz
      rw [List.nil_append, sum_one hB]
      simp only [List.length_cons, List.length_nil]; omega
    · have := ih (asc_snoc hA).1 (List.length_pos_iff.mpr hz)
      have := sum_len_snoc hA hB hb
      rw [List.length_append]
      simp only [List.length_cons, List.length_nil]; omega
/-! ### rows -/
def AP (A : List Int) (d : Int) : Prop := ∀ p ∈ A.zip (A.drop 1), p.2 - p.1 = d
theorem ap_cons {x y d : Int} {r : List Int} : AP (x :: y :: r) d ↔ y - x = d ∧ AP (y :: r) d := by
  unfold AP
  rw [List.drop_one, List.tail_cons, List.zip_cons_cons, List.drop_one, List.tail_cons]
  exact ⟨fun h => ⟨h (x, y) List.mem_cons_self, fun p hp => h p (List.mem_cons_of_mem _ hp)⟩, fun h p hp => (List.mem_cons.mp hp).elim (fun e => by rw [e]; exact h.1) fun hp => h.2 p hp⟩
theorem ap_mem {d : Int} : ∀ {r : List Int} {x : Int}, AP (x :: r) d → ∀ y ∈ x :: r, ∃ i : Nat, i < (x :: r).length ∧ y = x + i * d
  | [], x, _, y, hy => ⟨0, by simp, by rw [List.mem_singleton.mp hy]; simp⟩
  | z :: r, x, h, y, hy => by
    have h2 := ap_cons.mp h
    rcases List.mem_cons.mp hy with e | hy
    · exact ⟨0, by simp, by rw [e]; simp⟩
    · obtain ⟨i, hi, e⟩ := ap_mem h2.2 y hy
      refine ⟨i + 1, by rw [List.length_cons]; omega, ?_⟩
      rw [e, Int.natCast_add, Int.add_mul]
      have := h2.1
      omega
theorem sum_rows {A B : List Int} {d : Int} (h1 : 1 ≤ A.length) (h2 : 1 ≤ B.length) (hA : AP A d) (hB : AP B d) : (sumS A B).length ≤ A.length + B.length - 1 := by
  cases A with
  | nil => exact absurd h1 (by decide)
  | cons x r =>
    cases B with
    | nil => exact absurd h2 (by decide)
    | cons y t =>
      have := asSet_sub_le (xs := l_sums (x :: r) (y :: t)) (ys := (List.range ((x :: r).length + (y :: t).length - 1)).map fun k : Nat => x + y + k * d) fun z hz => by
        unfold l_sums at hz
        obtain ⟨a, ha, hz⟩ := List.mem_flatMap.mp hz
        obtain ⟨b, hb, e⟩ := List.mem_map.mp hz
        obtain ⟨i, hi, ea⟩ := ap_mem hA a ha
        obtain ⟨j, hj, eb⟩ := ap_mem hB b hb
        refine List.mem_map.mpr ⟨i + j, List.mem_range.mpr (by omega), ?_⟩
        rw [← e, ea, eb, Int.natCast_add, Int.add_mul]; omega
      rw [List.length_map, List.length_range] at this
      exact this
theorem len_two {α : Type} : ∀ {xs : List α}, xs.length = 2 → ∃ a b, xs = [a, b]
  | [a, b], _ => ⟨a, b, rfl⟩
theorem sum_tight : ∀ (n : Nat) (A B : List Int), A.length + B.length ≤ n → Asc A → Asc B → 2 ≤ A.length → 2 ≤ B.length → (sumS A B).length + 1 ≤ A.length + B.length → ∃ d, AP A d ∧ AP B d := by
  intro n
  induction n with
  | zero => intro A B h _ _ h1; omega
  | succ n ih =>
    have big : ∀ A B : List Int, A.length + B.length ≤ n + 1 → Asc A → Asc B → 3 ≤ A.length → 2 ≤ B.length → (sumS A B).length + 1 ≤ A.length + B.length → ∃ d, AP A d ∧ AP B d := by
      intro A B hn hA hB h1 h2 hs
      match A, h1 with
      | x :: y :: w :: r, _ =>
        match B, h2 with
        | b :: b' :: t, _ =>
          have hA1 := (List.pairwise_cons.mp hA).2
          have s1 := sum_len_cons hA hB (by simp)
          simp only [List.length_cons] at hn hs
          obtain ⟨d1, ha1, hb1⟩ := ih (y :: w :: r) (b :: b' :: t) (by simp only [List.length_cons]; omega) hA1 hB (by simp) (by simp) (by simp only [List.length_cons]; omega)
          have e := List.dropLast_concat_getLast (show x :: y :: w :: r ≠ [] by simp)
          have hA' : Asc ((x :: y :: w :: r).dropLast ++ [(x :: y :: w :: r).getLast (by simp)]) := by rw [e]; exact hA
          have hA2 := (asc_snoc hA').1
          have s2 := sum_len_snoc hA' hB (by simp)
          rw [e] at s2
          have l2 : (x :: y :: w :: r).dropLast.length = r.length + 2 := by rw [List.length_dropLast]; simp
          obtain ⟨d2, ha2, hb2⟩ := ih ((x :: y :: w :: r).dropLast) (b :: b' :: t) (by simp only [List.length_cons, l2]; omega) hA2 hB (by rw [l2]; omega) (by simp) (by simp only [List.length_cons, l2]; omega)
          have hd : d1 = d2 := by
            have := (ap_cons.mp hb1).1
            have := (ap_cons.mp hb2).1
            omega
          subst hd
          have hxy : y - x = d1 := by
            have hh : AP (x :: y :: (w :: r).dropLast) d1 := ha2
            exact (ap_cons.mp hh).1
          exact ⟨d1, ap_cons.mpr ⟨hxy, ha1⟩, hb1⟩
    intro A B hn hA hB h1 h2 hs
    by_cases c1 : 3 ≤ A.length
    · exact big A B hn hA hB c1 h2 hs
    · by_cases c2 : 3 ≤ B.length
      · obtain ⟨d, hd1, hd2⟩ := big B A (by omega) hB hA c2 h1 (by rw [T3]; omega)
        exact ⟨d, hd2, hd1⟩
      · obtain ⟨a, a', rfl⟩ := len_two (show A.length = 2 by omega)
        obtain ⟨b, b', rfl⟩ := len_two (show B.length = 2 by omega)
        have ha := (List.pairwise_cons.mp hA).1 a' (by simp)
        have hb := (List.pairwise_cons.mp hB).1 b' (by simp)
        have hd : a + b' = a' + b := by
          apply Classical.byContradiction
          intro hne
          have := nodup_sub_len (xs := [a + b, a + b', a' + b, a' + b']) (ys := sumS [a, a'] [b, b']) (by
            simp only [List.nodup_cons, List.mem_cons, List.not_mem_nil, List.nodup_nil, or_false, not_or, and_true, not_false_eq_true]
            omega) fun z hz => by
            simp only [List.mem_cons, List.not_mem_nil, or_false] at hz
            rcases hz with e | e | e | e
            · exact mem_sums.mpr ⟨a, by simp, b, by simp, e⟩
            · exact mem_sums.mpr ⟨a, by simp, b', by simp, e⟩
            · exact mem_sums.mpr ⟨a', by simp, b, by simp, e⟩
            · exact mem_sums.mpr ⟨a', by simp, b', by simp, e⟩
          simp only [List.length_cons, List.length_nil] at this hs
          omega
        refine ⟨a' - a, ap_cons.mpr ⟨rfl, fun p hp => by simp at hp⟩, ap_cons.mpr ⟨by omega, fun p hp => by simp at hp⟩⟩
def rowB (A : List Int) : Bool := decide (((asSet ((A.zip (cut A (some (1 : Int)) none)).map fun x : Int × Int => x.2 - x.1)).length : Int) ≤ 1)
theorem len_le_one {xs : List Int} (h : xs.Nodup) : xs.length ≤ 1 ↔ ∀ a ∈ xs, ∀ b ∈ xs, a = b := by
  match xs, h with
  | [], _ => exact ⟨fun _ a h => (nomatch h), fun _ => by decide⟩
  | [x], _ => exact ⟨fun _ a ha b hb => by rw [List.mem_singleton.mp ha, List.mem_singleton.mp hb], fun _ => by simp⟩
  | x :: y :: r, h =>
    refine ⟨fun hl => absurd hl (by simp), fun hh => ?_⟩
    have := hh x (by simp) y (by simp)
    subst this
    exact absurd List.mem_cons_self (List.nodup_cons.mp h).1
theorem rowB_iff {A : List Int} : rowB A = true ↔ ∃ d, AP A d := by
  unfold rowB
  rw [decide_eq_true_eq, cut1]
  have : (((asSet ((A.zip (A.drop 1)).map fun x : Int × Int => x.2 - x.1)).length : Int) ≤ 1) ↔ (asSet ((A.zip (A.drop 1)).map fun x : Int × Int => x.2 - x.1)).length ≤ 1 := by omega
  rw [this, len_le_one (asSet_nodup _)]
  constructor
  · intro h
    match hz : A.zip (A.drop 1) with
    | [] => exact ⟨0, fun p hp => by rw [hz] at hp; cases hp⟩
    | q :: r =>
      refine ⟨q.2 - q.1, fun p hp => ?_⟩
      exact h _ (mem_asSet.mpr (List.mem_map.mpr ⟨p, hp, rfl⟩)) _ (mem_asSet.mpr (List.mem_map.mpr ⟨q, by rw [hz]; exact List.mem_cons_self, rfl⟩))
  · rintro ⟨d, hd⟩ a ha b hb
    obtain ⟨p, hp, e1⟩ := List.mem_map.mp (mem_asSet.mp ha)
    obtain ⟨q, hq, e2⟩ := List.mem_map.mp (mem_asSet.mp hb)
    rw [← e1, ← e2, hd p hp, hd q hq]
def alikeB (A B : List Int) : Bool := if decide ((1 : Int) ∈ [(A.length : Int), (B.length : Int)]) = true then true else rowB A && (rowB B && decide ((atI A 1).getD 0 - (atI A 0).getD 0 = (atI B 1).getD 0 - (atI B 0).getD 0))
theorem at01 {x y : Int} {r : List Int} : (atI (x :: y :: r) 1).getD 0 = y ∧ (atI (x :: y :: r) 0).getD 0 = x := by
  constructor
  · rw [show atI (x :: y :: r) 1 = some y from atI_nat (j := 1) rfl]; rfl
  · rw [atI_0]; rfl
theorem C4 {A B : List Int} (hA : Asc A) (hB : Asc B) (h1 : 1 ≤ A.length) (h2 : 1 ≤ B.length) : decide (((sumS A B).length : Int) = (A.length : Int) + (B.length : Int) - 1) = alikeB A B := bool_ext (by
  unfold alikeB
  rw [decide_eq_true_eq]
  have hl := sum_least hB h2 hA h1
  by_cases c : decide ((1 : Int) ∈ [(A.length : Int), (B.length : Int)]) = true
  · rw [if_pos c]
    refine ⟨fun _ => rfl, fun _ => ?_⟩
    have c := of_decide_eq_true c
    rw [List.mem_cons, List.mem_singleton] at c
    rcases c with c | c
    · match A, h1 with
      | [x], _ => rw [sum_one hB]; simp only [List.length_cons, List.length_nil]; omega
      | x :: y :: r, _ => simp only [List.length_cons] at c; omega
    · match B, h2 with
      | [x], _ => rw [T3, sum_one hA]; simp only [List.length_cons, List.length_nil]; omega
      | x :: y :: r, _ => simp only [List.length_cons] at c; omega
  · rw [if_neg c]
    have c : ¬ ((1 : Int) ∈ [(A.length : Int), (B.length : Int)]) := fun z => c (decide_eq_true z)
    rw [List.mem_cons, List.mem_singleton, not_or] at c
    have l1 : 2 ≤ A.length := by omega
    have l2 : 2 ≤ B.length := by omega
    rw [Bool.and_eq_true, Bool.and_eq_true, rowB_iff, rowB_iff, decide_eq_true_eq]
    match A, l1 with
    | x :: y :: r, _ =>
      match B, l2 with
      | b :: b' :: t, _ =>
        rw [at01.1, at01.2, at01.1, at01.2]
        constructor
        · intro h
          obtain ⟨d, hd1, hd2⟩ := sum_tight _ _ _ (Nat.le_refl _) hA hB (by simp) (by simp) (by omega)
          exact ⟨⟨d, hd1⟩, ⟨d, hd2⟩, by rw [(ap_cons.mp hd1).1, (ap_cons.mp hd2).1]⟩
        · rintro ⟨⟨d, hd1⟩, ⟨d', hd2⟩, e⟩
          have e1 := (ap_cons.mp hd1).1
          have e2 := (ap_cons.mp hd2).1
          have : d = d' := by omega
          subst this
          have := sum_rows (by simp) (by simp) hd1 hd2
          omega)
end M

/-! M64f: ways together, parts, folds; bounds. -/
namespace M
open PySem L2 EL
theorem ways2 (A : List Int) (t : Int) : m_ways A 2 t = rp A t := cnt2 A t
theorem C2 (A : List Int) : ((sumS A A).map fun t => m_ways A 2 t * m_ways A 2 t).sum = m_energy A := by
  rw [energy_eq]
  show sm (sumS A A) (fun t => m_ways A 2 t * m_ways A 2 t) = _
  have h : ∀ z ∈ keys (waysD A 2), z ∈ sumS A A := fun z hz => by
    rw [waysD_mem] at hz
    have hz : z ∈ asSet ((asSet ([0].flatMap fun t => A.map fun o => t + o)).flatMap fun t => A.map fun o => t + o) := hz
    obtain ⟨t, ht, h2⟩ := List.mem_flatMap.mp (mem_asSet.mp hz)
    obtain ⟨o, ho, e⟩ := List.mem_map.mp h2
    obtain ⟨t', ht', h3⟩ := List.mem_flatMap.mp (mem_asSet.mp ht)
    obtain ⟨o', ho', e'⟩ := List.mem_map.mp h3
    rw [List.mem_singleton] at ht'
    exact mem_sums.mpr ⟨o', ho', o, ho, by omega⟩
  have := mass_over (asSet_nodup (l_sums A A)) h (rp A)
  have e : mass (waysD A 2) (rp A) = en A := w2 A (rp A)
  rw [e] at this
  rw [← this]
  refine sm_congr fun t _ => ?_
  rw [ways2]
  congr 1
  exact (cnt2 A t).symm.trans (cnt_mass (waysD_nodup A 2) t)
def unlS (A : List Int) : List Int := asSet (prs A fun h l => h + l)
theorem C5 {A : List Int} (h : Asc A) : ((unlS A).map fun x => decide (x ∈ sumS A A)).all id = true := by
  rw [List.all_map, List.all_eq_true]
  intro x hx
  have hx := mem_asSet.mp hx
  rw [prs_map A Prod.mk fun p => p.1 + p.2] at hx
  obtain ⟨p, hp, e⟩ := List.mem_map.mp hx
  have := (mem_prsP h p).mp hp
  exact decide_eq_true (mem_sums.mpr ⟨p.1, this.1, p.2, this.2.1, e.symm⟩)
/-! ### parts -/
theorem part_snoc (A : List Int) (o : Int) : partD (A ++ [o]) = shiftD o (partD A) (partD A) := by unfold partD; rw [List.foldl_append]; rfl
theorem pt_snoc (A : List Int) (o : Int) : ptS (A ++ [o]) = shiftB o (ptS A) ((ptS A).map (·.1)) := by unfold ptS; rw [List.foldl_append]; rfl
theorem part_nodup (A : List Int) : (keys (partD A)).Nodup := by
  induction A using list_snoc_ind with
  | h0 => exact List.nodup_cons.mpr ⟨List.not_mem_nil, List.nodup_nil⟩
  | h1 A o ih => rw [part_snoc, shift_eq]; exact adds_nodup _ _ ih
theorem part_mass (A : List Int) : mass (partD A) (fun _ => 1) = 2 ^ A.length := by
  induction A using list_snoc_ind with
  | h0 => rfl
  | h1 A o ih =>
    rw [part_snoc, shift_mass o _ (part_nodup A), ih, List.length_append]
    show 2 ^ A.length + 2 ^ A.length = 2 ^ (A.length + 1)
    rw [Int.pow_succ]; omega
theorem part_mem {A : List Int} {o z : Int} : z ∈ keys (partD (A ++ [o])) ↔ z ∈ keys (partD A) ∨ ∃ x ∈ keys (partD A), z = x + o := by
  rw [part_snoc, shift_eq, adds_mem]
  constructor
  · rintro (h | ⟨p, hp, e⟩)
    · exact .inl h
    · exact .inr ⟨p.1, List.mem_map.mpr ⟨p, hp, rfl⟩, e⟩
  · rintro (h | ⟨x, hx, e⟩)
    · exact .inl h
    · obtain ⟨p, hp, rfl⟩ := List.mem_map.mp hx
      exact .inr ⟨p, hp, e⟩
theorem shiftB_mem {o z : Int} : ∀ (ks : List Int) (f : List (Int × Bool)), z ∈ (shiftB o f ks).map (·.1) ↔ z ∈ f.map (·.1) ∨ ∃ x ∈ ks, z = x + o
  | [], f => ⟨.inl, fun h => h.elim id fun ⟨x, hx, _⟩ => nomatch hx⟩
  | k :: ks, f => by
    show z ∈ (shiftB o (putD f (k + o) true) ks).map (·.1) ↔ _
    rw [shiftB_mem ks, mem_put]
    constructor
    · rintro ((h | h) | ⟨y, h, e⟩)
      · exact .inl h
      · exact .inr ⟨k, List.mem_cons_self, h⟩
      · exact .inr ⟨y, List.mem_cons_of_mem _ h, e⟩
    · rintro (h | ⟨y, h, e⟩)
      · exact .inl (.inl h)
      · rcases List.mem_cons.mp h with e2 | h
        · subst e2; exact .inl (.inr e)
        · exact .inr ⟨y, h, e⟩
theorem pt_keys (A : List Int) : ∀ z, z ∈ (ptS A).map (·.1) ↔ z ∈ keys (partD A) := by
  induction A using list_snoc_ind with
  | h0 => intro z; exact Iff.rfl
  | h1 A o ih =>
    intro z
    rw [pt_snoc, shiftB_mem, part_mem, ih]
    constructor
    · rintro (h | ⟨x, hx, e⟩)
      · exact .inl h
      · exact .inr ⟨x, (ih x).mp hx, e⟩
    · rintro (h | ⟨x, hx, e⟩)
      · exact .inl h
      · exact .inr ⟨x, (ih x).mpr hx, e⟩
theorem sum_snoc (A : List Int) (o : Int) : (A ++ [o]).sum = A.sum + o := by rw [List.sum_append]; simp
theorem part_sym (A : List Int) : ∀ z, z ∈ keys (partD A) → A.sum - z ∈ keys (partD A) := by
  induction A using list_snoc_ind with
  | h0 =>
    intro z hz
    have hz : z ∈ [(0 : Int)] := hz
    rw [List.mem_singleton] at hz
    subst hz
    exact List.mem_cons_self
  | h1 A o ih =>
    intro z hz
    rw [sum_snoc]
    rcases part_mem.mp hz with h | ⟨x, hx, e⟩
    · exact part_mem.mpr (.inr ⟨_, ih z h, by omega⟩)
    · have := ih x hx
      exact part_mem.mpr (.inl (by rw [show A.sum + o - z = A.sum - x by omega]; exact this))
theorem part_zero (A : List Int) : (0 : Int) ∈ keys (partD A) := by
  induction A using list_snoc_ind with
  | h0 => exact List.mem_cons_self
  | h1 A o ih => exact part_mem.mpr (.inl ih)
theorem part_pos (A : List Int) : Pos (partD A) := by
  induction A using list_snoc_ind with
  | h0 => intro p hp; have hp : p ∈ [((0 : Int), (1 : Int))] := hp; rw [List.mem_singleton] at hp; subst hp; decide
  | h1 A o ih => rw [part_snoc, shift_eq]; exact adds_pos _ _ ih ih
theorem C6a (A : List Int) : ((m_part_sums A).map fun t => m_part_ways A t).sum = 2 ^ A.length := by
  show sm (asSet ((ptS A).map (·.1))) (fun t => cnt (partD A) t) = _
  rw [← part_mass A, ← mass_over (asSet_nodup ((ptS A).map (·.1))) (fun z hz => mem_asSet.mpr ((pt_keys A z).mpr hz))]
  refine sm_congr fun t _ => ?_
  rw [cnt_mass (part_nodup A), Int.one_mul]
theorem C6b (A : List Int) : 1 ≤ m_part_ways A A.sum := by
  have h := part_sym A 0 (part_zero A)
  rw [Int.sub_zero] at h
  obtain ⟨p, hp, e⟩ := List.mem_map.mp h
  have e : p.1 = A.sum := e
  unfold m_part_ways
  rw [← e, look_mem (part_nodup A) hp]
  exact part_pos A p hp
theorem ps_asc (A : List Int) : Asc (m_part_sums A) := asSet_pw _
theorem ps_mem (A : List Int) (z : Int) : z ∈ m_part_sums A ↔ z ∈ keys (partD A) := mem_asSet.trans (pt_keys A z)
theorem ps_len (A : List Int) : 1 ≤ (m_part_sums A).length := List.length_pos_of_mem ((ps_mem A 0).mpr (part_zero A))
theorem C6c (A : List Int) : (atI (m_part_sums A) 0).getD 0 + (atI (m_part_sums A) (-1)).getD 0 = A.sum := by
  obtain ⟨lo, hlo, hi, hhi, hb, e1, e2⟩ := ends (ps_asc A) (ne_of_len (ps_len A))
  rw [e1, e2]
  have h1 := hb _ ((ps_mem A _).mpr (part_sym A lo ((ps_mem A lo).mp hlo)))
  have h2 := hb _ ((ps_mem A _).mpr (part_sym A hi ((ps_mem A hi).mp hhi)))
  omega
/-! ### folds -/
theorem fold_next (A : List Int) (n : Nat) : foldN A (n + 1) = sumS (foldN A n) A := rfl
theorem fold_1 {A : List Int} (h : Asc A) : foldN A 1 = A := by
  show asSet (_ ++ []) = A
  rw [List.append_nil]
  show asSet (A.map fun o => 0 + o) = A
  rw [show (A.map fun o => 0 + o) = A from (List.map_congr_left fun x _ => Int.zero_add x).trans (List.map_id _), asSet_self h]
theorem fold_asc (A : List Int) (n : Nat) : Asc (foldN A n) := by
  cases n with
  | zero => exact List.pairwise_singleton _ _
  | succ n => exact asSet_pw _
theorem fold_b {A : List Int} {b : Int} (hb : ∀ x ∈ A, -b ≤ x ∧ x ≤ b) : ∀ (n : Nat) (z : Int), z ∈ foldN A n → -(n * b) ≤ z ∧ z ≤ n * b
  | 0, z, hz => by rw [List.mem_singleton.mp hz]; simp
  | n + 1, z, hz => by
    rw [fold_next, mem_sums] at hz
    obtain ⟨t, ht, o, ho, e⟩ := hz
    have h1 := fold_b hb n t ht
    have h2 := hb o ho
    rw [Int.natCast_add, Int.add_mul]
    omega
theorem fold_form {A : List Int} {a b c : Int} (h : ∀ x ∈ A, x = a ∨ x = b ∨ x = c) : ∀ (n : Nat) (z : Int), z ∈ foldN A n → ∃ i j : Nat, i < n + 1 ∧ j < n + 1 ∧ z = i * a + j * b + ((n : Int) - i - j) * c
  | 0, z, hz => ⟨0, 0, by omega, by omega, by rw [List.mem_singleton.mp hz]; simp⟩
  | n + 1, z, hz => by
    rw [fold_next, mem_sums] at hz
    obtain ⟨t, ht, o, ho, e⟩ := hz
    obtain ⟨i, j, hi, hj, et⟩ := fold_form h n t ht
    rcases h o ho with eo | eo | eo
    · refine ⟨i + 1, j, by omega, by omega, ?_⟩
      have : ((n + 1 : Nat) : Int) - ((i + 1 : Nat) : Int) - (j : Int) = (n : Int) - i - j := by omega
      rw [this, e, et, eo, Int.natCast_add, Int.add_mul]; omega
    · refine ⟨i, j + 1, by omega, by omega, ?_⟩
      have : ((n + 1 : Nat) : Int) - (i : Int) - ((j + 1 : Nat) : Int) = (n : Int) - i - j := by omega
      rw [this, e, et, eo, Int.natCast_add, Int.add_mul]; omega
    · refine ⟨i, j, by omega, by omega, ?_⟩
      have : ((n + 1 : Nat) : Int) - (i : Int) - (j : Int) = ((n : Int) - i - j) + 1 := by omega
      rw [this, e, et, eo, Int.add_mul]; omega
theorem three_of {A : List Int} (h1 : 1 ≤ A.length) (h3 : A.length ≤ 3) : ∃ a b c : Int, ∀ x ∈ A, x = a ∨ x = b ∨ x = c := by
  match A, h1, h3 with
  | [a], _, _ => exact ⟨a, a, a, fun x hx => .inl (List.mem_singleton.mp hx)⟩
  | [a, b], _, _ => exact ⟨a, b, b, fun x hx => by simp at hx; rcases hx with e | e; exact .inl e; exact .inr (.inl e)⟩
  | [a, b, c], _, _ => exact ⟨a, b, c, fun x hx => by simpa using hx⟩
theorem fold_len {A : List Int} (h1 : 1 ≤ A.length) (h3 : A.length ≤ 3) (n : Nat) : (foldN A n).length ≤ (n + 1) * (n + 1) := by
  obtain ⟨a, b, c, h⟩ := three_of h1 h3
  have := nodup_sub_len (fold_asc A n).nodup (ys := (List.range (n + 1)).flatMap fun i : Nat => (List.range (n + 1)).map fun j : Nat => (i : Int) * a + j * b + ((n : Int) - i - j) * c) fun z hz => by
    obtain ⟨i, j, hi, hj, e⟩ := fold_form h n z hz
    exact List.mem_flatMap.mpr ⟨i, List.mem_range.mpr hi, List.mem_map.mpr ⟨j, List.mem_range.mpr hj, e.symm⟩⟩
  refine Nat.le_trans this ?_
  have := flatMap_len (xs := List.range (n + 1)) (m := n + 1) (f := fun i : Nat => (List.range (n + 1)).map fun j : Nat => (i : Int) * a + j * b + ((n : Int) - i - j) * c) fun i _ => by rw [List.length_map, List.length_range]; exact Nat.le_refl _
  rwa [List.length_range] at this
theorem pos_of {A B : List Int} (ha : 1 ≤ A.length) (hb : 1 ≤ B.length) : ∃ a ∈ A, ∃ b ∈ B, True := by
  match A, B, ha, hb with
  | x :: _, y :: _, _, _ => exact ⟨x, List.mem_cons_self, y, List.mem_cons_self, trivial⟩
theorem fold_ne {A : List Int} (h1 : 1 ≤ A.length) : ∀ n, 1 ≤ (foldN A n).length
  | 0 => Nat.le_refl _
  | n + 1 => by
    obtain ⟨x, hx, y, hy, _⟩ := pos_of (fold_ne h1 n) h1
    exact List.length_pos_of_mem (mem_sums.mpr ⟨x, hx, y, hy, rfl⟩)
/-! ### small sets -/
structure Sml (A : List Int) (m : Nat) (b : Int) : Prop where
  asc : Asc A
  ne : 1 ≤ A.length
  le : A.length ≤ m
  bd : ∀ x ∈ A, -b ≤ x ∧ x ≤ b
theorem Sml.ok {A : List Int} {m : Nat} {b : Int} (h : Sml A m b) (hm : m ≤ 40 := by decide) (hb : b ≤ 500 := by decide) : SetOk A := ⟨⟨h.ne, Nat.le_trans h.le hm⟩, fun x hx => by have := h.bd x hx; omega, h.asc⟩
theorem Sml.scl {A : List Int} {m : Nat} {b : Int} (h : Sml A m b) {f s t : Int} (hf : f ≠ 0) (hf3 : -3 ≤ f ∧ f ≤ 3) (hs : -t ≤ s ∧ s ≤ t) : Sml (scl A f s) m (3 * b + t) := by
  refine ⟨scl_asc _ _ _, by rw [scl_len h.asc.nodup s hf]; exact h.ne, by rw [scl_len h.asc.nodup s hf]; exact h.le, fun z hz => ?_⟩
  obtain ⟨a, ha, e⟩ := mem_scl.mp hz
  have := h.bd a ha
  have : f = -3 ∨ f = -2 ∨ f = -1 ∨ f = 1 ∨ f = 2 ∨ f = 3 := by omega
  rcases this with e2 | e2 | e2 | e2 | e2 | e2 <;> subst e2 <;> omega
theorem Sml.sclpre {A : List Int} {m : Nat} {b : Int} (h : Sml A m b) {f s t : Int} (hf3 : -3 ≤ f ∧ f ≤ 3) (hs : -t ≤ s ∧ s ≤ t) (hb : 3 * b + t ≤ 500) : ∀ x ∈ A, -500 ≤ x * f + s ∧ x * f + s ≤ 500 := fun a ha => by
  have := h.bd a ha
  have : f = -3 ∨ f = -2 ∨ f = -1 ∨ f = 0 ∨ f = 1 ∨ f = 2 ∨ f = 3 := by omega
  rcases this with e2 | e2 | e2 | e2 | e2 | e2 | e2 <;> subst e2 <;> omega
theorem Sml.sum {A B : List Int} {m n : Nat} {b c : Int} (h : Sml A m b) (h' : Sml B n c) : Sml (sumS A B) (m * n) (b + c) := by
  refine ⟨asSet_pw _, ?_, ?_, fun z hz => ?_⟩
  · obtain ⟨x, hx, y, hy, _⟩ := pos_of h.ne h'.ne
    exact List.length_pos_of_mem (mem_sums.mpr ⟨x, hx, y, hy, rfl⟩)
  · exact Nat.le_trans (asSet_le _) (Nat.le_trans (l_sums_le A B) (Nat.mul_le_mul h.le h'.le))
  · obtain ⟨x, hx, y, hy, e⟩ := mem_sums.mp hz
    have := h.bd x hx
    have := h'.bd y hy
    omega
theorem Sml.dif {A B : List Int} {m n : Nat} {b c : Int} (h : Sml A m b) (h' : Sml B n c) : Sml (difS A B) (m * n) (b + c) := by
  refine ⟨asSet_pw _, ?_, ?_, fun z hz => ?_⟩
  · obtain ⟨x, hx, y, hy, _⟩ := pos_of h.ne h'.ne
    exact List.length_pos_of_mem (mem_difs.mpr ⟨x, hx, y, hy, rfl⟩)
  · exact Nat.le_trans (asSet_le _) (Nat.le_trans (l_diffs_le A B) (Nat.mul_le_mul h.le h'.le))
  · obtain ⟨x, hx, y, hy, e⟩ := mem_difs.mp hz
    have := h.bd x hx
    have := h'.bd y hy
    omega
theorem Sml.fold {A : List Int} {b : Int} (h : Sml A 3 b) (n : Nat) : Sml (foldN A n) ((n + 1) * (n + 1)) (n * b) := ⟨fold_asc A n, fold_ne h.ne n, fold_len h.ne h.le n, fun z hz => fold_b h.bd n z hz⟩
theorem rp_le (A : List Int) (t : Int) : 0 ≤ rp A t ∧ rp A t ≤ (A.length * A.length : Nat) := by
  rw [rp_len]
  have h1 := List.length_filter_le (fun p : Int × Int => decide (p.2 + p.1 = t)) (pairs A)
  have h2 : (pairs A).length ≤ A.length * A.length := flatMap_len fun a _ => by rw [List.length_map]; exact Nat.le_refl _
  omega
theorem en_vals {A : List Int} (h : A.length ≤ 40) : ∀ x ∈ (stepD A (stepD A [(0, 1)])).map (·.2), -1000000 ≤ x ∧ x ≤ 1000000 := by
  intro x hx
  obtain ⟨p, hp, e⟩ := List.mem_map.mp hx
  have hp : p ∈ waysD A 2 := hp
  have e : p.2 = x := e
  have h1 := cnt2 A p.1
  unfold cnt at h1
  rw [look_mem (waysD_nodup A 2) hp] at h1
  have h1 : p.2 = rp A p.1 := h1
  have h2 := rp_le A p.1
  have h3 := Nat.mul_le_mul h h
  omega
theorem ways_len3 {A : List Int} (h : A.length ≤ 3) (i : Nat) (hi : i ≤ 6) : (waysD A i).length ≤ 10000 := by
  have h1 := waysLen A i
  have h2 : A.length ^ i ≤ 3 ^ 6 := Nat.le_trans (Nat.pow_le_pow_left h i) (Nat.pow_le_pow_right (by decide) hi)
  have : 3 ^ 6 = 729 := by decide
  omega
theorem ways_len5 {A : List Int} (h : A.length ≤ 5) (i : Nat) (hi : i ≤ 2) : (waysD A i).length ≤ 10000 := by
  have h1 := waysLen A i
  have h2 : A.length ^ i ≤ 5 ^ 2 := Nat.le_trans (Nat.pow_le_pow_left h i) (Nat.pow_le_pow_right (by decide) hi)
  have : 5 ^ 2 = 25 := by decide
  omega
end M

namespace S64
open PySem PySem.Spec PyProof.Rows L2 EL RZ M
open Evl (Ex)
def top (i : Nat) : Stmt := PySem.Challenge.pw_setsadded_k64_main_sets_moved_and_scaled.main.body.getD i (.Pass ⟨0, 0, 0, 0⟩)
structure Tx (mg : Str → Option Value) : Prop where
  n_abs : mg "abs" = none
  n_all : mg "all" = none
  n_any : mg "any" = none
  n_dict : mg "dict" = none
  n_enumerate : mg "enumerate" = none
  n_int : mg "int" = none
  n_isinstance : mg "isinstance" = none
  n_len : mg "len" = none
  n_list : mg "list" = none
  n_max : mg "max" = none
  n_min : mg "min" = none
  n_range : mg "range" = none
  n_repr : mg "repr" = none
  n_set : mg "set" = none
  n_sorted : mg "sorted" = none
  n_sum : mg "sum" = none
  n_tuple : mg "tuple" = none
  n_zip : mg "zip" = none
  c_MAX_NUMBER : ∃ t, mg "MAX_NUMBER" = some (.int 500 t)
  c_MAX_MEMBERS : ∃ t, mg "MAX_MEMBERS" = some (.int 40 t)
  c_MAX_FOLD : ∃ t, mg "MAX_FOLD" = some (.int 12 t)
  c_MAX_MADE : ∃ t, mg "MAX_MADE" = some (.int 20000 t)
section
variable {P : Program} {w : World} {K : PySem.W.Frag} {mg : Str → Option Value} {base : Heap}
def m_check_set (members : (List Int)) : Unit := ()
def pre_check_set (x : (List Int)) : Prop := match x with | members => SetOk members
abbrev sp_check_set (K : PySem.W.Frag) (w : World) : Sp := spec (fun x : (List Int) => (aCons (aT K aI) x aNil)) pre_check_set aN (fun x : (List Int) => m_check_set x)
theorem sc_check_set : FnScope ["members", "one", "other"] ["members"] (defScope (top 12)) := ⟨rfl, rfl, rfl, by decide +kernel, rfl, by decide +kernel, by decide +kernel⟩
theorem ok_check_set (T : Tx mg) (F : At K mg "check_set" (top 12) ["members"]) : Callable P w K mg base "check_set" ["members"] (sp_check_set K w) 1 := by
  refine F.pure sc_check_set (fun a vs S h => len1 h) fun f cdv A outer s H0 E hr => ⟨_, (pss_cons (ps_if ((pw_or (pt_not (pt_chain op_le op_le pe_int (pe_callB (r := rLenSeq K) call_len_seq (by rfl) T.n_len (by decide +kernel) (pa_cons (pv 0) pa_nil)) (pe_const (by rfl) T.c_MAX_MEMBERS))) (pw_or1 (pt_not (pt_val (pe_callB (r := rAll K) (cr_all rfl) (by rfl) T.n_all (by decide +kernel) (pa_cons (pe_lc (own := [("one", 1)]) rfl sc_check_set.nd (pi_tupK (K := K) rfl (pv 0)) (blkOk_by (N := ["members", "one", "other"]) (sc := defScope (top 12)) (by decide +kernel)) (fun _ _ _ _ _ => (pg_name (i := 1) sc_check_set.nd rfl (Or.inl rfl))) (fun _ _ _ _ _ => pts_nil) (fun _ _ _ _ _ => (pe_cmpR op_le (pe_callB call_abs (by rfl) T.n_abs (by decide +kernel) (pa_cons (pv 1) pa_nil)) (pe_const (by rfl) T.c_MAX_NUMBER) (nomark _)))) pa_nil))))))).pt (pss_never) pss_nil) (pss_one (ps_if (pt_not (pt_val (pe_callB (r := rAll K) (cr_all rfl) (by rfl) T.n_all (by decide +kernel) (pa_cons (pe_lc (own := [("one", 1), ("other", 2)]) rfl sc_check_set.nd (pi_zipK (K := K) rfl (by rfl) T.n_zip (pa_cons (pv 0) (pa_cons (pe_slice (r := rSlT' K) sl_tupW (pv 0) (po_some pe_int) po_none) pa_nil))) (blkOk_by (N := ["members", "one", "other"]) (sc := defScope (top 12)) (by decide +kernel)) (fun _ _ _ _ _ => (pg_tupK (K := K) (n := 2) rfl rfl (pgs_cons (pg_name (i := 1) sc_check_set.nd rfl (Or.inl rfl)) (pgs_cons (pg_name (i := 2) sc_check_set.nd rfl (Or.inl rfl)) pgs_nil)))) (fun _ _ _ _ _ => pts_nil) (fun _ _ _ _ _ => (pe_cmpR op_lt (pv 1) (pv 2) (nomark _)))) pa_nil)))) (pss_never) pss_nil))), fun members vs S hvs hp => ?_⟩
  obtain ⟨v_members, hv, h_members⟩ := arg1 hvs
  subst hv
  replace hp : SetOk members := hp
  exact (sq_skip (ET.eq (et_or (et_not (et_test (e_chain (g := (fun i j : Int => decide (i ≤ j))) (g' := (fun i j : Int => decide (i ≤ j))) e_int (e_lenT (e_var rfl h_members)) e_int))) fun _ => (et_not (et_B (e_all (e_lc (K := K) (f := fun x1 : Int => (decide ((if x1 < 0 then -x1 else x1) ≤ (500 : Int)))) members (i_tup (e_var rfl h_members)) tg_n (by exact setOk_len hp) (fun a σ1 S1 hb => by obtain ⟨v_one, h_one, hx⟩ := hb; subst hx; rfl) (fun x1 σ1 S1 hm e1 hb => by obtain ⟨v_one, h_one, hx⟩ := hb; subst hx; exact (e_le (e_abs (e_var rfl h_one)) e_int))))))) (by exact setOk_1 hp)) (sx_skip (ET.eq (et_not (et_B (e_all (e_lc (K := K) (f := fun x2 : (Int × Int) => (decide (x2.1 < x2.2))) (members.zip (cut members (some (1 : Int)) none)) (i_zipT (e_var rfl h_members) (e_slT (e_var rfl h_members) (eo_some e_int) eo_none)) tg_p (by exact setOk_len2 hp) (fun a σ1 S1 hb => by obtain ⟨v_one, v_other, h_one, h_other, hx⟩ := hb; subst hx; rfl) (fun x2 σ1 S1 hm e1 hb => by obtain ⟨v_one, v_other, h_one, h_other, hx⟩ := hb; subst hx; exact (e_lt (e_var rfl h_one) (e_var rfl h_other))))))) (by exact setOk_2 hp)) rfl))
def m_as_set (numbers : (List Int)) : (List Int) := (asSet numbers)
def pre_as_set (x : (List Int)) : Prop := match x with | numbers => numbers.length < 4000 ∧ (asSet numbers).length < 64
abbrev sp_as_set (K : PySem.W.Frag) (w : World) : Sp := spec (fun x : (List Int) => (aCons (aK K) x aNil)) pre_as_set (aT K aI) (fun x : (List Int) => m_as_set x)
theorem sc_as_set : FnScope ["numbers"] ["numbers"] (defScope (top 13)) := ⟨rfl, rfl, rfl, by decide +kernel, rfl, by decide +kernel, by decide +kernel⟩
theorem ok_as_set (T : Tx mg) (F : At K mg "as_set" (top 13) ["numbers"]) : Callable P w K mg base "as_set" ["numbers"] (sp_as_set K w) 1 := by
  refine F.pure sc_as_set (fun a vs S h => len1 h) fun f cdv A outer s H0 E hr => ⟨_, (pss_one (ps_ret (pe_callTy (r := rTupOf K) call_tuple_of (by rfl) T.n_tuple (by decide +kernel) (pa_cons (pe_callB (r := rSortedSet w) (cr_sortedSet rfl) (by rfl) T.n_sorted (by decide +kernel) (pa_cons (pe_callTy (r := fun vs H Q => rSetL K w vs H Q ∨ rSetD w vs H Q) (cr_either (cr_setL rfl) (cr_setD rfl)) (by rfl) T.n_set (by decide +kernel) (pa_cons (pv 0) pa_nil)) pa_nil)) pa_nil)))), fun numbers vs S hvs hp => ?_⟩
  obtain ⟨v_numbers, hv, h_numbers⟩ := arg1 hvs
  subst hv
  replace hp : numbers.length < 4000 ∧ (asSet numbers).length < 64 := hp
  exact (sx_return (e_tupleL (e_sortedS (e_setK (e_var rfl h_numbers) (by exact hp.1)) (by exact hp.2))))
def m_sums (one : (List Int)) (other : (List Int)) : (List Int) := (m_as_set (one.flatMap (fun x1 : Int => other.map (fun x2 : Int => (x1 + x2)))))
def pre_sums (x : (List Int) × (List Int)) : Prop := match x with | (one, other) => SetOk one ∧ SetOk other ∧ (asSet (l_sums one other)).length < 64
abbrev sp_sums (K : PySem.W.Frag) (w : World) : Sp := spec (fun x : (List Int) × (List Int) => (aCons (aT K aI) x.1 (aCons (aT K aI) x.2 aNil))) pre_sums (aT K aI) (fun x : (List Int) × (List Int) => m_sums x.1 x.2)
theorem sc_sums : FnScope ["one", "other", "first", "second"] ["one", "other"] (defScope (top 14)) := ⟨rfl, rfl, rfl, by decide +kernel, rfl, by decide +kernel, by decide +kernel⟩
theorem ok_sums (T : Tx mg) (C_as_set : Callable P w K mg base "as_set" ["numbers"] (sp_as_set K w) 1) (C_check_set : Callable P w K mg base "check_set" ["members"] (sp_check_set K w) 1) (F : At K mg "sums" (top 14) ["one", "other"]) : Callable P w K mg base "sums" ["one", "other"] (sp_sums K w) 2 := by
  refine F.pure sc_sums (fun a vs S h => len2 h) fun f cdv A outer s H0 E hr => ⟨_, (pss_cons (ps_expr (pe_fn C_check_set (hr.mono (by decide)) (by rfl) (pa_cons (pv 0) pa_nil))) (pss_cons (ps_expr (pe_fn C_check_set (hr.mono (by decide)) (by rfl) (pa_cons (pv 1) pa_nil))) (pss_one (ps_ret (pe_fn C_as_set (hr.mono (by decide)) (by rfl) (pa_cons (pe_lc2 (own := [("first", 2), ("second", 3)]) (vs1 := [3]) rfl sc_sums.nd (pi_tupK (K := K) rfl (pv 0)) (blkOk_by (N := ["one", "other", "first", "second"]) (sc := defScope (top 14)) (by decide +kernel)) (by decide) (fun _ _ _ _ _ => (pg_name (i := 2) sc_sums.nd rfl (Or.inl rfl))) (fun _ _ _ _ _ => pts_nil) (fun _ _ _ _ _ => (pi_tupK (K := K) rfl (pv 1))) (fun _ _ _ _ _ => (pg_name (i := 3) sc_sums.nd rfl (Or.inl rfl))) (fun _ _ _ _ _ => pts_nil) (fun _ _ _ _ _ => (pe_op op_add (pv 2) (pv 3)))) pa_nil)))))), fun x vs S hvs hp => ?_⟩
  obtain ⟨one, other⟩ := x
  obtain ⟨v_one, v_other, hv, h_one, h_other⟩ := arg2 hvs
  subst hv
  replace hp : SetOk one ∧ SetOk other ∧ (asSet (l_sums one other)).length < 64 := hp
  have l1 := hp.1.1.2
  have l2 := hp.2.1.1.2
  exact (sq_drop (e_call one (ea_cons (e_var rfl h_one) ea_nil) (by exact hp.1)) (sq_drop (e_call other (ea_cons (e_var rfl h_other) ea_nil) (by exact hp.2.1)) (sx_return (e_call (one.flatMap (fun x1 : Int => other.map (fun x2 : Int => (x1 + x2)))) (ea_cons (EL.E.listK (e_lc2 (K := K) (ys := fun x1 : Int => other) (f := fun (x1 : Int) (x2 : Int) => (x1 + x2)) one (i_tup (e_var rfl h_one)) tg_n tg_n (by omega) (fun a σ1 S1 hb => by obtain ⟨v_first, h_first, hx⟩ := hb; subst hx; rfl) (fun x1 σ1 S1 hm e1 hb => by obtain ⟨v_first, h_first, hx⟩ := hb; subst hx; have h_other := (aT K aI).mono e1 h_other; exact (i_tup (e_var rfl h_other))) (fun x1 hm => (by omega)) (fun a b σ1 σ2 S1 S2 hb hb1 => by obtain ⟨v_first, h_first, hx⟩ := hb; subst hx; obtain ⟨v_second, h_second, hx1⟩ := hb1; subst hx1; rfl) (fun x1 x2 σ1 σ2 S1 S2 hm hm1 e1 e2 hb hb1 => by obtain ⟨v_first, h_first, hx⟩ := hb; subst hx; have h_first := aI.mono e2 h_first; obtain ⟨v_second, h_second, hx1⟩ := hb1; subst hx1; exact (e_add (e_var rfl h_first) (e_var rfl h_second))))) ea_nil) (by exact ⟨l_sums_len l1 l2, hp.2.2⟩)))))
def m_unlike_sums (members : (List Int)) : (List Int) := (m_as_set ((enum members).flatMap (fun x1 : (Int × Int) => (cut members none (some x1.1)).map (fun x2 : Int => (x1.2 + x2)))))
def pre_unlike_sums (x : (List Int)) : Prop := match x with | members => SetOk members ∧ 2 ≤ members.length ∧ members.length ≤ 7
abbrev sp_unlike_sums (K : PySem.W.Frag) (w : World) : Sp := spec (fun x : (List Int) => (aCons (aT K aI) x aNil)) pre_unlike_sums (aT K aI) (fun x : (List Int) => m_unlike_sums x)
theorem sc_unlike_sums : FnScope ["members", "at", "one", "other"] ["members"] (defScope (top 15)) := ⟨rfl, rfl, rfl, by decide +kernel, rfl, by decide +kernel, by decide +kernel⟩
theorem ok_unlike_sums (T : Tx mg) (C_as_set : Callable P w K mg base "as_set" ["numbers"] (sp_as_set K w) 1) (C_check_set : Callable P w K mg base "check_set" ["members"] (sp_check_set K w) 1) (F : At K mg "unlike_sums" (top 15) ["members"]) : Callable P w K mg base "unlike_sums" ["members"] (sp_unlike_sums K w) 2 := by
  refine F.pure sc_unlike_sums (fun a vs S h => len1 h) fun f cdv A outer s H0 E hr => ⟨_, (pss_cons (ps_expr (pe_fn C_check_set (hr.mono (by decide)) (by rfl) (pa_cons (pv 0) pa_nil))) (pss_cons (ps_if (pt_cmpR op_lt (pe_callB (r := rLenSeq K) call_len_seq (by rfl) T.n_len (by decide +kernel) (pa_cons (pv 0) pa_nil)) pe_int (nomark _)) (pss_never) pss_nil) (pss_one (ps_ret (pe_fn C_as_set (hr.mono (by decide)) (by rfl) (pa_cons (pe_lc2 (own := [("at", 1), ("one", 2), ("other", 3)]) (vs1 := [3]) rfl sc_unlike_sums.nd (pi_enumTK (K := K) rfl (by rfl) T.n_enumerate (pa_cons (pv 0) pa_nil)) (blkOk_by (N := ["members", "at", "one", "other"]) (sc := defScope (top 15)) (by decide +kernel)) (by decide) (fun _ _ _ _ _ => (pg_tupK (K := K) (n := 2) rfl rfl (pgs_cons (pg_name (i := 1) sc_unlike_sums.nd rfl (Or.inl rfl)) (pgs_cons (pg_name (i := 2) sc_unlike_sums.nd rfl (Or.inl rfl)) pgs_nil)))) (fun _ _ _ _ _ => pts_nil) (fun _ _ _ _ _ => (pi_tupK (K := K) rfl (pe_slice (r := rSlT' K) sl_tupW (pv 0) po_none (po_some (pv 1))))) (fun _ _ _ _ _ => (pg_name (i := 3) sc_unlike_sums.nd rfl (Or.inl rfl))) (fun _ _ _ _ _ => pts_nil) (fun _ _ _ _ _ => (pe_op op_add (pv 2) (pv 3)))) pa_nil)))))), fun members vs S hvs hp => ?_⟩
  obtain ⟨v_members, hv, h_members⟩ := arg1 hvs
  subst hv
  replace hp : SetOk members ∧ 2 ≤ members.length ∧ members.length ≤ 7 := hp
  have l1 := hp.1.1.2
  have l2 := hp.2
  exact (sq_drop (e_call members (ea_cons (e_var rfl h_members) ea_nil) (by exact hp.1)) (sq_skip (ET.eq (et_test (e_lt (e_lenT (e_var rfl h_members)) e_int)) (by exact decide_eq_false (by omega))) (sx_return (e_call ((enum members).flatMap (fun x1 : (Int × Int) => (cut members none (some x1.1)).map (fun x2 : Int => (x1.2 + x2)))) (ea_cons (EL.E.listK (e_lc2 (K := K) (ys := fun x1 : (Int × Int) => (cut members none (some x1.1))) (f := fun (x1 : (Int × Int)) (x2 : Int) => (x1.2 + x2)) (enum members) (i_enumT (e_var rfl h_members)) tg_p tg_n (by first | omega | (simp only [enum_len, rg_len, List.length_zip, List.length_map, asSet_len]; omega)) (fun a σ1 S1 hb => by obtain ⟨v_at, v_one, h_at, h_one, hx⟩ := hb; subst hx; rfl) (fun x1 σ1 S1 hm e1 hb => by obtain ⟨v_at, v_one, h_at, h_one, hx⟩ := hb; subst hx; have h_members := (aT K aI).mono e1 h_members; exact (i_tup (e_slT (e_var rfl h_members) eo_none (eo_some (e_var rfl h_at))))) (fun x1 hm => (Nat.le_trans (cut_len _ _ _) (by omega))) (fun a b σ1 σ2 S1 S2 hb hb1 => by obtain ⟨v_at, v_one, h_at, h_one, hx⟩ := hb; subst hx; obtain ⟨v_other, h_other, hx1⟩ := hb1; subst hx1; rfl) (fun x1 x2 σ1 σ2 S1 S2 hm hm1 e1 e2 hb hb1 => by obtain ⟨v_at, v_one, h_at, h_one, hx⟩ := hb; subst hx; have h_one := aI.mono e2 h_one; obtain ⟨v_other, h_other, hx1⟩ := hb1; subst hx1; exact (e_add (e_var rfl h_one) (e_var rfl h_other))))) ea_nil) (by exact prs_ok hp.2.2)))))
def m_differences (one : (List Int)) (other : (List Int)) : (List Int) := (m_as_set (one.flatMap (fun x1 : Int => other.map (fun x2 : Int => (x1 - x2)))))
def pre_differences (x : (List Int) × (List Int)) : Prop := match x with | (one, other) => SetOk one ∧ SetOk other ∧ (asSet (l_diffs one other)).length < 64
abbrev sp_differences (K : PySem.W.Frag) (w : World) : Sp := spec (fun x : (List Int) × (List Int) => (aCons (aT K aI) x.1 (aCons (aT K aI) x.2 aNil))) pre_differences (aT K aI) (fun x : (List Int) × (List Int) => m_differences x.1 x.2)
theorem sc_differences : FnScope ["one", "other", "first", "second"] ["one", "other"] (defScope (top 16)) := ⟨rfl, rfl, rfl, by decide +kernel, rfl, by decide +kernel, by decide +kernel⟩
theorem ok_differences (T : Tx mg) (C_as_set : Callable P w K mg base "as_set" ["numbers"] (sp_as_set K w) 1) (C_check_set : Callable P w K mg base "check_set" ["members"] (sp_check_set K w) 1) (F : At K mg "differences" (top 16) ["one", "other"]) : Callable P w K mg base "differences" ["one", "other"] (sp_differences K w) 2 := by
  refine F.pure sc_differences (fun a vs S h => len2 h) fun f cdv A outer s H0 E hr => ⟨_, (pss_cons (ps_expr (pe_fn C_check_set (hr.mono (by decide)) (by rfl) (pa_cons (pv 0) pa_nil))) (pss_cons (ps_expr (pe_fn C_check_set (hr.mono (by decide)) (by rfl) (pa_cons (pv 1) pa_nil))) (pss_one (ps_ret (pe_fn C_as_set (hr.mono (by decide)) (by rfl) (pa_cons (pe_lc2 (own := [("first", 2), ("second", 3)]) (vs1 := [3]) rfl sc_differences.nd (pi_tupK (K := K) rfl (pv 0)) (blkOk_by (N := ["one", "other", "first", "second"]) (sc := defScope (top 16)) (by decide +kernel)) (by decide) (fun _ _ _ _ _ => (pg_name (i := 2) sc_differences.nd rfl (Or.inl rfl))) (fun _ _ _ _ _ => pts_nil) (fun _ _ _ _ _ => (pi_tupK (K := K) rfl (pv 1))) (fun _ _ _ _ _ => (pg_name (i := 3) sc_differences.nd rfl (Or.inl rfl))) (fun _ _ _ _ _ => pts_nil) (fun _ _ _ _ _ => (pe_op op_sub (pv 2) (pv 3)))) pa_nil)))))), fun x vs S hvs hp => ?_⟩
  obtain ⟨one, other⟩ := x
  obtain ⟨v_one, v_other, hv, h_one, h_other⟩ := arg2 hvs
  subst hv
  replace hp : SetOk one ∧ SetOk other ∧ (asSet (l_diffs one other)).length < 64 := hp
  have l1 := hp.1.1.2
  have l2 := hp.2.1.1.2
  exact (sq_drop (e_call one (ea_cons (e_var rfl h_one) ea_nil) (by exact hp.1)) (sq_drop (e_call other (ea_cons (e_var rfl h_other) ea_nil) (by exact hp.2.1)) (sx_return (e_call (one.flatMap (fun x1 : Int => other.map (fun x2 : Int => (x1 - x2)))) (ea_cons (EL.E.listK (e_lc2 (K := K) (ys := fun x1 : Int => other) (f := fun (x1 : Int) (x2 : Int) => (x1 - x2)) one (i_tup (e_var rfl h_one)) tg_n tg_n (by omega) (fun a σ1 S1 hb => by obtain ⟨v_first, h_first, hx⟩ := hb; subst hx; rfl) (fun x1 σ1 S1 hm e1 hb => by obtain ⟨v_first, h_first, hx⟩ := hb; subst hx; have h_other := (aT K aI).mono e1 h_other; exact (i_tup (e_var rfl h_other))) (fun x1 hm => (by omega)) (fun a b σ1 σ2 S1 S2 hb hb1 => by obtain ⟨v_first, h_first, hx⟩ := hb; subst hx; obtain ⟨v_second, h_second, hx1⟩ := hb1; subst hx1; rfl) (fun x1 x2 σ1 σ2 S1 S2 hm hm1 e1 e2 hb hb1 => by obtain ⟨v_first, h_first, hx⟩ := hb; subst hx; have h_first := aI.mono e2 h_first; obtain ⟨v_second, h_second, hx1⟩ := hb1; subst hx1; exact (e_sub (e_var rfl h_first) (e_var rfl h_second))))) ea_nil) (by exact ⟨l_diffs_len l1 l2, hp.2.2⟩)))))
def m_scaled (members : (List Int)) (factor : Int) (shift : Int) : (List Int) := (m_as_set (members.map (fun x1 : Int => ((x1 * factor) + shift))))
def pre_scaled (x : (List Int) × Int × Int) : Prop := match x with | (members, factor, shift) => SetOk members ∧ factor ≠ 0 ∧ (-1000 ≤ factor ∧ factor ≤ 1000) ∧ ∀ x ∈ members, -500 ≤ x * factor + shift ∧ x * factor + shift ≤ 500
abbrev sp_scaled (K : PySem.W.Frag) (w : World) : Sp := spec (fun x : (List Int) × Int × Int => (aCons (aT K aI) x.1 (aCons aI x.2.1 (aCons aI x.2.2 aNil)))) pre_scaled (aT K aI) (fun x : (List Int) × Int × Int => m_scaled x.1 x.2.1 x.2.2)
theorem sc_scaled : FnScope ["members", "factor", "shift", "found", "one"] ["members", "factor", "shift"] (defScope (top 23)) := ⟨rfl, rfl, rfl, by decide +kernel, rfl, by decide +kernel, by decide +kernel⟩
theorem ok_scaled (T : Tx mg) (C_as_set : Callable P w K mg base "as_set" ["numbers"] (sp_as_set K w) 1) (C_check_set : Callable P w K mg base "check_set" ["members"] (sp_check_set K w) 1) (F : At K mg "scaled" (top 23) ["members", "factor", "shift"]) : Callable P w K mg base "scaled" ["members", "factor", "shift"] (sp_scaled K w) 2 := by
  refine F.pure sc_scaled (fun a vs S h => len3 h) fun f cdv A outer s H0 E hr => ⟨_, (pss_cons (ps_expr (pe_fn C_check_set (hr.mono (by decide)) (by rfl) (pa_cons (pv 0) pa_nil))) (pss_cons (ps_if (pt_cmpR op_eq (pv 1) pe_int (nomark _)) (pss_never) pss_nil) (pss_cons (ps_set (i := 3) sc_scaled.nd rfl (Or.inl rfl) (pe_fn C_as_set (hr.mono (by decide)) (by rfl) (pa_cons (pe_lc (own := [("one", 4)]) rfl sc_scaled.nd (pi_tupK (K := K) rfl (pv 0)) (blkOk_by (N := ["members", "factor", "shift", "found", "one"]) (sc := defScope (top 23)) (by decide +kernel)) (fun _ _ _ _ _ => (pg_name (i := 4) sc_scaled.nd rfl (Or.inl rfl))) (fun _ _ _ _ _ => pts_nil) (fun _ _ _ _ _ => (pe_op op_add (pe_op op_mul (pv 4) (pv 1)) (pv 2)))) pa_nil))) (pss_cons (ps_if (pt_not (pt_val (pe_callB (r := rAll K) (cr_all rfl) (by rfl) T.n_all (by decide +kernel) (pa_cons (pe_lc (own := [("one", 4)]) rfl sc_scaled.nd (pi_tupK (K := K) rfl (pv 3)) (blkOk_by (N := ["members", "factor", "shift", "found", "one"]) (sc := defScope (top 23)) (by decide +kernel)) (fun _ _ _ _ _ => (pg_name (i := 4) sc_scaled.nd rfl (Or.inl rfl))) (fun _ _ _ _ _ => pts_nil) (fun _ _ _ _ _ => (pe_cmpR op_le (pe_callB call_abs (by rfl) T.n_abs (by decide +kernel) (pa_cons (pv 4) pa_nil)) (pe_const (by rfl) T.c_MAX_NUMBER) (nomark _)))) pa_nil)))) (pss_never) pss_nil) (pss_one (ps_ret (pv 3))))))), fun x vs S hvs hp => ?_⟩
  obtain ⟨members, factor, shift⟩ := x
  obtain ⟨v_members, v_factor, v_shift, hv, h_members, h_factor, h_shift⟩ := arg3 hvs
  subst hv
  replace hp : SetOk members ∧ factor ≠ 0 ∧ (-1000 ≤ factor ∧ factor ≤ 1000) ∧ ∀ x ∈ members, -500 ≤ x * factor + shift ∧ x * factor + shift ≤ 500 := hp
  have l1 := hp.1.1.2
  exact (sq_drop (e_call members (ea_cons (e_var rfl h_members) ea_nil) (by exact hp.1)) (sq_skip (ET.eq (et_test (e_eq (e_var rfl h_factor) e_int)) (by exact decide_eq_false hp.2.1)) (sq_set (e_call (members.map (fun x1 : Int => ((x1 * factor) + shift))) (ea_cons (EL.E.listK (e_lc (K := K) (f := fun x1 : Int => ((x1 * factor) + shift)) members (i_tup (e_var rfl h_members)) tg_n (by omega) (fun a σ1 S1 hb => by obtain ⟨v_one, h_one, hx⟩ := hb; subst hx; rfl) (fun x1 σ1 S1 hm e1 hb => by obtain ⟨v_one, h_one, hx⟩ := hb; subst hx; have h_factor := aI.mono e1 h_factor; have h_shift := aI.mono e1 h_shift; exact (e_add (e_mul (e_var rfl h_one) (e_var rfl h_factor) (by exact cmul_small (hp.1.2.1 _ hm))) (e_var rfl h_shift))))) ea_nil) (by exact map_ok _ l1)) fun v_found S102 e102 h_found => by exact (sq_skip (ET.eq (et_not (et_B (e_all (e_lc (K := K) (f := fun x3 : Int => (decide ((if x3 < 0 then -x3 else x3) ≤ (500 : Int)))) (m_as_set (members.map (fun x1 : Int => ((x1 * factor) + shift)))) (i_tup (e_var rfl h_found)) tg_n (by exact (by have := (map_ok (fun x => x * factor + shift) l1).2; show (asSet (members.map fun x => x * factor + shift)).length ≤ 100000; omega)) (fun a σ1 S1 hb => by obtain ⟨v_one, h_one, hx⟩ := hb; subst hx; rfl) (fun x3 σ1 S1 hm e1 hb => by obtain ⟨v_one, h_one, hx⟩ := hb; subst hx; exact (e_le (e_abs (e_var rfl h_one)) e_int)))))) (by exact scaled_ok hp.2.2.2)) (sx_return (e_var rfl h_found))))))
def m_is_row (members : (List Int)) : Bool := (decide (((asSet ((members.zip (cut members (some (1 : Int)) none)).map (fun x4 : (Int × Int) => (x4.2 - x4.1)))).length : Int) ≤ (1 : Int)))
def pre_is_row (x : (List Int)) : Prop := match x with | members => SetOk members
abbrev sp_is_row (K : PySem.W.Frag) (w : World) : Sp := spec (fun x : (List Int) => (aCons (aT K aI) x aNil)) pre_is_row aB (fun x : (List Int) => m_is_row x)
theorem sc_is_row : FnScope ["members", "one", "other"] ["members"] (defScope (top 24)) := ⟨rfl, rfl, rfl, by decide +kernel, rfl, by decide +kernel, by decide +kernel⟩
theorem ok_is_row (T : Tx mg) (C_check_set : Callable P w K mg base "check_set" ["members"] (sp_check_set K w) 1) (F : At K mg "is_row" (top 24) ["members"]) : Callable P w K mg base "is_row" ["members"] (sp_is_row K w) 2 := by
  refine F.pure sc_is_row (fun a vs S h => len1 h) fun f cdv A outer s H0 E hr => ⟨_, (pss_cons (ps_expr (pe_fn C_check_set (hr.mono (by decide)) (by rfl) (pa_cons (pv 0) pa_nil))) (pss_one (ps_ret (pe_cmpR op_le (pe_callB (r := rLenSet w) cr_lenSet (by rfl) T.n_len (by decide +kernel) (pa_cons (pe_callTy (r := rSetL K w) (cr_setL rfl) (by rfl) T.n_set (by decide +kernel) (pa_cons (pe_lc (own := [("one", 1), ("other", 2)]) rfl sc_is_row.nd (pi_zipK (K := K) rfl (by rfl) T.n_zip (pa_cons (pv 0) (pa_cons (pe_slice (r := rSlT' K) sl_tupW (pv 0) (po_some pe_int) po_none) pa_nil))) (blkOk_by (N := ["members", "one", "other"]) (sc := defScope (top 24)) (by decide +kernel)) (fun _ _ _ _ _ => (pg_tupK (K := K) (n := 2) rfl rfl (pgs_cons (pg_name (i := 1) sc_is_row.nd rfl (Or.inl rfl)) (pgs_cons (pg_name (i := 2) sc_is_row.nd rfl (Or.inl rfl)) pgs_nil)))) (fun _ _ _ _ _ => pts_nil) (fun _ _ _ _ _ => (pe_op op_sub (pv 2) (pv 1)))) pa_nil)) pa_nil)) pe_int (nomark _))))), fun members vs S hvs hp => ?_⟩
  obtain ⟨v_members, hv, h_members⟩ := arg1 hvs
  subst hv
  replace hp : SetOk members := hp
  have l1 := hp.1.2
  exact (sq_drop (e_call members (ea_cons (e_var rfl h_members) ea_nil) (by exact hp)) (sx_return (e_le (e_lenS (e_setL (e_lc (K := K) (f := fun x4 : (Int × Int) => (x4.2 - x4.1)) (members.zip (cut members (some (1 : Int)) none)) (i_zipT (e_var rfl h_members) (e_slT (e_var rfl h_members) (eo_some e_int) eo_none)) tg_p (by exact setOk_len2 hp) (fun a σ1 S1 hb => by obtain ⟨v_one, v_other, h_one, h_other, hx⟩ := hb; subst hx; rfl) (fun x4 σ1 S1 hm e1 hb => by obtain ⟨v_one, v_other, h_one, h_other, hx⟩ := hb; subst hx; exact (e_sub (e_var rfl h_other) (e_var rfl h_one)))) (by rw [List.length_map, List.length_zip]; omega))) e_int)))
def m_plain_least (one : (List Int)) (other : (List Int)) : Int := (((one.length : Int) + (other.length : Int)) - (1 : Int))
def pre_plain_least (x : (List Int) × (List Int)) : Prop := match x with | (one, other) => SetOk one ∧ SetOk other
abbrev sp_plain_least (K : PySem.W.Frag) (w : World) : Sp := spec (fun x : (List Int) × (List Int) => (aCons (aT K aI) x.1 (aCons (aT K aI) x.2 aNil))) pre_plain_least aI (fun x : (List Int) × (List Int) => m_plain_least x.1 x.2)
theorem sc_plain_least : FnScope ["one", "other"] ["one", "other"] (defScope (top 28)) := ⟨rfl, rfl, rfl, by decide +kernel, rfl, by decide +kernel, by decide +kernel⟩
theorem ok_plain_least (T : Tx mg) (C_check_set : Callable P w K mg base "check_set" ["members"] (sp_check_set K w) 1) (F : At K mg "plain_least" (top 28) ["one", "other"]) : Callable P w K mg base "plain_least" ["one", "other"] (sp_plain_least K w) 2 := by
  refine F.pure sc_plain_least (fun a vs S h => len2 h) fun f cdv A outer s H0 E hr => ⟨_, (pss_cons (ps_expr (pe_fn C_check_set (hr.mono (by decide)) (by rfl) (pa_cons (pv 0) pa_nil))) (pss_cons (ps_expr (pe_fn C_check_set (hr.mono (by decide)) (by rfl) (pa_cons (pv 1) pa_nil))) (pss_one (ps_ret (pe_op op_sub (pe_op op_add (pe_callB (r := rLenSeq K) call_len_seq (by rfl) T.n_len (by decide +kernel) (pa_cons (pv 0) pa_nil)) (pe_callB (r := rLenSeq K) call_len_seq (by rfl) T.n_len (by decide +kernel) (pa_cons (pv 1) pa_nil))) pe_int))))), fun x vs S hvs hp => ?_⟩
  obtain ⟨one, other⟩ := x
  obtain ⟨v_one, v_other, hv, h_one, h_other⟩ := arg2 hvs
  subst hv
  replace hp : SetOk one ∧ SetOk other := hp
  exact (sq_drop (e_call one (ea_cons (e_var rfl h_one) ea_nil) (by exact hp.1)) (sq_drop (e_call other (ea_cons (e_var rfl h_other) ea_nil) (by exact hp.2)) (sx_return (e_sub (e_add (e_lenT (e_var rfl h_one)) (e_lenT (e_var rfl h_other))) e_int))))
def m_plain_sums (one : (List Int)) (other : (List Int)) : Int := ((asSet (one.flatMap (fun x7 : Int => other.map (fun x8 : Int => (x7 + x8))))).length : Int)
def pre_plain_sums (x : (List Int) × (List Int)) : Prop := match x with | (one, other) => SetOk one ∧ SetOk other
abbrev sp_plain_sums (K : PySem.W.Frag) (w : World) : Sp := spec (fun x : (List Int) × (List Int) => (aCons (aT K aI) x.1 (aCons (aT K aI) x.2 aNil))) pre_plain_sums aI (fun x : (List Int) × (List Int) => m_plain_sums x.1 x.2)
theorem sc_plain_sums : FnScope ["one", "other", "first", "second"] ["one", "other"] (defScope (top 29)) := ⟨rfl, rfl, rfl, by decide +kernel, rfl, by decide +kernel, by decide +kernel⟩
theorem ok_plain_sums (T : Tx mg) (C_check_set : Callable P w K mg base "check_set" ["members"] (sp_check_set K w) 1) (F : At K mg "plain_sums" (top 29) ["one", "other"]) : Callable P w K mg base "plain_sums" ["one", "other"] (sp_plain_sums K w) 2 := by
  refine F.pure sc_plain_sums (fun a vs S h => len2 h) fun f cdv A outer s H0 E hr => ⟨_, (pss_cons (ps_expr (pe_fn C_check_set (hr.mono (by decide)) (by rfl) (pa_cons (pv 0) pa_nil))) (pss_cons (ps_expr (pe_fn C_check_set (hr.mono (by decide)) (by rfl) (pa_cons (pv 1) pa_nil))) (pss_one (ps_ret (pe_callB (r := rLenSet w) cr_lenSet (by rfl) T.n_len (by decide +kernel) (pa_cons (pe_callTy (r := rSetL K w) (cr_setL rfl) (by rfl) T.n_set (by decide +kernel) (pa_cons (pe_lc2 (own := [("first", 2), ("second", 3)]) (vs1 := [3]) rfl sc_plain_sums.nd (pi_tupK (K := K) rfl (pv 0)) (blkOk_by (N := ["one", "other", "first", "second"]) (sc := defScope (top 29)) (by decide +kernel)) (by decide) (fun _ _ _ _ _ => (pg_name (i := 2) sc_plain_sums.nd rfl (Or.inl rfl))) (fun _ _ _ _ _ => pts_nil) (fun _ _ _ _ _ => (pi_tupK (K := K) rfl (pv 1))) (fun _ _ _ _ _ => (pg_name (i := 3) sc_plain_sums.nd rfl (Or.inl rfl))) (fun _ _ _ _ _ => pts_nil) (fun _ _ _ _ _ => (pe_op op_add (pv 2) (pv 3)))) pa_nil)) pa_nil)))))), fun x vs S hvs hp => ?_⟩
  obtain ⟨one, other⟩ := x
  obtain ⟨v_one, v_other, hv, h_one, h_other⟩ := arg2 hvs
  subst hv
  replace hp : SetOk one ∧ SetOk other := hp
  have l1 := hp.1.1.2
  have l2 := hp.2.1.2
  exact (sq_drop (e_call one (ea_cons (e_var rfl h_one) ea_nil) (by exact hp.1)) (sq_drop (e_call other (ea_cons (e_var rfl h_other) ea_nil) (by exact hp.2)) (sx_return (e_lenS (e_setL (e_lc2 (K := K) (ys := fun x7 : Int => other) (f := fun (x7 : Int) (x8 : Int) => (x7 + x8)) one (i_tup (e_var rfl h_one)) tg_n tg_n (by first | omega | (simp only [enum_len, rg_len, List.length_zip, List.length_map, asSet_len]; omega)) (fun a σ1 S1 hb => by obtain ⟨v_first, h_first, hx⟩ := hb; subst hx; rfl) (fun x7 σ1 S1 hm e1 hb => by obtain ⟨v_first, h_first, hx⟩ := hb; subst hx; have h_other := (aT K aI).mono e1 h_other; exact (i_tup (e_var rfl h_other))) (fun x7 hm => (by first | omega | (simp only [enum_len, rg_len, List.length_zip, List.length_map, asSet_len]; omega))) (fun a b σ1 σ2 S1 S2 hb hb1 => by obtain ⟨v_first, h_first, hx⟩ := hb; subst hx; obtain ⟨v_second, h_second, hx1⟩ := hb1; subst hx1; rfl) (fun x7 x8 σ1 σ2 S1 S2 hm hm1 e1 e2 hb hb1 => by obtain ⟨v_first, h_first, hx⟩ := hb; subst hx; have h_first := aI.mono e2 h_first; obtain ⟨v_second, h_second, hx1⟩ := hb1; subst hx1; exact (e_add (e_var rfl h_first) (e_var rfl h_second)))) (by exact l_sums_len l1 l2))))))
def m_is_least (one : (List Int)) (other : (List Int)) : Bool := (decide ((m_plain_sums one other) = (m_plain_least one other)))
def pre_is_least (x : (List Int) × (List Int)) : Prop := match x with | (one, other) => SetOk one ∧ SetOk other
abbrev sp_is_least (K : PySem.W.Frag) (w : World) : Sp := spec (fun x : (List Int) × (List Int) => (aCons (aT K aI) x.1 (aCons (aT K aI) x.2 aNil))) pre_is_least aB (fun x : (List Int) × (List Int) => m_is_least x.1 x.2)
theorem sc_is_least : FnScope ["one", "other"] ["one", "other"] (defScope (top 30)) := ⟨rfl, rfl, rfl, by decide +kernel, rfl, by decide +kernel, by decide +kernel⟩
theorem ok_is_least (T : Tx mg) (C_plain_least : Callable P w K mg base "plain_least" ["one", "other"] (sp_plain_least K w) 2) (C_plain_sums : Callable P w K mg base "plain_sums" ["one", "other"] (sp_plain_sums K w) 2) (F : At K mg "is_least" (top 30) ["one", "other"]) : Callable P w K mg base "is_least" ["one", "other"] (sp_is_least K w) 3 := by
  refine F.pure sc_is_least (fun a vs S h => len2 h) fun f cdv A outer s H0 E hr => ⟨_, (pss_one (ps_ret (pe_cmpR op_eq (pe_fn C_plain_sums (hr.mono (by decide)) (by rfl) (pa_cons (pv 0) (pa_cons (pv 1) pa_nil))) (pe_fn C_plain_least (hr.mono (by decide)) (by rfl) (pa_cons (pv 0) (pa_cons (pv 1) pa_nil))) (nomark _)))), fun x vs S hvs hp => ?_⟩
  obtain ⟨one, other⟩ := x
  obtain ⟨v_one, v_other, hv, h_one, h_other⟩ := arg2 hvs
  subst hv
  replace hp : SetOk one ∧ SetOk other := hp
  exact (sx_return (e_eq (e_call (one, other) (ea_cons (e_var rfl h_one) (ea_cons (e_var rfl h_other) ea_nil)) (by exact hp)) (e_call (one, other) (ea_cons (e_var rfl h_one) (ea_cons (e_var rfl h_other) ea_nil)) (by exact hp))))
def m_is_free (members : (List Int)) : Bool := (!((members.flatMap (fun x1 : Int => members.map (fun x2 : Int => (decide ((x1 + x2) ∈ members))))).any id))
def pre_is_free (x : (List Int)) : Prop := match x with | members => SetOk members
abbrev sp_is_free (K : PySem.W.Frag) (w : World) : Sp := spec (fun x : (List Int) => (aCons (aT K aI) x aNil)) pre_is_free aB (fun x : (List Int) => m_is_free x)
theorem sc_is_free : FnScope ["members", "one", "other"] ["members"] (defScope (top 33)) := ⟨rfl, rfl, rfl, by decide +kernel, rfl, by decide +kernel, by decide +kernel⟩
theorem ok_is_free (T : Tx mg) (C_check_set : Callable P w K mg base "check_set" ["members"] (sp_check_set K w) 1) (F : At K mg "is_free" (top 33) ["members"]) : Callable P w K mg base "is_free" ["members"] (sp_is_free K w) 2 := by
  refine F.pure sc_is_free (fun a vs S h => len1 h) fun f cdv A outer s H0 E hr => ⟨_, (pss_cons (ps_expr (pe_fn C_check_set (hr.mono (by decide)) (by rfl) (pa_cons (pv 0) pa_nil))) (pss_one (ps_ret (pe_not (pe_callB (r := rAny K) (cr_any rfl) (by rfl) T.n_any (by decide +kernel) (pa_cons (pe_lc2 (own := [("one", 1), ("other", 2)]) (vs1 := [2]) rfl sc_is_free.nd (pi_tupK (K := K) rfl (pv 0)) (blkOk_by (N := ["members", "one", "other"]) (sc := defScope (top 33)) (by decide +kernel)) (by decide) (fun _ _ _ _ _ => (pg_name (i := 1) sc_is_free.nd rfl (Or.inl rfl))) (fun _ _ _ _ _ => pts_nil) (fun _ _ _ _ _ => (pi_tupK (K := K) rfl (pv 0))) (fun _ _ _ _ _ => (pg_name (i := 2) sc_is_free.nd rfl (Or.inl rfl))) (fun _ _ _ _ _ => pts_nil) (fun _ _ _ _ _ => (pe_cmpR (r := rIn K false) op_in_seq (pe_op op_add (pv 1) (pv 2)) (pv 0) rfl))) pa_nil)))))), fun members vs S hvs hp => ?_⟩
  obtain ⟨v_members, hv, h_members⟩ := arg1 hvs
  subst hv
  replace hp : SetOk members := hp
  have l1 := hp.1.2
  exact (sq_drop (e_call members (ea_cons (e_var rfl h_members) ea_nil) (by exact hp)) (sx_return (e_not (e_any (e_lc2 (K := K) (ys := fun x1 : Int => members) (f := fun (x1 : Int) (x2 : Int) => (decide ((x1 + x2) ∈ members))) members (i_tup (e_var rfl h_members)) tg_n tg_n (by first | omega | (simp only [enum_len, rg_len, List.length_zip, List.length_map, asSet_len]; omega)) (fun a σ1 S1 hb => by obtain ⟨v_one, h_one, hx⟩ := hb; subst hx; rfl) (fun x1 σ1 S1 hm e1 hb => by obtain ⟨v_one, h_one, hx⟩ := hb; subst hx; have h_members := (aT K aI).mono e1 h_members; exact (i_tup (e_var rfl h_members))) (fun x1 hm => (by first | omega | (simp only [enum_len, rg_len, List.length_zip, List.length_map, asSet_len]; omega))) (fun a b σ1 σ2 S1 S2 hb hb1 => by obtain ⟨v_one, h_one, hx⟩ := hb; subst hx; obtain ⟨v_other, h_other, hx1⟩ := hb1; subst hx1; rfl) (fun x1 x2 σ1 σ2 S1 S2 hm hm1 e1 e2 hb hb1 => by obtain ⟨v_one, h_one, hx⟩ := hb; subst hx; have h_members := (aT K aI).mono (e1.trans e2) h_members; have h_one := aI.mono e2 h_one; obtain ⟨v_other, h_other, hx1⟩ := hb1; subst hx1; exact (e_inT (e_add (e_var rfl h_one) (e_var rfl h_other)) (e_var rfl h_members))))))))
def m_is_unlike_free (members : (List Int)) : Bool := (!(((enum members).flatMap (fun x1 : (Int × Int) => (cut members none (some x1.1)).map (fun x2 : Int => (decide ((x1.2 + x2) ∈ members))))).any id))
def pre_is_unlike_free (x : (List Int)) : Prop := match x with | members => SetOk members
abbrev sp_is_unlike_free (K : PySem.W.Frag) (w : World) : Sp := spec (fun x : (List Int) => (aCons (aT K aI) x aNil)) pre_is_unlike_free aB (fun x : (List Int) => m_is_unlike_free x)
theorem sc_is_unlike_free : FnScope ["members", "at", "one", "other"] ["members"] (defScope (top 34)) := ⟨rfl, rfl, rfl, by decide +kernel, rfl, by decide +kernel, by decide +kernel⟩
theorem ok_is_unlike_free (T : Tx mg) (C_check_set : Callable P w K mg base "check_set" ["members"] (sp_check_set K w) 1) (F : At K mg "is_unlike_free" (top 34) ["members"]) : Callable P w K mg base "is_unlike_free" ["members"] (sp_is_unlike_free K w) 2 := by
  refine F.pure sc_is_unlike_free (fun a vs S h => len1 h) fun f cdv A outer s H0 E hr => ⟨_, (pss_cons (ps_expr (pe_fn C_check_set (hr.mono (by decide)) (by rfl) (pa_cons (pv 0) pa_nil))) (pss_one (ps_ret (pe_not (pe_callB (r := rAny K) (cr_any rfl) (by rfl) T.n_any (by decide +kernel) (pa_cons (pe_lc2 (own := [("at", 1), ("one", 2), ("other", 3)]) (vs1 := [3]) rfl sc_is_unlike_free.nd (pi_enumTK (K := K) rfl (by rfl) T.n_enumerate (pa_cons (pv 0) pa_nil)) (blkOk_by (N := ["members", "at", "one", "other"]) (sc := defScope (top 34)) (by decide +kernel)) (by decide) (fun _ _ _ _ _ => (pg_tupK (K := K) (n := 2) rfl rfl (pgs_cons (pg_name (i := 1) sc_is_unlike_free.nd rfl (Or.inl rfl)) (pgs_cons (pg_name (i := 2) sc_is_unlike_free.nd rfl (Or.inl rfl)) pgs_nil)))) (fun _ _ _ _ _ => pts_nil) (fun _ _ _ _ _ => (pi_tupK (K := K) rfl (pe_slice (r := rSlT' K) sl_tupW (pv 0) po_none (po_some (pv 1))))) (fun _ _ _ _ _ => (pg_name (i := 3) sc_is_unlike_free.nd rfl (Or.inl rfl))) (fun _ _ _ _ _ => pts_nil) (fun _ _ _ _ _ => (pe_cmpR (r := rIn K false) op_in_seq (pe_op op_add (pv 2) (pv 3)) (pv 0) rfl))) pa_nil)))))), fun members vs S hvs hp => ?_⟩
  obtain ⟨v_members, hv, h_members⟩ := arg1 hvs
  subst hv
  replace hp : SetOk members := hp
  have l1 := hp.1.2
  exact (sq_drop (e_call members (ea_cons (e_var rfl h_members) ea_nil) (by exact hp)) (sx_return (e_not (e_any (e_lc2 (K := K) (ys := fun x1 : (Int × Int) => (cut members none (some x1.1))) (f := fun (x1 : (Int × Int)) (x2 : Int) => (decide ((x1.2 + x2) ∈ members))) (enum members) (i_enumT (e_var rfl h_members)) tg_p tg_n (by first | omega | (simp only [enum_len, rg_len, List.length_zip, List.length_map, asSet_len]; omega)) (fun a σ1 S1 hb => by obtain ⟨v_at, v_one, h_at, h_one, hx⟩ := hb; subst hx; rfl) (fun x1 σ1 S1 hm e1 hb => by obtain ⟨v_at, v_one, h_at, h_one, hx⟩ := hb; subst hx; have h_members := (aT K aI).mono e1 h_members; exact (i_tup (e_slT (e_var rfl h_members) eo_none (eo_some (e_var rfl h_at))))) (fun x1 hm => (Nat.le_trans (cut_len _ _ _) (by omega))) (fun a b σ1 σ2 S1 S2 hb hb1 => by obtain ⟨v_at, v_one, h_at, h_one, hx⟩ := hb; subst hx; obtain ⟨v_other, h_other, hx1⟩ := hb1; subst hx1; rfl) (fun x1 x2 σ1 σ2 S1 S2 hm hm1 e1 e2 hb hb1 => by obtain ⟨v_at, v_one, h_at, h_one, hx⟩ := hb; subst hx; have h_members := (aT K aI).mono (e1.trans e2) h_members; have h_one := aI.mono e2 h_one; obtain ⟨v_other, h_other, hx1⟩ := hb1; subst hx1; exact (e_inT (e_add (e_var rfl h_one) (e_var rfl h_other)) (e_var rfl h_members))))))))
def m_is_unlike (members : (List Int)) : Bool := (decide (((asSet ((enum members).flatMap (fun x1 : (Int × Int) => (cut members none (some x1.1)).map (fun x2 : Int => (x1.2 - x2))))).length : Int) = (((enum members).flatMap (fun x1 : (Int × Int) => (cut members none (some x1.1)).map (fun x2 : Int => (x1.2 - x2)))).length : Int)))
def pre_is_unlike (x : (List Int)) : Prop := match x with | members => SetOk members
abbrev sp_is_unlike (K : PySem.W.Frag) (w : World) : Sp := spec (fun x : (List Int) => (aCons (aT K aI) x aNil)) pre_is_unlike aB (fun x : (List Int) => m_is_unlike x)
theorem sc_is_unlike : FnScope ["members", "gaps", "at", "high", "low"] ["members"] (defScope (top 38)) := ⟨rfl, rfl, rfl, by decide +kernel, rfl, by decide +kernel, by decide +kernel⟩
theorem ok_is_unlike (T : Tx mg) (C_check_set : Callable P w K mg base "check_set" ["members"] (sp_check_set K w) 1) (F : At K mg "is_unlike" (top 38) ["members"]) : Callable P w K mg base "is_unlike" ["members"] (sp_is_unlike K w) 2 := by
  refine F.pure sc_is_unlike (fun a vs S h => len1 h) fun f cdv A outer s H0 E hr => ⟨_, (pss_cons (ps_expr (pe_fn C_check_set (hr.mono (by decide)) (by rfl) (pa_cons (pv 0) pa_nil))) (pss_cons (ps_setLc2 (vs1 := [4]) (i := 1) (own := [("at", 2), ("high", 3), ("low", 4)]) rfl sc_is_unlike.nd rfl rfl (sw_true rfl rfl rfl (by decide +kernel)) (pi_enumTK (K := K) rfl (by rfl) T.n_enumerate (pa_cons (pv 0) pa_nil)) (blkOk_by (N := ["members", "gaps", "at", "high", "low"]) (sc := defScope (top 38)) (by decide +kernel)) (by decide) (fun _ _ _ _ _ => (pg_tupK (K := K) (n := 2) rfl rfl (pgs_cons (pg_name (i := 2) sc_is_unlike.nd rfl (Or.inl rfl)) (pgs_cons (pg_name (i := 3) sc_is_unlike.nd rfl (Or.inl rfl)) pgs_nil)))) (fun _ _ _ _ _ => pts_nil) (fun _ _ _ _ _ => (pi_tupK (K := K) rfl (pe_slice (r := rSlT' K) sl_tupW (pv 0) po_none (po_some (pv 2))))) (fun _ _ _ _ _ => (pg_name (i := 4) sc_is_unlike.nd rfl (Or.inl rfl))) (fun _ _ _ _ _ => pts_nil) (fun _ _ _ _ _ => (pe_op op_sub (pv 3) (pv 4)))) (pss_one (ps_ret (pe_cmpR op_eq (pe_callB (r := rLenSet w) cr_lenSet (by rfl) T.n_len (by decide +kernel) (pa_cons (pe_callTy (r := rSetL K w) (cr_setL rfl) (by rfl) T.n_set (by decide +kernel) (pa_cons (pv 1) pa_nil)) pa_nil)) (pe_callB (r := rLenSeq K) call_len_seq (by rfl) T.n_len (by decide +kernel) (pa_cons (pv 1) pa_nil)) (nomark _)))))), fun members vs S hvs hp => ?_⟩
  obtain ⟨v_members, hv, h_members⟩ := arg1 hvs
  subst hv
  replace hp : SetOk members := hp
  have l1 := hp.1.2
  exact (sq_drop (e_call members (ea_cons (e_var rfl h_members) ea_nil) (by exact hp)) (sq_set (e_lc2 (K := K) (ys := fun x1 : (Int × Int) => (cut members none (some x1.1))) (f := fun (x1 : (Int × Int)) (x2 : Int) => (x1.2 - x2)) (enum members) (i_enumT (e_var rfl h_members)) tg_p tg_n (by first | omega | (simp only [enum_len, rg_len, List.length_zip, List.length_map, asSet_len]; omega)) (fun a σ1 S1 hb => by obtain ⟨v_at, v_high, h_at, h_high, hx⟩ := hb; subst hx; rfl) (fun x1 σ1 S1 hm e1 hb => by obtain ⟨v_at, v_high, h_at, h_high, hx⟩ := hb; subst hx; have h_members := (aT K aI).mono e1 h_members; exact (i_tup (e_slT (e_var rfl h_members) eo_none (eo_some (e_var rfl h_at))))) (fun x1 hm => (Nat.le_trans (cut_len _ _ _) (by omega))) (fun a b σ1 σ2 S1 S2 hb hb1 => by obtain ⟨v_at, v_high, h_at, h_high, hx⟩ := hb; subst hx; obtain ⟨v_low, h_low, hx1⟩ := hb1; subst hx1; rfl) (fun x1 x2 σ1 σ2 S1 S2 hm hm1 e1 e2 hb hb1 => by obtain ⟨v_at, v_high, h_at, h_high, hx⟩ := hb; subst hx; have h_high := aI.mono e2 h_high; obtain ⟨v_low, h_low, hx1⟩ := hb1; subst hx1; exact (e_sub (e_var rfl h_high) (e_var rfl h_low)))) fun v_gaps S103 e103 h_gaps => by exact (sx_return (e_eq (e_lenS (e_setL (e_var rfl h_gaps) (by exact prs_len2 l1))) (e_lenL (e_var rfl h_gaps))))))
def m_gaps (members : (List Int)) : (List Int) := (sorted ((enum members).flatMap (fun x1 : (Int × Int) => (cut members none (some x1.1)).map (fun x2 : Int => (x1.2 - x2)))))
def pre_gaps (x : (List Int)) : Prop := match x with | members => SetOk members
abbrev sp_gaps (K : PySem.W.Frag) (w : World) : Sp := spec (fun x : (List Int) => (aCons (aT K aI) x aNil)) pre_gaps (aL K aI) (fun x : (List Int) => m_gaps x)
theorem sc_gaps : FnScope ["members", "at", "high", "low"] ["members"] (defScope (top 39)) := ⟨rfl, rfl, rfl, by decide +kernel, rfl, by decide +kernel, by decide +kernel⟩
theorem ok_gaps (T : Tx mg) (C_check_set : Callable P w K mg base "check_set" ["members"] (sp_check_set K w) 1) (F : At K mg "gaps" (top 39) ["members"]) : Callable P w K mg base "gaps" ["members"] (sp_gaps K w) 2 := by
  refine F.pure sc_gaps (fun a vs S h => len1 h) fun f cdv A outer s H0 E hr => ⟨_, (pss_cons (ps_expr (pe_fn C_check_set (hr.mono (by decide)) (by rfl) (pa_cons (pv 0) pa_nil))) (pss_one (ps_ret (pe_callB (r := rSortedI K) cr_sortedI (by rfl) T.n_sorted (by decide +kernel) (pa_cons (pe_lc2 (own := [("at", 1), ("high", 2), ("low", 3)]) (vs1 := [3]) rfl sc_gaps.nd (pi_enumTK (K := K) rfl (by rfl) T.n_enumerate (pa_cons (pv 0) pa_nil)) (blkOk_by (N := ["members", "at", "high", "low"]) (sc := defScope (top 39)) (by decide +kernel)) (by decide) (fun _ _ _ _ _ => (pg_tupK (K := K) (n := 2) rfl rfl (pgs_cons (pg_name (i := 1) sc_gaps.nd rfl (Or.inl rfl)) (pgs_cons (pg_name (i := 2) sc_gaps.nd rfl (Or.inl rfl)) pgs_nil)))) (fun _ _ _ _ _ => pts_nil) (fun _ _ _ _ _ => (pi_tupK (K := K) rfl (pe_slice (r := rSlT' K) sl_tupW (pv 0) po_none (po_some (pv 1))))) (fun _ _ _ _ _ => (pg_name (i := 3) sc_gaps.nd rfl (Or.inl rfl))) (fun _ _ _ _ _ => pts_nil) (fun _ _ _ _ _ => (pe_op op_sub (pv 2) (pv 3)))) pa_nil))))), fun members vs S hvs hp => ?_⟩
  obtain ⟨v_members, hv, h_members⟩ := arg1 hvs
  subst hv
  replace hp : SetOk members := hp
  have l1 := hp.1.2
  exact (sq_drop (e_call members (ea_cons (e_var rfl h_members) ea_nil) (by exact hp)) (sx_return (e_sorted (e_lc2 (K := K) (ys := fun x1 : (Int × Int) => (cut members none (some x1.1))) (f := fun (x1 : (Int × Int)) (x2 : Int) => (x1.2 - x2)) (enum members) (i_enumT (e_var rfl h_members)) tg_p tg_n (by first | omega | (simp only [enum_len, rg_len, List.length_zip, List.length_map, asSet_len]; omega)) (fun a σ1 S1 hb => by obtain ⟨v_at, v_high, h_at, h_high, hx⟩ := hb; subst hx; rfl) (fun x1 σ1 S1 hm e1 hb => by obtain ⟨v_at, v_high, h_at, h_high, hx⟩ := hb; subst hx; have h_members := (aT K aI).mono e1 h_members; exact (i_tup (e_slT (e_var rfl h_members) eo_none (eo_some (e_var rfl h_at))))) (fun x1 hm => (Nat.le_trans (cut_len _ _ _) (by omega))) (fun a b σ1 σ2 S1 S2 hb hb1 => by obtain ⟨v_at, v_high, h_at, h_high, hx⟩ := hb; subst hx; obtain ⟨v_low, h_low, hx1⟩ := hb1; subst hx1; rfl) (fun x1 x2 σ1 σ2 S1 S2 hm hm1 e1 e2 hb hb1 => by obtain ⟨v_at, v_high, h_at, h_high, hx⟩ := hb; subst hx; have h_high := aI.mono e2 h_high; obtain ⟨v_low, h_low, hx1⟩ := hb1; subst hx1; exact (e_sub (e_var rfl h_high) (e_var rfl h_low)))))))
def m_lost_gaps (members : (List Int)) : (List Int) := (((rg (1 : Int) ((((atI members (-(1 : Int))).getD (0 : Int)) - ((atI members (0 : Int)).getD (0 : Int))) + (1 : Int))).filter (fun x2 : Int => (!decide (x2 ∈ (m_gaps members))))).map (fun x2 : Int => x2))
def pre_lost_gaps (x : (List Int)) : Prop := match x with | members => SetOk members
abbrev sp_lost_gaps (K : PySem.W.Frag) (w : World) : Sp := spec (fun x : (List Int) => (aCons (aT K aI) x aNil)) pre_lost_gaps (aL K aI) (fun x : (List Int) => m_lost_gaps x)
theorem sc_lost_gaps : FnScope ["members", "found", "one"] ["members"] (defScope (top 40)) := ⟨rfl, rfl, rfl, by decide +kernel, rfl, by decide +kernel, by decide +kernel⟩
theorem ok_lost_gaps (T : Tx mg) (C_gaps : Callable P w K mg base "gaps" ["members"] (sp_gaps K w) 2) (F : At K mg "lost_gaps" (top 40) ["members"]) : Callable P w K mg base "lost_gaps" ["members"] (sp_lost_gaps K w) 3 := by
  refine F.pure sc_lost_gaps (fun a vs S h => len1 h) fun f cdv A outer s H0 E hr => ⟨_, (pss_cons (ps_set (i := 1) sc_lost_gaps.nd rfl (Or.inr rfl) (pe_fn C_gaps (hr.mono (by decide)) (by rfl) (pa_cons (pv 0) pa_nil))) (pss_one (ps_ret (pe_lc (own := [("one", 2)]) rfl sc_lost_gaps.nd (pi_range2 (by rfl) T.n_range (pa_cons pe_int (pa_cons (pe_op op_add (pe_op op_sub (pe_ix (r := rIxT K) ix_tup (pv 0) (pe_un un_neg pe_int) (fun _ _ => rfl)) (pe_ix (r := rIxT K) ix_tup (pv 0) pe_int (fun _ _ => rfl))) pe_int) pa_nil))) (blkOk_by (N := ["members", "found", "one"]) (sc := defScope (top 40)) (by decide +kernel)) (fun _ _ _ _ _ => (pg_name (i := 2) sc_lost_gaps.nd rfl (Or.inl rfl))) (fun _ _ _ _ _ => pts_one (pt_cmpR (r := rIn K true) op_notIn_seq (pv 2) (pv 1) rfl)) (fun _ _ _ _ _ => (pv 2)))))), fun members vs S hvs hp => ?_⟩
  obtain ⟨v_members, hv, h_members⟩ := arg1 hvs
  subst hv
  replace hp : SetOk members := hp
  exact (sq_set (e_call members (ea_cons (e_var rfl h_members) ea_nil) (by exact hp)) fun v_found S101 e101 h_found => by have h_members := (aT K aI).mono e101 h_members; exact (sx_return (e_lcf (K := K) (p := fun x2 : Int => (!decide (x2 ∈ (m_gaps members)))) (f := fun x2 : Int => x2) (rg (1 : Int) ((((atI members (-(1 : Int))).getD (0 : Int)) - ((atI members (0 : Int)).getD (0 : Int))) + (1 : Int))) (i_rng2 e_int (e_add (e_sub (e_ixTd (d := (0 : Int)) (e_var rfl h_members) (e_neg e_int) (by exact ix_last hp)) (e_ixTd (d := (0 : Int)) (e_var rfl h_members) e_int (by exact ix_first hp))) e_int) (by exact rng_ok hp)) tg_n (by exact rng_len hp) (fun a σ1 S1 hb => by obtain ⟨v_one, h_one, hx⟩ := hb; subst hx; rfl) (fun x2 σ1 S1 hm e1 hb => by obtain ⟨v_one, h_one, hx⟩ := hb; subst hx; have h_found := (aL K aI).mono e1 h_found; exact (et_test (e_ninL (e_var rfl h_one) (e_var rfl h_found)))) (fun x2 σ1 S1 hm hp e1 hb => by obtain ⟨v_one, h_one, hx⟩ := hb; subst hx; have h_found := (aL K aI).mono e1 h_found; exact (e_var rfl h_one)))))
def m_is_perfect (members : (List Int)) : Bool := ((m_is_unlike members) && (decide (((m_lost_gaps members).length : Int) = (0 : Int))))
def pre_is_perfect (x : (List Int)) : Prop := match x with | members => SetOk members
abbrev sp_is_perfect (K : PySem.W.Frag) (w : World) : Sp := spec (fun x : (List Int) => (aCons (aT K aI) x aNil)) pre_is_perfect aB (fun x : (List Int) => m_is_perfect x)
theorem sc_is_perfect : FnScope ["members"] ["members"] (defScope (top 41)) := ⟨rfl, rfl, rfl, by decide +kernel, rfl, by decide +kernel, by decide +kernel⟩
theorem ok_is_perfect (T : Tx mg) (C_is_unlike : Callable P w K mg base "is_unlike" ["members"] (sp_is_unlike K w) 2) (C_lost_gaps : Callable P w K mg base "lost_gaps" ["members"] (sp_lost_gaps K w) 3) (F : At K mg "is_perfect" (top 41) ["members"]) : Callable P w K mg base "is_perfect" ["members"] (sp_is_perfect K w) 4 := by
  refine F.pure sc_is_perfect (fun a vs S h => len1 h) fun f cdv A outer s H0 E hr => ⟨_, (pss_one (ps_ret (pe_and (pe_fn C_is_unlike (hr.mono (by decide)) (by rfl) (pa_cons (pv 0) pa_nil)) (pe_one (pe_cmpR op_eq (pe_callB (r := rLenSeq K) call_len_seq (by rfl) T.n_len (by decide +kernel) (pa_cons (pe_fn C_lost_gaps (hr.mono (by decide)) (by rfl) (pa_cons (pv 0) pa_nil)) pa_nil)) pe_int (nomark _)))))), fun members vs S hvs hp => ?_⟩
  obtain ⟨v_members, hv, h_members⟩ := arg1 hvs
  subst hv
  replace hp : SetOk members := hp
  exact (sx_return (e_and (e_call members (ea_cons (e_var rfl h_members) ea_nil) (by exact hp)) fun _ => (e_eq (e_lenL (e_call members (ea_cons (e_var rfl h_members) ea_nil) (by exact hp))) e_int)))
def m_are_rows_alike (one : (List Int)) (other : (List Int)) : Bool := (if (decide ((1 : Int) ∈ [(one.length : Int), (other.length : Int)])) = true then true else ((m_is_row one) && ((m_is_row other) && (decide ((((atI one (1 : Int)).getD (0 : Int)) - ((atI one (0 : Int)).getD (0 : Int))) = (((atI other (1 : Int)).getD (0 : Int)) - ((atI other (0 : Int)).getD (0 : Int))))))))
def pre_are_rows_alike (x : (List Int) × (List Int)) : Prop := match x with | (one, other) => SetOk one ∧ SetOk other
abbrev sp_are_rows_alike (K : PySem.W.Frag) (w : World) : Sp := spec (fun x : (List Int) × (List Int) => (aCons (aT K aI) x.1 (aCons (aT K aI) x.2 aNil))) pre_are_rows_alike aB (fun x : (List Int) × (List Int) => m_are_rows_alike x.1 x.2)
theorem sc_are_rows_alike : FnScope ["one", "other"] ["one", "other"] (defScope (top 31)) := ⟨rfl, rfl, rfl, by decide +kernel, rfl, by decide +kernel, by decide +kernel⟩
theorem ok_are_rows_alike (T : Tx mg) (C_check_set : Callable P w K mg base "check_set" ["members"] (sp_check_set K w) 1) (C_is_row : Callable P w K mg base "is_row" ["members"] (sp_is_row K w) 2) (F : At K mg "are_rows_alike" (top 31) ["one", "other"]) : Callable P w K mg base "are_rows_alike" ["one", "other"] (sp_are_rows_alike K w) 3 := by
  refine F.pure sc_are_rows_alike (fun a vs S h => len2 h) fun f cdv A outer s H0 E hr => ⟨_, (pss_cons (ps_expr (pe_fn C_check_set (hr.mono (by decide)) (by rfl) (pa_cons (pv 0) pa_nil))) (pss_cons (ps_expr (pe_fn C_check_set (hr.mono (by decide)) (by rfl) (pa_cons (pv 1) pa_nil))) (pss_cons (ps_if (pt_cmpR (r := rIn K false) op_in_seq pe_int (pe_tup (pa_cons (pe_callB (r := rLenSeq K) call_len_seq (by rfl) T.n_len (by decide +kernel) (pa_cons (pv 0) pa_nil)) (pa_cons (pe_callB (r := rLenSeq K) call_len_seq (by rfl) T.n_len (by decide +kernel) (pa_cons (pv 1) pa_nil)) pa_nil))) rfl) (pss_one (ps_ret pe_bl)) pss_nil) (pss_one (ps_ret (pe_and (pe_fn C_is_row (hr.mono (by decide)) (by rfl) (pa_cons (pv 0) pa_nil)) (pe_and (pe_fn C_is_row (hr.mono (by decide)) (by rfl) (pa_cons (pv 1) pa_nil)) (pe_one (pe_cmpR op_eq (pe_op op_sub (pe_ix (r := rIxT K) ix_tup (pv 0) pe_int (fun _ _ => rfl)) (pe_ix (r := rIxT K) ix_tup (pv 0) pe_int (fun _ _ => rfl))) (pe_op op_sub (pe_ix (r := rIxT K) ix_tup (pv 1) pe_int (fun _ _ => rfl)) (pe_ix (r := rIxT K) ix_tup (pv 1) pe_int (fun _ _ => rfl))) (nomark _)))))))))), fun x vs S hvs hp => ?_⟩
  obtain ⟨one, other⟩ := x
  obtain ⟨v_one, v_other, hv, h_one, h_other⟩ := arg2 hvs
  subst hv
  replace hp : SetOk one ∧ SetOk other := hp
  exact (sq_drop (e_call one (ea_cons (e_var rfl h_one) ea_nil) (by exact hp.1)) (sq_drop (e_call other (ea_cons (e_var rfl h_other) ea_nil) (by exact hp.2)) (sq_ifretV (et_test (e_inT e_int (e_tup2 (e_lenT (e_var rfl h_one)) (e_lenT (e_var rfl h_other))))) (fun z1 => sx_ret e_bl fun _ _ _ h => h) fun z1 => (sx_return (e_and (e_call one (ea_cons (e_var rfl h_one) ea_nil) (by exact hp.1)) fun _ => (e_and (e_call other (ea_cons (e_var rfl h_other) ea_nil) (by exact hp.2)) fun _ => (e_eq (e_sub (e_ixTd (d := (0 : Int)) (e_var rfl h_one) e_int (by exact (ix2 (rows_two hp.1 hp.2 z1).1).1)) (e_ixTd (d := (0 : Int)) (e_var rfl h_one) e_int (by exact (ix2 (rows_two hp.1 hp.2 z1).1).2))) (e_sub (e_ixTd (d := (0 : Int)) (e_var rfl h_other) e_int (by exact (ix2 (rows_two hp.1 hp.2 z1).2).1)) (e_ixTd (d := (0 : Int)) (e_var rfl h_other) e_int (by exact (ix2 (rows_two hp.1 hp.2 z1).2).2))))))))))
def pre_folded (x : (List Int) × Int) : Prop := match x with | (members, many) => SetOk members ∧ (0 ≤ many ∧ many ≤ 12) ∧ ∀ i : Nat, (i : Int) ≤ many → (foldN members i).length < 64
abbrev sp_folded (K : PySem.W.Frag) (w : World) : Sp := spec (fun x : (List Int) × Int => (aCons (aT K aI) x.1 (aCons aI x.2 aNil))) pre_folded (aT K aI) (fun x : (List Int) × Int => m_folded x.1 x.2)
theorem sc_folded : FnScope ["members", "many", "found", "_", "total", "one"] ["members", "many"] (defScope (top 17)) := ⟨rfl, rfl, rfl, by decide +kernel, rfl, by decide +kernel, by decide +kernel⟩
theorem ok_folded (T : Tx mg) (C_as_set : Callable P w K mg base "as_set" ["numbers"] (sp_as_set K w) 1) (C_check_set : Callable P w K mg base "check_set" ["members"] (sp_check_set K w) 1) (F : At K mg "folded" (top 17) ["members", "many"]) : Callable P w K mg base "folded" ["members", "many"] (sp_folded K w) 2 := by
  refine F.pure sc_folded (fun a vs S h => len2 h) fun f cdv A outer s H0 E hr => ⟨_, (pss_cons (ps_expr (pe_fn C_check_set (hr.mono (by decide)) (by rfl) (pa_cons (pv 0) pa_nil))) (pss_cons (ps_if (pt_not (pt_chain op_le op_le pe_int (pv 1) (pe_const (by rfl) T.c_MAX_FOLD))) (pss_never) pss_nil) (pss_cons (ps_set (i := 2) sc_folded.nd rfl (Or.inl rfl) (pe_tup (pa_cons pe_int pa_nil))) (pss_cons (ps_for PassesOwn.never rfl (pi_range1 (by rfl) T.n_range (pa_cons (pv 1) pa_nil)) (pg_name (i := 3) sc_folded.nd rfl (Or.inl rfl)) (pss_one (ps_set (i := 2) sc_folded.nd rfl (Or.inl rfl) (pe_fn C_as_set (hr.mono (by decide)) (by rfl) (pa_cons (pe_lc2 (own := [("total", 4), ("one", 5)]) (vs1 := [5]) rfl sc_folded.nd (pi_tupK (K := K) rfl (pv 2)) (blkOk_by (N := ["members", "many", "found", "_", "total", "one"]) (sc := defScope (top 17)) (by decide +kernel)) (by decide) (fun _ _ _ _ _ => (pg_name (i := 4) sc_folded.nd rfl (Or.inl rfl))) (fun _ _ _ _ _ => pts_nil) (fun _ _ _ _ _ => (pi_tupK (K := K) rfl (pv 0))) (fun _ _ _ _ _ => (pg_name (i := 5) sc_folded.nd rfl (Or.inl rfl))) (fun _ _ _ _ _ => pts_nil) (fun _ _ _ _ _ => (pe_op op_add (pv 4) (pv 5)))) pa_nil))))) (pss_one (ps_ret (pv 2))))))), fun x vs S hvs hp => ?_⟩
  obtain ⟨members, many⟩ := x
  obtain ⟨v_members, v_many, hv, h_members, h_many⟩ := arg2 hvs
  subst hv
  replace hp : SetOk members ∧ (0 ≤ many ∧ many ≤ 12) ∧ ∀ i : Nat, (i : Int) ≤ many → (foldN members i).length < 64 := hp
  refine sq_drop (e_call members (ea_cons (e_var rfl h_members) ea_nil) (by exact hp.1)) (sq_skip (ET.eq (et_not (et_test (e_chain (g := (fun i j : Int => decide (i ≤ j))) (g' := (fun i j : Int => decide (i ≤ j))) e_int (e_var rfl h_many) e_int))) (by rw [decide_eq_true hp.2.1.1, decide_eq_true hp.2.1.2]; rfl)) (sq_set (e_tup1 (K := K) e_int) fun v_found S1 e1 h_found => ?_))
  have h_members := (aT K aI).mono e1 h_members
  have h_many := aI.mono e1 h_many
  refine sq_for (rg 0 many) (i_rng1 (e_var rfl h_many) (by exact ⟨by omega, by omega⟩)) tg_n (fun i σ' S' => ∃ vf tg, σ' = [some v_members, some v_many, some vf, tg, none, none] ∧ (aT K aI).r (foldN members i) vf S') (fun i σ' S2 S3 e ⟨vf, tg, h1, h2⟩ => ⟨vf, tg, h1, (aT K aI).mono e h2⟩) (fun S' e => ⟨v_found, none, rfl, (aT K aI).mono e h_found⟩) ?_ ?_
  · intro i a σ1 σ2 S' hia e ⟨vf, tg, hs, hf⟩ hb
    subst hs
    obtain ⟨v_, h_, hx⟩ := hb
    subst hx
    have hil := (rg_get hia).1
    have h_members := (aT K aI).mono e h_members
    exact sx_asg (e_call ((foldN members i).flatMap (fun x3 : Int => members.map (fun x4 : Int => (x3 + x4)))) (ea_cons (EL.E.listK (e_lc2 (K := K) (ys := fun x3 : Int => members) (f := fun (x3 : Int) (x4 : Int) => (x3 + x4)) (foldN members i) (i_tup (e_var rfl hf)) tg_n tg_n (by exact (by have := hp.2.2 i (by omega); omega)) (fun a σ1 S1 hb => by obtain ⟨v_total, h_total, hx⟩ := hb; subst hx; rfl) (fun x3 σ1 S1 hm e1 hb => by obtain ⟨v_total, h_total, hx⟩ := hb; subst hx; have h_members := (aT K aI).mono e1 h_members; exact (i_tup (e_var rfl h_members))) (fun x3 hm => (by exact (by have := hp.1.1.2; omega))) (fun a b σ1 σ2 S1 S2 hb hb1 => by obtain ⟨v_total, h_total, hx⟩ := hb; subst hx; obtain ⟨v_one, h_one, hx1⟩ := hb1; subst hx1; rfl) (fun x3 x4 σ1 σ2 S1 S2 hm hm1 e1 e2 hb hb1 => by obtain ⟨v_total, h_total, hx⟩ := hb; subst hx; have h_total := aI.mono e2 h_total; obtain ⟨v_one, h_one, hx1⟩ := hb1; subst hx1; exact (e_add (e_var rfl h_total) (e_var rfl h_one))))) ea_nil) (by exact fold_ok hp.1 (hp.2.2 i (by omega)) (hp.2.2 (i + 1) (by omega)))) tg_n fun σ3 S3 e3 ⟨v, h, hs⟩ => ⟨v, some v_, hs, h⟩
  · intro σ' S' e ⟨vf, tg, hs, hf⟩
    subst hs
    rw [rg_len, Int.sub_zero] at hf
    exact sx_return (e_var rfl hf)
def pre_stepped (x : (List Int) × (List (Int × Int))) : Prop := match x with | (members, counts) => SetOk members ∧ counts.length ≤ 10000
abbrev sp_stepped (K : PySem.W.Frag) (w : World) : Sp := spec (fun x : (List Int) × (List (Int × Int)) => (aCons (aT K aI) x.1 (aCons (aD aI) x.2 aNil))) pre_stepped (aD aI) (fun x : (List Int) × (List (Int × Int)) => m_stepped x.1 x.2)
theorem sc_stepped : FnScope ["members", "counts", "found", "total", "many", "one"] ["members", "counts"] (defScope (top 20)) := ⟨rfl, rfl, rfl, by decide +kernel, rfl, by decide +kernel, by decide +kernel⟩
theorem ok_stepped (T : Tx mg) (F : At K mg "stepped" (top 20) ["members", "counts"]) : Callable P w K mg base "stepped" ["members", "counts"] (sp_stepped K w) 1 := by
  refine F.pure sc_stepped (fun a vs S h => len2 h) fun f cdv A outer s H0 E hr => ⟨_, (pss_cons (ps_set (i := 2) sc_stepped.nd rfl (Or.inl rfl) pe_dnewK) (pss_cons (ps_for PassesOwn.never rfl (pi_items (pv 1)) (pg_tupK (K := K) (n := 2) rfl rfl (pgs_cons (pg_name (i := 3) sc_stepped.nd rfl (Or.inl rfl)) (pgs_cons (pg_name (i := 4) sc_stepped.nd rfl (Or.inl rfl)) pgs_nil))) (pss_one (ps_for PassesOwn.never rfl (pi_tupK (K := K) rfl (pv 0)) (pg_name (i := 5) sc_stepped.nd rfl (Or.inl rfl)) (pss_one (ps_dput hr.u1 (pv 2) (pe_op op_add (pv 3) (pv 5)) (pe_op op_add (pe_dget2 hr.u1 (pv 2) (pe_op op_add (pv 3) (pv 5)) pe_int ⟨rfl, rfl, rfl, rfl⟩) (pv 4)) rfl))))) (pss_one (ps_ret (pe_freeze (pv 2)))))), fun x vs S hvs hp => ?_⟩
  obtain ⟨members, counts⟩ := x
  obtain ⟨v_members, v_counts, hv, h_members, h_counts⟩ := arg2 hvs
  subst hv
  replace hp : SetOk members ∧ counts.length ≤ 10000 := hp
  refine sx_fx (qf_dnew (r := aI) fun p O1 hO _ => ?_)
  refine qf_for counts (i_items (e_var rfl h_counts)) tg_p (fun i σ' S' O' => ∃ t1 t2 t3, σ' = [some v_members, some v_counts, some (.ref p), t1, t2, t3] ∧ OwnD aI S' O' p ((counts.take i).foldl (inner members) [])) (fun i σ' S1 S2 O e ⟨t1, t2, t3, h1, h2⟩ => ⟨t1, t2, t3, h1, h2.mono e⟩) (fun S' e => ⟨none, none, none, rfl, hO.mono e⟩) ?_ ?_
  · intro i a σ1 σ2 S' O' hia e ⟨t1, t2, t3, hs, hf⟩ hb
    subst hs
    obtain ⟨v_total, v_many, h_total, h_many, hx⟩ := hb
    subst hx
    have h_members := (aT K aI).mono e h_members
    refine fx_for members (i_tup (e_var rfl h_members)) tg_n (fun j σ' S' O' => ∃ t3, σ' = [some v_members, some v_counts, some (.ref p), some v_total, some v_many, t3] ∧ OwnD aI S' O' p ((members.take j).foldl (fun f o => addD f (a.1 + o) a.2) ((counts.take i).foldl (inner members) []))) (fun i σ' S1 S2 O e ⟨t3, h1, h2⟩ => ⟨t3, h1, h2.mono e⟩) (fun S' e => ⟨t3, rfl, hf.mono e⟩) ?_ ?_
    · intro j b σ3 σ4 S2 O2 hjb e2 ⟨t4, hs, hf2⟩ hb
      subst hs
      obtain ⟨v_one, h_one, hx⟩ := hb
      subst hx
      have h_total := aI.mono e2 h_total
      have h_many := aI.mono e2 h_many
      refine fx_addD (z := a.1 + b) rfl hf2 ?_ (e_add (e_var rfl h_total) (e_var rfl h_one)) (e_add (e_var rfl h_total) (e_var rfl h_one)) (e_var rfl h_many) fun S3 O3 e3 h3 _ => ⟨_, rfl, ?_⟩
      · have l1 := inner_len (members.take j) ((counts.take i).foldl (inner members) []) a
        have l2 := stepD_len members (counts.take i)
        have l3 : (counts.take i).length ≤ 10000 := by rw [List.length_take]; omega
        have l4 : (members.take j).length ≤ 40 := by have := hp.1.1.2; rw [List.length_take]; omega
        have l5 := Nat.mul_le_mul l3 hp.1.1.2
        have l6 : (inner (members.take j) ((counts.take i).foldl (inner members) []) a).length < 1000000 := by
          have l7 : ((counts.take i).foldl (inner members) []).length ≤ (counts.take i).length * members.length := l2
          omega
        exact l6
      · rw [foldl_snoc _ _ _ hjb]
        exact h3
    · intro σ' S2 O2 e2 ⟨t4, hs, hf2⟩
      refine ⟨_, _, t4, hs, ?_⟩
      rw [foldl_snoc _ _ _ hia]
      rw [List.take_length] at hf2
      exact hf2
  · intro σ' S' O' e ⟨t1, t2, t3, hs, hf⟩
    subst hs
    rw [List.take_length] at hf
    exact fx_dret rfl hf fun S1 e1 h => h
def pre_ways (x : (List Int) × Int × Int) : Prop := match x with | (members, many, total) => SetOk members ∧ (0 ≤ many ∧ many ≤ 12) ∧ ∀ i : Nat, (i : Int) ≤ many → (waysD members i).length ≤ 10000
abbrev sp_ways (K : PySem.W.Frag) (w : World) : Sp := spec (fun x : (List Int) × Int × Int => (aCons (aT K aI) x.1 (aCons aI x.2.1 (aCons aI x.2.2 aNil)))) pre_ways aI (fun x : (List Int) × Int × Int => m_ways x.1 x.2.1 x.2.2)
theorem sc_ways : FnScope ["members", "many", "total", "counts", "_"] ["members", "many", "total"] (defScope (top 19)) := ⟨rfl, rfl, rfl, by decide +kernel, rfl, by decide +kernel, by decide +kernel⟩
theorem ok_ways (T : Tx mg) (C_check_set : Callable P w K mg base "check_set" ["members"] (sp_check_set K w) 1) (C_stepped : Callable P w K mg base "stepped" ["members", "counts"] (sp_stepped K w) 1) (F : At K mg "ways" (top 19) ["members", "many", "total"]) : Callable P w K mg base "ways" ["members", "many", "total"] (sp_ways K w) 2 := by
  refine F.pure sc_ways (fun a vs S h => len3 h) fun f cdv A outer s H0 E hr => ⟨_, (pss_cons (ps_expr (pe_fn C_check_set (hr.mono (by decide)) (by rfl) (pa_cons (pv 0) pa_nil))) (pss_cons (ps_if (pt_not (pt_chain op_le op_le pe_int (pv 1) (pe_const (by rfl) T.c_MAX_FOLD))) (pss_never) pss_nil) (pss_cons (ps_set (i := 3) sc_ways.nd rfl (Or.inl rfl) (pe_freeze (pe_disp (pps_cons pe_int pe_int pps_nil) rfl rfl (by decide) (by decide)))) (pss_cons (ps_for PassesOwn.never rfl (pi_range1 (by rfl) T.n_range (pa_cons (pv 1) pa_nil)) (pg_name (i := 4) sc_ways.nd rfl (Or.inl rfl)) (pss_one (ps_set (i := 3) sc_ways.nd rfl (Or.inl rfl) (pe_fn C_stepped (hr.mono (by decide)) (by rfl) (pa_cons (pv 0) (pa_cons (pv 3) pa_nil)))))) (pss_one (ps_ret (pe_dget2 hr.u1 (pv 3) (pv 2) pe_int ⟨rfl, rfl, rfl, rfl⟩))))))), fun x vs S hvs hp => ?_⟩
  obtain ⟨members, many, total⟩ := x
  obtain ⟨v_members, v_many, v_total, hv, h_members, h_many, h_total⟩ := arg3 hvs
  subst hv
  replace hp : SetOk members ∧ (0 ≤ many ∧ many ≤ 12) ∧ ∀ i : Nat, (i : Int) ≤ many → (waysD members i).length ≤ 10000 := hp
  refine sq_drop (e_call members (ea_cons (e_var rfl h_members) ea_nil) (by exact hp.1)) (sq_skip (ET.eq (et_not (et_test (e_chain (g := (fun i j : Int => decide (i ≤ j))) (g' := (fun i j : Int => decide (i ≤ j))) e_int (e_var rfl h_many) e_int))) (by rw [decide_eq_true hp.2.1.1, decide_eq_true hp.2.1.2]; rfl)) (sq_set (e_disp1 e_int e_int) fun v_counts S1 e1 h_counts => ?_))
  have h_members := (aT K aI).mono e1 h_members
  have h_many := aI.mono e1 h_many
  have h_total := aI.mono e1 h_total
  refine sq_for (rg 0 many) (i_rng1 (e_var rfl h_many) (by exact ⟨by omega, by omega⟩)) tg_n (fun i σ' S' => ∃ vf tg, σ' = [some v_members, some v_many, some v_total, some vf, tg] ∧ (aD aI).r (waysD members i) vf S') (fun i σ' S2 S3 e ⟨vf, tg, h1, h2⟩ => ⟨vf, tg, h1, (aD aI).mono e h2⟩) (fun S' e => ⟨v_counts, none, rfl, (aD aI).mono e h_counts⟩) ?_ ?_
  · intro i a σ1 σ2 S' hia e ⟨vf, tg, hs, hf⟩ hb
    subst hs
    obtain ⟨v_, h_, hx⟩ := hb
    subst hx
    have hil := (rg_get hia).1
    have h_members := (aT K aI).mono e h_members
    exact sx_asg (e_call (members, (waysD members i)) (ea_cons (e_var rfl h_members) (ea_cons (e_var rfl hf) ea_nil)) (by exact ⟨hp.1, hp.2.2 i (by omega)⟩)) tg_n fun σ3 S3 e3 ⟨v, h, hs⟩ => ⟨v, some v_, hs, h⟩
  · intro σ' S' e ⟨vf, tg, hs, hf⟩
    subst hs
    rw [rg_len, Int.sub_zero] at hf
    have h_total := aI.mono e h_total
    exact sx_return (e_dget2 (EL.E.ofD (e_var rfl hf)) (e_var rfl h_total) e_int)
def pre_energy (x : (List Int)) : Prop := match x with | members => SetOk members ∧ ∀ x ∈ (stepD members (stepD members [(0, 1)])).map (·.2), -1000000 ≤ x ∧ x ≤ 1000000
abbrev sp_energy (K : PySem.W.Frag) (w : World) : Sp := spec (fun x : (List Int) => (aCons (aT K aI) x aNil)) pre_energy aI (fun x : (List Int) => m_energy x)
theorem sc_energy : FnScope ["members", "many"] ["members"] (defScope (top 22)) := ⟨rfl, rfl, rfl, by decide +kernel, rfl, by decide +kernel, by decide +kernel⟩
theorem ok_energy (T : Tx mg) (C_check_set : Callable P w K mg base "check_set" ["members"] (sp_check_set K w) 1) (C_stepped : Callable P w K mg base "stepped" ["members", "counts"] (sp_stepped K w) 1) (F : At K mg "energy" (top 22) ["members"]) : Callable P w K mg base "energy" ["members"] (sp_energy K w) 2 := by
  refine F.pure sc_energy (fun a vs S h => len1 h) fun f cdv A outer s H0 E hr => ⟨_, (pss_cons (ps_expr (pe_fn C_check_set (hr.mono (by decide)) (by rfl) (pa_cons (pv 0) pa_nil))) (pss_one (ps_ret (pe_callB (r := rSum K) (cr_sum rfl) (by rfl) T.n_sum (by decide +kernel) (pa_cons (pe_lc (own := [("many", 1)]) rfl sc_energy.nd (pi_values (pe_fn C_stepped (hr.mono (by decide)) (by rfl) (pa_cons (pv 0) (pa_cons (pe_fn C_stepped (hr.mono (by decide)) (by rfl) (pa_cons (pv 0) (pa_cons (pe_freeze (pe_disp (pps_cons pe_int pe_int pps_nil) rfl rfl (by decide) (by decide))) pa_nil))) pa_nil)))) (blkOk_by (N := ["members", "many"]) (sc := defScope (top 22)) (by decide +kernel)) (fun _ _ _ _ _ => (pg_name (i := 1) sc_energy.nd rfl (Or.inl rfl))) (fun _ _ _ _ _ => pts_nil) (fun _ _ _ _ _ => (pe_op op_mul (pv 1) (pv 1)))) pa_nil))))), fun members vs S hvs hp => ?_⟩
  obtain ⟨v_members, hv, h_members⟩ := arg1 hvs
  subst hv
  replace hp : SetOk members ∧ ∀ x ∈ (stepD members (stepD members [(0, 1)])).map (·.2), -1000000 ≤ x ∧ x ≤ 1000000 := hp
  refine sq_drop (e_call members (ea_cons (e_var rfl h_members) ea_nil) (by exact hp.1)) (sx_return (e_sum (e_lc (K := K) (f := fun x2 : Int => (x2 * x2)) ((m_stepped members (m_stepped members [((0 : Int), (1 : Int))])).map (·.2)) (i_vals (e_call (members, (m_stepped members [((0 : Int), (1 : Int))])) (ea_cons (e_var rfl h_members) (ea_cons (e_call (members, [((0 : Int), (1 : Int))]) (ea_cons (e_var rfl h_members) (ea_cons (e_disp1 e_int e_int) ea_nil)) (by exact ⟨hp.1, by decide⟩)) ea_nil)) (by exact ⟨hp.1, energy_ok hp.1⟩))) tg_n (by exact energy_len hp.1) (fun a σ1 S1 hb => by obtain ⟨v_many, h_many, hx⟩ := hb; subst hx; rfl) (fun x2 σ1 S1 hm e1 hb => by obtain ⟨v_many, h_many, hx⟩ := hb; subst hx; exact (e_mul (e_var rfl h_many) (e_var rfl h_many) (by exact .inl (by have := hp.2 _ hm; omega)))))))
def pre_part_sums (x : (List Int)) : Prop := match x with | members => SetOk members ∧ members.length ≤ 5
abbrev sp_part_sums (K : PySem.W.Frag) (w : World) : Sp := spec (fun x : (List Int) => (aCons (aT K aI) x aNil)) pre_part_sums (aT K aI) (fun x : (List Int) => m_part_sums x)
theorem sc_part_sums : FnScope ["members", "found", "one", "total"] ["members"] (defScope (top 18)) := ⟨rfl, rfl, rfl, by decide +kernel, rfl, by decide +kernel, by decide +kernel⟩
theorem ok_part_sums (T : Tx mg) (C_as_set : Callable P w K mg base "as_set" ["numbers"] (sp_as_set K w) 1) (C_check_set : Callable P w K mg base "check_set" ["members"] (sp_check_set K w) 1) (F : At K mg "part_sums" (top 18) ["members"]) : Callable P w K mg base "part_sums" ["members"] (sp_part_sums K w) 2 := by
  refine F.pure sc_part_sums (fun a vs S h => len1 h) fun f cdv A outer s H0 E hr => ⟨_, (pss_cons (ps_expr (pe_fn C_check_set (hr.mono (by decide)) (by rfl) (pa_cons (pv 0) pa_nil))) (pss_cons (ps_set (i := 1) sc_part_sums.nd rfl (Or.inl rfl) (pe_disp (pps_cons pe_int pe_bl pps_nil) rfl rfl (by decide) (by decide))) (pss_cons (ps_for PassesOwn.never rfl (pi_tupK (K := K) rfl (pv 0)) (pg_name (i := 2) sc_part_sums.nd rfl (Or.inl rfl)) (pss_cons (ps_for PassesOwn.never rfl (pi_listK (K := K) rfl (pe_callTy (call_listD rfl) (by rfl) T.n_list (by decide +kernel) (pa_cons (pv 1) pa_nil))) (pg_name (i := 3) sc_part_sums.nd rfl (Or.inl rfl)) (pss_one (ps_dput hr.u1 (pv 1) (pe_op op_add (pv 3) (pv 2)) pe_bl rfl))) (pss_one (ps_if (pt_cmpR op_gt (pe_callB (r := rLenD) cr_lenD (by rfl) T.n_len (by decide +kernel) (pa_cons (pv 1) pa_nil)) (pe_const (by rfl) T.c_MAX_MADE) (nomark _)) (pss_never) pss_nil)))) (pss_one (ps_ret (pe_fn C_as_set (hr.mono (by decide)) (by rfl) (pa_cons (pv 1) pa_nil))))))), fun members vs S hvs hp => ?_⟩
  obtain ⟨v_members, hv, h_members⟩ := arg1 hvs
  subst hv
  replace hp : SetOk members ∧ members.length ≤ 5 := hp
  refine sq_drop (e_call members (ea_cons (e_var rfl h_members) ea_nil) (by exact hp.1)) (sx_fx (qf_disp1 e_int e_bl fun p S1 O1 e1 hO _ => ?_))
  have h_members := (aT K aI).mono e1 h_members
  refine qf_for members (i_tup (e_var rfl h_members)) tg_n (fun i σ' S' O' => ∃ t1 t2, σ' = [some v_members, some (.ref p), t1, t2] ∧ OwnD aB S' O' p (ptS (members.take i))) (fun i σ' S1 S2 O e ⟨t1, t2, h1, h2⟩ => ⟨t1, t2, h1, h2.mono e⟩) (fun S' e => ⟨none, none, rfl, hO.mono e⟩) ?_ ?_
  · intro i a σ1 σ2 S' O' hia e ⟨t1, t2, hs, hf⟩ hb
    subst hs
    obtain ⟨v_one, h_one, hx⟩ := hb
    subst hx
    have lenA := ptS_len (members.take i)
    have lenB := pow2_le hp.2 i
    refine fx_seq (M := fun σ' S' O' => ∃ t2, σ' = [some v_members, some (.ref p), some v_one, t2] ∧ OwnD aB S' O' p (ptS (members.take (i + 1)))) ?_ ?_
    · refine fx_iter (iList K) (ex_dlist (K := K) rfl hf) fun ks v S2 O2 e2 hv hA => ?_
      obtain ⟨hks, hO2⟩ := hA
      subst hO2
      have h_one := aI.mono e2 h_one
      have lenK : ks.length ≤ 32 := by rw [hks, List.length_map]; omega
      refine fx_for ks (i_list (e_c hv)) tg_n (fun j σ' S' O' => ∃ t2, σ' = [some v_members, some (.ref p), some v_one, t2] ∧ OwnD aB S' O' p (shiftB a (ptS (members.take i)) (ks.take j))) (fun i σ' S1 S2 O e ⟨t2, h1, h2⟩ => ⟨t2, h1, h2.mono e⟩) (fun S' e => ⟨t2, rfl, hf.mono (e2.trans e)⟩) ?_ ?_
      · intro j b σ3 σ4 S3 O3 hjb e3 ⟨t4, hs, hf2⟩ hb
        subst hs
        obtain ⟨v_total, h_total, hx⟩ := hb
        subst hx
        have h_one := aI.mono e3 h_one
        refine fx_dput (z := b + a) rfl hf2 ?_ (EX.of (e_bl (i := true))) (fun _ _ h => h.2) (e_add (e_var rfl h_total) (e_var rfl h_one)) fun x S4 O4 O5 e4 hx h3 _ => ⟨_, rfl, ?_⟩
        · have l1 := shiftB_len a (ptS (members.take i)) (ks.take j)
          have l2 : (ks.take j).length ≤ 32 := by rw [List.length_take]; omega
          omega
        · obtain ⟨hx1, hx2⟩ := hx
          subst hx1
          unfold shiftB
          rw [foldl_snoc _ _ _ hjb]
          exact h3
      · intro σ' S3 O3 e3 ⟨t4, hs, hf2⟩
        refine ⟨t4, hs, ?_⟩
        rw [List.take_length, hks] at hf2
        unfold ptS
        rw [foldl_snoc _ _ _ hia]
        exact hf2
    · intro σ' S2 O2 e2 ⟨t4, hs, hf2⟩
      subst hs
      refine fx_skip (ETX.uni fun hd => et_test (e_gt (e_lenD (e_var rfl (hf2.rd hd))) e_int)) (fun O' hA => ?_) fun S3 O3 e3 hA => ?_
      · have l1 := ptS_len (members.take (i + 1))
        have l2 := pow2_le hp.2 (i + 1)
        exact absurd hA.1.symm (by rw [decide_eq_false (by omega)]; decide)
      · obtain ⟨_, h4⟩ := hA
        subst h4
        exact ⟨_, _, rfl, hf2.mono e3⟩
  · intro σ' S' O' e ⟨t1, t2, hs, hf⟩
    subst hs
    rw [List.take_length] at hf
    exact fx_know hf fun S2 e2 h_found => fx_sx (sx_return (e_call ((ptS members).map (·.1)) (ea_cons (EL.E.dictK (EL.E.ofM (e_var rfl h_found))) ea_nil) (by exact pt_ok hp.2)))
def pre_part_ways (x : (List Int) × Int) : Prop := match x with | (members, total) => SetOk members ∧ members.length ≤ 5
abbrev sp_part_ways (K : PySem.W.Frag) (w : World) : Sp := spec (fun x : (List Int) × Int => (aCons (aT K aI) x.1 (aCons aI x.2 aNil))) pre_part_ways aI (fun x : (List Int) × Int => m_part_ways x.1 x.2)
theorem sc_part_ways : FnScope ["members", "total", "counts", "one", "fresh", "number", "many"] ["members", "total"] (defScope (top 21)) := ⟨rfl, rfl, rfl, by decide +kernel, rfl, by decide +kernel, by decide +kernel⟩
theorem ok_part_ways (T : Tx mg) (C_check_set : Callable P w K mg base "check_set" ["members"] (sp_check_set K w) 1) (F : At K mg "part_ways" (top 21) ["members", "total"]) : Callable P w K mg base "part_ways" ["members", "total"] (sp_part_ways K w) 2 := by
  refine F.pure sc_part_ways (fun a vs S h => len2 h) fun f cdv A outer s H0 E hr => ⟨_, (pss_cons (ps_expr (pe_fn C_check_set (hr.mono (by decide)) (by rfl) (pa_cons (pv 0) pa_nil))) (pss_cons (ps_set (i := 2) sc_part_ways.nd rfl (Or.inl rfl) (pe_freeze (pe_disp (pps_cons pe_int pe_int pps_nil) rfl rfl (by decide) (by decide)))) (pss_cons (ps_for PassesOwn.never rfl (pi_tupK (K := K) rfl (pv 0)) (pg_name (i := 3) sc_part_ways.nd rfl (Or.inl rfl)) (pss_cons (ps_set (i := 4) sc_part_ways.nd rfl (Or.inl rfl) (pe_callTy call_dictD (by rfl) T.n_dict (by decide +kernel) (pa_cons (pv 2) pa_nil))) (pss_cons (ps_for PassesOwn.never rfl (pi_items (pv 2)) (pg_tupK (K := K) (n := 2) rfl rfl (pgs_cons (pg_name (i := 5) sc_part_ways.nd rfl (Or.inl rfl)) (pgs_cons (pg_name (i := 6) sc_part_ways.nd rfl (Or.inl rfl)) pgs_nil))) (pss_one (ps_dput hr.u1 (pv 4) (pe_op op_add (pv 5) (pv 3)) (pe_op op_add (pe_dget2 hr.u1 (pv 4) (pe_op op_add (pv 5) (pv 3)) pe_int ⟨rfl, rfl, rfl, rfl⟩) (pv 6)) rfl))) (pss_cons (ps_set (i := 2) sc_part_ways.nd rfl (Or.inl rfl) (pe_freeze (pv 4))) (pss_one (ps_if (pt_cmpR op_gt (pe_callB (r := rLenD) cr_lenD (by rfl) T.n_len (by decide +kernel) (pa_cons (pv 2) pa_nil)) (pe_const (by rfl) T.c_MAX_MADE) (nomark _)) (pss_never) pss_nil)))))) (pss_one (ps_ret (pe_dget2 hr.u1 (pv 2) (pv 1) pe_int ⟨rfl, rfl, rfl, rfl⟩)))))), fun x vs S hvs hp => ?_⟩
  obtain ⟨members, total⟩ := x
  obtain ⟨v_members, v_total, hv, h_members, h_total⟩ := arg2 hvs
  subst hv
  replace hp : SetOk members ∧ members.length ≤ 5 := hp
  refine sq_drop (e_call members (ea_cons (e_var rfl h_members) ea_nil) (by exact hp.1)) (sq_set (e_disp1 e_int e_int) fun v_counts S1 e1 h_counts => ?_)
  have h_members := (aT K aI).mono e1 h_members
  have h_total := aI.mono e1 h_total
  refine sq_for members (i_tup (e_var rfl h_members)) tg_n (fun i σ' S' => ∃ vf t1 t2 t3 t4, σ' = [some v_members, some v_total, some vf, t1, t2, t3, t4] ∧ (aD aI).r (partD (members.take i)) vf S') (fun i σ' S2 S3 e ⟨vf, t1, t2, t3, t4, h1, h2⟩ => ⟨vf, t1, t2, t3, t4, h1, (aD aI).mono e h2⟩) (fun S' e => ⟨v_counts, none, none, none, none, rfl, (aD aI).mono e h_counts⟩) ?_ ?_
  · intro i a σ1 σ2 S' hia e ⟨vf, t1, t2, t3, t4, hs, hf⟩ hb
    subst hs
    obtain ⟨v_one, h_one, hx⟩ := hb
    subst hx
    have lenA := partD_len (members.take i)
    have lenB := pow2_le hp.2 i
    refine sx_fx (qf_dcopy (d := partD (members.take i)) (EL.E.ofD (e_var rfl hf)) fun p S2 O2 e2 hO _ => ?_)
    have hf := (aD aI).mono e2 hf
    have h_one := aI.mono e2 h_one
    refine qf_for (partD (members.take i)) (i_items (e_var rfl hf)) tg_p (fun j σ' S' O' => ∃ t3 t4, σ' = [some v_members, some v_total, some vf, some v_one, some (.ref p), t3, t4] ∧ OwnD aI S' O' p (shiftD a (partD (members.take i)) ((partD (members.take i)).take j))) (fun i σ' S1 S2 O e ⟨t3, t4, h1, h2⟩ => ⟨t3, t4, h1, h2.mono e⟩) (fun S' e => ⟨t3, t4, rfl, hO.mono e⟩) ?_ ?_
    · intro j b σ3 σ4 S3 O3 hjb e3 ⟨t5, t6, hs, hf2⟩ hb
      subst hs
      obtain ⟨v_number, v_many, h_number, h_many, hx⟩ := hb
      subst hx
      have h_one := aI.mono e3 h_one
      refine fx_addD (z := b.1 + a) rfl hf2 ?_ (e_add (e_var rfl h_number) (e_var rfl h_one)) (e_add (e_var rfl h_number) (e_var rfl h_one)) (e_var rfl h_many) fun S4 O4 e4 h4 _ => ⟨_, _, rfl, ?_⟩
      · have l1 := shiftD_len a (partD (members.take i)) ((partD (members.take i)).take j)
        have l2 : ((partD (members.take i)).take j).length ≤ 32 := by rw [List.length_take]; omega
        omega
      · unfold shiftD
        rw [foldl_snoc _ _ _ hjb]
        exact h4
    · intro σ' S3 O3 e3 ⟨t5, t6, hs, hf2⟩
      subst hs
      rw [List.take_length] at hf2
      refine qf_dfreeze rfl hf2 fun S4 e4 h4 => ?_
      have hn : shiftD a (partD (members.take i)) (partD (members.take i)) = partD (members.take (i + 1)) := by
        unfold partD
        rw [foldl_snoc _ _ _ hia]
      rw [hn] at h4
      refine fx_skip (ETX.of (et_test (e_gt (e_lenD (EL.E.ofD (e_var rfl h4))) e_int))) (fun O' hA => ?_) fun S5 O5 e5 hA => ⟨_, _, _, _, _, rfl, (aD aI).mono e5 h4⟩
      have l1 := partD_len (members.take (i + 1))
      have l2 := pow2_le hp.2 (i + 1)
      exact absurd hA.1.symm (by rw [decide_eq_false (by omega)]; decide)
  · intro σ' S' e ⟨vf, t1, t2, t3, t4, hs, hf⟩
    subst hs
    rw [List.take_length] at hf
    have h_total := aI.mono e h_total
    exact sx_return (e_dget2 (EL.E.ofD (e_var rfl hf)) (e_var rfl h_total) e_int)
def pre_shared (x : Int × Int) : Prop := match x with | (first, second) => True
abbrev sp_shared (K : PySem.W.Frag) (w : World) : Sp := spec (fun x : Int × Int => (aCons aI x.1 (aCons aI x.2 aNil))) pre_shared aI (fun x : Int × Int => m_shared x.1 x.2)
theorem sc_shared : FnScope ["first", "second"] ["first", "second"] (defScope (top 25)) := ⟨rfl, rfl, rfl, by decide +kernel, rfl, by decide +kernel, by decide +kernel⟩
theorem ok_shared (T : Tx mg) (F : At K mg "shared" (top 25) ["first", "second"]) : Callable P w K mg base "shared" ["first", "second"] (sp_shared K w) 1 := by
  refine F.pure sc_shared (fun a vs S h => len2 h) fun f cdv A outer s H0 E hr => ⟨_, (pss_cons (ps_par (i := 0) (j := 1) rfl sc_shared.nd rfl rfl (by decide) rfl rfl (pa_cons (pe_callB call_abs (by rfl) T.n_abs (by decide +kernel) (pa_cons (pv 0) pa_nil)) (pa_cons (pe_callB call_abs (by rfl) T.n_abs (by decide +kernel) (pa_cons (pv 1) pa_nil)) pa_nil)) rfl) (pss_cons (ps_while PassesOwn.never (pt_cmpR op_gt (pv 1) pe_int (nomark _)) (pss_one (ps_par (i := 0) (j := 1) rfl sc_shared.nd rfl rfl (by decide) rfl rfl (pa_cons (pv 1) (pa_cons (pe_op op_mod (pv 0) (pv 1)) pa_nil)) rfl))) (pss_one (ps_ret (pv 0))))), fun x vs S hvs hp => ?_⟩
  obtain ⟨first, second⟩ := x
  obtain ⟨v_first, v_second, hv, h_first, h_second⟩ := arg2 hvs
  subst hv
  replace hp : True := hp
  refine sq_par (ea_cons (e_abs (e_var rfl h_first)) (ea_cons (e_abs (e_var rfl h_second)) ea_nil)) fun v w S1 e1 h1 h2 => ?_
  refine sq_while (fun m σ' S' => ∃ a b : Int, σ' = [some (.int a), some (.int b)] ∧ 0 ≤ a ∧ 0 ≤ b ∧ b.toNat = m ∧ Int.gcd a b = Int.gcd first second) (fun _ _ _ _ _ h => h) (second.natAbs) ⟨(if first < 0 then -first else first), (if second < 0 then -second else second), ?_, ?_, ?_, ?_, ?_⟩ ?_
  · rw [show v = _ from h1, show w = _ from h2]; rfl
  · split <;> omega
  · split <;> omega
  · split <;> omega
  · exact abs_gcd _ _
  · intro m σ' S2 e2 ⟨a, b, hs, ha, hb, hm, hg⟩
    subst hs
    have h_first : aI.r a (.int a) S2 := rfl
    have h_second : aI.r b (.int b) S2 := rfl
    refine ⟨decide (0 < b), et_test (e_gt (e_var rfl h_second) e_int), fun hz => ?_, fun hz => ?_⟩
    · have hz := of_decide_eq_true hz
      refine sx_par (ea_cons (e_var rfl h_second) (ea_cons (e_mod (e_var rfl h_first) (e_var rfl h_second) hz) ea_nil)) fun v w S3 e3 h3 h4 => ⟨(a % b).toNat, ?_, b, a % b, by rw [show v = _ from h3, show w = _ from h4]; rfl, hb, Int.emod_nonneg _ (by omega), rfl, ?_⟩
      · have := Int.emod_lt_of_pos a hz
        have := Int.emod_nonneg a (show b ≠ 0 by omega)
        omega
      · rw [← hg]; exact gcd_step ha hb
    · have hz := of_decide_eq_false hz
      have hb0 : b = 0 := by omega
      subst hb0
      refine sx_return (EL.E.eq (e_var rfl h_first) ?_)
      show a = ((Int.gcd first second : Nat) : Int)
      rw [← hg, Int.gcd_zero_right]; omega
def pre_normal (x : (List Int)) : Prop := match x with | members => SetOk members
abbrev sp_normal (K : PySem.W.Frag) (w : World) : Sp := spec (fun x : (List Int) => (aCons (aT K aI) x aNil)) pre_normal (aT K aI) (fun x : (List Int) => m_normal x)
theorem sc_normal : FnScope ["members", "moved", "one", "step"] ["members"] (defScope (top 26)) := ⟨rfl, rfl, rfl, by decide +kernel, rfl, by decide +kernel, by decide +kernel⟩
theorem ok_normal (T : Tx mg) (C_check_set : Callable P w K mg base "check_set" ["members"] (sp_check_set K w) 1) (C_shared : Callable P w K mg base "shared" ["first", "second"] (sp_shared K w) 1) (F : At K mg "normal" (top 26) ["members"]) : Callable P w K mg base "normal" ["members"] (sp_normal K w) 2 := by
  refine F.pure sc_normal (fun a vs S h => len1 h) fun f cdv A outer s H0 E hr => ⟨_, (pss_cons (ps_expr (pe_fn C_check_set (hr.mono (by decide)) (by rfl) (pa_cons (pv 0) pa_nil))) (pss_cons (ps_setLc (i := 1) (own := [("one", 2)]) rfl sc_normal.nd rfl rfl (sw_true rfl rfl rfl (by decide +kernel)) (pi_tupK (K := K) rfl (pv 0)) (blkOk_by (N := ["members", "moved", "one", "step"]) (sc := defScope (top 26)) (by decide +kernel)) (fun _ _ _ _ _ => (pg_name (i := 2) sc_normal.nd rfl (Or.inl rfl))) (fun _ _ _ _ _ => pts_nil) (fun _ _ _ _ _ => (pe_op op_sub (pv 2) (pe_ix (r := rIxT K) ix_tup (pv 0) pe_int (fun _ _ => rfl))))) (pss_cons (ps_set (i := 3) sc_normal.nd rfl (Or.inr rfl) pe_int) (pss_cons (ps_for PassesOwn.never rfl (pi_listK (K := K) rfl (pv 1)) (pg_name (i := 2) sc_normal.nd rfl (Or.inl rfl)) (pss_one (ps_set (i := 3) sc_normal.nd rfl (Or.inr rfl) (pe_fn C_shared (hr.mono (by decide)) (by rfl) (pa_cons (pv 3) (pa_cons (pv 2) pa_nil)))))) (pss_one (ps_ret (pe_callTy (r := rTupOf K) call_tuple_of (by rfl) T.n_tuple (by decide +kernel) (pa_cons (pe_lc (own := [("one", 2)]) rfl sc_normal.nd (pi_listK (K := K) rfl (pv 1)) (blkOk_by (N := ["members", "moved", "one", "step"]) (sc := defScope (top 26)) (by decide +kernel)) (fun _ _ _ _ _ => (pg_name (i := 2) sc_normal.nd rfl (Or.inl rfl))) (fun _ _ _ _ _ => pts_nil) (fun _ _ _ _ _ => (pe_ifExp (pt_cmpR op_gt (pv 3) pe_int (nomark _)) (pe_op op_fdiv (pv 2) (pv 3)) pe_int))) pa_nil)))))))), fun members vs S hvs hp => ?_⟩
  obtain ⟨v_members, hv, h_members⟩ := arg1 hvs
  subst hv
  replace hp : SetOk members := hp
  refine sq_drop (e_call members (ea_cons (e_var rfl h_members) ea_nil) (by exact hp)) (sq_set (e_lc (K := K) (f := fun x4 : Int => (x4 - ((atI members (0 : Int)).getD (0 : Int)))) members (i_tup (e_var rfl h_members)) tg_n (by exact (by have := hp.1.2; omega)) (fun a σ1 S1 hb => by obtain ⟨v_one, h_one, hx⟩ := hb; subst hx; rfl) (fun x4 σ1 S1 hm e1 hb => by obtain ⟨v_one, h_one, hx⟩ := hb; subst hx; have h_members := (aT K aI).mono e1 h_members; exact (e_sub (e_var rfl h_one) (e_ixTd (d := (0 : Int)) (e_var rfl h_members) e_int (by exact ix_first hp))))) fun v_moved S1 e1 h_moved => sq_set e_int fun v_step S2 e2 h_step => ?_)
  have h_moved := (aL K aI).mono e2 h_moved
  generalize hM : (members.map fun x1 : Int => (x1 - ((atI members (0 : Int)).getD (0 : Int)))) = moved at h_moved
  refine sq_for moved (i_list (e_var rfl h_moved)) tg_n (fun i σ' S' => ∃ vs tg, σ' = [some v_members, some v_moved, tg, some vs] ∧ aI.r (gcdL (moved.take i)) vs S') (fun i σ' S2 S3 e ⟨vf, tg, h1, h2⟩ => ⟨vf, tg, h1, aI.mono e h2⟩) (fun S' e => ⟨v_step, _, rfl, aI.mono e h_step⟩) ?_ ?_
  · intro i a σ1 σ2 S' hia e ⟨vf, tg, hs, hf⟩ hb
    subst hs
    obtain ⟨v_one, h_one, hx⟩ := hb
    subst hx
    refine sx_asg (e_call ((gcdL (moved.take i)), (a)) (ea_cons (e_var rfl hf) (ea_cons (e_var rfl h_one) ea_nil)) (by trivial)) tg_n fun σ3 S3 e3 ⟨v, h, hs⟩ => ⟨v, some v_one, hs, ?_⟩
    unfold gcdL
    rw [foldl_snoc _ _ _ hia]
    exact h
  · intro σ' S' e ⟨vf, tg, hs, hf⟩
    subst hs
    rw [List.take_length] at hf
    have h_moved := (aL K aI).mono e h_moved
    refine sx_return (EL.E.eq (e_tupleL (e_lc (K := K) (f := fun x5 : Int => (if (decide ((0 : Int) < (gcdL moved))) = true then (x5 / (gcdL moved)) else (0 : Int))) moved (i_list (e_var rfl h_moved)) tg_n (by exact (by subst hM; rw [List.length_map]; have := hp.1.2; omega)) (fun a σ1 S1 hb => by obtain ⟨v_one, h_one, hx⟩ := hb; subst hx; rfl) (fun x5 σ1 S1 hm e1 hb => by obtain ⟨v_one, h_one, hx⟩ := hb; subst hx; have hf := aI.mono e1 hf; exact (e_ifV (et_test (e_gt (e_var rfl hf) e_int)) (fun z6 => (e_fdiv (e_var rfl h_one) (e_var rfl hf) (by exact (by subst hM; exact nrm_div hp (of_decide_eq_true z6) _)))) fun z6 => e_int)))) ?_)
    subst hM
    unfold m_normal
    simp only [decide_eq_true_eq]
def pre_measures_all (x : (List Int)) : Prop := match x with | marks => SetOk marks
abbrev sp_measures_all (K : PySem.W.Frag) (w : World) : Sp := spec (fun x : (List Int) => (aCons (aT K aI) x aNil)) pre_measures_all aB (fun x : (List Int) => m_measures_all x)
theorem sc_measures_all : FnScope ["marks", "found", "at", "high", "low", "one"] ["marks"] (defScope (top 36)) := ⟨rfl, rfl, rfl, by decide +kernel, rfl, by decide +kernel, by decide +kernel⟩
theorem ok_measures_all (T : Tx mg) (C_check_set : Callable P w K mg base "check_set" ["members"] (sp_check_set K w) 1) (F : At K mg "measures_all" (top 36) ["marks"]) : Callable P w K mg base "measures_all" ["marks"] (sp_measures_all K w) 2 := by
  refine F.pure sc_measures_all (fun a vs S h => len1 h) fun f cdv A outer s H0 E hr => ⟨_, (pss_cons (ps_expr (pe_fn C_check_set (hr.mono (by decide)) (by rfl) (pa_cons (pv 0) pa_nil))) (pss_cons (ps_set (i := 1) sc_measures_all.nd rfl (Or.inr rfl) (pe_dc2 (own := [("at", 2), ("high", 3), ("low", 4)]) (vs1 := [4]) rfl sc_measures_all.nd (pi_enumTK (K := K) rfl (by rfl) T.n_enumerate (pa_cons (pv 0) pa_nil)) (blkOk_by (N := ["marks", "found", "at", "high", "low", "one"]) (sc := defScope (top 36)) (by decide +kernel)) (by decide) (fun _ _ _ _ _ => (pg_tupK (K := K) (n := 2) rfl rfl (pgs_cons (pg_name (i := 2) sc_measures_all.nd rfl (Or.inl rfl)) (pgs_cons (pg_name (i := 3) sc_measures_all.nd rfl (Or.inl rfl)) pgs_nil)))) (fun _ _ _ _ _ => (pi_tupK (K := K) rfl (pe_slice (r := rSlT' K) sl_tupW (pv 0) po_none (po_some (pv 2))))) (fun _ _ _ _ _ => (pg_name (i := 4) sc_measures_all.nd rfl (Or.inl rfl))) (fun _ _ _ _ _ => (pe_op op_sub (pv 3) (pv 4))) (fun _ _ _ _ _ => pe_bl))) (pss_one (ps_ret (pe_callB (r := rAll K) (cr_all rfl) (by rfl) T.n_all (by decide +kernel) (pa_cons (pe_lc (own := [("one", 5)]) rfl sc_measures_all.nd (pi_range2 (by rfl) T.n_range (pa_cons pe_int (pa_cons (pe_op op_add (pe_op op_sub (pe_ix (r := rIxT K) ix_tup (pv 0) (pe_un un_neg pe_int) (fun _ _ => rfl)) (pe_ix (r := rIxT K) ix_tup (pv 0) pe_int (fun _ _ => rfl))) pe_int) pa_nil))) (blkOk_by (N := ["marks", "found", "at", "high", "low", "one"]) (sc := defScope (top 36)) (by decide +kernel)) (fun _ _ _ _ _ => (pg_name (i := 5) sc_measures_all.nd rfl (Or.inl rfl))) (fun _ _ _ _ _ => pts_nil) (fun _ _ _ _ _ => (pe_cmp (pc_din hr.u1 (pv 5) (pv 1))))) pa_nil)))))), fun marks vs S hvs hp => ?_⟩
  obtain ⟨v_marks, hv, h_marks⟩ := arg1 hvs
  subst hv
  replace hp : SetOk marks := hp
  refine sq_drop (e_call marks (ea_cons (e_var rfl h_marks) ea_nil) (by exact hp)) (sq_set (e_dc2 (ys := (fun x4 : (Int × Int) => (cut marks none (some x4.1)))) (kf := (fun (x4 : (Int × Int)) (x5 : Int) => (x4.2 - x5))) (vf := (fun (x4 : (Int × Int)) (x5 : Int) => true)) (enum marks) (i_enumT (e_var rfl h_marks)) tg_p tg_n (by exact (by rw [enum_len]; have := hp.1.2; omega)) (fun a σ1 S1 hb => by obtain ⟨v_at, v_high, h_at, h_high, hx⟩ := hb; subst hx; rfl) (fun x4 σ1 S1 hm e1 hb => by obtain ⟨v_at, v_high, h_at, h_high, hx⟩ := hb; subst hx; have h_marks := (aT K aI).mono e1 h_marks; exact (i_tup (e_slT (e_var rfl h_marks) eo_none (eo_some (e_var rfl h_at))))) (fun x4 hm => (by exact Nat.le_trans (cut_len _ _ _) (by have := hp.1.2; omega))) (fun a b σ1 σ2 S1 S2 hb hb1 => by obtain ⟨v_at, v_high, h_at, h_high, hx⟩ := hb; subst hx; obtain ⟨v_low, h_low, hx1⟩ := hb1; subst hx1; rfl) (fun x4 x5 σ1 σ2 S1 S2 hm hm1 e1 e2 hb hb1 => by obtain ⟨v_at, v_high, h_at, h_high, hx⟩ := hb; subst hx; have h_high := aI.mono e2 h_high; obtain ⟨v_low, h_low, hx1⟩ := hb1; subst hx1; exact (e_sub (e_var rfl h_high) (e_var rfl h_low))) (fun x4 x5 σ1 σ2 S1 S2 hm hm1 e1 e2 hb hb1 => by obtain ⟨v_at, v_high, h_at, h_high, hx⟩ := hb; subst hx; obtain ⟨v_low, h_low, hx1⟩ := hb1; subst hx1; exact e_bl)) fun v_found S1 e1 h_found => ?_)
  have h_marks := (aT K aI).mono e1 h_marks
  exact sx_return (e_all (e_lc (K := K) (f := fun x6 : Int => (lookD (gapD marks) x6).isSome) (rg (1 : Int) ((((atI marks (-(1 : Int))).getD (0 : Int)) - ((atI marks (0 : Int)).getD (0 : Int))) + (1 : Int))) (i_rng2 e_int (e_add (e_sub (e_ixTd (d := (0 : Int)) (e_var rfl h_marks) (e_neg e_int) (by exact ix_last hp)) (e_ixTd (d := (0 : Int)) (e_var rfl h_marks) e_int (by exact ix_first hp))) e_int) (by exact rng_ok hp)) tg_n (by exact rng_len hp) (fun a σ1 S1 hb => by obtain ⟨v_one, h_one, hx⟩ := hb; subst hx; rfl) (fun x6 σ1 S1 hm e1 hb => by obtain ⟨v_one, h_one, hx⟩ := hb; subst hx; have h_found := (aM aB).mono e1 h_found; exact (e_din (e_var rfl h_one) (EL.E.ofM (e_var rfl h_found))))))
end
end S64

namespace S64
open PySem PySem.Spec PyProof.Rows L2 EL RZ M
open Evl (Ex)
section
variable {P : Program} {w : World} {K : PySem.W.Frag} {mg : Str → Option Value} {base : Heap}
abbrev sp__law_stream (K : PySem.W.Frag) (w : World) : Sp := specR (fun ns : List Int => aCons (aL K aI) ns aNil) (fun _ => True) (aL K aI) (fun _ out => St0 out)
theorem sc__law_stream : FnScope ["script", "numbers", "cell", "rest", "k", "stirred"] ["script"] (defScope (top 44)) := ⟨rfl, rfl, rfl, by decide +kernel, rfl, by decide +kernel, by decide +kernel⟩
theorem ok__law_stream (T : Tx mg) (F : At K mg "_law_stream" (top 44) ["script"]) : Callable P w K mg base "_law_stream" ["script"] (sp__law_stream K w) 1 := by
  refine F.rel sc__law_stream (fun a vs S h => len1 h) fun f cdv A outer s H0 E hr => ⟨_, (pss_cons (ps_set (i := 1) sc__law_stream.nd rfl (Or.inl rfl) (pe_lst pa_nil)) (pss_cons (ps_for PassesOwn.never rfl (pi_listK (K := K) rfl (pe_slice (r := rSlL K) sl_list (pv 0) po_none (po_some pe_int))) (pg_name (i := 2) sc__law_stream.nd rfl (Or.inl rfl)) (pss_cons (ps_set (i := 3) sc__law_stream.nd rfl (Or.inl rfl) (pe_callB call_abs (by rfl) T.n_abs (by decide +kernel) (pa_cons (pe_callTy call_int1 (by rfl) T.n_int (by decide +kernel) (pa_cons (pv 2) pa_nil)) pa_nil))) (pss_one (ps_if (pt_cmpR op_ge (pv 3) (pe_op op_pow pe_int pe_int) (nomark _)) (pss_one (ps_for PassesOwn.never rfl (pi_range1 (by rfl) T.n_range (pa_cons pe_int pa_nil)) (pg_name (i := 4) sc__law_stream.nd rfl (Or.inl rfl)) (pss_cons (ps_expr (pe_bm PySem.F.plainAttrs_list PySem.F.slot_list_append PySem.F.type_list_append mt_append (pv 1) (pa_cons (pe_op op_mod (pe_callTy call_int1 (by rfl) T.n_int (by decide +kernel) (pa_cons (pv 3) pa_nil)) pe_int) pa_nil))) (pss_cons (ps_set (i := 3) sc__law_stream.nd rfl (Or.inl rfl) (pe_op op_fdiv (pv 3) pe_int)) (pss_one (ps_if (pt_cmpR op_eq (pv 3) pe_int (nomark _)) (pss_one ps_break) pss_nil)))))) (pss_cons (ps_set (i := 5) sc__law_stream.nd rfl (Or.inl rfl) (pe_op op_mod (pe_callTy call_int1 (by rfl) T.n_int (by decide +kernel) (pa_cons (pv 3) pa_nil)) pe_int)) (pss_one (ps_for PassesOwn.never rfl (pi_range1 (by rfl) T.n_range (pa_cons pe_int pa_nil)) (pg_name (i := 4) sc__law_stream.nd rfl (Or.inl rfl)) (pss_cons (ps_set (i := 5) sc__law_stream.nd rfl (Or.inl rfl) (pe_op op_mod (pe_callTy call_int1 (by rfl) T.n_int (by decide +kernel) (pa_cons (pe_op op_add (pe_op op_add (pe_op op_mul (pv 5) pe_int) (pe_op op_mul pe_int (pv 4))) pe_int) pa_nil)) pe_int)) (pss_one (ps_expr (pe_bm PySem.F.plainAttrs_list PySem.F.slot_list_append PySem.F.type_list_append mt_append (pv 1) (pa_cons (pe_op op_mod (pe_op op_mod (pe_callTy call_int1 (by rfl) T.n_int (by decide +kernel) (pa_cons (pe_op op_add (pe_op op_mul (pv 5) pe_int) (pv 4)) pa_nil)) pe_int) pe_int) pa_nil)))))))))))) (pss_cons (ps_if (pt_cmpR op_eq (pe_callB (r := rLenSeq K) call_len_seq (by rfl) T.n_len (by decide +kernel) (pa_cons (pv 1) pa_nil)) pe_int (nomark _)) (pss_one (ps_expr (pe_bm PySem.F.plainAttrs_list PySem.F.slot_list_append PySem.F.type_list_append mt_append (pv 1) (pa_cons pe_int pa_nil)))) pss_nil) (pss_one (ps_ret (pv 1)))))), ?_⟩
  intro ns vs S hvs _
  obtain ⟨v_script, hv, h_script⟩ := arg1 hvs
  subst hv
  refine sx_fx (qf_lnew (r := aI) fun p O1 hO _ => ?_)
  refine qf_for (cut ns none (some 63)) (i_list (e_slL (e_var rfl h_script) eo_none (eo_some e_int))) tg_n (fun i σ' S' O' => ∃ t2 t3 t4 t5 xs, σ' = [some v_script, some (.ref p), t2, t3, t4, t5] ∧ OwnL aI S' O' p xs ∧ xs.length ≤ 60 * i ∧ ∀ z ∈ xs, 0 ≤ z ∧ z < 1009) (fun i σ' S1 S2 O e ⟨t2, t3, t4, t5, xs, h1, h2, h3⟩ => ⟨t2, t3, t4, t5, xs, h1, h2.mono e, h3⟩) (fun S' e => ⟨none, none, none, none, [], rfl, hO.mono e, Nat.zero_le _, fun z hz => (nomatch hz)⟩) ?_ ?_
  · intro i a σ1 σ2 S' O' hia e ⟨t2, t3, t4, t5, xs, hs, hf, hl, hz⟩ hb
    subst hs
    obtain ⟨v_cell, h_cell, hx⟩ := hb
    subst hx
    have hi63 : i < 63 := by
      have h1 := (List.getElem?_eq_some_iff.mp hia).1
      have h2 : cut ns none (some ((63 : Nat) : Int)) = ns.take 63 := cut_take ns 63
      rw [show cut ns none (some (63 : Int)) = ns.take 63 from h2, List.length_take] at h1
      omega
    refine qf_set (EX.of (e_abs (e_intI (e_var rfl h_cell)))) fun b v_rest S2 O2 e2 h_rest hA => ?_
    obtain ⟨hb, hO2⟩ := hA
    subst hO2
    have hb0 : 0 ≤ b := by rw [hb]; split <;> omega
    have hf := hf.mono e2
    have h_rest : v_rest = .int b := h_rest
    subst h_rest
    have h_rest : aI.r b (.int b) S2 := rfl
    refine fx_if (ETX.of (et_test (e_ge (e_var rfl h_rest) (e_pow e_int e_int ⟨by decide, by decide, by decide⟩)))) (fun S3 O3 e3 hA => ?_) fun S3 O3 e3 hA => ?_
    · obtain ⟨_, hO3⟩ := hA
      subst hO3
      have hf := hf.mono e3
      refine fx_for (rg 0 60) (i_rng1 e_int ⟨by decide, by decide⟩) tg_n (fun j σ' S' O' => ∃ t4 t5 r xs, σ' = [some v_script, some (.ref p), some v_cell, some (.int r), t4, t5] ∧ OwnL aI S' O' p xs ∧ xs.length ≤ 60 * i + j ∧ ∀ z ∈ xs, 0 ≤ z ∧ z < 1009) (fun i σ' S1 S2 O e ⟨t4, t5, r, xs, h1, h2, h3⟩ => ⟨t4, t5, r, xs, h1, h2.mono e, h3⟩) (fun S' e => ⟨_, _, b, xs, rfl, hf.mono e, hl, hz⟩) ?_ ?_
      · intro j k' σ3 σ4 S4 O4 hj e4 ⟨t4, t5, r, ys, hs, hf2, hl2, hz2⟩ hb2
        subst hs
        obtain ⟨v_k, h_k, hx⟩ := hb2
        subst hx
        have hj60 : j < 60 := (rg_get hj).1
        have h_r : aI.r r (.int r) S4 := rfl
        refine fx_seq (M := fun σ' S' O' => σ' = [some v_script, some (.ref p), some v_cell, some (.int r), some v_k, t5] ∧ OwnL aI S' O' p (ys ++ [r % 1009])) ?_ ?_
        · refine fx_append rfl hf2 (by omega) (EX.of (e_mod (e_intI (e_var rfl h_r)) e_int (by decide))) (fun _ _ h => h.2) fun x S5 O5 O6 e5 hx h5 _ => ⟨rfl, ?_⟩
          rw [hx.1] at h5; exact h5
        · intro σ5 S5 O5 e5 ⟨hs, h5⟩
          subst hs
          have h_r : aI.r r (.int r) S5 := rfl
          refine qf_set (EX.of (e_fdiv (e_var rfl h_r) e_int (by exact ⟨by decide, by decide⟩))) fun x v S6 O6 e6 hv hA => ?_
          obtain ⟨hx, hO6⟩ := hA
          subst hx; subst hO6
          have hv : v = .int (r / 1009) := hv
          subst hv
          have h_r : aI.r (r / 1009) (.int (r / 1009)) S6 := rfl
          have h5 := h5.mono e6
          have hl5 : (ys ++ [r % 1009]).length ≤ 60 * i + (j + 1) := by rw [List.length_append]; simp only [List.length_cons, List.length_nil]; omega
          have hz5 : ∀ z ∈ ys ++ [r % 1009], 0 ≤ z ∧ z < 1009 := fun z hz => by
            rcases List.mem_append.mp hz with h | h
            · exact hz2 z h
            · rw [List.mem_singleton.mp h]; omega
          refine fx_if (ETX.of (et_test (e_eq (e_var rfl h_r) e_int))) (fun S7 O7 e7 hA => fx_break ?_) fun S7 O7 e7 hA => fx_next ?_
          · rw [hA.2]; exact ⟨_, _, _, _, _, rfl, h5.mono e7, by omega, hz5⟩
          · rw [hA.2]; exact ⟨_, _, _, _, rfl, h5.mono e7, hl5, hz5⟩
      · intro σ' S4 O4 e4 ⟨t4, t5, r, ys, hs, hf2, hl2, hz2⟩
        exact ⟨_, _, _, _, ys, hs, hf2, by rw [rg_len] at hl2; omega, hz2⟩
    · obtain ⟨_, hO3⟩ := hA
      subst hO3
      have hf := hf.mono e3
      have h_r : aI.r b (.int b) S3 := rfl
      refine qf_set (EX.of (e_mod (e_intI (e_var rfl h_r)) e_int (by decide))) fun q v S4 O4 e4 hv hA => ?_
      obtain ⟨hq, hO4⟩ := hA
      subst hO4
      have hv : v = .int q := hv
      subst hv
      have hf := hf.mono e4
      have hq0 : 0 ≤ q ∧ q < 2147483647 := by rw [hq]; omega
      refine fx_for (rg 0 10) (i_rng1 e_int ⟨by decide, by decide⟩) tg_n (fun j σ' S' O' => ∃ t4 q xs, σ' = [some v_script, some (.ref p), some v_cell, some (.int b), t4, some (.int q)] ∧ (0 ≤ q ∧ q < 2147483647) ∧ OwnL aI S' O' p xs ∧ xs.length ≤ 60 * i + j ∧ ∀ z ∈ xs, 0 ≤ z ∧ z < 1009) (fun i σ' S1 S2 O e ⟨t4, r, xs, h1, h2, h3, h4⟩ => ⟨t4, r, xs, h1, h2, h3.mono e, h4⟩) (fun S' e => ⟨_, q, xs, rfl, hq0, hf.mono e, hl, hz⟩) ?_ ?_
      · intro j k' σ3 σ4 S5 O5 hj e5 ⟨t4, r, ys, hs, hr0, hf2, hl2, hz2⟩ hb2
        subst hs
        obtain ⟨v_k, h_k, hx⟩ := hb2
        subst hx
        have hj10 := rg_get hj
        have h_r : aI.r r (.int r) S5 := rfl
        refine qf_set (EX.of (e_mod (e_intI (e_add (e_add (e_mul (e_var rfl h_r) e_int (by first | exact .inl ⟨by omega, by omega⟩ | exact .inr ⟨by decide, by decide⟩)) (e_mul e_int (e_var rfl h_k) (by first | exact .inl ⟨by omega, by omega⟩ | exact .inr ⟨by decide, by decide⟩))) e_int)) e_int (by decide))) fun q2 v S6 O6 e6 hv hA => ?_
        obtain ⟨hq2, hO6⟩ := hA
        subst hO6
        have hv : v = .int q2 := hv
        subst hv
        have hq2' : 0 ≤ q2 ∧ q2 < 2147483647 := by rw [hq2]; omega
        have h_r2 : aI.r q2 (.int q2) S6 := rfl
        have h_k2 := aI.mono e6 h_k
        refine fx_append rfl (hf2.mono e6) (by omega) (EX.of (e_mod (e_mod (e_intI (e_add (e_mul (e_var rfl h_r2) e_int (by first | exact .inl ⟨by omega, by omega⟩ | exact .inr ⟨by decide, by decide⟩)) (e_var rfl h_k2))) e_int (by decide)) e_int (by decide))) (fun _ _ h => h.2) fun x S7 O7 O8 e7 hx h7 _ => ⟨_, q2, ys ++ [x], rfl, hq2', h7, ?_, ?_⟩
        · rw [List.length_append]; simp only [List.length_cons, List.length_nil]; omega
        · intro z hz
          rcases List.mem_append.mp hz with h | h
          · exact hz2 z h
          · rw [List.mem_singleton.mp h, hx.1]; omega
      · intro σ' S5 O5 e5 ⟨t4, r, ys, hs, hr0, hf2, hl2, hz2⟩
        exact ⟨_, _, _, _, ys, hs, hf2, by rw [rg_len] at hl2; omega, hz2⟩
  · intro σ' S' O' e ⟨t2, t3, t4, t5, xs, hs, hf, hl, hz⟩
    subst hs
    have hlen : (cut ns none (some (63 : Int))).length ≤ 63 := by
      have h2 : cut ns none (some ((63 : Nat) : Int)) = ns.take 63 := cut_take ns 63
      rw [show cut ns none (some (63 : Int)) = ns.take 63 from h2, List.length_take]; omega
    refine fx_seq (M := fun σ' S' O' => ∃ xs, σ' = [some v_script, some (.ref p), t2, t3, t4, t5] ∧ OwnL aI S' O' p xs ∧ St0 xs) ?_ ?_
    · refine fx_if (ETX.uni fun hd => et_test (e_eq (e_lenL (K := K) (e_var rfl (hf.rd hd))) e_int)) (fun S2 O2 e2 hA => ?_) fun S2 O2 e2 hA => fx_next ?_
      · obtain ⟨h0, hO2⟩ := hA
        subst hO2
        have h0 := of_decide_eq_true h0.symm
        refine fx_append rfl (hf.mono e2) (by omega) (EX.of e_int) (fun _ _ h => h.2) fun x S3 O3 O4 e3 hx h3 _ => ⟨_, rfl, h3, ⟨?_, ?_⟩, fun z hz' => ?_⟩
        · rw [List.length_append]; simp
        · rw [List.length_append]; simp only [List.length_cons, List.length_nil]; omega
        · rcases List.mem_append.mp hz' with h | h
          · exact hz z h
          · rw [List.mem_singleton.mp h, hx.1]; decide
      · obtain ⟨h0, hO2⟩ := hA
        subst hO2
        have h0 := of_decide_eq_false h0.symm
        exact ⟨xs, rfl, hf.mono e2, ⟨by omega, by omega⟩, hz⟩
    · intro σ' S2 O2 e2 ⟨ys, hs, hf2, h0⟩
      subst hs
      exact fx_knowL (K := K) hf2 fun S3 e3 h3 => fx_sx (sx_ret (e_var rfl h3) fun v S4 e4 h4 => ⟨ys, h4, h0⟩)
abbrev sp__law_next (K : PySem.W.Frag) (w : World) : Sp := sspec K (fun m : Int => aCons aI m aNil) (fun m => 0 < m) (fun _ => 1) aI (fun m y => 0 ≤ y ∧ y < m)
theorem sc__law_next : FnScope ["state", "many", "turn"] ["state", "many"] (defScope (top 45)) := ⟨rfl, rfl, rfl, by decide +kernel, rfl, by decide +kernel, by decide +kernel⟩
theorem ok__law_next (T : Tx mg) (F : At K mg "_law_next" (top 45) ["state", "many"]) : Callable P w K mg base "_law_next" ["state", "many"] (sp__law_next K w) 1 := by
  refine F.state sc__law_next (fun a vs S h => congrArg (· + 1) (len1 h)) fun f cdv A outer s H0 E hr => ⟨_, (pss_cons (ps_asg (pe_op op_add (pe_ix (r := rIxL K) ix_list (pv 0) pe_int (fun _ _ => rfl)) pe_int) (pg_sub (pv 0) pe_int set_list)) (pss_cons (ps_set (i := 2) sc__law_next.nd rfl (Or.inl rfl) (pe_op op_fdiv (pe_ix (r := rIxL K) ix_list (pv 0) pe_int (fun _ _ => rfl)) (pe_callB (r := rLenSeq K) call_len_seq (by rfl) T.n_len (by decide +kernel) (pa_cons (pe_ix (r := rIxL K) ix_list (pv 0) pe_int (fun _ _ => rfl)) pa_nil)))) (pss_one (ps_ret (pe_op op_mod (pe_callTy call_int1 (by rfl) T.n_int (by decide +kernel) (pa_cons (pe_op op_add (pe_op op_add (pe_ix (r := rIxL K) ix_list (pe_ix (r := rIxL K) ix_list (pv 0) pe_int (fun _ _ => rfl)) (pe_op op_mod (pe_ix (r := rIxL K) ix_list (pv 0) pe_int (fun _ _ => rfl)) (pe_callB (r := rLenSeq K) call_len_seq (by rfl) T.n_len (by decide +kernel) (pa_cons (pe_ix (r := rIxL K) ix_list (pv 0) pe_int (fun _ _ => rfl)) pa_nil))) (fun _ _ => rfl)) (pe_op op_mul (pv 2) pe_int)) (pe_op op_mul (pe_op op_mul (pe_ix (r := rIxL K) ix_list (pv 0) pe_int (fun _ _ => rfl)) (pv 2)) pe_int)) pa_nil)) (pv 1)))))), ?_⟩
  intro many ws S O p pn ns n h1 hp hN hK hn
  obtain ⟨v_many, hv, h_many⟩ := arg1 h1
  subst hv
  obtain ⟨k, hO, hk0, hk1⟩ := hK
  have hOp : O p = some (.lst [.ref pn, .int k]) := by rw [hO]; exact if_pos rfl
  refine qf_lput (z := k + 1) rfl hO (EX.int fun hd => (e_add (e_l1 (x := ((ns, k))) (e_var rfl (law_rd hd hN hOp))) e_int)) fun S2 O2 e2 hO2 => ?_
  have hN := hN.mono e2
  have h_many := aI.mono e2 h_many
  have hOp2 : O2 p = some (.lst [.ref pn, .int (k + 1)]) := by rw [hO2]; exact if_pos rfl
  have hl := hN.2.1
  refine qf_set (EX.int fun hd => (e_fdiv (e_l1 (x := ((ns, k + 1))) (e_var rfl (law_rd hd hN hOp2))) (e_lenL (e_l0 (x := ((ns, k + 1))) (e_var rfl (law_rd hd hN hOp2)))) (by exact ⟨by show (0 : Int) < (ns.length : Int); omega, by show (ns.length : Int) < 1073741824; omega⟩))) fun a v S3 O3 e3 hv hA => ?_
  obtain ⟨ha, hO3⟩ := hA
  subst ha; subst hO3
  have hN := hN.mono e3
  have hv : v = .int _ := hv
  subst hv
  have hm : aI.r many v_many (uni S3 O3) := aI.mono uni_l (aI.mono e3 h_many)
  refine fx_ret (EX.int fun hd => (e_mod (e_intI (e_add (e_add (e_ixLd (d := (0 : Int)) (e_l0 (x := ((ns, k + 1))) (e_var rfl (law_rd hd hN hOp2))) (e_mod (e_l1 (x := ((ns, k + 1))) (e_var rfl (law_rd hd hN hOp2))) (e_lenL (e_l0 (x := ((ns, k + 1))) (e_var rfl (law_rd hd hN hOp2)))) (by show (0 : Int) < (ns.length : Int); omega)) (by exact ix_mod hl.1)) (e_mul (e_var rfl (show aI.r _ _ _ from rfl)) e_int (by exact .inr ⟨by decide, by decide⟩))) (e_mul (e_mul (e_l1 (x := ((ns, k + 1))) (e_var rfl (law_rd hd hN hOp2))) (e_var rfl (show aI.r _ _ _ from rfl)) (by exact .inl ⟨by show -(2 ^ 64) < k + 1; omega, by show k + 1 < 2 ^ 64; omega⟩)) e_int (by exact .inr ⟨by decide, by decide⟩)))) (e_var rfl hm) (by exact hp))) fun a v S4 O4 e4 hv hA => ⟨a, hv, ?_, ?_⟩
  · rw [hA.1]
    exact ⟨Int.emod_nonneg _ (by omega), Int.emod_lt_of_pos _ hp⟩
  · rw [hA.2]
    exact ⟨k + 1, hO2, by omega, by omega⟩
abbrev sp__law_one (K : PySem.W.Frag) (w : World) : Sp := sspec K (fun rows : List Int => aCons (aL K aI) rows aNil) (fun rows => 0 < rows.length) (fun _ => 1) aI (fun rows y => y ∈ rows)
theorem sc__law_one : FnScope ["state", "rows"] ["state", "rows"] (defScope (top 47)) := ⟨rfl, rfl, rfl, by decide +kernel, rfl, by decide +kernel, by decide +kernel⟩
theorem ok__law_one (T : Tx mg) (C__law_next : Callable P w K mg base "_law_next" ["state", "many"] (sp__law_next K w) 1) (F : At K mg "_law_one" (top 47) ["state", "rows"]) : Callable P w K mg base "_law_one" ["state", "rows"] (sp__law_one K w) 2 := by
  refine F.state sc__law_one (fun a vs S h => congrArg (· + 1) (len1 h)) fun f cdv A outer s H0 E hr => ⟨_, (pss_one (ps_ret (pe_ix (r := rIxL K) ix_list (pv 1) (pe_fn C__law_next (hr.mono (by decide)) (by rfl) (pa_cons (pv 0) (pa_cons (pe_callB (r := rLenSeq K) call_len_seq (by rfl) T.n_len (by decide +kernel) (pa_cons (pv 1) pa_nil)) pa_nil))) (fun _ _ => rfl)))), ?_⟩
  intro rows ws S O p pn ns n h1 hp hN hK hn
  obtain ⟨v_rows, hv, h_rows⟩ := arg1 h1
  subst hv
  refine fx_ret (ex_bind (fun t => tOp (rIxL K) t _) (EX.of (e_var rfl h_rows)) fun rows' v S1 O1 e1 hv hA => ex_bind (fun t => tOp (rIxL K) (tC v) t) (ex_callS (c := fun _ => 1) (rows.length : Int) rfl (hN.mono e1) (by rw [hA.2]; exact hK) hn (ea_cons (e_lenL (e_var rfl ((aL K aI).mono e1 h_rows))) ea_nil) (by show (0 : Int) < _; omega)) fun i vi S2 O2 e2 hvi hA2 => (EX.of (e_ixLd (d := 0) (xs := rows) (e_c ((aL K aI).mono e2 (hA.1 ▸ hv))) (e_c (r := aI) hvi) (ix_some ⟨by omega, by omega⟩))).imp (B := fun y O' => y ∈ rows ∧ LawK O' p pn (n + 1)) fun y O' h => ?_) fun a v S4 O4 e4 hv hA => ⟨a, hv, hA.1, hA.2⟩
  rw [h.1, h.2]
  exact ⟨at_mem ⟨by omega, by omega⟩ 0, hA2.1⟩
abbrev sp__law_set (K : PySem.W.Frag) (w : World) : Sp := sspec K (fun x : Int × Int => aCons aI x.1 (aCons aI x.2 aNil)) (fun x => (0 < x.1 ∧ x.1 ≤ 50) ∧ (0 ≤ x.2 ∧ x.2 ≤ 1000)) (fun x => 1 + x.1.toNat) (aT K aI) (fun x y => (1 ≤ y.length ∧ (y.length : Int) ≤ x.1) ∧ (∀ z ∈ y, -x.2 ≤ z ∧ z ≤ x.2) ∧ y.Pairwise (· < ·))
theorem sc__law_set : FnScope ["state", "many", "most", "k"] ["state", "many", "most"] (defScope (top 48)) := ⟨rfl, rfl, rfl, by decide +kernel, rfl, by decide +kernel, by decide +kernel⟩
theorem ok__law_set (T : Tx mg) (C__law_next : Callable P w K mg base "_law_next" ["state", "many"] (sp__law_next K w) 1) (F : At K mg "_law_set" (top 48) ["state", "many", "most"]) : Callable P w K mg base "_law_set" ["state", "many", "most"] (sp__law_set K w) 2 := by
  refine F.state sc__law_set (fun a vs S h => congrArg (· + 1) (len2 h)) fun f cdv A outer s H0 E hr => ⟨_, (pss_one (ps_ret (pe_callTy (r := rTupOf K) call_tuple_of (by rfl) T.n_tuple (by decide +kernel) (pa_cons (pe_callB (r := rSortedSet w) (cr_sortedSet rfl) (by rfl) T.n_sorted (by decide +kernel) (pa_cons (pe_callTy (r := rSetL K w) (cr_setL rfl) (by rfl) T.n_set (by decide +kernel) (pa_cons (pe_lc (own := [("k", 3)]) rfl sc__law_set.nd (pi_range1 (by rfl) T.n_range (pa_cons (pe_op op_add pe_int (pe_fn C__law_next (hr.mono (by decide)) (by rfl) (pa_cons (pv 0) (pa_cons (pv 1) pa_nil)))) pa_nil)) (blkOk_by (N := ["state", "many", "most", "k"]) (sc := defScope (top 48)) (by decide +kernel)) (fun _ _ _ _ _ => (pg_name (i := 3) sc__law_set.nd rfl (Or.inl rfl))) (fun _ _ _ _ _ => pts_nil) (fun _ _ _ _ _ => (pe_op op_sub (pe_fn C__law_next (hr.mono (by decide)) (by rfl) (pa_cons (pv 0) (pa_cons (pe_op op_add (pe_op op_mul pe_int (pv 2)) pe_int) pa_nil))) (pv 2)))) pa_nil)) pa_nil)) pa_nil)))), ?_⟩
  intro x ws S O p pn ns n h1 hp hN hK hn
  obtain ⟨many, most⟩ := x
  obtain ⟨v_many, v_most, hv, h_many, h_most⟩ := arg2 h1
  subst hv
  replace hp : (0 < many ∧ many ≤ 50) ∧ (0 ≤ most ∧ most ≤ 1000) := hp
  replace hn : n + (1 + many.toNat) ≤ 100000 := hn
  have h_many : v_many = .int many := h_many
  subst h_many
  have h_many : aI.r many (.int many) S := rfl
  have h_most : v_most = .int most := h_most
  subst h_most
  have h_most : aI.r most (.int most) S := rfl
  let B := fun (ys : List Int) (O' : Hp) => ((1 ≤ ys.length ∧ (ys.length : Int) ≤ many) ∧ (∀ z ∈ ys, -most ≤ z ∧ z ≤ most)) ∧ LawK O' p pn (n + (1 + many.toNat))
  let B2 := fun (ys : List Int) (O' : Hp) => ((1 ≤ ys.length ∧ (ys.length : Int) ≤ many) ∧ (∀ z ∈ ys, -most ≤ z ∧ z ≤ most) ∧ ys.Pairwise (· < ·)) ∧ LawK O' p pn (n + (1 + many.toNat))
  refine fx_ret (A := B2) ?_ fun a v S5 O5 e5 hv hA5 => ⟨a, hv, hA5.1, hA5.2⟩
  refine ex_bind (r := aL K aI) (A := B2) (fun t => tCB (rTupOf K) (tCons t tNil)) ?_ fun bs v S4 O4 e4 hv hA4 => (EX.of (e_tupleL (K := K) (e_c hv))).imp fun ys O' h => by rw [h.1, h.2]; exact hA4
  refine ex_bind (r := aS w) (A := B) (fun t => tCB (rSortedSet w) (tCons t tNil)) ?_ fun bs v S3 O3 e3 hv hA3 => (EX.of (e_sortedS (e_c hv) (by have h1 := asSet_le bs; have h2 := hA3.1.1.2; omega))).imp fun ys O' h => ?_
  · refine ex_bind (r := aL K aI) (A := B) (fun t => tCB (rSetL K w) (tCons t tNil)) ?_ fun bs v S2 O2 e2 hv hA2 => (EX.of (e_setL (e_c hv) (by have h2 := hA2.1.1.2; omega))).imp fun ys O' h => by rw [h.1, h.2]; exact hA2
    refine ex_bind (r := aI) (A := fun y O' => LawK O' p pn (n + 1) ∧ (0 ≤ y ∧ y < many)) (fun t => tLc (iRng1 (tCons (tOp _ (tC (.int 1)) t) tNil)) _ _ _ _) (ex_callS (c := fun _ => 1) many rfl hN hK (by omega) (ea_cons (e_var rfl h_many) ea_nil) hp.1.1) fun j vj S1 O1 e1 hj hA1 => ?_
    refine (ex_lc (rg 0 (1 + j)) (fun i O' => LawK O' p pn (n + 1 + i)) (fun z => -most ≤ z ∧ z ≤ most) (i_rng1 (e_add e_int (e_c (r := aI) hj)) ⟨by omega, by omega⟩) tg_n (by rw [rg_len]; omega) (fun a σ1 S1 hb => by obtain ⟨v_k, h_k, hx⟩ := hb; subst hx; rfl) hA1.1 fun i a σ2 S2 O2 hia e2 hK2 hb => ?_).imp fun ys O' h => ?_
    · obtain ⟨v_k, h_k, hx⟩ := hb
      subst hx
      have hi := (rg_get hia).1
      refine ex_bind (fun t => tOp _ t _) (ex_callS (c := fun _ => 1) (2 * most + 1) rfl ((hN.mono e1).mono e2) hK2 (by omega) (ea_cons (e_add (e_mul e_int (e_var rfl (show aI.r most (.int most) S2 from rfl)) (.inl ⟨by decide, by decide⟩)) e_int) ea_nil) (by show 0 < 2 * most + 1; omega)) fun y vy S3 O3 e3 hy hA3 => (EX.of (e_sub (e_c (r := aI) hy) (e_var rfl (show aI.r most (.int most) S3 from rfl)))).imp fun b O' h => ?_
      rw [h.1, h.2]
      exact ⟨hA3.1, by have := hA3.2; omega⟩
    · have hl := h.2.1
      rw [rg_len] at hl
      refine ⟨⟨by omega, h.2.2⟩, h.1.le ?_⟩
      rw [rg_len]; omega
  · rw [h.1, h.2]
    obtain ⟨⟨h2, h3⟩, h4⟩ := hA3
    refine ⟨⟨⟨?_, ?_⟩, fun z hz => h3 z (mem_asSet.mp hz), asSet_pw _⟩, h4⟩
    · match bs, h2.1 with
      | x :: r, _ => exact List.length_pos_of_mem (mem_asSet.mpr (List.mem_cons_self))
    · have := asSet_le bs
      omega
end
end S64

namespace S64
open PySem PySem.Spec PyProof.Rows L2 EL RZ M
open Evl (Ex)
def m_raised (b m : Int) : Int := b ^ m.toNat
theorem pre_scl {A : List Int} {m : Nat} {b f s t : Int} (h : Sml A m b) (hf : f ≠ 0) (hf3 : -3 ≤ f ∧ f ≤ 3) (hs : -t ≤ s ∧ s ≤ t) (hm : m ≤ 40 := by decide) (hb : b ≤ 500 := by decide) (hbt : 3 * b + t ≤ 500 := by decide) : pre_scaled (A, f, s) := ⟨h.ok hm hb, hf, ⟨by omega, by omega⟩, h.sclpre hf3 hs hbt⟩
theorem pre_sum {A B : List Int} {m n : Nat} {b c : Int} (h : Sml A m b) (h' : Sml B n c) (hm : m ≤ 40 := by decide) (hn : n ≤ 40 := by decide) (hmn : m * n < 64 := by decide) (hb : b ≤ 500 := by decide) (hc : c ≤ 500 := by decide) : pre_sums (A, B) := ⟨h.ok hm hb, h'.ok hn hc, Nat.lt_of_le_of_lt (h.sum h').le hmn⟩
theorem pre_dif {A B : List Int} {m n : Nat} {b c : Int} (h : Sml A m b) (h' : Sml B n c) (hm : m ≤ 40 := by decide) (hn : n ≤ 40 := by decide) (hmn : m * n < 64 := by decide) (hb : b ≤ 500 := by decide) (hc : c ≤ 500 := by decide) : pre_differences (A, B) := ⟨h.ok hm hb, h'.ok hn hc, Nat.lt_of_le_of_lt (h.dif h').le hmn⟩
theorem pre_en {A : List Int} {m : Nat} {b : Int} (h : Sml A m b) (hm : m ≤ 40 := by decide) (hb : b ≤ 500 := by decide) : pre_energy A := ⟨h.ok hm hb, en_vals (Nat.le_trans h.le hm)⟩
theorem gaps_le {A : List Int} {m : Nat} {b : Int} (h : Sml A m b) (hm : m ≤ 40 := by decide) : (m_gaps A).length ≤ 100000 := by
  have h1 : (m_gaps A).length = (gapL A).length := (sorted_perm _).length_eq
  have h2 : (gapL A).length < 4000 := prs_len2 (Nat.le_trans h.le hm)
  omega
theorem pre_w5 {A : List Int} {b t : Int} (h : Sml A 5 b) (hb : b ≤ 500 := by decide) : pre_ways (A, 2, t) := ⟨h.ok (by decide) hb, ⟨by decide, by decide⟩, fun i hi => ways_len5 h.le i (by omega)⟩
theorem ways_mul {A : List Int} {b : Int} (h : Sml A 5 b) (t : Int) {j : Int} : CMul (m_ways A 2 t) j := by
  have h1 := rp_le A t
  have h2 := Nat.mul_le_mul h.le h.le
  rw [ways2]
  exact .inl ⟨by omega, by omega⟩
theorem sums_le {A B : List Int} {m n : Nat} {b c : Int} (h : Sml A m b) (h' : Sml B n c) (hmn : m * n ≤ 100000 := by decide) : (m_sums A B).length ≤ 100000 := Nat.le_trans (h.sum h').le hmn
theorem unls_le {A : List Int} {m : Nat} {b : Int} (h : Sml A m b) (hm : m ≤ 40 := by decide) : (m_unlike_sums A).length ≤ 100000 := by
  have h1 : (unlS A).length ≤ (prs A fun h l => h + l).length := asSet_le _
  have h2 := prs_len2 (f := fun h l : Int => h + l) (Nat.le_trans h.le hm)
  show (unlS A).length ≤ 100000
  omega
theorem parts_le {A : List Int} {b : Int} (h : Sml A 5 b) : (m_part_sums A).length ≤ 100000 := by
  have h2 := (pt_ok h.le).2
  show (asSet _).length ≤ 100000
  omega
theorem least_le {A B : List Int} {m n : Nat} {b c : Int} (h : Sml A m b) (h' : Sml B n c) : ¬ m_plain_sums A B < m_plain_least A B := by
  have := sum_least h'.asc h'.ne h.asc h.ne
  show ¬ (((sumS A B).length : Int) < ((A.length : Int) + (B.length : Int)) - 1)
  omega
theorem and3 {a b c : Bool} (h1 : a = true) (h2 : b = true) (h3 : c = true) : (a && (b && c)) = true := by rw [h1, h2, h3]; rfl
theorem pre_fold {A : List Int} {b : Int} (h : Sml A 3 b) (n : Nat) (hn : n ≤ 5) (hb : b ≤ 500 := by decide) : pre_folded (A, (n : Int)) := ⟨h.ok (by decide) hb, ⟨by omega, by omega⟩, fun i hi => by
  have h1 := fold_len h.ne h.le i
  have h2 : i + 1 ≤ 6 := by omega
  have h3 := Nat.mul_le_mul h2 h2
  omega⟩
theorem folded_eq (A : List Int) (n : Nat) : m_folded A (n : Int) = foldN A n := by unfold m_folded; rw [Int.toNat_natCast]
theorem folded_eq1 (A : List Int) (n : Nat) : m_folded A ((n : Int) + 1) = foldN A (n + 1) := folded_eq A (n + 1)
theorem pre_sumF {A : List Int} (h : Sml A 3 12) (n : Nat) (hn : n ≤ 4) : pre_sums (m_folded A (n : Int), A) := by
  rw [folded_eq]
  have hF := h.fold n
  have h1 : n + 1 ≤ 5 := by omega
  have h2 := Nat.mul_le_mul h1 h1
  have h3 := fold_len h.ne h.le (n + 1)
  have h4 : n + 1 + 1 ≤ 6 := by omega
  have h5 := Nat.mul_le_mul h4 h4
  exact ⟨hF.ok (by omega) (by omega), h.ok, by show (foldN A (n + 1)).length < 64; omega⟩
theorem pre_w3 {A : List Int} {b : Int} (h : Sml A 3 b) (n : Nat) (t : Int) (hn : n ≤ 5) (hb : b ≤ 500 := by decide) : pre_ways (A, (n : Int), t) := ⟨h.ok (by decide) hb, ⟨by omega, by omega⟩, fun i hi => ways_len3 h.le i (by omega)⟩
theorem foldl_le {A : List Int} {b : Int} (h : Sml A 3 b) (n : Nat) (hn : n ≤ 5) : (m_folded A (n : Int)).length ≤ 100000 := by
  rw [folded_eq]
  have h1 := fold_len h.ne h.le n
  have h2 : n + 1 ≤ 6 := by omega
  have h3 := Nat.mul_le_mul h2 h2
  omega
theorem folded_next (A : List Int) (n : Nat) : m_folded A ((n : Int) + 1) = m_sums (m_folded A (n : Int)) A := by rw [folded_eq1, folded_eq]; rfl
theorem folded_one {A : List Int} (h : Asc A) : m_folded A 1 = A := fold_1 h
theorem fold_ways (A : List Int) (n : Nat) : ((m_folded A (n : Int)).map fun x => m_ways A (n : Int) x).sum = m_raised (A.length : Int) (n : Int) := by
  rw [folded_eq]
  unfold m_raised
  rw [Int.toNat_natCast]
  exact ways_sum A n
theorem fold_pos (A : List Int) (n : Nat) : ((m_folded A (n : Int)).map fun x => decide (m_ways A (n : Int) x = 0)).any id = false := by
  rw [List.any_map, List.any_eq_false, folded_eq]
  intro x hx
  have := ways_pos A n hx
  show ¬ decide _ = true
  rw [decide_eq_true_eq]; exact this
section
variable {P : Program} {w : World} {K : PySem.W.Frag} {mg : Str → Option Value} {base : Heap}
def pre__law_raised (x : Int × Int) : Prop := match x with | (b, many) => (0 ≤ many ∧ many ≤ 100) ∧ (-1000 ≤ b ∧ b ≤ 1000)
abbrev sp__law_raised (K : PySem.W.Frag) (w : World) : Sp := spec (fun x : Int × Int => (aCons aI x.1 (aCons aI x.2 aNil))) pre__law_raised aI (fun x : Int × Int => m_raised x.1 x.2)
theorem sc__law_raised : FnScope ["base", "many", "found", "k"] ["base", "many"] (defScope (top 49)) := ⟨rfl, rfl, rfl, by decide +kernel, rfl, by decide +kernel, by decide +kernel⟩
theorem ok__law_raised (T : Tx mg) (F : At K mg "_law_raised" (top 49) ["base", "many"]) : Callable P w K mg base "_law_raised" ["base", "many"] (sp__law_raised K w) 1 := by
  refine F.pure sc__law_raised (fun a vs S h => len2 h) fun f cdv A outer s H0 E hr => ⟨_, (pss_cons (ps_set (i := 2) sc__law_raised.nd rfl (Or.inl rfl) pe_int) (pss_cons (ps_for PassesOwn.never rfl (pi_range1 (by rfl) T.n_range (pa_cons (pv 1) pa_nil)) (pg_name (i := 3) sc__law_raised.nd rfl (Or.inl rfl)) (pss_one (ps_set (i := 2) sc__law_raised.nd rfl (Or.inl rfl) (pe_op op_mul (pv 2) (pv 0))))) (pss_one (ps_ret (pv 2))))), fun x vs S hvs hp => ?_⟩
  obtain ⟨b, many⟩ := x
  obtain ⟨v_base, v_many, hv, h_base, h_many⟩ := arg2 hvs
  subst hv
  replace hp : (0 ≤ many ∧ many ≤ 100) ∧ (-1000 ≤ b ∧ b ≤ 1000) := hp
  refine sq_set e_int fun v_found S1 e1 h_found => ?_
  have h_base := aI.mono e1 h_base
  have h_many := aI.mono e1 h_many
  refine sq_for (rg 0 many) (i_rng1 (e_var rfl h_many) (by exact ⟨by omega, by omega⟩)) tg_n (fun i σ' S' => ∃ vf tg, σ' = [some v_base, some v_many, some vf, tg] ∧ aI.r (b ^ i) vf S') (fun i σ' S2 S3 e ⟨vf, tg, h1, h2⟩ => ⟨vf, tg, h1, aI.mono e h2⟩) (fun S' e => ⟨v_found, none, rfl, by rw [Int.pow_zero]; exact aI.mono e h_found⟩) ?_ ?_
  · intro i a σ1 σ2 S' hia e ⟨vf, tg, hs, hf⟩ hb
    subst hs
    obtain ⟨v_k, h_k, hx⟩ := hb
    subst hx
    have h_base := aI.mono e h_base
    exact sx_asg (e_mul (e_var rfl hf) (e_var rfl h_base) (by exact .inr ⟨by omega, by omega⟩)) tg_n fun σ3 S3 e3 ⟨v, h, hs⟩ => ⟨v, some v_k, hs, by rw [Int.pow_succ]; exact h⟩
  · intro σ' S' e ⟨vf, tg, hs, hf⟩
    subst hs
    rw [rg_len, Int.sub_zero] at hf
    exact sx_return (e_var rfl hf)
abbrev sp__law_moved_fit (K : PySem.W.Frag) (w : World) : Sp := sspec K (fun x : List Int × List Int => aCons (aT K aI) x.1 (aCons (aT K aI) x.2 aNil)) (fun x => Sml x.1 5 25 ∧ Sml x.2 6 25) (fun _ => 4) aB (fun _ y => y = true)
theorem sc__law_moved_fit : FnScope ["state", "one", "two", "factor", "first", "second", "left", "right", "own", "flat"] ["state", "one", "two"] (defScope (top 50)) := ⟨rfl, rfl, rfl, by decide +kernel, rfl, by decide +kernel, by decide +kernel⟩
theorem ok__law_moved_fit (T : Tx mg) (C__law_next : Callable P w K mg base "_law_next" ["state", "many"] (sp__law_next K w) 1) (C__law_one : Callable P w K mg base "_law_one" ["state", "rows"] (sp__law_one K w) 2) (C_differences : Callable P w K mg base "differences" ["one", "other"] (sp_differences K w) 2) (C_energy : Callable P w K mg base "energy" ["members"] (sp_energy K w) 2) (C_gaps : Callable P w K mg base "gaps" ["members"] (sp_gaps K w) 2) (C_is_free : Callable P w K mg base "is_free" ["members"] (sp_is_free K w) 2) (C_is_perfect : Callable P w K mg base "is_perfect" ["members"] (sp_is_perfect K w) 4) (C_is_unlike : Callable P w K mg base "is_unlike" ["members"] (sp_is_unlike K w) 2) (C_is_unlike_free : Callable P w K mg base "is_unlike_free" ["members"] (sp_is_unlike_free K w) 2) (C_measures_all : Callable P w K mg base "measures_all" ["marks"] (sp_measures_all K w) 2) (C_normal : Callable P w K mg base "normal" ["members"] (sp_normal K w) 2) (C_scaled : Callable P w K mg base "scaled" ["members", "factor", "shift"] (sp_scaled K w) 2) (C_sums : Callable P w K mg base "sums" ["one", "other"] (sp_sums K w) 2) (F : At K mg "_law_moved_fit" (top 50) ["state", "one", "two"]) : Callable P w K mg base "_law_moved_fit" ["state", "one", "two"] (sp__law_moved_fit K w) 5 := by
  refine F.state sc__law_moved_fit (fun a vs S h => congrArg (· + 1) (len2 h)) fun f cdv A outer s H0 E hr => ⟨_, (pss_cons (ps_asg (pe_tup (pa_cons (pe_fn C__law_one (hr.mono (by decide)) (by rfl) (pa_cons (pv 0) (pa_cons (pe_lst (pa_cons pe_int (pa_cons (pe_un un_neg pe_int) (pa_cons pe_int (pa_cons (pe_un un_neg pe_int) (pa_cons pe_int (pa_cons (pe_un un_neg pe_int) pa_nil))))))) pa_nil))) (pa_cons (pe_op op_sub (pe_fn C__law_next (hr.mono (by decide)) (by rfl) (pa_cons (pv 0) (pa_cons pe_int pa_nil))) pe_int) (pa_cons (pe_op op_sub (pe_fn C__law_next (hr.mono (by decide)) (by rfl) (pa_cons (pv 0) (pa_cons pe_int pa_nil))) pe_int) pa_nil)))) (pg_tupK (K := K) (n := 3) rfl rfl (pgs_cons (pg_name (i := 3) sc__law_moved_fit.nd rfl (Or.inr rfl)) (pgs_cons (pg_name (i := 4) sc__law_moved_fit.nd rfl (Or.inl rfl)) (pgs_cons (pg_name (i := 5) sc__law_moved_fit.nd rfl (Or.inl rfl)) pgs_nil))))) (pss_cons (ps_par (i := 6) (j := 7) rfl sc__law_moved_fit.nd rfl rfl (by decide) rfl rfl (pa_cons (pe_fn C_scaled (hr.mono (by decide)) (by rfl) (pa_cons (pv 1) (pa_cons (pv 3) (pa_cons (pv 4) pa_nil)))) (pa_cons (pe_fn C_scaled (hr.mono (by decide)) (by rfl) (pa_cons (pv 2) (pa_cons (pv 3) (pa_cons (pv 5) pa_nil)))) pa_nil)) rfl) (pss_cons (ps_if ((pw_or (pt_cmpR (r := rNeD K) (op_neD hr.units) (pe_fn C_sums (hr.mono (by decide)) (by rfl) (pa_cons (pv 6) (pa_cons (pv 7) pa_nil))) (pe_fn C_scaled (hr.mono (by decide)) (by rfl) (pa_cons (pe_fn C_sums (hr.mono (by decide)) (by rfl) (pa_cons (pv 1) (pa_cons (pv 2) pa_nil))) (pa_cons (pv 3) (pa_cons (pe_op op_add (pv 4) (pv 5)) pa_nil)))) (nomark _)) (pw_or1 (pt_cmpR (r := rNeD K) (op_neD hr.units) (pe_fn C_differences (hr.mono (by decide)) (by rfl) (pa_cons (pv 6) (pa_cons (pv 7) pa_nil))) (pe_fn C_scaled (hr.mono (by decide)) (by rfl) (pa_cons (pe_fn C_differences (hr.mono (by decide)) (by rfl) (pa_cons (pv 1) (pa_cons (pv 2) pa_nil))) (pa_cons (pv 3) (pa_cons (pe_op op_sub (pv 4) (pv 5)) pa_nil)))) (nomark _))))).pt (pss_one (ps_ret pe_bl)) pss_nil) (pss_cons (ps_if ((pw_or (pt_cmpR (r := rNeD K) (op_neD hr.units) (pe_fn C_sums (hr.mono (by decide)) (by rfl) (pa_cons (pv 1) (pa_cons (pv 2) pa_nil))) (pe_fn C_sums (hr.mono (by decide)) (by rfl) (pa_cons (pv 2) (pa_cons (pv 1) pa_nil))) (nomark _)) (pw_or (pt_cmpR (r := rNeD K) (op_neD hr.units) (pe_fn C_differences (hr.mono (by decide)) (by rfl) (pa_cons (pv 2) (pa_cons (pv 1) pa_nil))) (pe_fn C_scaled (hr.mono (by decide)) (by rfl) (pa_cons (pe_fn C_differences (hr.mono (by decide)) (by rfl) (pa_cons (pv 1) (pa_cons (pv 2) pa_nil))) (pa_cons (pe_un un_neg pe_int) (pa_cons pe_int pa_nil)))) (nomark _)) (pw_or1 (pt_cmpR op_ne (pe_fn C_energy (hr.mono (by decide)) (by rfl) (pa_cons (pv 6) pa_nil)) (pe_fn C_energy (hr.mono (by decide)) (by rfl) (pa_cons (pv 1) pa_nil)) (nomark _)))))).pt (pss_one (ps_ret pe_bl)) pss_nil) (pss_cons (ps_if ((pw_or (pt_cmpR op_ne (pe_fn C_is_unlike (hr.mono (by decide)) (by rfl) (pa_cons (pv 6) pa_nil)) (pe_fn C_is_unlike (hr.mono (by decide)) (by rfl) (pa_cons (pv 1) pa_nil)) (nomark _)) (pw_or (pt_cmpR (r := rNeD K) (op_neD hr.units) (pe_lc (own := [("own", 8)]) rfl sc__law_moved_fit.nd (pi_listK (K := K) rfl (pe_fn C_gaps (hr.mono (by decide)) (by rfl) (pa_cons (pv 1) pa_nil))) (blkOk_by (N := ["state", "one", "two", "factor", "first", "second", "left", "right", "own", "flat"]) (sc := defScope (top 50)) (by decide +kernel)) (fun _ _ _ _ _ => (pg_name (i := 8) sc__law_moved_fit.nd rfl (Or.inl rfl))) (fun _ _ _ _ _ => pts_nil) (fun _ _ _ _ _ => (pe_op op_mul (pe_callB call_abs (by rfl) T.n_abs (by decide +kernel) (pa_cons (pv 3) pa_nil)) (pv 8)))) (pe_callTy (r := rLstOf K) call_list_of (by rfl) T.n_list (by decide +kernel) (pa_cons (pe_fn C_gaps (hr.mono (by decide)) (by rfl) (pa_cons (pv 6) pa_nil)) pa_nil)) (nomark _)) (pw_or1 (pt_cmpR op_ne (pe_fn C_is_free (hr.mono (by decide)) (by rfl) (pa_cons (pe_fn C_scaled (hr.mono (by decide)) (by rfl) (pa_cons (pv 1) (pa_cons (pv 3) (pa_cons pe_int pa_nil)))) pa_nil)) (pe_fn C_is_free (hr.mono (by decide)) (by rfl) (pa_cons (pv 1) pa_nil)) (nomark _)))))).pt (pss_one (ps_ret pe_bl)) pss_nil) (pss_cons (ps_set (i := 9) sc__law_moved_fit.nd rfl (Or.inl rfl) (pe_fn C_scaled (hr.mono (by decide)) (by rfl) (pa_cons (pv 1) (pa_cons (pe_fn C__law_one (hr.mono (by decide)) (by rfl) (pa_cons (pv 0) (pa_cons (pe_lst (pa_cons pe_int (pa_cons (pe_un un_neg pe_int) pa_nil))) pa_nil))) (pa_cons (pv 4) pa_nil))))) (pss_cons (ps_if ((pw_or (pt_cmpR op_ne (pe_fn C_measures_all (hr.mono (by decide)) (by rfl) (pa_cons (pv 9) pa_nil)) (pe_fn C_measures_all (hr.mono (by decide)) (by rfl) (pa_cons (pv 1) pa_nil)) (nomark _)) (pw_or (pt_cmpR op_ne (pe_fn C_is_perfect (hr.mono (by decide)) (by rfl) (pa_cons (pv 9) pa_nil)) (pe_fn C_is_perfect (hr.mono (by decide)) (by rfl) (pa_cons (pv 1) pa_nil)) (nomark _)) (pw_or1 (pt_cmpR op_ne (pe_fn C_is_unlike_free (hr.mono (by decide)) (by rfl) (pa_cons (pe_fn C_scaled (hr.mono (by decide)) (by rfl) (pa_cons (pv 1) (pa_cons (pv 3) (pa_cons pe_int pa_nil)))) pa_nil)) (pe_fn C_is_unlike_free (hr.mono (by decide)) (by rfl) (pa_cons (pv 1) pa_nil)) (nomark _)))))).pt (pss_one (ps_ret pe_bl)) pss_nil) (pss_one (ps_ret (pe_or (pe_cmpR op_lt (pv 3) pe_int (nomark _)) (pe_one (pe_cmpR (r := rEqD K) (op_eqD hr.units) (pe_fn C_normal (hr.mono (by decide)) (by rfl) (pa_cons (pv 6) pa_nil)) (pe_fn C_normal (hr.mono (by decide)) (by rfl) (pa_cons (pv 1) pa_nil)) (nomark _))))))))))))), ?_⟩
  intro x ws S O p pn ns n ha hp hN hK hn
  obtain ⟨one, two⟩ := x
  obtain ⟨v_one, v_two, hv, h_one, h_two⟩ := arg2 ha
  subst hv
  obtain ⟨h1, h2⟩ : Sml one 5 25 ∧ Sml two 6 25 := hp
  replace hn : n + 4 ≤ 100000 := hn
  refine fx_bind (r := aI) (A := fun y O' => y ∈ [1, -1, 2, -2, 3, -3] ∧ LawK O' p pn (n + 1)) (fun t => tSeq (tAsg (tTup (tCons t _)) _) _) ((ex_callS (c := fun _ => 1) [1, -1, 2, -2, 3, -3] rfl hN hK (by omega) (ea_cons (e_lst (is := [(1 : Int), (-(1 : Int)), (2 : Int), (-(2 : Int)), (3 : Int), (-(3 : Int))]) (ea_cons e_int (ea_cons (e_neg e_int) (ea_cons e_int (ea_cons (e_neg e_int) (ea_cons e_int (ea_cons (e_neg e_int) ea_nil)))))) (by decide)) ea_nil) (by decide)).imp fun y O' h => ⟨h.2, h.1⟩) fun factor v_factor S1 O1 e1 h_factor hA1 => ?_
  have hN := hN.mono e1
  refine fx_bind (r := aI) (A := fun y O' => (-20 ≤ y ∧ y ≤ 20) ∧ LawK O' p pn (n + 2)) (fun t => tSeq (tAsg (tTup (tCons (tC v_factor) (tCons t _))) _) _) (ex_bind (fun t => tOp _ t _) (ex_callS (c := fun _ => 1) 41 rfl hN hA1.2 (by omega) (ea_cons e_int ea_nil) (by decide)) fun y vy S3 O3 e3 hy hA3 => (EX.of (e_sub (e_c (r := aI) hy) e_int)).imp fun z O' h => by
    rw [h.1, h.2]
    exact ⟨by have := hA3.2; omega, hA3.1⟩) fun first v_first S2 O2 e2 h_first hA2 => ?_
  have hN := hN.mono e2
  refine fx_bind (r := aI) (A := fun y O' => (-20 ≤ y ∧ y ≤ 20) ∧ LawK O' p pn (n + 3)) (fun t => tSeq (tAsg (tTup (tCons (tC v_factor) (tCons (tC v_first) (tCons t _)))) _) _) (ex_bind (fun t => tOp _ t _) (ex_callS (c := fun _ => 1) 41 rfl hN hA2.2 (by omega) (ea_cons e_int ea_nil) (by decide)) fun y vy S3 O3 e3 hy hA3 => (EX.of (e_sub (e_c (r := aI) hy) e_int)).imp fun z O' h => by
    rw [h.1, h.2]
    exact ⟨by have := hA3.2; omega, hA3.1⟩) fun second v_second S3 O3 e3 h_second hA3 => qf_tup3 ?_
  have hN := hN.mono e3
  have h_one := (aT K aI).mono ((e1.trans e2).trans e3) h_one
  have h_two := (aT K aI).mono ((e1.trans e2).trans e3) h_two
  have h_factor := aI.mono (e2.trans e3) h_factor
  have h_first := aI.mono e3 h_first
  have hf : factor ≠ 0 := by have := hA1.1; simp only [List.mem_cons, List.not_mem_nil, or_false] at this; omega
  have hf3 : -3 ≤ factor ∧ factor ≤ 3 := by have := hA1.1; simp only [List.mem_cons, List.not_mem_nil, or_false] at this; omega
  have hs1 : -20 ≤ first ∧ first ≤ 20 := hA2.1
  have hs2 : -20 ≤ second ∧ second ≤ 20 := hA3.1
  have hs12 : -40 ≤ first + second ∧ first + second ≤ 40 := by omega
  have hd12 : -40 ≤ first - second ∧ first - second ≤ 40 := by omega
  have h00 : -(0 : Int) ≤ (0 : Int) ∧ (0 : Int) ≤ 0 := by decide
  have hK := hA3.2
  have hS : Sml (m_sums one two) 30 50 := h1.sum h2
  have hD : Sml (m_differences one two) 30 50 := h1.dif h2
  have hL : Sml (m_scaled one factor first) 5 95 := h1.scl hf hf3 hs1
  have hR : Sml (m_scaled two factor second) 6 95 := h2.scl hf hf3 hs2
  have hF : Sml (m_scaled one factor 0) 5 75 := h1.scl hf hf3 h00
  refine qf_par (ea_cons (e_call (one, (factor), (first)) (ea_cons (e_var rfl h_one) (ea_cons (e_var rfl h_factor) (ea_cons (e_var rfl h_first) ea_nil))) (by first | exact pre_scl h1 hf hf3 hs1 | exact pre_scl h2 hf hf3 hs2 | exact pre_scl hS hf hf3 hs12 | exact pre_scl hD hf hf3 hd12 | exact pre_scl hD (by decide) (by decide) h00 | exact pre_scl h1 hf hf3 h00 | exact pre_scl h1 hu0 hu3 hs1)) (ea_cons (e_call (two, (factor), (second)) (ea_cons (e_var rfl h_two) (ea_cons (e_var rfl h_factor) (ea_cons (e_var rfl h_second) ea_nil))) (by first | exact pre_scl h1 hf hf3 hs1 | exact pre_scl h2 hf hf3 hs2 | exact pre_scl hS hf hf3 hs12 | exact pre_scl hD hf hf3 hd12 | exact pre_scl hD (by decide) (by decide) h00 | exact pre_scl h1 hf hf3 h00 | exact pre_scl h1 hu0 hu3 hs1)) ea_nil)) fun v_left v_right S4 e4 h_left h_right => ?_
  have hN := hN.mono e4
  have h_one := (aT K aI).mono e4 h_one
  have h_two := (aT K aI).mono e4 h_two
  have h_factor := aI.mono e4 h_factor
  have h_first := aI.mono e4 h_first
  have h_second := aI.mono e4 h_second
  refine qf_skipE (ET.eq (et_or (et_test (e_neD (K := K) (enT enI) (by decide) (e_call ((m_scaled one factor first), (m_scaled two factor second)) (ea_cons (e_var rfl h_left) (ea_cons (e_var rfl h_right) ea_nil)) (by first | exact pre_sum hL hR | exact pre_sum h1 h2 | exact pre_sum h2 h1 | exact pre_sum h1 h1)) (e_call ((m_sums one two), (factor), ((first) + (second))) (ea_cons (e_call (one, two) (ea_cons (e_var rfl h_one) (ea_cons (e_var rfl h_two) ea_nil)) (by first | exact pre_sum hL hR | exact pre_sum h1 h2 | exact pre_sum h2 h1 | exact pre_sum h1 h1)) (ea_cons (e_var rfl h_factor) (ea_cons (e_add (e_var rfl h_first) (e_var rfl h_second)) ea_nil))) (by first | exact pre_scl h1 hf hf3 hs1 | exact pre_scl h2 hf hf3 hs2 | exact pre_scl hS hf hf3 hs12 | exact pre_scl hD hf hf3 hd12 | exact pre_scl hD (by decide) (by decide) h00 | exact pre_scl h1 hf hf3 h00 | exact pre_scl h1 hu0 hu3 hs1)))) fun hand => (et_test (e_neD (K := K) (enT enI) (by decide) (e_call ((m_scaled one factor first), (m_scaled two factor second)) (ea_cons (e_var rfl h_left) (ea_cons (e_var rfl h_right) ea_nil)) (by first | exact pre_dif hL hR | exact pre_dif h1 h2 | exact pre_dif h2 h1)) (e_call ((m_differences one two), (factor), ((first) - (second))) (ea_cons (e_call (one, two) (ea_cons (e_var rfl h_one) (ea_cons (e_var rfl h_two) ea_nil)) (by first | exact pre_dif hL hR | exact pre_dif h1 h2 | exact pre_dif h2 h1)) (ea_cons (e_var rfl h_factor) (ea_cons (e_sub (e_var rfl h_first) (e_var rfl h_second)) ea_nil))) (by first | exact pre_scl h1 hf hf3 hs1 | exact pre_scl h2 hf hf3 hs2 | exact pre_scl hS hf hf3 hs12 | exact pre_scl hD hf hf3 hd12 | exact pre_scl hD (by decide) (by decide) h00 | exact pre_scl h1 hf hf3 h00 | exact pre_scl h1 hu0 hu3 hs1))))) (orf (nef (T1 one two factor first second)) (nef (T2 one two factor first second)))) ?_
  refine qf_skipE (ET.eq (et_or (et_test (e_neD (K := K) (enT enI) (by decide) (e_call (one, two) (ea_cons (e_var rfl h_one) (ea_cons (e_var rfl h_two) ea_nil)) (by first | exact pre_sum hL hR | exact pre_sum h1 h2 | exact pre_sum h2 h1 | exact pre_sum h1 h1)) (e_call (two, one) (ea_cons (e_var rfl h_two) (ea_cons (e_var rfl h_one) ea_nil)) (by first | exact pre_sum hL hR | exact pre_sum h1 h2 | exact pre_sum h2 h1 | exact pre_sum h1 h1)))) fun hand => (et_or (et_test (e_neD (K := K) (enT enI) (by decide) (e_call (two, one) (ea_cons (e_var rfl h_two) (ea_cons (e_var rfl h_one) ea_nil)) (by first | exact pre_dif hL hR | exact pre_dif h1 h2 | exact pre_dif h2 h1)) (e_call ((m_differences one two), (-(1 : Int)), (0 : Int)) (ea_cons (e_call (one, two) (ea_cons (e_var rfl h_one) (ea_cons (e_var rfl h_two) ea_nil)) (by first | exact pre_dif hL hR | exact pre_dif h1 h2 | exact pre_dif h2 h1)) (ea_cons (e_neg e_int) (ea_cons e_int ea_nil))) (by first | exact pre_scl h1 hf hf3 hs1 | exact pre_scl h2 hf hf3 hs2 | exact pre_scl hS hf hf3 hs12 | exact pre_scl hD hf hf3 hd12 | exact pre_scl hD (by decide) (by decide) h00 | exact pre_scl h1 hf hf3 h00 | exact pre_scl h1 hu0 hu3 hs1)))) fun hand => (et_test (e_ne (e_call (m_scaled one factor first) (ea_cons (e_var rfl h_left) ea_nil) (by first | exact pre_en hL | exact pre_en h1)) (e_call one (ea_cons (e_var rfl h_one) ea_nil) (by first | exact pre_en hL | exact pre_en h1)))))) (orf (nef (T3 one two)) (orf (nef (T4 one two)) (nef (T5 h1.asc first hf))))) ?_
  refine qf_skipE (ET.eq (et_or (et_test (e_neB (e_call (m_scaled one factor first) (ea_cons (e_var rfl h_left) ea_nil) (by first | exact hL.ok | exact h1.ok)) (e_call one (ea_cons (e_var rfl h_one) ea_nil) (by first | exact hL.ok | exact h1.ok)))) fun hand => (et_or (et_test (e_neD (K := K) (enL enI) (by decide) (e_lc (K := K) (f := fun x2 : Int => ((if (factor) < 0 then -(factor) else (factor)) * x2)) (m_gaps one) (i_list (e_call one (ea_cons (e_var rfl h_one) ea_nil) (by first | exact hL.ok | exact h1.ok))) tg_n (by exact gaps_le h1) (fun a σ1 S1 hb => by obtain ⟨v_own, h_own, hx⟩ := hb; subst hx; rfl) (fun x2 σ1 S1 hm e1 hb => by obtain ⟨v_own, h_own, hx⟩ := hb; subst hx; have h_factor := aI.mono e1 h_factor; exact (e_mul (e_abs (e_var rfl h_factor)) (e_var rfl h_own) (by exact .inl ⟨by split <;> omega, by split <;> omega⟩)))) (e_listL (e_call (m_scaled one factor first) (ea_cons (e_var rfl h_left) ea_nil) (by first | exact hL.ok | exact h1.ok))))) fun hand => (et_test (e_neB (e_call (m_scaled one (factor) (0 : Int)) (ea_cons (e_call (one, (factor), (0 : Int)) (ea_cons (e_var rfl h_one) (ea_cons (e_var rfl h_factor) (ea_cons e_int ea_nil))) (by first | exact pre_scl h1 hf hf3 hs1 | exact pre_scl h2 hf hf3 hs2 | exact pre_scl hS hf hf3 hs12 | exact pre_scl hD hf hf3 hd12 | exact pre_scl hD (by decide) (by decide) h00 | exact pre_scl h1 hf hf3 h00 | exact pre_scl h1 hu0 hu3 hs1)) ea_nil) (by first | exact hF.ok | exact h1.ok)) (e_call one (ea_cons (e_var rfl h_one) ea_nil) (by first | exact hF.ok | exact h1.ok)))))) (orf (neb (T6 h1.asc first hf)) (orf (nef (T7 h1.asc first hf).symm) (neb (T8 hf))))) ?_
  refine fx_bind (fun t => tSeq (tAsg (tCall _ [] _ (tCons t _)) _) _) (EX.of (e_var rfl h_one)) fun one' v S5 O5 e5 hv hA => ?_
  obtain ⟨ho, hO⟩ := hA
  subst ho; subst hO
  refine fx_bind (r := aI) (A := fun y O' => y ∈ [1, -1] ∧ LawK O' p pn (n + 4)) (fun t => tSeq (tAsg (tCall _ [] _ (tCons _ (tCons t _))) _) _) ((ex_callS (c := fun _ => 1) [1, -1] rfl (hN.mono e5) hK (by omega) (ea_cons (e_lst (is := [(1 : Int), (-(1 : Int))]) (ea_cons e_int (ea_cons (e_neg e_int) ea_nil)) (by decide)) ea_nil) (by decide)).imp fun y O' h => ⟨h.2, h.1⟩) fun u v_u S6 O6 e6 h_u hA6 => ?_
  have hu : u = 1 ∨ u = -1 := by have := hA6.1; simp only [List.mem_cons, List.not_mem_nil, or_false] at this; omega
  have hu0 : u ≠ 0 := by omega
  have hu3 : -3 ≤ u ∧ u ≤ 3 := by omega
  have e56 := e5.trans e6
  have h_one := (aT K aI).mono e56 h_one
  have h_factor := aI.mono e56 h_factor
  have h_first := aI.mono e56 h_first
  have h_left := (aT K aI).mono e56 h_left
  have hU : Sml (m_scaled one' u first) 5 95 := h1.scl hu0 hu3 hs1
  refine qf_setE (e_call (one', u, first) (ea_cons (e_c ((aT K aI).mono e6 hv)) (ea_cons (e_c (r := aI) h_u) (ea_cons (e_var rfl h_first) ea_nil))) (by exact pre_scl h1 hu0 hu3 hs1)) fun v_flat S7 e7 h_flat => ?_
  have h_one := (aT K aI).mono e7 h_one
  have h_factor := aI.mono e7 h_factor
  have h_left := (aT K aI).mono e7 h_left
  refine qf_skipE (ET.eq (et_or (et_test (e_neB (e_call (m_scaled one' u first) (ea_cons (e_var rfl h_flat) ea_nil) (by first | exact hU.ok | exact h1.ok)) (e_call (one') (ea_cons (e_var rfl h_one) ea_nil) (by first | exact hU.ok | exact h1.ok)))) fun hand => (et_or (et_test (e_neB (e_call (m_scaled one' u first) (ea_cons (e_var rfl h_flat) ea_nil) (by first | exact hU.ok | exact h1.ok)) (e_call (one') (ea_cons (e_var rfl h_one) ea_nil) (by first | exact hU.ok | exact h1.ok)))) fun hand => (et_test (e_neB (e_call (m_scaled (one') (factor) (0 : Int)) (ea_cons (e_call ((one'), (factor), (0 : Int)) (ea_cons (e_var rfl h_one) (ea_cons (e_var rfl h_factor) (ea_cons e_int ea_nil))) (by first | exact pre_scl h1 hf hf3 hs1 | exact pre_scl h2 hf hf3 hs2 | exact pre_scl hS hf hf3 hs12 | exact pre_scl hD hf hf3 hd12 | exact pre_scl hD (by decide) (by decide) h00 | exact pre_scl h1 hf hf3 h00 | exact pre_scl h1 hu0 hu3 hs1)) ea_nil) (by first | exact hF.ok | exact h1.ok)) (e_call (one') (ea_cons (e_var rfl h_one) ea_nil) (by first | exact hF.ok | exact h1.ok)))))) (orf (neb (T9 h1.asc h1.ne first hu)) (orf (neb (T10 h1.asc h1.ne first hu)) (neb (T11 h1.asc hf))))) ?_
  refine fx_retE (e_or (e_lt (e_var rfl h_factor) e_int) fun hand => (e_eqD (K := K) (enT enI) (by decide) (e_call (m_scaled one' factor first) (ea_cons (e_var rfl h_left) ea_nil) (by first | exact hL.ok | exact h1.ok)) (e_call (one') (ea_cons (e_var rfl h_one) ea_nil) (by first | exact hL.ok | exact h1.ok)))) fun v S8 e8 hv => ⟨true, ?_, rfl, hA6.2⟩
  have ht : (decide (factor < 0) || decide (m_normal (m_scaled one' factor first) = m_normal one')) = true := by
    by_cases hz : factor < 0
    · rw [decide_eq_true hz]; rfl
    · have := T12 h1.asc h1.ne first (show 0 < factor by omega)
      rw [decide_eq_true (show m_normal (m_scaled one' factor first) = m_normal one' from this), Bool.or_true]
  exact ht ▸ hv
abbrev sp__law_counts_fit (K : PySem.W.Frag) (w : World) : Sp := sspec K (fun x : List Int × List Int => aCons (aT K aI) x.1 (aCons (aT K aI) x.2 aNil)) (fun x => Sml x.1 5 25 ∧ Sml x.2 6 25) (fun _ => 0) aB (fun _ y => y = true)
theorem sc__law_counts_fit : FnScope ["state", "one", "two", "many", "own", "every"] ["state", "one", "two"] (defScope (top 51)) := ⟨rfl, rfl, rfl, by decide +kernel, rfl, by decide +kernel, by decide +kernel⟩
theorem ok__law_counts_fit (T : Tx mg) (C__law_raised : Callable P w K mg base "_law_raised" ["base", "many"] (sp__law_raised K w) 1) (C_are_rows_alike : Callable P w K mg base "are_rows_alike" ["one", "other"] (sp_are_rows_alike K w) 3) (C_energy : Callable P w K mg base "energy" ["members"] (sp_energy K w) 2) (C_is_least : Callable P w K mg base "is_least" ["one", "other"] (sp_is_least K w) 3) (C_is_unlike : Callable P w K mg base "is_unlike" ["members"] (sp_is_unlike K w) 2) (C_part_sums : Callable P w K mg base "part_sums" ["members"] (sp_part_sums K w) 2) (C_part_ways : Callable P w K mg base "part_ways" ["members", "total"] (sp_part_ways K w) 2) (C_plain_least : Callable P w K mg base "plain_least" ["one", "other"] (sp_plain_least K w) 2) (C_plain_sums : Callable P w K mg base "plain_sums" ["one", "other"] (sp_plain_sums K w) 2) (C_sums : Callable P w K mg base "sums" ["one", "other"] (sp_sums K w) 2) (C_unlike_sums : Callable P w K mg base "unlike_sums" ["members"] (sp_unlike_sums K w) 2) (C_ways : Callable P w K mg base "ways" ["members", "many", "total"] (sp_ways K w) 2) (F : At K mg "_law_counts_fit" (top 51) ["state", "one", "two"]) : Callable P w K mg base "_law_counts_fit" ["state", "one", "two"] (sp__law_counts_fit K w) 4 := by
  refine F.state sc__law_counts_fit (fun a vs S h => congrArg (· + 1) (len2 h)) fun f cdv A outer s H0 E hr => ⟨_, (pss_cons (ps_set (i := 3) sc__law_counts_fit.nd rfl (Or.inl rfl) (pe_callB (r := rLenSeq K) call_len_seq (by rfl) T.n_len (by decide +kernel) (pa_cons (pv 1) pa_nil))) (pss_cons (ps_if ((pw_or (pt_cmpR op_ne (pe_fn C_is_unlike (hr.mono (by decide)) (by rfl) (pa_cons (pv 1) pa_nil)) (pe_cmpR op_eq (pe_fn C_energy (hr.mono (by decide)) (by rfl) (pa_cons (pv 1) pa_nil)) (pe_op op_sub (pe_op op_mul (pe_op op_mul pe_int (pv 3)) (pv 3)) (pv 3)) (nomark _)) (nomark _)) (pw_or1 (pt_cmpR op_ne (pe_fn C_energy (hr.mono (by decide)) (by rfl) (pa_cons (pv 1) pa_nil)) (pe_callB (r := rSum K) (cr_sum rfl) (by rfl) T.n_sum (by decide +kernel) (pa_cons (pe_lc (own := [("own", 4)]) rfl sc__law_counts_fit.nd (pi_tupK (K := K) rfl (pe_fn C_sums (hr.mono (by decide)) (by rfl) (pa_cons (pv 1) (pa_cons (pv 1) pa_nil)))) (blkOk_by (N := ["state", "one", "two", "many", "own", "every"]) (sc := defScope (top 51)) (by decide +kernel)) (fun _ _ _ _ _ => (pg_name (i := 4) sc__law_counts_fit.nd rfl (Or.inl rfl))) (fun _ _ _ _ _ => pts_nil) (fun _ _ _ _ _ => (pe_op op_mul (pe_fn C_ways (hr.mono (by decide)) (by rfl) (pa_cons (pv 1) (pa_cons pe_int (pa_cons (pv 4) pa_nil)))) (pe_fn C_ways (hr.mono (by decide)) (by rfl) (pa_cons (pv 1) (pa_cons pe_int (pa_cons (pv 4) pa_nil))))))) pa_nil)) (nomark _))))).pt (pss_one (ps_ret pe_bl)) pss_nil) (pss_cons (ps_if ((pw_or (pt_cmpR op_ne (pe_fn C_plain_sums (hr.mono (by decide)) (by rfl) (pa_cons (pv 1) (pa_cons (pv 2) pa_nil))) (pe_callB (r := rLenSeq K) call_len_seq (by rfl) T.n_len (by decide +kernel) (pa_cons (pe_fn C_sums (hr.mono (by decide)) (by rfl) (pa_cons (pv 1) (pa_cons (pv 2) pa_nil))) pa_nil)) (nomark _)) (pw_or (pt_cmpR op_ne (pe_fn C_plain_least (hr.mono (by decide)) (by rfl) (pa_cons (pv 1) (pa_cons (pv 2) pa_nil))) (pe_op op_sub (pe_op op_add (pe_callB (r := rLenSeq K) call_len_seq (by rfl) T.n_len (by decide +kernel) (pa_cons (pv 1) pa_nil)) (pe_callB (r := rLenSeq K) call_len_seq (by rfl) T.n_len (by decide +kernel) (pa_cons (pv 2) pa_nil))) pe_int) (nomark _)) (pw_or1 (pt_cmpR op_lt (pe_fn C_plain_sums (hr.mono (by decide)) (by rfl) (pa_cons (pv 1) (pa_cons (pv 2) pa_nil))) (pe_fn C_plain_least (hr.mono (by decide)) (by rfl) (pa_cons (pv 1) (pa_cons (pv 2) pa_nil))) (nomark _)))))).pt (pss_one (ps_ret pe_bl)) pss_nil) (pss_cons (ps_if ((pw_or (pt_cmpR op_ne (pe_fn C_is_least (hr.mono (by decide)) (by rfl) (pa_cons (pv 1) (pa_cons (pv 2) pa_nil))) (pe_cmpR op_eq (pe_fn C_plain_sums (hr.mono (by decide)) (by rfl) (pa_cons (pv 1) (pa_cons (pv 2) pa_nil))) (pe_fn C_plain_least (hr.mono (by decide)) (by rfl) (pa_cons (pv 1) (pa_cons (pv 2) pa_nil))) (nomark _)) (nomark _)) (pw_or1 (pt_cmpR op_ne (pe_fn C_is_least (hr.mono (by decide)) (by rfl) (pa_cons (pv 1) (pa_cons (pv 2) pa_nil))) (pe_fn C_are_rows_alike (hr.mono (by decide)) (by rfl) (pa_cons (pv 1) (pa_cons (pv 2) pa_nil))) (nomark _))))).pt (pss_one (ps_ret pe_bl)) pss_nil) (pss_cons (ps_if ((pw_and (pt_cmpR op_gt (pv 3) pe_int (nomark _)) (pw_and1 (pt_not (pt_val (pe_callB (r := rAll K) (cr_all rfl) (by rfl) T.n_all (by decide +kernel) (pa_cons (pe_lc (own := [("own", 4)]) rfl sc__law_counts_fit.nd (pi_tupK (K := K) rfl (pe_fn C_unlike_sums (hr.mono (by decide)) (by rfl) (pa_cons (pv 1) pa_nil))) (blkOk_by (N := ["state", "one", "two", "many", "own", "every"]) (sc := defScope (top 51)) (by decide +kernel)) (fun _ _ _ _ _ => (pg_name (i := 4) sc__law_counts_fit.nd rfl (Or.inl rfl))) (fun _ _ _ _ _ => pts_nil) (fun _ _ _ _ _ => (pe_cmpR (r := rIn K false) op_in_seq (pv 4) (pe_fn C_sums (hr.mono (by decide)) (by rfl) (pa_cons (pv 1) (pa_cons (pv 1) pa_nil))) rfl))) pa_nil))))))).pt (pss_one (ps_ret pe_bl)) pss_nil) (pss_cons (ps_set (i := 5) sc__law_counts_fit.nd rfl (Or.inl rfl) (pe_fn C_part_sums (hr.mono (by decide)) (by rfl) (pa_cons (pv 1) pa_nil))) (pss_one (ps_ret (pe_and (pe_cmpR op_eq (pe_callB (r := rSum K) (cr_sum rfl) (by rfl) T.n_sum (by decide +kernel) (pa_cons (pe_lc (own := [("own", 4)]) rfl sc__law_counts_fit.nd (pi_tupK (K := K) rfl (pv 5)) (blkOk_by (N := ["state", "one", "two", "many", "own", "every"]) (sc := defScope (top 51)) (by decide +kernel)) (fun _ _ _ _ _ => (pg_name (i := 4) sc__law_counts_fit.nd rfl (Or.inl rfl))) (fun _ _ _ _ _ => pts_nil) (fun _ _ _ _ _ => (pe_fn C_part_ways (hr.mono (by decide)) (by rfl) (pa_cons (pv 1) (pa_cons (pv 4) pa_nil))))) pa_nil)) (pe_fn C__law_raised (hr.mono (by decide)) (by rfl) (pa_cons pe_int (pa_cons (pv 3) pa_nil))) (nomark _)) (pe_and (pe_cmpR op_ge (pe_fn C_part_ways (hr.mono (by decide)) (by rfl) (pa_cons (pv 1) (pa_cons (pe_callB (r := rSumT K) (cr_sumT rfl) (by rfl) T.n_sum (by decide +kernel) (pa_cons (pv 1) pa_nil)) pa_nil))) pe_int (nomark _)) (pe_one (pe_cmpR op_eq (pe_op op_add (pe_ix (r := rIxT K) ix_tup (pv 5) pe_int (fun _ _ => rfl)) (pe_ix (r := rIxT K) ix_tup (pv 5) (pe_un un_neg pe_int) (fun _ _ => rfl))) (pe_callB (r := rSumT K) (cr_sumT rfl) (by rfl) T.n_sum (by decide +kernel) (pa_cons (pv 1) pa_nil)) (nomark _))))))))))))), ?_⟩
  intro x ws S O p pn ns n ha hp hN hK hn
  obtain ⟨one, two⟩ := x
  obtain ⟨v_one, v_two, hv, h_one, h_two⟩ := arg2 ha
  subst hv
  obtain ⟨h1, h2⟩ : Sml one 5 25 ∧ Sml two 6 25 := hp
  have hl5 : one.length ≤ 5 := h1.le
  refine qf_setE (e_lenT (e_var rfl h_one)) fun v_many S1 e1 h_many => ?_
  have h_one := (aT K aI).mono e1 h_one
  have h_two := (aT K aI).mono e1 h_two
  refine qf_skipE (ET.eq (et_or (et_test (e_neB (e_call one (ea_cons (e_var rfl h_one) ea_nil) (by first | exact hL.ok | exact h1.ok)) (e_eq (e_call one (ea_cons (e_var rfl h_one) ea_nil) (by first | exact pre_en hL | exact pre_en h1)) (e_sub (e_mul (e_mul e_int (e_var rfl h_many) (by first | exact .inl ⟨by decide, by decide⟩ | exact ways_mul h1 _ | exact .inr ⟨by show -(2 ^ 64) < (one.length : Int); omega, by show (one.length : Int) < 2 ^ 64; omega⟩)) (e_var rfl h_many) (by first | exact .inl ⟨by decide, by decide⟩ | exact ways_mul h1 _ | exact .inr ⟨by show -(2 ^ 64) < (one.length : Int); omega, by show (one.length : Int) < 2 ^ 64; omega⟩)) (e_var rfl h_many))))) fun hand => (et_test (e_ne (e_call one (ea_cons (e_var rfl h_one) ea_nil) (by first | exact pre_en hL | exact pre_en h1)) (e_sum (e_lc (K := K) (f := fun x4 : Int => ((m_ways one (2 : Int) x4) * (m_ways one (2 : Int) x4))) (m_sums one one) (i_tup (e_call (one, one) (ea_cons (e_var rfl h_one) (ea_cons (e_var rfl h_one) ea_nil)) (by first | exact pre_sum hL hR | exact pre_sum h1 h2 | exact pre_sum h2 h1 | exact pre_sum h1 h1))) tg_n (by first | exact sums_le h1 h1 | exact unls_le h1 | exact parts_le h1) (fun a σ1 S1 hb => by obtain ⟨v_own, h_own, hx⟩ := hb; subst hx; rfl) (fun x4 σ1 S1 hm e1 hb => by obtain ⟨v_own, h_own, hx⟩ := hb; subst hx; have h_one := (aT K aI).mono e1 h_one; exact (e_mul (e_call (one, (2 : Int), x4) (ea_cons (e_var rfl h_one) (ea_cons e_int (ea_cons (e_var rfl h_own) ea_nil))) (by exact pre_w5 h1)) (e_call (one, (2 : Int), x4) (ea_cons (e_var rfl h_one) (ea_cons e_int (ea_cons (e_var rfl h_own) ea_nil))) (by exact pre_w5 h1)) (by first | exact .inl ⟨by decide, by decide⟩ | exact ways_mul h1 _ | exact .inr ⟨by show -(2 ^ 64) < (one.length : Int); omega, by show (one.length : Int) < 2 ^ 64; omega⟩)))))))) (orf (neb (C1 h1.asc)) (nef (C2 one).symm))) ?_
  refine qf_skipE (ET.eq (et_or (et_test (e_ne (e_call (one, two) (ea_cons (e_var rfl h_one) (ea_cons (e_var rfl h_two) ea_nil)) (by exact ⟨h1.ok, h2.ok⟩)) (e_lenT (e_call (one, two) (ea_cons (e_var rfl h_one) (ea_cons (e_var rfl h_two) ea_nil)) (by first | exact pre_sum hL hR | exact pre_sum h1 h2 | exact pre_sum h2 h1 | exact pre_sum h1 h1))))) fun hand => (et_or (et_test (e_ne (e_call (one, two) (ea_cons (e_var rfl h_one) (ea_cons (e_var rfl h_two) ea_nil)) (by exact ⟨h1.ok, h2.ok⟩)) (e_sub (e_add (e_lenT (e_var rfl h_one)) (e_lenT (e_var rfl h_two))) e_int))) fun hand => (et_test (e_lt (e_call (one, two) (ea_cons (e_var rfl h_one) (ea_cons (e_var rfl h_two) ea_nil)) (by exact ⟨h1.ok, h2.ok⟩)) (e_call (one, two) (ea_cons (e_var rfl h_one) (ea_cons (e_var rfl h_two) ea_nil)) (by exact ⟨h1.ok, h2.ok⟩)))))) (orf (nef rfl) (orf (nef rfl) (decide_eq_false (least_le h1 h2))))) ?_
  refine qf_skipE (ET.eq (et_or (et_test (e_neB (e_call (one, two) (ea_cons (e_var rfl h_one) (ea_cons (e_var rfl h_two) ea_nil)) (by exact ⟨h1.ok, h2.ok⟩)) (e_eq (e_call (one, two) (ea_cons (e_var rfl h_one) (ea_cons (e_var rfl h_two) ea_nil)) (by exact ⟨h1.ok, h2.ok⟩)) (e_call (one, two) (ea_cons (e_var rfl h_one) (ea_cons (e_var rfl h_two) ea_nil)) (by exact ⟨h1.ok, h2.ok⟩))))) fun hand => (et_test (e_neB (e_call (one, two) (ea_cons (e_var rfl h_one) (ea_cons (e_var rfl h_two) ea_nil)) (by exact ⟨h1.ok, h2.ok⟩)) (e_call (one, two) (ea_cons (e_var rfl h_one) (ea_cons (e_var rfl h_two) ea_nil)) (by exact ⟨h1.ok, h2.ok⟩))))) (orf (neb rfl) (neb (C4 h1.asc h2.asc h1.ne h2.ne)))) ?_
  refine qf_skipE (ET.eq (et_and (et_test (e_gt (e_var rfl h_many) e_int)) fun hand => (et_not (et_B (e_all (e_lc (K := K) (f := fun x5 : Int => (decide (x5 ∈ (m_sums one one)))) (m_unlike_sums one) (i_tup (e_call one (ea_cons (e_var rfl h_one) ea_nil) (by exact ⟨h1.ok, by have h9 : (1 : Int) < (one.length : Int) := of_decide_eq_true hand; show 2 ≤ one.length; omega, Nat.le_trans h1.le (by decide)⟩))) tg_n (by first | exact sums_le h1 h1 | exact unls_le h1 | exact parts_le h1) (fun a σ1 S1 hb => by obtain ⟨v_own, h_own, hx⟩ := hb; subst hx; rfl) (fun x5 σ1 S1 hm e1 hb => by obtain ⟨v_own, h_own, hx⟩ := hb; subst hx; have h_one := (aT K aI).mono e1 h_one; exact (e_inT (e_var rfl h_own) (e_call (one, one) (ea_cons (e_var rfl h_one) (ea_cons (e_var rfl h_one) ea_nil)) (by first | exact pre_sum hL hR | exact pre_sum h1 h2 | exact pre_sum h2 h1 | exact pre_sum h1 h1))))))))) (by
    have := C5 h1.asc
    have this : ((m_unlike_sums one).map fun x => decide (x ∈ m_sums one one)).all id = true := this
    rw [this]; exact Bool.and_false _)) ?_
  refine qf_setE (e_call one (ea_cons (e_var rfl h_one) ea_nil) (by exact ⟨h1.ok, h1.le⟩)) fun v_every S2 e2 h_every => ?_
  have h_one := (aT K aI).mono e2 h_one
  have h_many := aI.mono e2 h_many
  refine fx_retE (EL.E.eq (e_and (e_eq (e_sum (e_lc (K := K) (f := fun x6 : Int => (m_part_ways one x6)) (m_part_sums one) (i_tup (e_var rfl h_every)) tg_n (by first | exact sums_le h1 h1 | exact unls_le h1 | exact parts_le h1) (fun a σ1 S1 hb => by obtain ⟨v_own, h_own, hx⟩ := hb; subst hx; rfl) (fun x6 σ1 S1 hm e1 hb => by obtain ⟨v_own, h_own, hx⟩ := hb; subst hx; have h_one := (aT K aI).mono e1 h_one; exact (e_call (one, x6) (ea_cons (e_var rfl h_one) (ea_cons (e_var rfl h_own) ea_nil)) (by exact ⟨h1.ok, h1.le⟩))))) (e_call ((2 : Int), ((one.length : Int))) (ea_cons e_int (ea_cons (e_var rfl h_many) ea_nil)) (by exact ⟨⟨by omega, by omega⟩, ⟨by decide, by decide⟩⟩))) fun hand => (e_and (e_ge (e_call (one, one.sum) (ea_cons (e_var rfl h_one) (ea_cons (e_sumT (e_var rfl h_one)) ea_nil)) (by exact ⟨h1.ok, h1.le⟩)) e_int) fun hand => (e_eq (e_add (e_ixTd (d := (0 : Int)) (e_var rfl h_every) e_int (by exact ix_some ⟨by have := ps_len one; have : 1 ≤ (m_part_sums one).length := this; omega, by have := ps_len one; have : 1 ≤ (m_part_sums one).length := this; omega⟩)) (e_ixTd (d := (0 : Int)) (e_var rfl h_every) (e_neg e_int) (by exact ix_some ⟨by have := ps_len one; have : 1 ≤ (m_part_sums one).length := this; omega, by have := ps_len one; have : 1 ≤ (m_part_sums one).length := this; omega⟩))) (e_sumT (e_var rfl h_one))))) ?_) fun v S3 e3 hv => ⟨true, hv, rfl, hK⟩
  have c1 : ((m_part_sums one).map fun x => m_part_ways one x).sum = m_raised 2 (one.length : Int) := by
    rw [C6a]; unfold m_raised; rw [Int.toNat_natCast]
  have c2 := C6b one
  have c3 := C6c one
  exact and3 (decide_eq_true c1) (decide_eq_true c2) (decide_eq_true c3)
abbrev sp__law_folds_fit (K : PySem.W.Frag) (w : World) : Sp := sspec K (fun _ : Unit => aNil) (fun _ => True) (fun _ => 6) aB (fun _ y => y = true)
theorem sc__law_folds_fit : FnScope ["state", "one", "many", "now", "more", "own", "total"] ["state"] (defScope (top 52)) := ⟨rfl, rfl, rfl, by decide +kernel, rfl, by decide +kernel, by decide +kernel⟩
theorem ok__law_folds_fit (T : Tx mg) (C__law_next : Callable P w K mg base "_law_next" ["state", "many"] (sp__law_next K w) 1) (C__law_one : Callable P w K mg base "_law_one" ["state", "rows"] (sp__law_one K w) 2) (C__law_raised : Callable P w K mg base "_law_raised" ["base", "many"] (sp__law_raised K w) 1) (C__law_set : Callable P w K mg base "_law_set" ["state", "many", "most"] (sp__law_set K w) 2) (C_folded : Callable P w K mg base "folded" ["members", "many"] (sp_folded K w) 2) (C_sums : Callable P w K mg base "sums" ["one", "other"] (sp_sums K w) 2) (C_ways : Callable P w K mg base "ways" ["members", "many", "total"] (sp_ways K w) 2) (F : At K mg "_law_folds_fit" (top 52) ["state"]) : Callable P w K mg base "_law_folds_fit" ["state"] (sp__law_folds_fit K w) 3 := by
  refine F.state sc__law_folds_fit (fun a vs S h => by rw [show vs = [] from h]; rfl) fun f cdv A outer s H0 E hr => ⟨_, (pss_cons (ps_asg (pe_tup (pa_cons (pe_fn C__law_set (hr.mono (by decide)) (by rfl) (pa_cons (pv 0) (pa_cons pe_int (pa_cons pe_int pa_nil)))) (pa_cons (pe_op op_add pe_int (pe_fn C__law_next (hr.mono (by decide)) (by rfl) (pa_cons (pv 0) (pa_cons pe_int pa_nil)))) pa_nil))) (pg_tupK (K := K) (n := 2) rfl rfl (pgs_cons (pg_name (i := 1) sc__law_folds_fit.nd rfl (Or.inr rfl)) (pgs_cons (pg_name (i := 2) sc__law_folds_fit.nd rfl (Or.inr rfl)) pgs_nil)))) (pss_cons (ps_par (i := 3) (j := 4) rfl sc__law_folds_fit.nd rfl rfl (by decide) rfl rfl (pa_cons (pe_fn C_folded (hr.mono (by decide)) (by rfl) (pa_cons (pv 1) (pa_cons (pv 2) pa_nil))) (pa_cons (pe_fn C_folded (hr.mono (by decide)) (by rfl) (pa_cons (pv 1) (pa_cons (pe_op op_add (pv 2) pe_int) pa_nil))) pa_nil)) rfl) (pss_cons (ps_if ((pw_or (pt_cmpR (r := rNeD K) (op_neD hr.units) (pv 4) (pe_fn C_sums (hr.mono (by decide)) (by rfl) (pa_cons (pv 3) (pa_cons (pv 1) pa_nil))) (nomark _)) (pw_or (pt_cmpR (r := rNeD K) (op_neD hr.units) (pe_fn C_folded (hr.mono (by decide)) (by rfl) (pa_cons (pv 1) (pa_cons pe_int pa_nil))) (pe_tup (pa_cons pe_int pa_nil)) (nomark _)) (pw_or1 (pt_cmpR (r := rNeD K) (op_neD hr.units) (pe_fn C_folded (hr.mono (by decide)) (by rfl) (pa_cons (pv 1) (pa_cons pe_int pa_nil))) (pv 1) (nomark _)))))).pt (pss_one (ps_ret pe_bl)) pss_nil) (pss_cons (ps_if ((pw_or (pt_cmpR op_ne (pe_callB (r := rSum K) (cr_sum rfl) (by rfl) T.n_sum (by decide +kernel) (pa_cons (pe_lc (own := [("own", 5)]) rfl sc__law_folds_fit.nd (pi_tupK (K := K) rfl (pv 3)) (blkOk_by (N := ["state", "one", "many", "now", "more", "own", "total"]) (sc := defScope (top 52)) (by decide +kernel)) (fun _ _ _ _ _ => (pg_name (i := 5) sc__law_folds_fit.nd rfl (Or.inl rfl))) (fun _ _ _ _ _ => pts_nil) (fun _ _ _ _ _ => (pe_fn C_ways (hr.mono (by decide)) (by rfl) (pa_cons (pv 1) (pa_cons (pv 2) (pa_cons (pv 5) pa_nil)))))) pa_nil)) (pe_fn C__law_raised (hr.mono (by decide)) (by rfl) (pa_cons (pe_callB (r := rLenSeq K) call_len_seq (by rfl) T.n_len (by decide +kernel) (pa_cons (pv 1) pa_nil)) (pa_cons (pv 2) pa_nil))) (nomark _)) (pw_or1 (pt_val (pe_callB (r := rAny K) (cr_any rfl) (by rfl) T.n_any (by decide +kernel) (pa_cons (pe_lc (own := [("own", 5)]) rfl sc__law_folds_fit.nd (pi_tupK (K := K) rfl (pv 3)) (blkOk_by (N := ["state", "one", "many", "now", "more", "own", "total"]) (sc := defScope (top 52)) (by decide +kernel)) (fun _ _ _ _ _ => (pg_name (i := 5) sc__law_folds_fit.nd rfl (Or.inl rfl))) (fun _ _ _ _ _ => pts_nil) (fun _ _ _ _ _ => (pe_cmpR op_eq (pe_fn C_ways (hr.mono (by decide)) (by rfl) (pa_cons (pv 1) (pa_cons (pv 2) (pa_cons (pv 5) pa_nil)))) pe_int (nomark _)))) pa_nil)))))).pt (pss_one (ps_ret pe_bl)) pss_nil) (pss_cons (ps_set (i := 6) sc__law_folds_fit.nd rfl (Or.inr rfl) (pe_fn C__law_one (hr.mono (by decide)) (by rfl) (pa_cons (pv 0) (pa_cons (pe_callTy (r := rLstOf K) call_list_of (by rfl) T.n_list (by decide +kernel) (pa_cons (pv 4) pa_nil)) pa_nil)))) (pss_one (ps_ret (pe_cmpR op_eq (pe_fn C_ways (hr.mono (by decide)) (by rfl) (pa_cons (pv 1) (pa_cons (pe_op op_add (pv 2) pe_int) (pa_cons (pv 6) pa_nil)))) (pe_callB (r := rSum K) (cr_sum rfl) (by rfl) T.n_sum (by decide +kernel) (pa_cons (pe_lc (own := [("own", 5)]) rfl sc__law_folds_fit.nd (pi_tupK (K := K) rfl (pv 1)) (blkOk_by (N := ["state", "one", "many", "now", "more", "own", "total"]) (sc := defScope (top 52)) (by decide +kernel)) (fun _ _ _ _ _ => (pg_name (i := 5) sc__law_folds_fit.nd rfl (Or.inl rfl))) (fun _ _ _ _ _ => pts_nil) (fun _ _ _ _ _ => (pe_fn C_ways (hr.mono (by decide)) (by rfl) (pa_cons (pv 1) (pa_cons (pv 2) (pa_cons (pe_op op_sub (pv 6) (pv 5)) pa_nil)))))) pa_nil)) (nomark _))))))))), ?_⟩
  intro x ws S O p pn ns n ha hp hN hK hn
  replace hn : n + 6 ≤ 100000 := hn
  have hv : ws = [] := ha
  subst hv
  refine fx_bind (r := aT K aI) (A := fun y O' => Sml y 3 12 ∧ LawK O' p pn (n + 4)) (fun t => tSeq (tAsg (tTup (tCons t _)) _) _) ((ex_callS (c := fun x : Int × Int => 1 + x.1.toNat) (3, 12) rfl hN hK (by show n + 4 ≤ 100000; omega) (ea_cons e_int (ea_cons e_int ea_nil)) ⟨⟨by decide, by decide⟩, ⟨by decide, by decide⟩⟩).imp fun y O' h => ⟨⟨h.2.2.2, h.2.1.1, by have := h.2.1.2; show y.length ≤ 3; have : (y.length : Int) ≤ 3 := this; omega, h.2.2.1⟩, h.1⟩) fun one v_one S1 O1 e1 h_one hA1 => ?_
  have hN := hN.mono e1
  refine fx_bind (r := aI) (A := fun y O' => (1 ≤ y ∧ y ≤ 4) ∧ LawK O' p pn (n + 5)) (fun t => tSeq (tAsg (tTup (tCons (tC v_one) (tCons t _))) _) _) (ex_bind (fun t => tOp _ (tC (.int 1)) t) (ex_callS (c := fun _ => 1) 4 rfl hN hA1.2 (by omega) (ea_cons e_int ea_nil) (by decide)) fun y vy S3 O3 e3 hy hA3 => (EX.of (e_add e_int (e_c (r := aI) hy))).imp fun z O' h => by
    rw [h.1, h.2]
    exact ⟨by have := hA3.2; omega, hA3.1⟩) fun many v_many S2 O2 e2 h_many hA2 => qf_tup2 ?_
  have hN := hN.mono e2
  have h_one := (aT K aI).mono e2 h_one
  have h1 : Sml one 3 12 := hA1.1
  have hK := hA2.2
  obtain ⟨m, hm⟩ : ∃ m : Nat, many = (m : Int) := ⟨many.toNat, by have := hA2.1; omega⟩
  subst hm
  have hm14 : 1 ≤ (m : Int) ∧ (m : Int) ≤ 4 := hA2.1
  have hl3 : one.length ≤ 3 := h1.le
  refine qf_par (ea_cons (e_call (one, ((m : Int))) (ea_cons (e_var rfl h_one) (ea_cons (e_var rfl h_many) ea_nil)) (by first | exact pre_fold h1 m (by omega) | exact pre_fold h1 (m + 1) (by omega) | exact pre_fold h1 0 (by decide) | exact pre_fold h1 1 (by decide))) (ea_cons (e_call (one, (((m : Int)) + (1 : Int))) (ea_cons (e_var rfl h_one) (ea_cons (e_add (e_var rfl h_many) e_int) ea_nil)) (by first | exact pre_fold h1 m (by omega) | exact pre_fold h1 (m + 1) (by omega) | exact pre_fold h1 0 (by decide) | exact pre_fold h1 1 (by decide))) ea_nil)) fun v_now v_more S3 e3 h_now h_more => ?_
  have hN := hN.mono e3
  have h_one := (aT K aI).mono e3 h_one
  have h_many := aI.mono e3 h_many
  refine qf_skipE (ET.eq (et_or (et_test (e_neD (K := K) (enT enI) (by decide) (e_var rfl h_more) (e_call ((m_folded one (m : Int)), one) (ea_cons (e_var rfl h_now) (ea_cons (e_var rfl h_one) ea_nil)) (by exact pre_sumF h1 m (by omega))))) fun hand => (et_or (et_test (e_neD (K := K) (enT enI) (by decide) (e_call (one, (0 : Int)) (ea_cons (e_var rfl h_one) (ea_cons e_int ea_nil)) (by first | exact pre_fold h1 m (by omega) | exact pre_fold h1 (m + 1) (by omega) | exact pre_fold h1 0 (by decide) | exact pre_fold h1 1 (by decide))) (e_tup1 (K := K) e_int))) fun hand => (et_test (e_neD (K := K) (enT enI) (by decide) (e_call (one, (1 : Int)) (ea_cons (e_var rfl h_one) (ea_cons e_int ea_nil)) (by first | exact pre_fold h1 m (by omega) | exact pre_fold h1 (m + 1) (by omega) | exact pre_fold h1 0 (by decide) | exact pre_fold h1 1 (by decide))) (e_var rfl h_one))))) (orf (nef (folded_next one m)) (orf (nef rfl) (nef (folded_one h1.asc))))) ?_
  refine qf_skipE (ET.eq (et_or (et_test (e_ne (e_sum (e_lc (K := K) (f := fun x4 : Int => (m_ways one ((m : Int)) x4)) (m_folded one (m : Int)) (i_tup (e_var rfl h_now)) tg_n (by first | exact foldl_le h1 m (by omega) | exact (by have := h1.le; omega)) (fun a σ1 S1 hb => by obtain ⟨v_own, h_own, hx⟩ := hb; subst hx; rfl) (fun x4 σ1 S1 hm e1 hb => by obtain ⟨v_own, h_own, hx⟩ := hb; subst hx; have h_one := (aT K aI).mono e1 h_one; have h_many := aI.mono e1 h_many; exact (e_call (one, ((m : Int)), x4) (ea_cons (e_var rfl h_one) (ea_cons (e_var rfl h_many) (ea_cons (e_var rfl h_own) ea_nil))) (by first | exact pre_w3 h1 m _ (by omega) | exact pre_w3 h1 (m + 1) _ (by omega)))))) (e_call ((one.length : Int), ((m : Int))) (ea_cons (e_lenT (e_var rfl h_one)) (ea_cons (e_var rfl h_many) ea_nil)) (by exact ⟨⟨by omega, by omega⟩, ⟨by omega, by omega⟩⟩)))) fun hand => (et_B (e_any (e_lc (K := K) (f := fun x5 : Int => (decide ((m_ways one ((m : Int)) x5) = (0 : Int)))) (m_folded one (m : Int)) (i_tup (e_var rfl h_now)) tg_n (by first | exact foldl_le h1 m (by omega) | exact (by have := h1.le; omega)) (fun a σ1 S1 hb => by obtain ⟨v_own, h_own, hx⟩ := hb; subst hx; rfl) (fun x5 σ1 S1 hm e1 hb => by obtain ⟨v_own, h_own, hx⟩ := hb; subst hx; have h_one := (aT K aI).mono e1 h_one; have h_many := aI.mono e1 h_many; exact (e_eq (e_call (one, ((m : Int)), x5) (ea_cons (e_var rfl h_one) (ea_cons (e_var rfl h_many) (ea_cons (e_var rfl h_own) ea_nil))) (by first | exact pre_w3 h1 m _ (by omega) | exact pre_w3 h1 (m + 1) _ (by omega))) e_int)))))) (orf (nef (fold_ways one m)) (fold_pos one m))) ?_
  refine qf_set (ex_callS (c := fun _ => 1) (m_folded one ((m : Int) + 1)) rfl hN hK (by omega) (ea_cons (e_listT (e_var rfl h_more)) ea_nil) (by rw [folded_eq1]; exact fold_ne h1.ne _)) fun total v_total S4 O4 e4 h_total hA4 => ?_
  have h_one := (aT K aI).mono e4 h_one
  have h_many := aI.mono e4 h_many
  refine fx_retE (EL.E.eq (e_eq (e_call (one, (((m : Int)) + (1 : Int)), total) (ea_cons (e_var rfl h_one) (ea_cons (e_add (e_var rfl h_many) e_int) (ea_cons (e_var rfl h_total) ea_nil))) (by first | exact pre_w3 h1 m _ (by omega) | exact pre_w3 h1 (m + 1) _ (by omega))) (e_sum (e_lc (K := K) (f := fun x6 : Int => (m_ways one ((m : Int)) (total - x6))) one (i_tup (e_var rfl h_one)) tg_n (by first | exact foldl_le h1 m (by omega) | exact (by have := h1.le; omega)) (fun a σ1 S1 hb => by obtain ⟨v_own, h_own, hx⟩ := hb; subst hx; rfl) (fun x6 σ1 S1 hm e1 hb => by obtain ⟨v_own, h_own, hx⟩ := hb; subst hx; have h_one := (aT K aI).mono e1 h_one; have h_many := aI.mono e1 h_many; have h_total := aI.mono e1 h_total; exact (e_call (one, ((m : Int)), (total - x6)) (ea_cons (e_var rfl h_one) (ea_cons (e_var rfl h_many) (ea_cons (e_sub (e_var rfl h_total) (e_var rfl h_own)) ea_nil))) (by first | exact pre_w3 h1 m _ (by omega) | exact pre_w3 h1 (m + 1) _ (by omega))))))) ?_) fun v S5 e5 hv => ⟨true, hv, rfl, hA4.1⟩
  exact decide_eq_true (ways_next one m total)
abbrev sp_law (K : PySem.W.Frag) (w : World) : Sp := spLaw K
theorem sc_law : FnScope ["script", "state", "turn", "one", "two"] ["script"] (defScope (top 53)) := ⟨rfl, rfl, rfl, by decide +kernel, rfl, by decide +kernel, by decide +kernel⟩
theorem ok_law (T : Tx mg) (C__law_counts_fit : Callable P w K mg base "_law_counts_fit" ["state", "one", "two"] (sp__law_counts_fit K w) 4) (C__law_folds_fit : Callable P w K mg base "_law_folds_fit" ["state"] (sp__law_folds_fit K w) 3) (C__law_moved_fit : Callable P w K mg base "_law_moved_fit" ["state", "one", "two"] (sp__law_moved_fit K w) 5) (C__law_set : Callable P w K mg base "_law_set" ["state", "many", "most"] (sp__law_set K w) 2) (C__law_stream : Callable P w K mg base "_law_stream" ["script"] (sp__law_stream K w) 1) {f0 : Addr} {fd0 : FuncData} (F : FunD K "law" "law" (defArgs (top 53)) (defBody (top 53)) (defScope (top 53)) [] [] f0 fd0) : FnOk P w K mg base CX0 6 f0 fd0 ["script"] (spLaw K) := by
  refine law_fn F sc_law fun f cdv A outer s H0 E hr => ⟨_, (pss_cons (ps_set (i := 1) sc_law.nd rfl (Or.inl rfl) (pe_lst (pa_cons (pe_fn C__law_stream (hr.mono (by decide)) (by rfl) (pa_cons (pv 0) pa_nil)) (pa_cons pe_int pa_nil)))) (pss_cons (ps_for PassesOwn.never rfl (pi_range1 (by rfl) T.n_range (pa_cons pe_int pa_nil)) (pg_name (i := 2) sc_law.nd rfl (Or.inl rfl)) (pss_cons (ps_par (i := 3) (j := 4) rfl sc_law.nd rfl rfl (by decide) rfl rfl (pa_cons (pe_fn C__law_set (hr.mono (by decide)) (by rfl) (pa_cons (pv 1) (pa_cons pe_int (pa_cons pe_int pa_nil)))) (pa_cons (pe_fn C__law_set (hr.mono (by decide)) (by rfl) (pa_cons (pv 1) (pa_cons pe_int (pa_cons pe_int pa_nil)))) pa_nil)) rfl) (pss_one (ps_if ((pw_or (pt_not (pt_val (pe_fn C__law_moved_fit (hr.mono (by decide)) (by rfl) (pa_cons (pv 1) (pa_cons (pv 3) (pa_cons (pv 4) pa_nil)))))) (pw_or (pt_not (pt_val (pe_fn C__law_counts_fit (hr.mono (by decide)) (by rfl) (pa_cons (pv 1) (pa_cons (pv 3) (pa_cons (pv 4) pa_nil)))))) (pw_or1 (pt_not (pt_val (pe_fn C__law_folds_fit (hr.mono (by decide)) (by rfl) (pa_cons (pv 1) pa_nil)))))))).pt (pss_one (ps_ret pe_bl)) pss_nil)))) (pss_one (ps_ret pe_bl)))), ?_⟩
  intro ns v S h_script
  refine sx_fx (qf_state (tv := tVar 0) ((ex_callR (x := ns) (ea_cons (e_var rfl h_script) ea_nil) trivial)) rfl fun p pn ms S1 O1 e1 hN hK => ?_)
  refine qf_for (rg 0 4) (i_rng1 e_int ⟨by decide, by decide⟩) tg_n (fun i σ' S' O' => ∃ t2 t3 t4, σ' = [some v, some (.ref p), t2, t3, t4] ∧ LawN K S' pn ms ∧ LawK O' p pn (23 * i)) (fun i σ' S1 S2 O e ⟨t2, t3, t4, h1, h2, h3⟩ => ⟨t2, t3, t4, h1, h2.mono e, h3⟩) (fun S' e => ⟨none, none, none, rfl, hN.mono e, hK⟩) ?_ ?_
  · intro i a σ1 σ2 S' O' hia e ⟨t2, t3, t4, hs, hN, hK⟩ hb
    subst hs
    obtain ⟨v_turn, h_turn, hx⟩ := hb
    subst hx
    have hi4 := (rg_get hia).1
    refine fx_bind (r := aT K aI) (A := fun y O' => Sml y 5 25 ∧ LawK O' p pn (23 * i + 6)) (fun t => tSeq (tPar _ _ (tCons t _)) _) ((ex_callS (c := fun x : Int × Int => 1 + x.1.toNat) (5, 25) rfl hN hK (by show 23 * i + 6 ≤ 100000; omega) (ea_cons e_int (ea_cons e_int ea_nil)) ⟨⟨by decide, by decide⟩, ⟨by decide, by decide⟩⟩).imp fun y O' h => ⟨⟨h.2.2.2, h.2.1.1, by have := h.2.1.2; show y.length ≤ 5; have : (y.length : Int) ≤ 5 := this; omega, h.2.2.1⟩, h.1⟩) fun one v_one S1 O1 e1 h_one hA1 => ?_
    have hN := hN.mono e1
    refine fx_bind (r := aT K aI) (A := fun y O' => Sml y 6 25 ∧ LawK O' p pn (23 * i + 13)) (fun t => tSeq (tPar _ _ (tCons (tC v_one) (tCons t _))) _) ((ex_callS (c := fun x : Int × Int => 1 + x.1.toNat) (6, 25) rfl hN hA1.2 (by show 23 * i + 6 + 7 ≤ 100000; omega) (ea_cons e_int (ea_cons e_int ea_nil)) ⟨⟨by decide, by decide⟩, ⟨by decide, by decide⟩⟩).imp fun y O' h => ⟨⟨h.2.2.2, h.2.1.1, by have := h.2.1.2; show y.length ≤ 6; have : (y.length : Int) ≤ 6 := this; omega, h.2.2.1⟩, h.1⟩) fun two v_two S2 O2 e2 h_two hA2 => qf_parC ?_
    have hN := hN.mono e2
    have h_one := (aT K aI).mono e2 h_one
    refine fx_skip (A := fun b O' => b = false ∧ LawK O' p pn (23 * i + 23)) (etx_or (A := fun b O' => b = false ∧ LawK O' p pn (23 * i + 17)) (etx_not (A := fun b O' => b = true ∧ LawK O' p pn (23 * i + 17)) (etx_B ((ex_callS (c := fun _ => 4) (one, two) rfl hN hA2.2 (by omega) (ea_cons (e_var rfl h_one) (ea_cons (e_var rfl h_two) ea_nil)) ⟨hA1.1, hA2.1⟩).imp fun y O' h => ⟨h.2, h.1⟩)) fun b O' h => ⟨by rw [h.1]; rfl, h.2⟩) (fun O' h => absurd h.1 (by decide)) fun S3 O3 e3 hA3 =>
      etx_or (A := fun b O' => b = false ∧ LawK O' p pn (23 * i + 17)) (etx_not (A := fun b O' => b = true ∧ LawK O' p pn (23 * i + 17)) (etx_B ((ex_callS (c := fun _ => 0) (one, two) rfl (hN.mono e3) hA3.2 (by omega) (ea_cons (e_var rfl ((aT K aI).mono e3 h_one)) (ea_cons (e_var rfl ((aT K aI).mono e3 h_two)) ea_nil)) ⟨hA1.1, hA2.1⟩).imp fun y O' h => ⟨h.2, h.1⟩)) fun b O' h => ⟨by rw [h.1]; rfl, h.2⟩) (fun O' h => absurd h.1 (by decide)) fun S4 O4 e4 hA4 =>
      etx_not (A := fun b O' => b = true ∧ LawK O' p pn (23 * i + 23)) (etx_B ((ex_callS0 (c := fun _ => 6) () rfl ((hN.mono e3).mono e4) hA4.2 (by omega) rfl trivial).imp fun y O' h => ⟨h.2, h.1⟩)) fun b O' h => ⟨by rw [h.1]; rfl, h.2⟩) (fun O' h => absurd h.1 (by decide)) fun S5 O5 e5 hA5 => ⟨_, _, _, rfl, hN.mono e5, hA5.2⟩
  · intro σ' S' O' e ⟨t2, t3, t4, hs, hN, hK⟩
    subst hs
    exact fx_retE (e_bl (i := true)) fun v S2 e2 hv => hv
end
end S64

namespace S64
section
open PySem PySem.Spec PyProof.Rows L2
def d12 : He.DefD := ⟨("check_set", none), "check_set", "check_set", defArgs (top 12), defBody (top 12), defScope (top 12), [], []⟩
def d13 : He.DefD := ⟨("as_set", none), "as_set", "as_set", defArgs (top 13), defBody (top 13), defScope (top 13), [], []⟩
def d14 : He.DefD := ⟨("sums", none), "sums", "sums", defArgs (top 14), defBody (top 14), defScope (top 14), [], []⟩
def d15 : He.DefD := ⟨("unlike_sums", none), "unlike_sums", "unlike_sums", defArgs (top 15), defBody (top 15), defScope (top 15), [], []⟩
def d16 : He.DefD := ⟨("differences", none), "differences", "differences", defArgs (top 16), defBody (top 16), defScope (top 16), [], []⟩
def d17 : He.DefD := ⟨("folded", none), "folded", "folded", defArgs (top 17), defBody (top 17), defScope (top 17), [], []⟩
def d18 : He.DefD := ⟨("part_sums", none), "part_sums", "part_sums", defArgs (top 18), defBody (top 18), defScope (top 18), [], []⟩
def d19 : He.DefD := ⟨("ways", none), "ways", "ways", defArgs (top 19), defBody (top 19), defScope (top 19), [], []⟩
def d20 : He.DefD := ⟨("stepped", none), "stepped", "stepped", defArgs (top 20), defBody (top 20), defScope (top 20), [], []⟩
def d21 : He.DefD := ⟨("part_ways", none), "part_ways", "part_ways", defArgs (top 21), defBody (top 21), defScope (top 21), [], []⟩
def d22 : He.DefD := ⟨("energy", none), "energy", "energy", defArgs (top 22), defBody (top 22), defScope (top 22), [], []⟩
def d23 : He.DefD := ⟨("scaled", none), "scaled", "scaled", defArgs (top 23), defBody (top 23), defScope (top 23), [], []⟩
def d24 : He.DefD := ⟨("is_row", none), "is_row", "is_row", defArgs (top 24), defBody (top 24), defScope (top 24), [], []⟩
def d25 : He.DefD := ⟨("shared", none), "shared", "shared", defArgs (top 25), defBody (top 25), defScope (top 25), [], []⟩
def d26 : He.DefD := ⟨("normal", none), "normal", "normal", defArgs (top 26), defBody (top 26), defScope (top 26), [], []⟩
def d28 : He.DefD := ⟨("plain_least", none), "plain_least", "plain_least", defArgs (top 28), defBody (top 28), defScope (top 28), [], []⟩
def d29 : He.DefD := ⟨("plain_sums", none), "plain_sums", "plain_sums", defArgs (top 29), defBody (top 29), defScope (top 29), [], []⟩
def d30 : He.DefD := ⟨("is_least", none), "is_least", "is_least", defArgs (top 30), defBody (top 30), defScope (top 30), [], []⟩
def d31 : He.DefD := ⟨("are_rows_alike", none), "are_rows_alike", "are_rows_alike", defArgs (top 31), defBody (top 31), defScope (top 31), [], []⟩
def d33 : He.DefD := ⟨("is_free", none), "is_free", "is_free", defArgs (top 33), defBody (top 33), defScope (top 33), [], []⟩
def d34 : He.DefD := ⟨("is_unlike_free", none), "is_unlike_free", "is_unlike_free", defArgs (top 34), defBody (top 34), defScope (top 34), [], []⟩
def d36 : He.DefD := ⟨("measures_all", none), "measures_all", "measures_all", defArgs (top 36), defBody (top 36), defScope (top 36), [], []⟩
def d38 : He.DefD := ⟨("is_unlike", none), "is_unlike", "is_unlike", defArgs (top 38), defBody (top 38), defScope (top 38), [], []⟩
def d39 : He.DefD := ⟨("gaps", none), "gaps", "gaps", defArgs (top 39), defBody (top 39), defScope (top 39), [], []⟩
def d40 : He.DefD := ⟨("lost_gaps", none), "lost_gaps", "lost_gaps", defArgs (top 40), defBody (top 40), defScope (top 40), [], []⟩
def d41 : He.DefD := ⟨("is_perfect", none), "is_perfect", "is_perfect", defArgs (top 41), defBody (top 41), defScope (top 41), [], []⟩
def d43 : He.DefD := ⟨("_law_same", none), "_law_same", "_law_same", defArgs (top 43), defBody (top 43), defScope (top 43), [], []⟩
def d44 : He.DefD := ⟨("_law_stream", none), "_law_stream", "_law_stream", defArgs (top 44), defBody (top 44), defScope (top 44), [], []⟩
def d45 : He.DefD := ⟨("_law_next", none), "_law_next", "_law_next", defArgs (top 45), defBody (top 45), defScope (top 45), [], []⟩
def d46 : He.DefD := ⟨("_law_told", none), "_law_told", "_law_told", defArgs (top 46), defBody (top 46), defScope (top 46), [], []⟩
def d47 : He.DefD := ⟨("_law_one", none), "_law_one", "_law_one", defArgs (top 47), defBody (top 47), defScope (top 47), [], []⟩
def d48 : He.DefD := ⟨("_law_set", none), "_law_set", "_law_set", defArgs (top 48), defBody (top 48), defScope (top 48), [], []⟩
def d49 : He.DefD := ⟨("_law_raised", none), "_law_raised", "_law_raised", defArgs (top 49), defBody (top 49), defScope (top 49), [], []⟩
def d50 : He.DefD := ⟨("_law_moved_fit", none), "_law_moved_fit", "_law_moved_fit", defArgs (top 50), defBody (top 50), defScope (top 50), [], []⟩
def d51 : He.DefD := ⟨("_law_counts_fit", none), "_law_counts_fit", "_law_counts_fit", defArgs (top 51), defBody (top 51), defScope (top 51), [], []⟩
def d52 : He.DefD := ⟨("_law_folds_fit", none), "_law_folds_fit", "_law_folds_fit", defArgs (top 52), defBody (top 52), defScope (top 52), [], []⟩
def d53 : He.DefD := ⟨("law", none), "law", "law", defArgs (top 53), defBody (top 53), defScope (top 53), [], []⟩
def fn : List He.DefD := [d12, d13, d14, d15, d16, d17, d18, d19, d20, d21, d22, d23, d24, d25, d26, d28, d29, d30, d31, d33, d34, d36, d38, d39, d40, d41, d43, d44, d45, d46, d47, d48, d49, d50, d51, d52, d53]
def fa : List He.Fa := [.glo "check_set", .glo "as_set", .glo "sums", .glo "unlike_sums", .glo "differences", .glo "folded", .glo "part_sums", .glo "ways", .glo "stepped", .glo "part_ways", .glo "energy", .glo "scaled", .glo "is_row", .glo "shared", .glo "normal", .glo "plain_least", .glo "plain_sums", .glo "is_least", .glo "are_rows_alike", .glo "is_free", .glo "is_unlike_free", .glo "measures_all", .glo "is_unlike", .glo "gaps", .glo "lost_gaps", .glo "is_perfect", .glo "_law_same", .glo "_law_stream", .glo "_law_next", .glo "_law_told", .glo "_law_one", .glo "_law_set", .glo "_law_raised", .glo "_law_moved_fit", .glo "_law_counts_fit", .glo "_law_folds_fit", .glo "law", .free "abs", .free "all", .free "any", .free "dict", .free "enumerate", .free "int", .free "isinstance", .free "len", .free "list", .free "max", .free "min", .free "range", .free "repr", .free "set", .free "sorted", .free "sum", .free "tuple", .free "zip", .int "MAX_NUMBER" 500, .int "MAX_MEMBERS" 40, .int "MAX_FOLD" 12, .int "MAX_MADE" 20000]
abbrev loose : List Str := ((["AddError", "NotAllowed", "TooLarge", "Missing", "BadForm", "Broken", "MAX_NUMBER", "MAX_MEMBERS", "MAX_FOLD", "MAX_MADE", "check_set", "as_set", "sums", "unlike_sums", "differences", "folded"] : List Str) ++ ((["part_sums", "ways", "stepped", "part_ways", "energy", "scaled", "is_row", "shared", "normal", "plain_least", "plain_sums", "is_least", "are_rows_alike", "is_free", "is_unlike_free", "measures_all"] : List Str) ++ (["is_unlike", "gaps", "lost_gaps", "is_perfect", "_law_same", "_law_stream", "_law_next", "_law_told", "_law_one", "_law_set", "_law_raised", "_law_moved_fit", "_law_counts_fit", "_law_folds_fit"] : List Str)))
abbrev R : PySem.W.OpenRow := PySem.W.OpenLaw.row PySem.Challenge.rw_setsadded_k64_main_sets_moved_and_scaled
abbrev hk : PySem.W.Hook := He.hookD 4 fa fn
def ob (s : PySem.W.SharedT) : He.AlD := He.obsDG 4 fa fn (HandSHeadRun.getT s)
theorem ob_eq (s : PySem.W.SharedT) : ob s = hk.obs s.abs := He.obsDG_eq (HandSHeadRun.getT_eq s)
set_option maxHeartbeats 0 in
theorem run (w : World) : HandSHeadRun.RunEq R (PySem.W.view R.prog [53]) hk ob 20000 loose w := by
  intro os
  kernel_rfl
theorem facts {P : Program} {w : World} {K : PySem.W.Frag} {h : Heap} {mg : Str → Option Value} {f : Addr} (X : K.In h) (G : h.Ns mainGlobals mg) (hfa : mg ("law" : Str) = some (.ref f)) (c : He.SaysD fa fn K) :
    ∃ fd : FuncData, (∀ (s : Shared) (v : Value), BindsTo s fd ⟨[v], []⟩ [("script", v)]) ∧ ∀ base : Heap, K.In base → base.Ns mainGlobals mg → FnOk P w K mg base CX0 6 f fd ["script"] (EL.spLaw K) := by
  obtain ⟨fdL, FL⟩ := c.def_ 36 (d := d53) rfl
  have e := hfa.symm.trans (He.glo_ok X G (c.fact 36 (f := .glo "law") rfl))
  cases e
  have b := FunD.bindsA (ps := ["script"]) FL fun _ _ _ _ _ _ us hl => match us, hl with | [_], _ => rfl
  have T : Tx mg := ⟨He.free_ok X G (c.fact 37 (f := .free "abs") rfl), He.free_ok X G (c.fact 38 (f := .free "all") rfl), He.free_ok X G (c.fact 39 (f := .free "any") rfl), He.free_ok X G (c.fact 40 (f := .free "dict") rfl), He.free_ok X G (c.fact 41 (f := .free "enumerate") rfl), He.free_ok X G (c.fact 42 (f := .free "int") rfl), He.free_ok X G (c.fact 43 (f := .free "isinstance") rfl), He.free_ok X G (c.fact 44 (f := .free "len") rfl), He.free_ok X G (c.fact 45 (f := .free "list") rfl), He.free_ok X G (c.fact 46 (f := .free "max") rfl), He.free_ok X G (c.fact 47 (f := .free "min") rfl), He.free_ok X G (c.fact 48 (f := .free "range") rfl), He.free_ok X G (c.fact 49 (f := .free "repr") rfl), He.free_ok X G (c.fact 50 (f := .free "set") rfl), He.free_ok X G (c.fact 51 (f := .free "sorted") rfl), He.free_ok X G (c.fact 52 (f := .free "sum") rfl), He.free_ok X G (c.fact 53 (f := .free "tuple") rfl), He.free_ok X G (c.fact 54 (f := .free "zip") rfl), He.int_ok X G (c.fact 55 (f := .int "MAX_NUMBER" 500) rfl), He.int_ok X G (c.fact 56 (f := .int "MAX_MEMBERS" 40) rfl), He.int_ok X G (c.fact 57 (f := .int "MAX_FOLD" 12) rfl), He.int_ok X G (c.fact 58 (f := .int "MAX_MADE" 20000) rfl)⟩
  obtain ⟨fd_check_set, F_check_set⟩ := c.def_ 0 (d := d12) rfl
  have A_check_set : EL.At K mg "check_set" (top 12) ["members"] := ⟨_, _, He.glo_ok X G (c.fact 0 (f := .glo "check_set") rfl), F_check_set, F_check_set.bindsN fun _ _ _ _ _ _ us hl => match us, hl with | [_], _ => rfl⟩
  obtain ⟨fd_as_set, F_as_set⟩ := c.def_ 1 (d := d13) rfl
  have A_as_set : EL.At K mg "as_set" (top 13) ["numbers"] := ⟨_, _, He.glo_ok X G (c.fact 1 (f := .glo "as_set") rfl), F_as_set, F_as_set.bindsN fun _ _ _ _ _ _ us hl => match us, hl with | [_], _ => rfl⟩
  obtain ⟨fd_sums, F_sums⟩ := c.def_ 2 (d := d14) rfl
  have A_sums : EL.At K mg "sums" (top 14) ["one", "other"] := ⟨_, _, He.glo_ok X G (c.fact 2 (f := .glo "sums") rfl), F_sums, F_sums.bindsN fun _ _ _ _ _ _ us hl => match us, hl with | [_, _], _ => rfl⟩
  obtain ⟨fd_unlike_sums, F_unlike_sums⟩ := c.def_ 3 (d := d15) rfl
  have A_unlike_sums : EL.At K mg "unlike_sums" (top 15) ["members"] := ⟨_, _, He.glo_ok X G (c.fact 3 (f := .glo "unlike_sums") rfl), F_unlike_sums, F_unlike_sums.bindsN fun _ _ _ _ _ _ us hl => match us, hl with | [_], _ => rfl⟩
  obtain ⟨fd_differences, F_differences⟩ := c.def_ 4 (d := d16) rfl
  have A_differences : EL.At K mg "differences" (top 16) ["one", "other"] := ⟨_, _, He.glo_ok X G (c.fact 4 (f := .glo "differences") rfl), F_differences, F_differences.bindsN fun _ _ _ _ _ _ us hl => match us, hl with | [_, _], _ => rfl⟩
  obtain ⟨fd_scaled, F_scaled⟩ := c.def_ 11 (d := d23) rfl
  have A_scaled : EL.At K mg "scaled" (top 23) ["members", "factor", "shift"] := ⟨_, _, He.glo_ok X G (c.fact 11 (f := .glo "scaled") rfl), F_scaled, F_scaled.bindsN fun _ _ _ _ _ _ us hl => match us, hl with | [_, _, _], _ => rfl⟩
  obtain ⟨fd_is_row, F_is_row⟩ := c.def_ 12 (d := d24) rfl
  have A_is_row : EL.At K mg "is_row" (top 24) ["members"] := ⟨_, _, He.glo_ok X G (c.fact 12 (f := .glo "is_row") rfl), F_is_row, F_is_row.bindsN fun _ _ _ _ _ _ us hl => match us, hl with | [_], _ => rfl⟩
  obtain ⟨fd_plain_least, F_plain_least⟩ := c.def_ 15 (d := d28) rfl
  have A_plain_least : EL.At K mg "plain_least" (top 28) ["one", "other"] := ⟨_, _, He.glo_ok X G (c.fact 15 (f := .glo "plain_least") rfl), F_plain_least, F_plain_least.bindsN fun _ _ _ _ _ _ us hl => match us, hl with | [_, _], _ => rfl⟩
  obtain ⟨fd_plain_sums, F_plain_sums⟩ := c.def_ 16 (d := d29) rfl
  have A_plain_sums : EL.At K mg "plain_sums" (top 29) ["one", "other"] := ⟨_, _, He.glo_ok X G (c.fact 16 (f := .glo "plain_sums") rfl), F_plain_sums, F_plain_sums.bindsN fun _ _ _ _ _ _ us hl => match us, hl with | [_, _], _ => rfl⟩
  obtain ⟨fd_is_least, F_is_least⟩ := c.def_ 17 (d := d30) rfl
  have A_is_least : EL.At K mg "is_least" (top 30) ["one", "other"] := ⟨_, _, He.glo_ok X G (c.fact 17 (f := .glo "is_least") rfl), F_is_least, F_is_least.bindsN fun _ _ _ _ _ _ us hl => match us, hl with | [_, _], _ => rfl⟩
  obtain ⟨fd_is_free, F_is_free⟩ := c.def_ 19 (d := d33) rfl
  have A_is_free : EL.At K mg "is_free" (top 33) ["members"] := ⟨_, _, He.glo_ok X G (c.fact 19 (f := .glo "is_free") rfl), F_is_free, F_is_free.bindsN fun _ _ _ _ _ _ us hl => match us, hl with | [_], _ => rfl⟩
  obtain ⟨fd_is_unlike_free, F_is_unlike_free⟩ := c.def_ 20 (d := d34) rfl
  have A_is_unlike_free : EL.At K mg "is_unlike_free" (top 34) ["members"] := ⟨_, _, He.glo_ok X G (c.fact 20 (f := .glo "is_unlike_free") rfl), F_is_unlike_free, F_is_unlike_free.bindsN fun _ _ _ _ _ _ us hl => match us, hl with | [_], _ => rfl⟩
  obtain ⟨fd_is_unlike, F_is_unlike⟩ := c.def_ 22 (d := d38) rfl
  have A_is_unlike : EL.At K mg "is_unlike" (top 38) ["members"] := ⟨_, _, He.glo_ok X G (c.fact 22 (f := .glo "is_unlike") rfl), F_is_unlike, F_is_unlike.bindsN fun _ _ _ _ _ _ us hl => match us, hl with | [_], _ => rfl⟩
  obtain ⟨fd_gaps, F_gaps⟩ := c.def_ 23 (d := d39) rfl
  have A_gaps : EL.At K mg "gaps" (top 39) ["members"] := ⟨_, _, He.glo_ok X G (c.fact 23 (f := .glo "gaps") rfl), F_gaps, F_gaps.bindsN fun _ _ _ _ _ _ us hl => match us, hl with | [_], _ => rfl⟩
  obtain ⟨fd_lost_gaps, F_lost_gaps⟩ := c.def_ 24 (d := d40) rfl
  have A_lost_gaps : EL.At K mg "lost_gaps" (top 40) ["members"] := ⟨_, _, He.glo_ok X G (c.fact 24 (f := .glo "lost_gaps") rfl), F_lost_gaps, F_lost_gaps.bindsN fun _ _ _ _ _ _ us hl => match us, hl with | [_], _ => rfl⟩
  obtain ⟨fd_is_perfect, F_is_perfect⟩ := c.def_ 25 (d := d41) rfl
  have A_is_perfect : EL.At K mg "is_perfect" (top 41) ["members"] := ⟨_, _, He.glo_ok X G (c.fact 25 (f := .glo "is_perfect") rfl), F_is_perfect, F_is_perfect.bindsN fun _ _ _ _ _ _ us hl => match us, hl with | [_], _ => rfl⟩
  obtain ⟨fd_are_rows_alike, F_are_rows_alike⟩ := c.def_ 18 (d := d31) rfl
  have A_are_rows_alike : EL.At K mg "are_rows_alike" (top 31) ["one", "other"] := ⟨_, _, He.glo_ok X G (c.fact 18 (f := .glo "are_rows_alike") rfl), F_are_rows_alike, F_are_rows_alike.bindsN fun _ _ _ _ _ _ us hl => match us, hl with | [_, _], _ => rfl⟩
  obtain ⟨fd_folded, F_folded⟩ := c.def_ 5 (d := d17) rfl
  have A_folded : EL.At K mg "folded" (top 17) ["members", "many"] := ⟨_, _, He.glo_ok X G (c.fact 5 (f := .glo "folded") rfl), F_folded, F_folded.bindsN fun _ _ _ _ _ _ us hl => match us, hl with | [_, _], _ => rfl⟩
  obtain ⟨fd_stepped, F_stepped⟩ := c.def_ 8 (d := d20) rfl
  have A_stepped : EL.At K mg "stepped" (top 20) ["members", "counts"] := ⟨_, _, He.glo_ok X G (c.fact 8 (f := .glo "stepped") rfl), F_stepped, F_stepped.bindsN fun _ _ _ _ _ _ us hl => match us, hl with | [_, _], _ => rfl⟩
  obtain ⟨fd_ways, F_ways⟩ := c.def_ 7 (d := d19) rfl
  have A_ways : EL.At K mg "ways" (top 19) ["members", "many", "total"] := ⟨_, _, He.glo_ok X G (c.fact 7 (f := .glo "ways") rfl), F_ways, F_ways.bindsN fun _ _ _ _ _ _ us hl => match us, hl with | [_, _, _], _ => rfl⟩
  obtain ⟨fd_energy, F_energy⟩ := c.def_ 10 (d := d22) rfl
  have A_energy : EL.At K mg "energy" (top 22) ["members"] := ⟨_, _, He.glo_ok X G (c.fact 10 (f := .glo "energy") rfl), F_energy, F_energy.bindsN fun _ _ _ _ _ _ us hl => match us, hl with | [_], _ => rfl⟩
  obtain ⟨fd_part_sums, F_part_sums⟩ := c.def_ 6 (d := d18) rfl
  have A_part_sums : EL.At K mg "part_sums" (top 18) ["members"] := ⟨_, _, He.glo_ok X G (c.fact 6 (f := .glo "part_sums") rfl), F_part_sums, F_part_sums.bindsN fun _ _ _ _ _ _ us hl => match us, hl with | [_], _ => rfl⟩
  obtain ⟨fd_part_ways, F_part_ways⟩ := c.def_ 9 (d := d21) rfl
  have A_part_ways : EL.At K mg "part_ways" (top 21) ["members", "total"] := ⟨_, _, He.glo_ok X G (c.fact 9 (f := .glo "part_ways") rfl), F_part_ways, F_part_ways.bindsN fun _ _ _ _ _ _ us hl => match us, hl with | [_, _], _ => rfl⟩
  obtain ⟨fd_shared, F_shared⟩ := c.def_ 13 (d := d25) rfl
  have A_shared : EL.At K mg "shared" (top 25) ["first", "second"] := ⟨_, _, He.glo_ok X G (c.fact 13 (f := .glo "shared") rfl), F_shared, F_shared.bindsN fun _ _ _ _ _ _ us hl => match us, hl with | [_, _], _ => rfl⟩
  obtain ⟨fd_normal, F_normal⟩ := c.def_ 14 (d := d26) rfl
  have A_normal : EL.At K mg "normal" (top 26) ["members"] := ⟨_, _, He.glo_ok X G (c.fact 14 (f := .glo "normal") rfl), F_normal, F_normal.bindsN fun _ _ _ _ _ _ us hl => match us, hl with | [_], _ => rfl⟩
  obtain ⟨fd_measures_all, F_measures_all⟩ := c.def_ 21 (d := d36) rfl
  have A_measures_all : EL.At K mg "measures_all" (top 36) ["marks"] := ⟨_, _, He.glo_ok X G (c.fact 21 (f := .glo "measures_all") rfl), F_measures_all, F_measures_all.bindsN fun _ _ _ _ _ _ us hl => match us, hl with | [_], _ => rfl⟩
  obtain ⟨fd__law_stream, F__law_stream⟩ := c.def_ 27 (d := d44) rfl
  have A__law_stream : EL.At K mg "_law_stream" (top 44) ["script"] := ⟨_, _, He.glo_ok X G (c.fact 27 (f := .glo "_law_stream") rfl), F__law_stream, F__law_stream.bindsN fun _ _ _ _ _ _ us hl => match us, hl with | [_], _ => rfl⟩
  obtain ⟨fd__law_next, F__law_next⟩ := c.def_ 28 (d := d45) rfl
  have A__law_next : EL.At K mg "_law_next" (top 45) ["state", "many"] := ⟨_, _, He.glo_ok X G (c.fact 28 (f := .glo "_law_next") rfl), F__law_next, F__law_next.bindsN fun _ _ _ _ _ _ us hl => match us, hl with | [_, _], _ => rfl⟩
  obtain ⟨fd__law_one, F__law_one⟩ := c.def_ 30 (d := d47) rfl
  have A__law_one : EL.At K mg "_law_one" (top 47) ["state", "rows"] := ⟨_, _, He.glo_ok X G (c.fact 30 (f := .glo "_law_one") rfl), F__law_one, F__law_one.bindsN fun _ _ _ _ _ _ us hl => match us, hl with | [_, _], _ => rfl⟩
  obtain ⟨fd__law_set, F__law_set⟩ := c.def_ 31 (d := d48) rfl
  have A__law_set : EL.At K mg "_law_set" (top 48) ["state", "many", "most"] := ⟨_, _, He.glo_ok X G (c.fact 31 (f := .glo "_law_set") rfl), F__law_set, F__law_set.bindsN fun _ _ _ _ _ _ us hl => match us, hl with | [_, _, _], _ => rfl⟩
  obtain ⟨fd__law_raised, F__law_raised⟩ := c.def_ 32 (d := d49) rfl
  have A__law_raised : EL.At K mg "_law_raised" (top 49) ["base", "many"] := ⟨_, _, He.glo_ok X G (c.fact 32 (f := .glo "_law_raised") rfl), F__law_raised, F__law_raised.bindsN fun _ _ _ _ _ _ us hl => match us, hl with | [_, _], _ => rfl⟩
  obtain ⟨fd__law_moved_fit, F__law_moved_fit⟩ := c.def_ 33 (d := d50) rfl
  have A__law_moved_fit : EL.At K mg "_law_moved_fit" (top 50) ["state", "one", "two"] := ⟨_, _, He.glo_ok X G (c.fact 33 (f := .glo "_law_moved_fit") rfl), F__law_moved_fit, F__law_moved_fit.bindsN fun _ _ _ _ _ _ us hl => match us, hl with | [_, _, _], _ => rfl⟩
  obtain ⟨fd__law_counts_fit, F__law_counts_fit⟩ := c.def_ 34 (d := d51) rfl
  have A__law_counts_fit : EL.At K mg "_law_counts_fit" (top 51) ["state", "one", "two"] := ⟨_, _, He.glo_ok X G (c.fact 34 (f := .glo "_law_counts_fit") rfl), F__law_counts_fit, F__law_counts_fit.bindsN fun _ _ _ _ _ _ us hl => match us, hl with | [_, _, _], _ => rfl⟩
  obtain ⟨fd__law_folds_fit, F__law_folds_fit⟩ := c.def_ 35 (d := d52) rfl
  have A__law_folds_fit : EL.At K mg "_law_folds_fit" (top 52) ["state"] := ⟨_, _, He.glo_ok X G (c.fact 35 (f := .glo "_law_folds_fit") rfl), F__law_folds_fit, F__law_folds_fit.bindsN fun _ _ _ _ _ _ us hl => match us, hl with | [_], _ => rfl⟩
  refine ⟨fdL, fun s v => b s [v] rfl, fun base _ _ => ?_⟩
  have C_check_set := ok_check_set (P := P) (w := w) (base := base) T A_check_set
  have C_as_set := ok_as_set (P := P) (w := w) (base := base) T A_as_set
  have C_sums := ok_sums (P := P) (w := w) (base := base) T C_as_set C_check_set A_sums
  have C_unlike_sums := ok_unlike_sums (P := P) (w := w) (base := base) T C_as_set C_check_set A_unlike_sums
  have C_differences := ok_differences (P := P) (w := w) (base := base) T C_as_set C_check_set A_differences
  have C_scaled := ok_scaled (P := P) (w := w) (base := base) T C_as_set C_check_set A_scaled
  have C_is_row := ok_is_row (P := P) (w := w) (base := base) T C_check_set A_is_row
  have C_plain_least := ok_plain_least (P := P) (w := w) (base := base) T C_check_set A_plain_least
  have C_plain_sums := ok_plain_sums (P := P) (w := w) (base := base) T C_check_set A_plain_sums
  have C_is_least := ok_is_least (P := P) (w := w) (base := base) T C_plain_least C_plain_sums A_is_least
  have C_is_free := ok_is_free (P := P) (w := w) (base := base) T C_check_set A_is_free
  have C_is_unlike_free := ok_is_unlike_free (P := P) (w := w) (base := base) T C_check_set A_is_unlike_free
  have C_is_unlike := ok_is_unlike (P := P) (w := w) (base := base) T C_check_set A_is_unlike
  have C_gaps := ok_gaps (P := P) (w := w) (base := base) T C_check_set A_gaps
  have C_lost_gaps := ok_lost_gaps (P := P) (w := w) (base := base) T C_gaps A_lost_gaps
  have C_is_perfect := ok_is_perfect (P := P) (w := w) (base := base) T C_is_unlike C_lost_gaps A_is_perfect
  have C_are_rows_alike := ok_are_rows_alike (P := P) (w := w) (base := base) T C_check_set C_is_row A_are_rows_alike
  have C_folded := ok_folded (P := P) (w := w) (base := base) T C_as_set C_check_set A_folded
  have C_stepped := ok_stepped (P := P) (w := w) (base := base) T A_stepped
  have C_ways := ok_ways (P := P) (w := w) (base := base) T C_check_set C_stepped A_ways
  have C_energy := ok_energy (P := P) (w := w) (base := base) T C_check_set C_stepped A_energy
  have C_part_sums := ok_part_sums (P := P) (w := w) (base := base) T C_as_set C_check_set A_part_sums
  have C_part_ways := ok_part_ways (P := P) (w := w) (base := base) T C_check_set A_part_ways
  have C_shared := ok_shared (P := P) (w := w) (base := base) T A_shared
  have C_normal := ok_normal (P := P) (w := w) (base := base) T C_check_set C_shared A_normal
  have C_measures_all := ok_measures_all (P := P) (w := w) (base := base) T C_check_set A_measures_all
  have C__law_stream := ok__law_stream (P := P) (w := w) (base := base) T A__law_stream
  have C__law_next := ok__law_next (P := P) (w := w) (base := base) T A__law_next
  have C__law_one := ok__law_one (P := P) (w := w) (base := base) T C__law_next A__law_one
  have C__law_set := ok__law_set (P := P) (w := w) (base := base) T C__law_next A__law_set
  have C__law_raised := ok__law_raised (P := P) (w := w) (base := base) T A__law_raised
  have C__law_moved_fit := ok__law_moved_fit (P := P) (w := w) (base := base) T C__law_next C__law_one C_differences C_energy C_gaps C_is_free C_is_perfect C_is_unlike C_is_unlike_free C_measures_all C_normal C_scaled C_sums A__law_moved_fit
  have C__law_counts_fit := ok__law_counts_fit (P := P) (w := w) (base := base) T C__law_raised C_are_rows_alike C_energy C_is_least C_is_unlike C_part_sums C_part_ways C_plain_least C_plain_sums C_sums C_unlike_sums C_ways A__law_counts_fit
  have C__law_folds_fit := ok__law_folds_fit (P := P) (w := w) (base := base) T C__law_next C__law_one C__law_raised C__law_set C_folded C_sums C_ways A__law_folds_fit
  exact ok_law T C__law_counts_fit C__law_folds_fit C__law_moved_fit C__law_set C__law_stream FL
end
end S64
open PySem PySem.W PySem.Calls PyProof.Rows
set_option maxHeartbeats 0 in
theorem PySem.Challenge.cw_setsadded_k64_main_sets_moved_and_scaled_holds : PySem.Challenge.rw_setsadded_k64_main_sets_moved_and_scaled.Holds := by
  w_on; o_law
  refine HandSHeadRun.head_any (r := OpenLaw.row PySem.Challenge.rw_setsadded_k64_main_sets_moved_and_scaled) (q := view (OpenLaw.row PySem.Challenge.rw_setsadded_k64_main_sets_moved_and_scaled).prog [53]) (H := S64.hk) (ob := S64.ob) (M := 20000) (loose := S64.loose) (d := HandSHeadRun.topDef (OpenLaw.row PySem.Challenge.rw_setsadded_k64_main_sets_moved_and_scaled).prog 53) (kwd := []) S64.ob_eq
    (by kernel_rfl) (fun s => by kernel_rfl) S64.run (by kernel_rfl) (by kernel_rfl) (by kernel_rfl) (by rfl) (by first | assumption | decide +kernel) (by decide +kernel) ⟨rfl, rfl, rfl, rfl, rfl, by decide +kernel⟩ ?hw ?hc
  case hw => w_witness2
  case hc =>
    refine L2.walk_ofE (l := PySem.Challenge.rw_setsadded_k64_main_sets_moved_and_scaled) (n := 63) (k := 6) (x := "script") (CX := L2.CX0) rfl (by decide) (by kernel_rfl) ⟨rfl, by decide, by decide⟩ ?F (fun _ _ _ _ z => z)
    intro w mg fa h Y G hmg0
    obtain ⟨K, KX, c⟩ := Y
    have hmg : mg ("law" : PySem.Str) = some (.ref fa) := by
      have e : (HandSHeadRun.topDef (OpenLaw.row PySem.Challenge.rw_setsadded_k64_main_sets_moved_and_scaled).prog 53).name = ("law" : PySem.Str) := by kernel_rfl
      rw [← e]
      exact hmg0
    obtain ⟨fd, hb, hF⟩ := S64.facts (P := (PySem.Challenge.rw_setsadded_k64_main_sets_moved_and_scaled).prog) (w := w) KX G hmg c
    exact ⟨K, fd, EL.spLaw K, KX, hb, fun H a ns hl _ hS => ⟨a, ns, rfl, hS, fun _ => rfl⟩, hF⟩
