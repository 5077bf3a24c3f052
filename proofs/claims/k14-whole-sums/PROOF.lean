import PyProof.Rows.All
import Wide.All
import OpenK.AllK
import Wide.FinOn
import HandS.ForMost
import HandS.More
import HandS.Gcd
import HandS.Wide
import HandS.WideBits
import HandS.TupMul
import HandS.TupAny
import HandS.IsInst
import HandS.DictComp
import HandS.Walk
import KE.GoesMore
import KE.GoesEnum
import PySem.Challenge.RW_keptlengths_k14_whole_sums_of_machines_b
/-! Machines, worths, the maximum principle. Core Lean alone. -/
namespace KM
set_option linter.all false

/-! ### sums over lists of rationals -/
theorem sum_nil {α : Type} (f : α → Rat) : (([] : List α).map f).sum = 0 := by simp
theorem sum_cons {α : Type} (f : α → Rat) (a : α) (l : List α) : ((a :: l).map f).sum = f a + (l.map f).sum := by simp
theorem sum_le {α : Type} (f g : α → Rat) : ∀ (l : List α), (∀ a ∈ l, f a ≤ g a) → (l.map f).sum ≤ (l.map g).sum
  | [], _ => by simp
  | a :: l, h => by
    rw [sum_cons, sum_cons]
    have h1 := h a (by simp)
    have h2 := sum_le f g l (fun b hb => h b (by simp [hb]))
    grind
theorem sum_nonneg {α : Type} (f : α → Rat) : ∀ (l : List α), (∀ a ∈ l, 0 ≤ f a) → 0 ≤ (l.map f).sum
  | [], _ => by simp
  | a :: l, h => by
    rw [sum_cons]
    have h1 := h a (by simp)
    have h2 := sum_nonneg f l (fun b hb => h b (by simp [hb]))
    grind
theorem sum_zero_each {α : Type} (f : α → Rat) : ∀ (l : List α), (∀ a ∈ l, 0 ≤ f a) → (l.map f).sum ≤ 0 → ∀ a ∈ l, f a = 0
  | [], _, _ => by simp
  | a :: l, h, hs => by
    rw [sum_cons] at hs
    have h1 := h a (by simp)
    have h2 := sum_nonneg f l (fun b hb => h b (by simp [hb]))
    have h3 := sum_zero_each f l (fun b hb => h b (by simp [hb])) (by grind)
    intro b hb
    rcases List.mem_cons.mp hb with rfl | hb
    · grind
    · exact h3 b hb
theorem le_sum_of_mem {α : Type} (f : α → Rat) : ∀ (l : List α), (∀ a ∈ l, 0 ≤ f a) → ∀ a ∈ l, f a ≤ (l.map f).sum
  | [], _, _, hb => by simp at hb
  | a :: l, h, b, hb => by
    rw [sum_cons]
    have h1 := h a (by simp)
    have h2 := sum_nonneg f l (fun b hb => h b (by simp [hb]))
    rcases List.mem_cons.mp hb with rfl | hb
    · grind
    · have h3 := le_sum_of_mem f l (fun b hb => h b (by simp [hb])) b hb
      grind
theorem sum_congr {α : Type} (f g : α → Rat) : ∀ (l : List α), (∀ a ∈ l, f a = g a) → (l.map f).sum = (l.map g).sum
  | [], _ => by simp
  | a :: l, h => by
    rw [sum_cons, sum_cons, h a (by simp), sum_congr f g l (fun b hb => h b (by simp [hb]))]
theorem sum_mul {α : Type} (c : Rat) (f : α → Rat) : ∀ (l : List α), (l.map fun a => c * f a).sum = c * (l.map f).sum
  | [] => by simp
  | a :: l => by
    rw [sum_cons, sum_cons, sum_mul c f l]; grind
theorem sum_add {α : Type} (f g : α → Rat) : ∀ (l : List α), (l.map fun a => f a + g a).sum = (l.map f).sum + (l.map g).sum
  | [] => by simp; grind
  | a :: l => by
    rw [sum_cons, sum_cons, sum_cons, sum_add f g l]; grind
theorem sum_sub {α : Type} (f g : α → Rat) : ∀ (l : List α), (l.map fun a => f a - g a).sum = (l.map f).sum - (l.map g).sum
  | [] => by simp; grind
  | a :: l => by
    rw [sum_cons, sum_cons, sum_cons, sum_sub f g l]; grind
/-- a place where f is greatest -/
theorem exists_max {α : Type} (f : α → Rat) : ∀ (l : List α), l ≠ [] → ∃ a ∈ l, ∀ b ∈ l, f b ≤ f a
  | [], h => absurd rfl h
  | [a], _ => ⟨a, by simp, by simp⟩
  | a :: b :: l, _ => by
    obtain ⟨c, hc, h⟩ := exists_max f (b :: l) (by simp)
    by_cases h1 : f c ≤ f a
    · refine ⟨a, by simp, fun d hd => ?_⟩
      rcases List.mem_cons.mp hd with rfl | hd
      · grind
      · have := h d hd; grind
    · refine ⟨c, by simp [hc], fun d hd => ?_⟩
      rcases List.mem_cons.mp hd with rfl | hd
      · grind
      · exact h d hd

/-! ### halves -/
def half (m : Nat) : Rat := ⟨1, 2 ^ m, by exact Nat.ne_of_gt (Nat.two_pow_pos m), by simp [Nat.Coprime]⟩
theorem half_num (m : Nat) : (half m).num = 1 := rfl
theorem half_den (m : Nat) : (half m).den = 2 ^ m := rfl
theorem half_mul_pow (m : Nat) : half m * ((2 : Nat) ^ m : Nat) = 1 := by
  have e : half m = (1 : Int) / ((2 ^ m : Nat) : Rat) := by
    have h := Rat.mkRat_self (half m)
    rw [half_num, half_den, Rat.mkRat_eq_div] at h
    exact h.symm
  have h2 : ((2 ^ m : Nat) : Rat) ≠ 0 := by
    have := Nat.two_pow_pos m
    intro h
    rw [Rat.natCast_eq_zero_iff] at h
    omega
  rw [e, Rat.div_mul_cancel h2]
  rfl
theorem pow_pos (m : Nat) : (0 : Rat) < ((2 ^ m : Nat) : Rat) := by
  have := Nat.two_pow_pos m
  exact_mod_cast this
theorem half_pos (m : Nat) : 0 < half m := by
  have h1 := half_mul_pow m
  have h2 := pow_pos m
  by_cases h : 0 < half m
  · exact h
  · have h3 : half m ≤ 0 := by grind
    have h4 : half m * ((2 ^ m : Nat) : Rat) ≤ 0 := by
      have := Rat.mul_le_mul_of_nonneg_right h3 (Rat.le_of_lt h2)
      grind
    grind
theorem half_add (a b : Nat) : half (a + b) = half a * half b := by
  have h1 := half_mul_pow (a + b)
  have h2 := half_mul_pow a
  have h3 := half_mul_pow b
  have e : ((2 ^ (a + b) : Nat) : Rat) = ((2 ^ a : Nat) : Rat) * ((2 ^ b : Nat) : Rat) := by
    rw [Nat.pow_add]; exact Rat.natCast_mul _ _
  have h4 := pow_pos a
  have h5 := pow_pos b
  rw [e] at h1
  generalize ((2 ^ a : Nat) : Rat) = x at *
  generalize ((2 ^ b : Nat) : Rat) = y at *
  generalize half (a + b) = p at *
  generalize half a = q at *
  generalize half b = r at *
  have : p * (x * y) * (q * r) = q * r := by rw [h1]; grind
  grind
theorem half_zero : half 0 = 1 := by
  have := half_mul_pow 0
  simp at this
  exact this
theorem half_one_two : half 1 + half 1 = 1 := by
  have := half_mul_pow 1
  have e : ((2 ^ 1 : Nat) : Rat) = 2 := rfl
  rw [e] at this
  grind

/-! ### machines -/
abbrev Step := Option (Nat × Nat)
structure Row where
  fin : Option Nat
  steps : List Step
structure Mach where
  size : Nat
  rows : List Row
def Row.stp (r : Row) : List (Nat × Nat) := r.steps.filterMap id
def stp (M : Mach) (i : Nat) : List (Nat × Nat) := match M.rows[i]? with
  | none => []
  | some r => r.stp
def fin (M : Mach) (i : Nat) : Option Nat := match M.rows[i]? with
  | none => none
  | some r => r.fin
theorem stp_of {M : Mach} {i : Nat} {r : Row} (h : M.rows[i]? = some r) : stp M i = r.stp := by unfold stp; rw [h]
theorem fin_of {M : Mach} {i : Nat} {r : Row} (h : M.rows[i]? = some r) : fin M i = r.fin := by unfold fin; rw [h]
theorem stp_out {M : Mach} {i : Nat} (h : M.rows.length ≤ i) : stp M i = [] := by unfold stp; rw [List.getElem?_eq_none_iff.mpr h]
theorem fin_out {M : Mach} {i : Nat} (h : M.rows.length ≤ i) : fin M i = none := by unfold fin; rw [List.getElem?_eq_none_iff.mpr h]
theorem mem_rstp {r : Row} {p : Nat × Nat} : p ∈ r.stp ↔ some p ∈ r.steps := by
  unfold Row.stp
  rw [List.mem_filterMap]
  constructor
  · rintro ⟨a, h, e⟩
    have e' : a = some p := e
    rw [← e']; exact h
  · intro h
    exact ⟨some p, h, rfl⟩
/-- what is_machine asks -/
structure Valid (M : Mach) : Prop where
  size1 : 1 ≤ M.size
  size8 : M.size ≤ 8
  rows1 : 1 ≤ M.rows.length
  rows30 : M.rows.length ≤ 30
  len : ∀ r ∈ M.rows, r.steps.length = M.size
  fins : ∀ r ∈ M.rows, ∀ e, r.fin = some e → 1 ≤ e ∧ e ≤ 60
  mores : ∀ r ∈ M.rows, ∀ m s, some (m, s) ∈ r.steps → m ≤ 60 ∧ s < M.rows.length

inductive Reach (M : Mach) : Nat → Prop
  | zero : Reach M 0
  | step {i m j : Nat} : Reach M i → (m, j) ∈ stp M i → Reach M j
inductive Co (M : Mach) : Nat → Prop
  | fin {i e : Nat} : fin M i = some e → Co M i
  | step {i m j : Nat} : (m, j) ∈ stp M i → Co M j → Co M i
def St (M : Mach) (i : Nat) : Prop := Reach M i ∧ Co M i

theorem Valid.stp_lt {M : Mach} (V : Valid M) {i m j : Nat} (h : (m, j) ∈ stp M i) : j < M.rows.length := by
  unfold stp at h
  cases e : M.rows[i]? with
  | none => rw [e] at h; simp at h
  | some r =>
    rw [e] at h
    have h1 := mem_rstp.mp h
    exact (V.mores r (List.mem_of_getElem? e) m j h1).2
theorem Valid.reach_lt {M : Mach} (V : Valid M) {i : Nat} (h : Reach M i) : i < M.rows.length := by
  cases h with
  | zero => exact V.rows1
  | step _ h => exact V.stp_lt h

def bval (M : Mach) (i : Nat) : Rat := match fin M i with
  | none => 0
  | some e => half e
def wsum (M : Mach) (x : Nat → Rat) (i : Nat) : Rat := ((stp M i).map fun p => half p.1 * x p.2).sum
theorem bval_nn (M : Mach) (i : Nat) : 0 ≤ bval M i := by
  unfold bval
  cases fin M i with
  | none => exact Rat.le_refl
  | some e => exact Rat.le_of_lt (half_pos e)
theorem bval_some {M : Mach} {i e : Nat} (h : fin M i = some e) : bval M i = half e := by unfold bval; rw [h]
theorem wsum_nn {M : Mach} {x : Nat → Rat} (h : ∀ i, 0 ≤ x i) (i : Nat) : 0 ≤ wsum M x i :=
  sum_nonneg _ _ fun p _ => Rat.mul_nonneg (Rat.le_of_lt (half_pos p.1)) (h p.2)
theorem wsum_ge {M : Mach} {x : Nat → Rat} (h : ∀ i, 0 ≤ x i) {i m j : Nat} (hm : (m, j) ∈ stp M i) : half m * x j ≤ wsum M x i :=
  le_sum_of_mem (fun p : Nat × Nat => half p.1 * x p.2) _ (fun p _ => Rat.mul_nonneg (Rat.le_of_lt (half_pos p.1)) (h p.2)) (m, j) hm

structure Worth (M : Mach) (x : Nat → Rat) : Prop where
  off : ∀ i, ¬ St M i → x i = 0
  nn : ∀ i, 0 ≤ x i
  eq : ∀ i, St M i → x i = bval M i + wsum M x i

/-- a supersolution from 0 on is positive where texts go through -/
theorem pos_of_super {M : Mach} {y : Nat → Rat} (nn : ∀ i, 0 ≤ y i) (sup : ∀ i, St M i → bval M i + wsum M y i ≤ y i) : ∀ i, Co M i → Reach M i → 0 < y i := by
  intro i hc
  induction hc with
  | @fin i e h =>
    intro hr
    have h1 := sup i ⟨hr, .fin h⟩
    have h2 := half_pos e
    have h3 := wsum_nn nn (M := M) i
    rw [bval_some h] at h1
    grind
  | @step i m j h hc ih =>
    intro hr
    have h1 := sup i ⟨hr, .step h hc⟩
    have h2 := ih (.step hr h)
    have h3 := wsum_ge nn h
    have h4 := bval_nn M i
    have h5 := Rat.mul_pos (half_pos m) h2
    grind

open Classical in
/-- THE MAXIMUM PRINCIPLE -/
theorem max_principle {M : Mach} (V : Valid M) {y v : Nat → Rat} (nn : ∀ i, 0 ≤ y i) (sup : ∀ i, St M i → bval M i + wsum M y i ≤ y i)
    (voff : ∀ i, ¬ St M i → v i = 0) (hv : ∀ i, St M i → v i ≤ wsum M v i) : ∀ i, v i ≤ 0 := by
  have pos := pos_of_super nn sup
  by_cases hL : (List.range M.rows.length).filter (fun i => decide (St M i)) = []
  · intro i
    have : ¬ St M i := by
      intro hs
      have : i ∈ (List.range M.rows.length).filter (fun i => decide (St M i)) := by
        simp [hs, V.reach_lt hs.1]
      rw [hL] at this
      simp at this
    rw [voff i this]
    exact Rat.le_refl
  · obtain ⟨i0, h0, hmax⟩ := exists_max (fun i => v i / y i) _ hL
    have hs0 : St M i0 := by simpa using (List.mem_filter.mp h0).2
    generalize ht : v i0 / y i0 = t at *
    have all : ∀ i, St M i → v i ≤ t * y i := by
      intro i hs
      have hm := hmax i (by simp [hs, V.reach_lt hs.1])
      have hp := pos i hs.2 hs.1
      have e : v i = (v i / y i) * y i := by grind
      rw [e]
      exact Rat.mul_le_mul_of_nonneg_right hm (Rat.le_of_lt hp)
    by_cases htp : 0 < t
    · exfalso
      have allv : ∀ j, v j ≤ t * y j := by
        intro j
        by_cases hs : St M j
        · exact all j hs
        · rw [voff j hs]
          exact Rat.mul_nonneg (Rat.le_of_lt htp) (nn j)
      have key : ∀ i, Co M i → Reach M i → v i = t * y i → False := by
        intro i hc
        induction hc with
        | @fin i e h =>
          intro hr he
          have hs : St M i := ⟨hr, .fin h⟩
          have h1 := sup i hs
          have h2 := hv i hs
          have h3 : wsum M v i ≤ t * wsum M y i := by
            unfold wsum
            rw [← sum_mul]
            refine sum_le _ _ _ fun p _ => ?_
            have := Rat.mul_le_mul_of_nonneg_left (allv p.2) (Rat.le_of_lt (half_pos p.1))
            grind
          have h4 : t * (bval M i + wsum M y i) ≤ t * y i := Rat.mul_le_mul_of_nonneg_left h1 (Rat.le_of_lt htp)
          rw [bval_some h] at h4
          have h5 := Rat.mul_pos htp (half_pos e)
          grind
        | @step i m j h hc ih =>
          intro hr he
          have hs : St M i := ⟨hr, .step h hc⟩
          have h1 := sup i hs
          have h2 := hv i hs
          have h4 : t * (bval M i + wsum M y i) ≤ t * y i := Rat.mul_le_mul_of_nonneg_left h1 (Rat.le_of_lt htp)
          have h6 : 0 ≤ t * bval M i := Rat.mul_nonneg (Rat.le_of_lt htp) (bval_nn M i)
          have h7 : t * wsum M y i - wsum M v i ≤ 0 := by grind
          have h8 : ((stp M i).map fun p : Nat × Nat => t * (half p.1 * y p.2) - half p.1 * v p.2).sum ≤ 0 := by
            rw [sum_sub (fun p : Nat × Nat => t * (half p.1 * y p.2)) (fun p : Nat × Nat => half p.1 * v p.2), sum_mul]
            exact h7
          have h9 := sum_zero_each (fun p : Nat × Nat => t * (half p.1 * y p.2) - half p.1 * v p.2) _ (fun p _ => by
            have := Rat.mul_le_mul_of_nonneg_left (allv p.2) (Rat.le_of_lt (half_pos p.1))
            grind) h8 (m, j) h
          have h10 := half_pos m
          refine ih (.step hr h) ?_
          have h11 : half m * (t * y j - v j) = 0 := by grind
          rcases Rat.mul_eq_zero.mp h11 with h | h
          · grind
          · grind
      refine key i0 hs0.2 hs0.1 ?_
      have hp := pos i0 hs0.2 hs0.1
      rw [← ht]
      grind
    · intro i
      by_cases hs : St M i
      · have h1 := all i hs
        have h2 : 0 ≤ (-t) * y i := Rat.mul_nonneg (by grind) (nn i)
        grind
      · rw [voff i hs]
        exact Rat.le_refl

theorem wsum_sub (M : Mach) (x y : Nat → Rat) (i : Nat) : wsum M (fun j => x j - y j) i = wsum M x i - wsum M y i := by
  unfold wsum
  rw [← sum_sub]
  exact sum_congr _ _ _ fun p _ => by grind
theorem wsum_neg (M : Mach) (x : Nat → Rat) (i : Nat) : wsum M (fun j => - x j) i = - wsum M x i := by
  have : wsum M (fun j => - x j) i = (-1) * wsum M x i := by
    unfold wsum
    rw [← sum_mul]
    exact sum_congr _ _ _ fun p _ => by grind
  rw [this]; grind
theorem wsum_mul (M : Mach) (c : Rat) (x : Nat → Rat) (i : Nat) : wsum M (fun j => c * x j) i = c * wsum M x i := by
  unfold wsum
  rw [← sum_mul]
  exact sum_congr _ _ _ fun p _ => by grind
theorem Worth.super {M : Mach} {x : Nat → Rat} (h : Worth M x) : ∀ i, St M i → bval M i + wsum M x i ≤ x i := fun i hs => by
  rw [h.eq i hs]
  exact Rat.le_refl
theorem Worth.pos {M : Mach} {x : Nat → Rat} (h : Worth M x) {i : Nat} (hs : St M i) : 0 < x i := pos_of_super h.nn h.super i hs.2 hs.1
/-- a null vector is 0 where a worth stands -/
theorem Worth.null {M : Mach} (V : Valid M) {x v : Nat → Rat} (h : Worth M x) (voff : ∀ i, ¬ St M i → v i = 0) (hv : ∀ i, St M i → v i = wsum M v i) : ∀ i, v i = 0 := by
  intro i
  have a := max_principle V h.nn h.super voff (fun i hs => by rw [← hv i hs]; exact Rat.le_refl) i
  have b := max_principle V h.nn h.super (v := fun j => - v j) (fun i hs => by rw [voff i hs]; grind) (fun i hs => by
    rw [wsum_neg, ← hv i hs]; exact Rat.le_refl) i
  grind
theorem Worth.unique {M : Mach} (V : Valid M) {x y : Nat → Rat} (h : Worth M x) (h' : Worth M y) : ∀ i, x i = y i := by
  intro i
  have := h.null V (v := fun j => y j - x j) (fun i hs => by rw [h.off i hs, h'.off i hs]; grind) (fun i hs => by
    rw [wsum_sub, h.eq i hs, h'.eq i hs]; grind) i
  grind
/-- what is told of a machine -/
def IsTot (M : Mach) : Option Rat → Prop
  | none => ¬ ∃ x, Worth M x
  | some r => ∃ x, Worth M x ∧ x 0 = r
theorem IsTot.unique {M : Mach} (V : Valid M) {r s : Option Rat} (h : IsTot M r) (h' : IsTot M s) : r = s := by
  cases r with
  | none => cases s with
    | none => rfl
    | some s => obtain ⟨x, hx, _⟩ := h'; exact absurd ⟨x, hx⟩ h
  | some r => cases s with
    | none => obtain ⟨x, hx, _⟩ := h; exact absurd ⟨x, hx⟩ h'
    | some s =>
      obtain ⟨x, hx, rfl⟩ := h
      obtain ⟨y, hy, rfl⟩ := h'
      rw [hx.unique V hy]
end KM

/-! Elimination over function matrices. -/
namespace KM
set_option linter.all false

def sumTo : Nat → (Nat → Rat) → Rat
  | 0, _ => 0
  | n + 1, f => sumTo n f + f n
theorem sumTo_congr {f g : Nat → Rat} : ∀ {n : Nat}, (∀ j, j < n → f j = g j) → sumTo n f = sumTo n g
  | 0, _ => rfl
  | n + 1, h => by
    show sumTo n f + f n = sumTo n g + g n
    rw [sumTo_congr (fun j hj => h j (by omega)), h n (by omega)]
theorem sumTo_add (f g : Nat → Rat) : ∀ (n : Nat), sumTo n (fun j => f j + g j) = sumTo n f + sumTo n g
  | 0 => by simp [sumTo]; grind
  | n + 1 => by
    show sumTo n (fun j => f j + g j) + (f n + g n) = (sumTo n f + f n) + (sumTo n g + g n)
    rw [sumTo_add f g n]; grind
theorem sumTo_mul (c : Rat) (f : Nat → Rat) : ∀ (n : Nat), sumTo n (fun j => c * f j) = c * sumTo n f
  | 0 => by simp [sumTo]
  | n + 1 => by
    show sumTo n (fun j => c * f j) + c * f n = c * (sumTo n f + f n)
    rw [sumTo_mul c f n]; grind
theorem sumTo_zero {f : Nat → Rat} {n : Nat} (h : ∀ j, j < n → f j = 0) : sumTo n f = 0 := by
  rw [sumTo_congr (g := fun _ => 0 * 0) (fun j hj => by rw [h j hj]; grind), sumTo_mul]; grind
theorem sumTo_one {f : Nat → Rat} {k : Nat} : ∀ {n : Nat}, k < n → (∀ j, j < n → j ≠ k → f j = 0) → sumTo n f = f k
  | 0, h, _ => absurd h (Nat.not_lt_zero _)
  | n + 1, h, h0 => by
    show sumTo n f + f n = f k
    by_cases e : k = n
    · subst e
      rw [sumTo_zero (fun j hj => h0 j (by omega) (by omega))]; grind
    · rw [sumTo_one (k := k) (by omega) (fun j hj hk => h0 j (by omega) hk), h0 n (by omega) (by omega)]; grind

/-- the vectors that the rows take to 0 -/
def Ker (n : Nat) (m : Nat → Nat → Rat) (z : Nat → Rat) : Prop := ∀ i, i < n → sumTo (n + 1) (fun j => m i j * z j) = 0
theorem row_lin {n : Nat} {p q r : Nat → Rat} {a b : Rat} (h : ∀ j, p j = a * q j + b * r j) (z : Nat → Rat) :
    sumTo (n + 1) (fun j => p j * z j) = a * sumTo (n + 1) (fun j => q j * z j) + b * sumTo (n + 1) (fun j => r j * z j) := by
  rw [← sumTo_mul, ← sumTo_mul, ← sumTo_add]
  exact sumTo_congr fun j _ => by rw [h j]; grind
/-- each row a multiple of itself and of row c's -/
theorem ker_step {n c : Nat} {m m' : Nat → Nat → Rat} (hc : c < n) (h1 : ∀ i, i < n → i ≠ c → ∃ a b : Rat, a ≠ 0 ∧ ∀ j, m' i j = a * m i j + b * m c j)
    (h2 : ∃ a : Rat, a ≠ 0 ∧ ∀ j, m' c j = a * m c j) (z : Nat → Rat) : Ker n m z ↔ Ker n m' z := by
  obtain ⟨a, ha, h2⟩ := h2
  have ec := row_lin (n := n) (p := m' c) (q := m c) (r := m c) (a := a) (b := 0) (fun j => by rw [h2 j]; grind) z
  constructor
  · intro k i hi
    by_cases e : i = c
    · subst e
      rw [ec, k i hi]; grind
    · obtain ⟨a', b', _, h⟩ := h1 i hi e
      rw [row_lin h z, k i hi, k c hc]; grind
  · intro k
    have kc : sumTo (n + 1) (fun j => m c j * z j) = 0 := by
      have := k c hc
      rw [ec] at this
      have h3 : a * sumTo (n + 1) (fun j => m c j * z j) = 0 := by grind
      rcases Rat.mul_eq_zero.mp h3 with h | h
      · exact absurd h ha
      · exact h
    intro i hi
    by_cases e : i = c
    · subst e; exact kc
    · obtain ⟨a', b', ha', h⟩ := h1 i hi e
      have := k i hi
      rw [row_lin h z, kc] at this
      have h3 : a' * sumTo (n + 1) (fun j => m i j * z j) = 0 := by grind
      rcases Rat.mul_eq_zero.mp h3 with h | h
      · exact absurd h ha'
      · exact h
/-- two numbers exchanged -/
def sw (c d i : Nat) : Nat := if i = c then d else if i = d then c else i
theorem sw_sw (c d i : Nat) : sw c d (sw c d i) = i := by
  unfold sw
  by_cases h1 : i = c
  · subst h1
    by_cases h2 : d = i
    · subst h2; simp
    · simp [h2]
  · by_cases h2 : i = d
    · subst h2; simp [h1]
    · simp [h1, h2]
theorem sw_lt {c d i n : Nat} (hc : c < n) (hd : d < n) (hi : i < n) : sw c d i < n := by
  unfold sw
  split
  · exact hd
  · split
    · exact hc
    · exact hi
theorem sw_left (c d : Nat) : sw c d c = d := by simp [sw]
theorem sw_other {c d i : Nat} (h1 : i ≠ c) (h2 : i ≠ d) : sw c d i = i := by simp [sw, h1, h2]
theorem sw_ge {c d i : Nat} (hd : c ≤ d) (hi : c ≤ i) : c ≤ sw c d i := by
  unfold sw
  split
  · exact hd
  · split
    · exact Nat.le_refl _
    · exact hi
theorem ker_swap {n c d : Nat} {m : Nat → Nat → Rat} (hc : c < n) (hd : d < n) (z : Nat → Rat) : Ker n m z ↔ Ker n (fun i j => m (sw c d i) j) z := by
  constructor
  · intro k i hi
    exact k _ (sw_lt hc hd hi)
  · intro k i hi
    have := k (sw c d i) (sw_lt hc hd hi)
    simp only [sw_sw] at this
    exact this

/-- the matrix m is N, eliminated in its first k columns -/
structure GJ (n k : Nat) (N m : Nat → Nat → Rat) : Prop where
  ker : ∀ z, Ker n N z ↔ Ker n m z
  col : ∀ i c, i < n → c < k → c ≠ i → m i c = 0
  piv : ∀ i, i < k → m i i ≠ 0
theorem GJ.start (n : Nat) (N : Nat → Nat → Rat) : GJ n 0 N N := ⟨fun _ => Iff.rfl, fun _ _ _ h => absurd h (Nat.not_lt_zero _), fun _ h => absurd h (Nat.not_lt_zero _)⟩
theorem GJ.congr {n k : Nat} {N m m' : Nat → Nat → Rat} (g : GJ n k N m) (hk : k ≤ n) (h : ∀ i j, i < n → j < n + 1 → m' i j = m i j) : GJ n k N m' := by
  refine ⟨fun z => ?_, fun i c hi hc hn => ?_, fun i hi => ?_⟩
  · rw [g.ker z]
    constructor
    · intro q i hi
      rw [sumTo_congr (g := fun j => m i j * z j) (fun j hj => by rw [h i j hi hj])]
      exact q i hi
    · intro q i hi
      rw [sumTo_congr (g := fun j => m' i j * z j) (fun j hj => by rw [h i j hi hj])]
      exact q i hi
  · rw [h i c hi (by omega)]; exact g.col i c hi hc hn
  · rw [h i i (by omega) (by omega)]; exact g.piv i hi
/-- a column more: the rows k and d exchanged, then each row but k freed of the column -/
theorem GJ.step {n k d : Nat} {N m m' : Nat → Nat → Rat} (g : GJ n k N m) (hk : k < n) (hd : k ≤ d) (hdn : d < n) (hp : m d k ≠ 0)
    (h1 : ∀ i, i < n → i ≠ k → m' i k = 0 ∧ ∃ a b : Rat, a ≠ 0 ∧ ∀ j, m' i j = a * m (sw k d i) j + b * m d j)
    (h2 : ∃ a : Rat, a ≠ 0 ∧ ∀ j, m' k j = a * m d j) : GJ n (k + 1) N m' := by
  refine ⟨fun z => ?_, fun i c hi hc hn => ?_, fun i hi => ?_⟩
  · rw [g.ker z, ker_swap hk hdn z]
    refine ker_step hk (fun i hi e => ?_) ?_ z
    · obtain ⟨_, a, b, ha, h⟩ := h1 i hi e
      exact ⟨a, b, ha, fun j => by simp only [sw_left]; exact h j⟩
    · obtain ⟨a, ha, h⟩ := h2
      exact ⟨a, ha, fun j => by simp only [sw_left]; exact h j⟩
  · have hdc : c < k → m d c = 0 := fun hck => g.col d c hdn hck (by omega)
    by_cases e : i = k
    · subst e
      obtain ⟨a, _, h⟩ := h2
      rw [h c, hdc (by omega)]; grind
    · obtain ⟨h0, a, b, _, h⟩ := h1 i hi e
      by_cases ec : c = k
      · subst ec; exact h0
      · have hck : c < k := by omega
        rw [h c, hdc hck]
        have : m (sw k d i) c = 0 := by
          refine g.col _ c (sw_lt hk hdn hi) hck ?_
          by_cases hik : i < k
          · rw [sw_other (by omega) (by omega)]; exact hn
          · have := sw_ge (c := k) (d := d) (i := i) hd (by omega)
            omega
        rw [this]; grind
  · by_cases e : i = k
    · subst e
      obtain ⟨a, ha, h⟩ := h2
      rw [h i]
      intro z
      rcases Rat.mul_eq_zero.mp z with z | z
      · exact ha z
      · exact hp z
    · obtain ⟨_, a, b, ha, h⟩ := h1 i (by omega) e
      have hik : i < k := by omega
      rw [h i, g.col d i hdn hik (by omega), sw_other (by omega) (by omega)]
      have := g.piv i hik
      intro z
      have z' : a * m i i = 0 := by grind
      rcases Rat.mul_eq_zero.mp z' with z | z
      · exact ha z
      · exact this z

/-- x solves the rows -/
def Sol (n : Nat) (m : Nat → Nat → Rat) (x : Nat → Rat) : Prop := ∀ i, i < n → sumTo n (fun j => m i j * x j) = m i n
def Null (n : Nat) (m : Nat → Nat → Rat) (v : Nat → Rat) : Prop := ∀ i, i < n → sumTo n (fun j => m i j * v j) = 0
def ext (n : Nat) (x : Nat → Rat) (c : Rat) : Nat → Rat := fun j => if j < n then x j else c
theorem sum_ext (n : Nat) (p x : Nat → Rat) (c : Rat) : sumTo (n + 1) (fun j => p j * ext n x c j) = sumTo n (fun j => p j * x j) + p n * c := by
  show sumTo n (fun j => p j * ext n x c j) + p n * ext n x c n = _
  rw [sumTo_congr (g := fun j => p j * x j) (fun j hj => by simp [ext, hj])]
  simp [ext]
theorem sol_ker {n : Nat} {m : Nat → Nat → Rat} {x : Nat → Rat} : Sol n m x ↔ Ker n m (ext n x (-1)) := by
  constructor
  · intro h i hi
    rw [sum_ext, h i hi]; grind
  · intro h i hi
    have := h i hi
    rw [sum_ext] at this
    grind
theorem null_ker {n : Nat} {m : Nat → Nat → Rat} {x : Nat → Rat} : Null n m x ↔ Ker n m (ext n x 0) := by
  constructor
  · intro h i hi
    rw [sum_ext, h i hi]; grind
  · intro h i hi
    have := h i hi
    rw [sum_ext] at this
    grind
/-- all columns done: the one solution -/
theorem GJ.final {n : Nat} {N m : Nat → Nat → Rat} (g : GJ n n N m) (x : Nat → Rat) : Sol n N x ↔ ∀ i, i < n → x i = m i n / m i i := by
  rw [sol_ker, g.ker, ← sol_ker]
  have row : ∀ i, i < n → sumTo n (fun j => m i j * x j) = m i i * x i := fun i hi =>
    sumTo_one hi fun j hj hn => by rw [g.col i j hi hj hn]; grind
  constructor
  · intro h i hi
    have h1 := h i hi
    rw [row i hi] at h1
    have := g.piv i hi
    grind
  · intro h i hi
    rw [row i hi, h i hi]
    have := g.piv i hi
    grind
/-- no pivot: a null vector -/
theorem GJ.fail {n k : Nat} {N m : Nat → Nat → Rat} (g : GJ n k N m) (hk : k < n) (h0 : ∀ i, k ≤ i → i < n → m i k = 0) : ∃ v : Nat → Rat, Null n N v ∧ v k = 1 := by
  refine ⟨fun j => if j < k then - m j k / m j j else if j = k then 1 else 0, ?_, by simp⟩
  rw [null_ker, g.ker, ← null_ker]
  intro i hi
  by_cases hik : i < k
  · have hp := g.piv i hik
    rw [sumTo_congr (g := fun j => (if j = i then - m i k else 0) + (if j = k then m i k else 0)) (fun j hj => ?_), sumTo_add]
    · rw [sumTo_one (k := i) (f := fun j => if j = i then - m i k else 0) hi (fun j _ e => by simp [e]), sumTo_one (k := k) (f := fun j => if j = k then m i k else 0) hk (fun j _ e => by simp [e])]
      simp
      grind
    · by_cases e1 : j < k
      · by_cases e2 : j = i
        · subst e2
          have e3 : j ≠ k := by omega
          simp [e1, e3]
          grind
        · have e3 : j ≠ k := by omega
          rw [g.col i j hi e1 e2]
          simp [e2, e3]
          grind
      · by_cases e3 : j = k
        · subst e3
          have e4 : j ≠ i := by omega
          simp [e4]
          grind
        · have e4 : j ≠ i := by omega
          simp [e1, e3, e4]
          grind
  · refine sumTo_zero fun j hj => ?_
    by_cases e1 : j < k
    · rw [g.col i j hi e1 (by omega)]; grind
    · by_cases e3 : j = k
      · subst e3
        rw [h0 i (by omega) hi]; grind
      · simp [e1, e3]
end KM

/-! Siegel's lemma by the pigeonhole; how large the entries of an eliminated matrix are. -/
namespace KM
set_option linter.all false

/-! ### the pigeonhole -/
theorem nodup_len {α : Type} : ∀ {l1 l2 : List α}, l1.Nodup → (∀ x ∈ l1, x ∈ l2) → l1.length ≤ l2.length
  | [], _, _, _ => Nat.zero_le _
  | a :: l1, l2, nd, sub => by
    obtain ⟨s, t, rfl⟩ := List.append_of_mem (sub a (by simp))
    rw [List.nodup_cons] at nd
    have := nodup_len (l1 := l1) (l2 := s ++ t) nd.2 (fun x hx => by
      have h := sub x (by simp [hx])
      have hne : x ≠ a := fun e => nd.1 (e ▸ hx)
      simp [hne] at h
      simpa using h)
    simp at this ⊢
    omega
theorem pigeon {p q : Nat} {f : Nat → Nat} (hf : ∀ i, i < p → f i < q) (h : q < p) : ∃ i j, i < p ∧ j < p ∧ i ≠ j ∧ f i = f j := by
  apply Classical.byContradiction
  intro no
  have nd : ((List.range p).map f).Nodup := by
    rw [List.nodup_iff_pairwise_ne, List.pairwise_map]
    refine List.Pairwise.imp_of_mem ?_ (List.nodup_iff_pairwise_ne.mp List.nodup_range)
    intro a b ha hb hne e
    exact no ⟨a, b, List.mem_range.mp ha, List.mem_range.mp hb, hne, e⟩
  have := nodup_len (l2 := List.range q) nd (fun x hx => by
    obtain ⟨i, hi, rfl⟩ := List.mem_map.mp hx
    exact List.mem_range.mpr (hf i (List.mem_range.mp hi)))
  simp at this
  omega

/-! ### numbers by their digits -/
def digit (B l a : Nat) : Nat := a / B ^ l % B
theorem digits_inj {B : Nat} (hB : 0 < B) : ∀ {m a b : Nat}, a < B ^ m → b < B ^ m → (∀ l, l < m → digit B l a = digit B l b) → a = b
  | 0, a, b, ha, hb, _ => by simp at ha hb; omega
  | m + 1, a, b, ha, hb, h => by
    have h0 := h 0 (by omega)
    simp [digit] at h0
    have e : a / B = b / B := by
      refine digits_inj hB (m := m) ?_ ?_ fun l hl => ?_
      · rw [Nat.pow_succ, Nat.mul_comm] at ha
        exact Nat.div_lt_of_lt_mul ha
      · rw [Nat.pow_succ, Nat.mul_comm] at hb
        exact Nat.div_lt_of_lt_mul hb
      · have := h (l + 1) (by omega)
        unfold digit at this ⊢
        rw [Nat.pow_succ, Nat.mul_comm, ← Nat.div_div_eq_div_mul, ← Nat.div_div_eq_div_mul] at this
        exact this
    rw [← Nat.div_add_mod a B, ← Nat.div_add_mod b B, e, h0]
def code (B : Nat) : Nat → (Nat → Nat) → Nat
  | 0, _ => 0
  | m + 1, e => e 0 + B * code B m (fun c => e (c + 1))
theorem code_lt {B : Nat} : ∀ {m : Nat} {e : Nat → Nat}, (∀ c, c < m → e c < B) → code B m e < B ^ m
  | 0, _, _ => by simp [code]
  | m + 1, e, h => by
    have h1 := h 0 (by omega)
    have h2 := code_lt (m := m) (e := fun c => e (c + 1)) (fun c hc => h (c + 1) (by omega))
    show e 0 + B * code B m (fun c => e (c + 1)) < B ^ (m + 1)
    rw [Nat.pow_succ, Nat.mul_comm (B ^ m) B]
    calc e 0 + B * code B m (fun c => e (c + 1)) < B + B * code B m (fun c => e (c + 1)) := by omega
      _ = B * (code B m (fun c => e (c + 1)) + 1) := by rw [Nat.mul_add, Nat.mul_one, Nat.add_comm]
      _ ≤ B * B ^ m := Nat.mul_le_mul_left _ h2
theorem code_inj {B : Nat} : ∀ {m : Nat} {e e' : Nat → Nat}, (∀ c, c < m → e c < B) → (∀ c, c < m → e' c < B) → code B m e = code B m e' → ∀ c, c < m → e c = e' c
  | 0, _, _, _, _, _, c, hc => absurd hc (Nat.not_lt_zero _)
  | m + 1, e, e', h, h', q, c, hc => by
    have h1 := h 0 (by omega)
    have h1' := h' 0 (by omega)
    have q' : e 0 + B * code B m (fun c => e (c + 1)) = e' 0 + B * code B m (fun c => e' (c + 1)) := q
    have e0 : e 0 = e' 0 := by
      have := congrArg (· % B) q'
      simp [Nat.mod_eq_of_lt h1, Nat.mod_eq_of_lt h1'] at this
      exact this
    have hB : 0 < B := by omega
    have er : code B m (fun c => e (c + 1)) = code B m (fun c => e' (c + 1)) := by
      have : B * code B m (fun c => e (c + 1)) = B * code B m (fun c => e' (c + 1)) := by omega
      exact Nat.eq_of_mul_eq_mul_left hB this
    cases c with
    | zero => exact e0
    | succ c => exact code_inj (m := m) (e := fun c => e (c + 1)) (e' := fun c => e' (c + 1)) (fun c hc => h (c + 1) (by omega)) (fun c hc => h' (c + 1) (by omega)) er c (by omega)

/-! ### sums of integers -/
def isum : Nat → (Nat → Int) → Int
  | 0, _ => 0
  | n + 1, f => isum n f + f n
theorem isum_congr {f g : Nat → Int} : ∀ {n : Nat}, (∀ j, j < n → f j = g j) → isum n f = isum n g
  | 0, _ => rfl
  | n + 1, h => by
    show isum n f + f n = isum n g + g n
    rw [isum_congr (fun j hj => h j (by omega)), h n (by omega)]
theorem isum_sub (f g : Nat → Int) : ∀ (n : Nat), isum n (fun j => f j - g j) = isum n f - isum n g
  | 0 => rfl
  | n + 1 => by
    show isum n (fun j => f j - g j) + (f n - g n) = (isum n f + f n) - (isum n g + g n)
    rw [isum_sub f g n]; omega
theorem isum_abs {f : Nat → Int} {b : Nat} : ∀ {n : Nat}, (∀ j, j < n → (f j).natAbs ≤ b) → (isum n f).natAbs ≤ n * b
  | 0, _ => by simp [isum]
  | n + 1, h => by
    have h1 := isum_abs (n := n) (fun j hj => h j (by omega))
    have h2 := h n (by omega)
    show (isum n f + f n).natAbs ≤ (n + 1) * b
    rw [Nat.add_mul, Nat.one_mul]
    omega
theorem isum_cast (f : Nat → Int) : ∀ (n : Nat), ((isum n f : Int) : Rat) = sumTo n (fun j => ((f j : Int) : Rat))
  | 0 => rfl
  | n + 1 => by
    show ((isum n f + f n : Int) : Rat) = sumTo n (fun j => ((f j : Int) : Rat)) + ((f n : Int) : Rat)
    rw [Rat.intCast_add, isum_cast f n]

/-! ### Siegel's lemma -/
def siegelX (k C : Nat) : Nat := (2 * (k + 1) * C) ^ k
theorem siegel {k C : Nat} {A : Nat → Nat → Int} (hC : 1 ≤ C) (hA : ∀ c l, c < k → l < k + 1 → (A c l).natAbs ≤ C) :
    ∃ z : Nat → Int, (∃ l, l < k + 1 ∧ z l ≠ 0) ∧ (∀ l, (z l).natAbs ≤ siegelX k C) ∧ ∀ c, c < k → isum (k + 1) (fun l => A c l * z l) = 0 := by
  generalize hX : siegelX k C = X
  generalize hS : (k + 1) * (C * X) = S
  -- the row's value, moved to be from 0 on
  let e : Nat → Nat → Nat := fun a c => (isum (k + 1) (fun l => A c l * (digit (X + 1) l a : Nat)) + (S : Int)).toNat
  have dle : ∀ a l, digit (X + 1) l a ≤ X := fun a l => Nat.le_of_lt_succ (Nat.mod_lt _ (Nat.succ_pos _))
  have bnd : ∀ a c, c < k → (isum (k + 1) (fun l => A c l * (digit (X + 1) l a : Nat))).natAbs ≤ S := by
    intro a c hc
    rw [← hS]
    refine isum_abs fun l hl => ?_
    rw [Int.natAbs_mul]
    exact Nat.mul_le_mul (hA c l hc hl) (by simpa using dle a l)
  have elt : ∀ a c, c < k → e a c < 2 * S + 1 := by
    intro a c hc
    have := bnd a c hc
    show (isum (k + 1) (fun l => A c l * (digit (X + 1) l a : Nat)) + (S : Int)).toNat < 2 * S + 1
    omega
  have big : (2 * S + 1) ^ k < (X + 1) ^ (k + 1) := by
    have h1 : 2 * S + 1 ≤ (2 * (k + 1) * C) * (X + 1) := by
      have h3 : 1 ≤ 2 * (k + 1) * C := Nat.mul_pos (by omega) hC
      have h4 : 2 * S = (2 * (k + 1) * C) * X := by
        rw [← hS]; simp [Nat.mul_assoc]
      rw [Nat.mul_add, ← h4]; omega
    have h2 : (2 * S + 1) ^ k ≤ (2 * (k + 1) * C) ^ k * (X + 1) ^ k := by
      rw [← Nat.mul_pow]
      exact Nat.pow_le_pow_left h1 k
    have h5 : (2 * (k + 1) * C) ^ k = X := hX
    rw [h5] at h2
    have h6 : 0 < (X + 1) ^ k := Nat.pow_pos (Nat.succ_pos _)
    have h7 : (X + 1) ^ (k + 1) = (X + 1) * (X + 1) ^ k := by rw [Nat.pow_succ, Nat.mul_comm]
    rw [h7]
    calc (2 * S + 1) ^ k ≤ X * (X + 1) ^ k := h2
      _ < (X + 1) * (X + 1) ^ k := Nat.mul_lt_mul_of_pos_right (Nat.lt_succ_self _) h6
  obtain ⟨a, b, ha, hb, hne, he⟩ := pigeon (p := (X + 1) ^ (k + 1)) (q := (2 * S + 1) ^ k) (f := fun a => code (2 * S + 1) k (e a)) (fun a _ => code_lt (elt a)) big
  have each := code_inj (elt a) (elt b) he
  refine ⟨fun l => (digit (X + 1) l a : Nat) - (digit (X + 1) l b : Nat), ?_, fun l => ?_, fun c hc => ?_⟩
  · apply Classical.byContradiction
    intro no
    refine hne (digits_inj (B := X + 1) (Nat.succ_pos X) ha hb fun l hl => ?_)
    apply Classical.byContradiction
    intro hd
    exact no ⟨l, hl, by show ((digit (X + 1) l a : Nat) : Int) - (digit (X + 1) l b : Nat) ≠ 0; omega⟩
  · have h1 := dle a l
    have h2 := dle b l
    show (((digit (X + 1) l a : Nat) : Int) - (digit (X + 1) l b : Nat)).natAbs ≤ X
    omega
  · rw [isum_congr (g := fun l => A c l * (digit (X + 1) l a : Nat) - A c l * (digit (X + 1) l b : Nat)) (fun l _ => Int.mul_sub _ _ _), isum_sub]
    have h1 := each c hc
    have h2 := bnd a c hc
    have h3 := bnd b c hc
    have h4 : (isum (k + 1) (fun l => A c l * (digit (X + 1) l a : Nat)) + (S : Int)).toNat = (isum (k + 1) (fun l => A c l * (digit (X + 1) l b : Nat)) + (S : Int)).toNat := h1
    omega

/-! ### how rows come from the first ones -/
structure GS (n k : Nat) (N m : Nat → Nat → Rat) (w : Nat → Nat) : Prop where
  lt : ∀ i, i < n → w i < n
  one : ∀ i, i < k → m i i = 1
  comb : ∀ i, i < n → ∃ p : Nat → Rat, ∀ j, m i j = (if k ≤ i then N (w i) j else 0) + sumTo k (fun l => p l * N (w l) j)
  ind : ∀ q : Nat → Rat, (∀ c, c < k → sumTo k (fun l => q l * N (w l) c) = 0) → ∀ l, l < k → q l = 0
theorem GS.start (n : Nat) (N : Nat → Nat → Rat) : GS n 0 N N id :=
  ⟨fun _ h => h, fun _ h => absurd h (Nat.not_lt_zero _), fun i _ => ⟨fun _ => 0, fun j => by rw [if_pos (Nat.zero_le i)]; show N i j = N i j + 0; grind⟩, fun _ _ _ h => absurd h (Nat.not_lt_zero _)⟩
theorem GS.step {n k d : Nat} {N m m' : Nat → Nat → Rat} {w : Nat → Nat} (s : GS n k N m w) (g : GJ n k N m) (hk : k < n) (hd : k ≤ d) (hdn : d < n) (hp : m d k ≠ 0)
    (h1 : ∀ i, i < n → i ≠ k → ∃ b : Rat, ∀ j, m' i j = m (sw k d i) j + b * m d j) (h1k : ∀ i, i < k → m' i k = 0)
    (h2 : ∀ j, m' k j = m d j / m d k) : GS n (k + 1) N m' (fun i => w (sw k d i)) := by
  obtain ⟨pd, hpd⟩ := s.comb d hdn
  have ws : ∀ l, l < k → w (sw k d l) = w l := fun l hl => by rw [sw_other (by omega) (by omega)]
  have wk : w (sw k d k) = w d := by rw [sw_left]
  -- row d by k + 1 rows
  have rd : ∀ j, m d j = sumTo (k + 1) (fun l => (if l < k then pd l else 1) * N (w (sw k d l)) j) := fun j => by
    rw [hpd j]
    show _ = sumTo k (fun l => (if l < k then pd l else 1) * N (w (sw k d l)) j) + (if k < k then pd k else 1) * N (w (sw k d k)) j
    have e0 : sumTo k (fun l => (if l < k then pd l else 1) * N (w (sw k d l)) j) = sumTo k (fun l => pd l * N (w l) j) :=
      sumTo_congr (fun l hl => by simp only [hl, if_true]; rw [ws l hl])
    rw [e0, wk, if_pos hd, if_neg (Nat.lt_irrefl k)]
    grind
  refine ⟨fun i hi => s.lt _ (sw_lt hk hdn hi), fun i hi => ?_, fun i hi => ?_, fun q h l hl => ?_⟩
  · by_cases e : i = k
    · subst e
      rw [h2 i]
      grind
    · have hik : i < k := by omega
      obtain ⟨b, h⟩ := h1 i (by omega) e
      rw [h i, sw_other (by omega) (by omega), s.one i hik, g.col d i hdn hik (by omega)]
      grind
  · by_cases e : i = k
    · subst e
      refine ⟨fun l => (1 / m d i) * (if l < i then pd l else 1), fun j => ?_⟩
      rw [h2 j, if_neg (by omega)]
      rw [sumTo_congr (g := fun l => (1 / m d i) * ((if l < i then pd l else 1) * N (w (sw i d l)) j)) (fun l _ => by grind), sumTo_mul, ← rd j]
      grind
    · obtain ⟨b, h⟩ := h1 i hi e
      obtain ⟨p, hp⟩ := s.comb (sw k d i) (sw_lt hk hdn hi)
      refine ⟨fun l => (if l < k then p l else 0) + b * (if l < k then pd l else 1), fun j => ?_⟩
      rw [h j, rd j]
      have e1 : sumTo (k + 1) (fun l => ((if l < k then p l else 0) + b * (if l < k then pd l else 1)) * N (w (sw k d l)) j) =
          sumTo k (fun l => p l * N (w l) j) + b * sumTo (k + 1) (fun l => (if l < k then pd l else 1) * N (w (sw k d l)) j) := by
        rw [sumTo_congr (g := fun l => (if l < k then p l else 0) * N (w (sw k d l)) j + b * ((if l < k then pd l else 1) * N (w (sw k d l)) j)) (fun l _ => by grind), sumTo_add, sumTo_mul]
        have e2 : sumTo (k + 1) (fun l => (if l < k then p l else 0) * N (w (sw k d l)) j) = sumTo k (fun l => p l * N (w l) j) := by
          show sumTo k (fun l => (if l < k then p l else 0) * N (w (sw k d l)) j) + (if k < k then p k else 0) * N (w (sw k d k)) j = _
          have e0 : sumTo k (fun l => (if l < k then p l else 0) * N (w (sw k d l)) j) = sumTo k (fun l => p l * N (w l) j) :=
            sumTo_congr (fun l hl => by simp only [hl, if_true]; rw [ws l hl])
          rw [e0, if_neg (Nat.lt_irrefl k)]
          grind
        rw [e2]
      rw [e1, hp j]
      by_cases hik : i < k
      · have e3 : sw k d i = i := sw_other (by omega) (by omega)
        rw [if_neg (by rw [e3]; omega), if_neg (by omega)]
        grind
      · rw [if_pos (sw_ge hd (by omega)), if_pos (by omega)]
        grind
  · -- independence
    have hs : ∀ c, sumTo (k + 1) (fun l => q l * N (w (sw k d l)) c) = sumTo k (fun l => q l * N (w l) c) + q k * N (w d) c := fun c => by
      show sumTo k (fun l => q l * N (w (sw k d l)) c) + q k * N (w (sw k d k)) c = _
      rw [wk, sumTo_congr (g := fun l => q l * N (w l) c) (fun l hl => by rw [ws l hl])]
    have hdd : ∀ c, m d c = N (w d) c + sumTo k (fun l => pd l * N (w l) c) := fun c => by
      rw [hpd c, if_pos hd]
    have h3 : ∀ c, sumTo k (fun l => (q l - q k * pd l) * N (w l) c) = sumTo (k + 1) (fun l => q l * N (w (sw k d l)) c) - q k * m d c := fun c => by
      rw [hs c, hdd c, sumTo_congr (g := fun l => q l * N (w l) c + (- q k) * (pd l * N (w l) c)) (fun l _ => by grind), sumTo_add, sumTo_mul]
      grind
    have h4 := s.ind (fun l => q l - q k * pd l) (fun c hc => by
      rw [h3 c, h c (by omega), g.col d c hdn hc (by omega)]; grind)
    have h5 := h3 k
    rw [h k (by omega), sumTo_zero (fun l hl => by rw [h4 l hl]; grind)] at h5
    have h6 : q k * m d k = 0 := by grind
    have h7 : q k = 0 := by
      rcases Rat.mul_eq_zero.mp h6 with z | z
      · exact z
      · exact absurd z hp
    by_cases e : l = k
    · subst e; exact h7
    · have := h4 l (by omega)
      rw [h7] at this
      grind

/-! ### sizes -/
/-- both parts below 2 ^ n -/
def Small (n : Nat) (r : Rat) : Prop := r.num.natAbs < 2 ^ n ∧ r.den < 2 ^ n
theorem divInt_num_le (a b : Int) : (Rat.divInt a b).num.natAbs ≤ a.natAbs := by
  rw [Rat.num_divInt]
  by_cases hb : b = 0
  · subst hb; simp
  · have h1 : (b.sign * a).natAbs ≤ a.natAbs := by
      rw [Int.natAbs_mul]
      have : b.sign.natAbs ≤ 1 := by
        rcases Int.lt_trichotomy b 0 with h | h | h
        · rw [Int.sign_eq_neg_one_of_neg h]; decide
        · exact absurd h hb
        · rw [Int.sign_eq_one_of_pos h]; decide
      calc b.sign.natAbs * a.natAbs ≤ 1 * a.natAbs := Nat.mul_le_mul_right _ this
        _ = a.natAbs := Nat.one_mul _
    exact Nat.le_trans (by
      have := Int.natAbs_ediv_le_natAbs (b.sign * a) ((b.gcd a : Nat) : Int)
      exact this) h1
theorem divInt_den_le {a b : Int} (hb : b ≠ 0) : (Rat.divInt a b).den ≤ b.natAbs := by
  rw [Rat.den_divInt, if_neg hb]
  exact Nat.div_le_self _ _
theorem eq_divInt {r : Rat} {a b : Int} (hb : b ≠ 0) (h : r * (b : Rat) = (a : Rat)) : r = Rat.divInt a b := by
  rw [Rat.divInt_eq_div]
  have : (b : Rat) ≠ 0 := fun z => hb (Rat.intCast_eq_zero_iff.mp z)
  grind
theorem small_of {r : Rat} {a b : Int} {n : Nat} (hb : b ≠ 0) (h : r * (b : Rat) = (a : Rat)) (ha : a.natAbs < 2 ^ n) (hb2 : b.natAbs < 2 ^ n) : Small n r := by
  rw [eq_divInt hb h]
  exact ⟨Nat.lt_of_le_of_lt (divInt_num_le a b) ha, Nat.lt_of_le_of_lt (divInt_den_le hb) hb2⟩

/-- the entries of the eliminated matrix, as integers over one bottom -/
theorem GS.size {n k C P : Nat} {N m : Nat → Nat → Rat} {w : Nat → Nat} {Z : Nat → Nat → Int} (s : GS n k N m w) (g : GJ n k N m) (hk : k ≤ n) (hC : 1 ≤ C) (hP : 1 ≤ P) (hPC : P ≤ C)
    (hZ : ∀ i j, i < n → j < n + 1 → N i j * (P : Rat) = (Z i j : Rat) ∧ (Z i j).natAbs ≤ C) (i j : Nat) (hi : i < n) (hj : j < n + 1) :
    ∃ a b : Int, b ≠ 0 ∧ m i j * (b : Rat) = (a : Rat) ∧ a.natAbs ≤ (k + 1) * (siegelX k C * C) ∧ b.natAbs ≤ siegelX k C * P := by
  -- the last unknown's column
  let last : Nat → Int := fun c => if k ≤ i then Z (w i) c else if c = i then -(P : Int) else 0
  have hlast : ∀ c, c < k → (last c).natAbs ≤ C := by
    intro c hc
    show (if k ≤ i then Z (w i) c else if c = i then -(P : Int) else 0).natAbs ≤ C
    split
    · exact (hZ _ c (s.lt i hi) (by omega)).2
    · split
      · simpa using hPC
      · simp
  obtain ⟨z, ⟨l0, hl0, hz0⟩, hzX, hz⟩ := siegel (k := k) (C := C) (A := fun c l => if l < k then Z (w l) c else last c) hC (fun c l hc hl => by
    show (if l < k then Z (w l) c else last c).natAbs ≤ C
    split
    · exact (hZ _ c (s.lt l (by omega)) (by omega)).2
    · exact hlast c hc)
  have Pne : (P : Rat) ≠ 0 := by
    intro h
    rw [Rat.natCast_eq_zero_iff] at h
    omega
  -- as rationals
  have hq : ∀ c, c < k → sumTo k (fun l => (z l : Rat) * N (w l) c) * (P : Rat) + (last c : Rat) * (z k : Rat) = 0 := by
    intro c hc
    have h1 := hz c hc
    have h2 : isum (k + 1) (fun l => (if l < k then Z (w l) c else last c) * z l) = isum k (fun l => Z (w l) c * z l) + last c * z k := by
      show isum k (fun l => (if l < k then Z (w l) c else last c) * z l) + (if k < k then Z (w k) c else last c) * z k = _
      rw [isum_congr (g := fun l => Z (w l) c * z l) (fun l hl => by simp [hl])]
      simp
    rw [h2] at h1
    have h3 : ((isum k (fun l => Z (w l) c * z l) + last c * z k : Int) : Rat) = 0 := by rw [h1]; rfl
    rw [Rat.intCast_add, isum_cast, Rat.intCast_mul] at h3
    rw [← h3]
    have : sumTo k (fun l => (z l : Rat) * N (w l) c) * (P : Rat) = sumTo k (fun j => ((Z (w j) c * z j : Int) : Rat)) := by
      rw [Rat.mul_comm, ← sumTo_mul]
      refine sumTo_congr fun l hl => ?_
      rw [Rat.intCast_mul, ← (hZ (w l) c (s.lt l (by omega)) (by omega)).1]
      grind
    rw [this]
  obtain ⟨p, hp⟩ := s.comb i hi
  have hmc : ∀ c, c < k → (last c : Rat) = (if k ≤ i then N (w i) c * (P : Rat) else if c = i then -(P : Rat) else 0) := by
    intro c hc
    show ((if k ≤ i then Z (w i) c else if c = i then -(P : Int) else 0 : Int) : Rat) = _
    split
    · exact (hZ _ c (s.lt i hi) (by omega)).1.symm
    · split
      · rw [Rat.intCast_neg]; rfl
      · rfl
  have hdiff : ∀ c, c < k → sumTo k (fun l => ((z l : Rat) - (z k : Rat) * p l) * N (w l) c) = 0 := by
    intro c hc
    have h1 := hq c hc
    rw [hmc c hc] at h1
    have h2 := hp c
    have h3 : sumTo k (fun l => ((z l : Rat) - (z k : Rat) * p l) * N (w l) c) = sumTo k (fun l => (z l : Rat) * N (w l) c) + (-(z k : Rat)) * sumTo k (fun l => p l * N (w l) c) := by
      rw [← sumTo_mul, ← sumTo_add]
      exact sumTo_congr fun l _ => by grind
    rw [h3]
    generalize sumTo k (fun l => (z l : Rat) * N (w l) c) = u at *
    generalize sumTo k (fun l => p l * N (w l) c) = v at *
    by_cases hki : k ≤ i
    · rw [if_pos hki] at h1 h2
      rw [g.col i c hi hc (by omega)] at h2
      have : (u + (-(z k : Rat)) * v) * (P : Rat) = 0 := by grind
      rcases Rat.mul_eq_zero.mp this with h | h
      · exact h
      · exact absurd h Pne
    · rw [if_neg hki] at h1 h2
      by_cases e : c = i
      · subst e
        rw [s.one c hc] at h2
        rw [if_pos rfl] at h1
        have : (u + (-(z k : Rat)) * v) * (P : Rat) = 0 := by grind
        rcases Rat.mul_eq_zero.mp this with h | h
        · exact h
        · exact absurd h Pne
      · rw [g.col i c hi hc e] at h2
        rw [if_neg e] at h1
        have : (u + (-(z k : Rat)) * v) * (P : Rat) = 0 := by grind
        rcases Rat.mul_eq_zero.mp this with h | h
        · exact h
        · exact absurd h Pne
  have hl := s.ind _ hdiff
  have hD : z k ≠ 0 := by
    intro hD
    have : z l0 = 0 := by
      by_cases e : l0 = k
      · rw [e]; exact hD
      · have := hl l0 (by omega)
        rw [hD] at this
        have h2 : ((z l0 : Int) : Rat) = 0 := by
          have h3 : ((0 : Int) : Rat) = 0 := rfl
          grind
        exact Rat.intCast_eq_zero_iff.mp h2
    exact hz0 this
  refine ⟨(if k ≤ i then z k * Z (w i) j else 0) + isum k (fun l => z l * Z (w l) j), z k * (P : Int), ?_, ?_, ?_, ?_⟩
  · intro h
    rcases Int.mul_eq_zero.mp h with h | h
    · exact hD h
    · omega
  · have e1 : sumTo k (fun l => p l * N (w l) j) * (z k : Rat) * (P : Rat) = sumTo k (fun l => ((z l * Z (w l) j : Int) : Rat)) := by
      have : sumTo k (fun l => p l * N (w l) j) * (z k : Rat) * (P : Rat) = ((z k : Rat) * (P : Rat)) * sumTo k (fun l => p l * N (w l) j) := by grind
      rw [this, ← sumTo_mul]
      refine sumTo_congr fun l hlk => ?_
      have h1 := hl l hlk
      rw [Rat.intCast_mul, ← (hZ (w l) j (s.lt l (by omega)) hj).1]
      have h2 : (z l : Rat) = (z k : Rat) * p l := by grind
      rw [h2]; grind
    rw [hp j, Rat.intCast_add, isum_cast, ← e1, Rat.intCast_mul]
    split
    · rw [Rat.intCast_mul, ← (hZ (w i) j (s.lt i hi) hj).1]
      rw [Rat.intCast_natCast]
      grind
    · rw [Rat.intCast_natCast, Rat.intCast_zero]
      grind
  · have h1 : (isum k (fun l => z l * Z (w l) j)).natAbs ≤ k * (siegelX k C * C) := by
      refine isum_abs fun l hlk => ?_
      rw [Int.natAbs_mul]
      exact Nat.mul_le_mul (hzX l) (hZ (w l) j (s.lt l (by omega)) hj).2
    have h2 : (if k ≤ i then z k * Z (w i) j else 0).natAbs ≤ siegelX k C * C := by
      split
      · rw [Int.natAbs_mul]
        exact Nat.mul_le_mul (hzX k) (hZ (w i) j (s.lt i hi) hj).2
      · simp
    rw [Nat.add_mul, Nat.one_mul]
    omega
  · rw [Int.natAbs_mul]
    exact Nat.mul_le_mul_right _ (hzX k)
end KM

/-! The trimmed machine, its equations, what they tell of the machine. -/
namespace KM
set_option linter.all false

def renum (ks : List Nat) : Step → Step
  | none => none
  | some p => if p.2 ∈ ks then some (p.1, ks.idxOf p.2) else none
def trimRow (ks : List Nat) (r : Row) : Row := ⟨r.fin, r.steps.map (renum ks)⟩
def noRow : Row := ⟨none, []⟩
open Classical in
noncomputable def kept (M : Mach) : List Nat := (List.range M.rows.length).filter fun i => decide (St M i)
open Classical in
noncomputable def trim (M : Mach) : Mach :=
  if Co M 0 then ⟨M.size, (kept M).map fun i => trimRow (kept M) (M.rows.getD i noRow)⟩ else ⟨M.size, [⟨none, List.replicate M.size none⟩]⟩
theorem mem_kept {M : Mach} (V : Valid M) {i : Nat} : i ∈ kept M ↔ St M i := by
  unfold kept
  rw [List.mem_filter, List.mem_range]
  constructor
  · intro h; simpa using h.2
  · intro h; exact ⟨V.reach_lt h.1, by simpa using h⟩
theorem kept_nodup (M : Mach) : (kept M).Nodup := by
  unfold kept
  exact List.Pairwise.filter _ List.nodup_range
theorem kept_lt {M : Mach} (V : Valid M) {i : Nat} (h : i ∈ kept M) : i < M.rows.length := V.reach_lt ((mem_kept V).mp h).1
theorem kept_len (M : Mach) : (kept M).length ≤ M.rows.length := by
  have := List.length_filter_le (fun i => @decide (St M i) (Classical.propDecidable _)) (List.range M.rows.length)
  rw [List.length_range] at this
  exact this
theorem kept_zero {M : Mach} (V : Valid M) (h : Co M 0) : (kept M)[0]? = some 0 := by
  have e : M.rows.length = (M.rows.length - 1) + 1 := by have := V.rows1; omega
  unfold kept
  rw [e, List.range_succ_eq_map, List.filter_cons]
  have h0 : @decide (St M 0) (Classical.propDecidable _) = true := @decide_eq_true _ (Classical.propDecidable _) (⟨.zero, h⟩ : St M 0)
  rw [if_pos h0]
  rfl
theorem trim_co {M : Mach} (h : Co M 0) : trim M = ⟨M.size, (kept M).map fun i => trimRow (kept M) (M.rows.getD i noRow)⟩ := if_pos h
theorem trim_no {M : Mach} (h : ¬ Co M 0) : trim M = ⟨M.size, [⟨none, List.replicate M.size none⟩]⟩ := if_neg h
theorem reach_co {M : Mach} {i : Nat} (hr : Reach M i) : Co M i → Co M 0 := by
  induction hr with
  | zero => exact fun h => h
  | step _ h ih => exact fun hc => ih (.step h hc)
theorem getD_row {M : Mach} {i : Nat} (h : i < M.rows.length) : M.rows[i]? = some (M.rows.getD i noRow) := by
  rw [List.getD_eq_getElem?_getD, List.getElem?_eq_getElem h]; rfl
theorem idxOf_lt {ks : List Nat} {i : Nat} (h : i ∈ ks) : ks.idxOf i < ks.length := List.idxOf_lt_length_of_mem h
theorem get_idxOf {ks : List Nat} {i : Nat} (h : i ∈ ks) : ks[ks.idxOf i]? = some i := by
  rw [List.getElem?_eq_getElem (idxOf_lt h), List.getElem_idxOf]
theorem idxOf_get {ks : List Nat} (nd : ks.Nodup) {a i : Nat} (h : ks[a]? = some i) : ks.idxOf i = a := by
  obtain ⟨ha, rfl⟩ := List.getElem?_eq_some_iff.mp h
  exact List.Nodup.idxOf_getElem nd a ha
section
variable {M : Mach}
theorem trim_len (h : Co M 0) : (trim M).rows.length = (kept M).length := by rw [trim_co h]; simp
theorem trim_row (V : Valid M) (h : Co M 0) {a i : Nat} (e : (kept M)[a]? = some i) : ∃ r, M.rows[i]? = some r ∧ (trim M).rows[a]? = some (trimRow (kept M) r) := by
  have hi : i < M.rows.length := kept_lt V (List.mem_of_getElem? e)
  refine ⟨M.rows.getD i noRow, getD_row hi, ?_⟩
  rw [trim_co h]
  simp [e]
/-- x over the kept states, 0 elsewhere -/
def lift (ks : List Nat) (x : Nat → Rat) (i : Nat) : Rat := if i ∈ ks then x (ks.idxOf i) else 0
theorem lift_at {ks : List Nat} (nd : ks.Nodup) {x : Nat → Rat} {a i : Nat} (h : ks[a]? = some i) : lift ks x i = x a := by
  unfold lift
  rw [if_pos (List.mem_of_getElem? h), idxOf_get nd h]
theorem lift_off {ks : List Nat} {x : Nat → Rat} {i : Nat} (h : i ∉ ks) : lift ks x i = 0 := if_neg h
theorem renum_sum (ks : List Nat) (x : Nat → Rat) : ∀ l : List Step, (((l.map (renum ks)).filterMap id).map fun p => half p.1 * x p.2).sum = ((l.filterMap id).map fun p => half p.1 * lift ks x p.2).sum
  | [] => rfl
  | none :: l => by
    have := renum_sum ks x l
    simpa [renum] using this
  | some p :: l => by
    have ih := renum_sum ks x l
    by_cases h : p.2 ∈ ks
    · have e : renum ks (some p) = some (p.1, ks.idxOf p.2) := if_pos h
      rw [List.map_cons, e, List.filterMap_cons, List.filterMap_cons]
      show ((_ :: List.filterMap id (l.map (renum ks))).map _).sum = ((p :: l.filterMap id).map _).sum
      rw [sum_cons, sum_cons, ih]
      show half p.1 * x (ks.idxOf p.2) + _ = half p.1 * lift ks x p.2 + _
      unfold lift
      rw [if_pos h]
    · have e : renum ks (some p) = none := if_neg h
      rw [List.map_cons, e, List.filterMap_cons, List.filterMap_cons]
      show ((List.filterMap id (l.map (renum ks))).map _).sum = ((p :: l.filterMap id).map _).sum
      rw [sum_cons, ih]
      show _ = half p.1 * lift ks x p.2 + _
      rw [lift_off h]
      grind
theorem trim_bval (V : Valid M) (h : Co M 0) {a i : Nat} (e : (kept M)[a]? = some i) : bval (trim M) a = bval M i := by
  obtain ⟨r, h1, h2⟩ := trim_row V h e
  unfold bval
  rw [fin_of h1, fin_of h2]
  rfl
theorem trim_wsum (V : Valid M) (h : Co M 0) {a i : Nat} (e : (kept M)[a]? = some i) (x : Nat → Rat) : wsum (trim M) x a = wsum M (lift (kept M) x) i := by
  obtain ⟨r, h1, h2⟩ := trim_row V h e
  unfold wsum
  rw [stp_of h1, stp_of h2]
  exact renum_sum (kept M) x r.steps
end
/-- the trimmed machine's equations -/
def Sys (T : Mach) (x : Nat → Rat) : Prop := ∀ a, a < T.rows.length → x a = bval T a + wsum T x a
def SysNull (T : Mach) (v : Nat → Rat) : Prop := ∀ a, a < T.rows.length → v a = wsum T v a
theorem no_rows {M : Mach} (h : ¬ Co M 0) : (trim M).rows.length = 1 ∧ (∀ a, bval (trim M) a = 0) ∧ ∀ x a, wsum (trim M) x a = 0 := by
  rw [trim_no h]
  have hn : ∀ a, stp ⟨M.size, [⟨none, List.replicate M.size none⟩]⟩ a = [] := by
    intro a
    cases a with
    | zero =>
      show (List.replicate M.size (none : Step)).filterMap id = []
      rw [List.filterMap_replicate]
      rfl
    | succ a => exact stp_out (by simp)
  refine ⟨rfl, fun a => ?_, fun x a => ?_⟩
  · unfold bval
    cases a with
    | zero => rfl
    | succ a => rw [fin_out (by simp)]
  · unfold wsum
    rw [hn a]
    rfl
section
variable {M : Mach}
theorem tot_some (V : Valid M) {x : Nat → Rat} (hs : Sys (trim M) x) (nn : ∀ a, a < (trim M).rows.length → 0 ≤ x a) : IsTot M (some (x 0)) := by
  by_cases h : Co M 0
  · have nd := kept_nodup M
    refine ⟨lift (kept M) x, ⟨fun i hi => lift_off fun hm => hi ((mem_kept V).mp hm), fun i => ?_, fun i hi => ?_⟩, lift_at nd (kept_zero V h)⟩
    · by_cases hm : i ∈ kept M
      · rw [lift_at nd (get_idxOf hm)]
        exact nn _ (by rw [trim_len h]; exact idxOf_lt hm)
      · rw [lift_off hm]
        exact Rat.le_refl
    · have hm := (mem_kept V).mpr hi
      have e := get_idxOf hm
      rw [lift_at nd e, hs _ (by rw [trim_len h]; exact idxOf_lt hm), trim_bval V h e, trim_wsum V h e]
  · obtain ⟨h1, h2, h3⟩ := no_rows h
    have e : x 0 = 0 := by
      rw [hs 0 (by omega), h2, h3]
      grind
    rw [e]
    have no : ∀ i, ¬ St M i := fun i hi => h (reach_co hi.1 hi.2)
    exact ⟨fun _ => 0, ⟨fun _ _ => rfl, fun _ => Rat.le_refl, fun i hi => absurd hi (no i)⟩, rfl⟩
theorem worth_sys (V : Valid M) (h : Co M 0) {y : Nat → Rat} (hy : Worth M y) : Sys (trim M) (fun a => y ((kept M).getD a 0)) := by
  intro a ha
  rw [trim_len h] at ha
  obtain ⟨i, e⟩ : ∃ i, (kept M)[a]? = some i := ⟨_, List.getElem?_eq_getElem ha⟩
  have el : ∀ j, lift (kept M) (fun a => y ((kept M).getD a 0)) j = y j := by
    intro j
    by_cases hm : j ∈ kept M
    · unfold lift
      rw [if_pos hm]
      show y ((kept M).getD ((kept M).idxOf j) 0) = y j
      rw [List.getD_eq_getElem?_getD, get_idxOf hm]
      rfl
    · rw [lift_off hm, hy.off j fun hs => hm ((mem_kept V).mpr hs)]
  have hi : St M i := (mem_kept V).mp (List.mem_of_getElem? e)
  rw [trim_bval V h e, trim_wsum V h e, funext el]
  show y ((kept M).getD a 0) = _
  rw [List.getD_eq_getElem?_getD, e]
  exact hy.eq i hi
theorem tot_neg (V : Valid M) {x : Nat → Rat} (hs : Sys (trim M) x) (hu : ∀ y, Sys (trim M) y → ∀ a, a < (trim M).rows.length → y a = x a) (hn : ∃ a, a < (trim M).rows.length ∧ x a < 0) : IsTot M none := by
  obtain ⟨a, ha, hx⟩ := hn
  rintro ⟨y, hy⟩
  by_cases h : Co M 0
  · have := hu _ (worth_sys V h hy) a ha
    rw [← this] at hx
    have := hy.nn ((kept M).getD a 0)
    grind
  · obtain ⟨h1, h2, h3⟩ := no_rows h
    have e : x a = 0 := by
      rw [hs a ha, h2, h3]
      grind
    grind
theorem tot_null (V : Valid M) {v : Nat → Rat} (hv : SysNull (trim M) v) (hn : ∃ a, a < (trim M).rows.length ∧ v a ≠ 0) : IsTot M none := by
  obtain ⟨a, ha, hx⟩ := hn
  rintro ⟨y, hy⟩
  by_cases h : Co M 0
  · have nd := kept_nodup M
    have hz := hy.null V (v := lift (kept M) v) (fun i hi => lift_off fun hm => hi ((mem_kept V).mp hm)) (fun i hi => by
      have hm := (mem_kept V).mpr hi
      have e := get_idxOf hm
      rw [lift_at nd e, hv _ (by rw [trim_len h]; exact idxOf_lt hm), trim_wsum V h e])
    rw [trim_len h] at ha
    obtain ⟨i, e⟩ : ∃ i, (kept M)[a]? = some i := ⟨_, List.getElem?_eq_getElem ha⟩
    have := hz i
    rw [lift_at nd e] at this
    exact hx this
  · obtain ⟨h1, h2, h3⟩ := no_rows h
    exact hx (by rw [hv a ha, h3])
end
/-! ### the trimmed machine is a machine -/
theorem trim_valid {M : Mach} (V : Valid M) : Valid (trim M) := by
  by_cases h : Co M 0
  · have e := trim_co h
    have hrow : ∀ r ∈ (trim M).rows, ∃ r0 ∈ M.rows, r = trimRow (kept M) r0 := by
      intro r hr
      rw [e] at hr
      obtain ⟨i, hi, rfl⟩ := List.mem_map.mp hr
      exact ⟨_, List.mem_of_getElem? (getD_row (kept_lt V hi)), rfl⟩
    refine ⟨by rw [e]; exact V.size1, by rw [e]; exact V.size8, ?_, ?_, fun r hr => ?_, fun r hr f hf => ?_, fun r hr m s hm => ?_⟩
    · rw [trim_len h]
      have := (List.getElem?_eq_some_iff.mp (kept_zero V h)).1
      omega
    · rw [trim_len h]
      exact Nat.le_trans (kept_len M) V.rows30
    · obtain ⟨r0, h0, rfl⟩ := hrow r hr
      rw [e]
      show (r0.steps.map _).length = M.size
      rw [List.length_map, V.len r0 h0]
    · obtain ⟨r0, h0, rfl⟩ := hrow r hr
      exact V.fins r0 h0 f hf
    · obtain ⟨r0, h0, rfl⟩ := hrow r hr
      obtain ⟨st, hst, es⟩ := List.mem_map.mp hm
      cases st with
      | none => cases es
      | some p =>
        by_cases hp : p.2 ∈ kept M
        · have e2 : renum (kept M) (some p) = some (p.1, (kept M).idxOf p.2) := if_pos hp
          rw [e2] at es
          cases es
          refine ⟨(V.mores r0 h0 p.1 p.2 hst).1, ?_⟩
          rw [trim_len h]
          exact idxOf_lt hp
        · have e2 : renum (kept M) (some p) = none := if_neg hp
          rw [e2] at es
          cases es
  · have e := trim_no h
    rw [e]
    refine ⟨V.size1, V.size8, by simp, by simp, ?_, ?_, ?_⟩
    · intro r hr
      simp at hr
      subst hr
      simp
    · intro r hr f hf
      simp at hr
      subst hr
      cases hf
    · intro r hr m s hm
      simp at hr
      subst hr
      simp at hm
theorem trim_rows_le {M : Mach} (V : Valid M) : (trim M).rows.length ≤ M.rows.length := by
  by_cases h : Co M 0
  · rw [trim_len h]; exact kept_len M
  · rw [(no_rows h).1]; exact V.rows1
/-! ### the matrix of the equations -/
def coef (T : Mach) (a j : Nat) : Rat := ((stp T a).map fun p => if p.2 = j then half p.1 else 0).sum
theorem coef_sum (n : Nat) (x : Nat → Rat) : ∀ l : List (Nat × Nat), (∀ p ∈ l, p.2 < n) → sumTo n (fun j => (l.map fun p => if p.2 = j then half p.1 else 0).sum * x j) = (l.map fun p => half p.1 * x p.2).sum
  | [], _ => by
    rw [sumTo_zero (fun j _ => by simp)]
    simp
  | p :: l, h => by
    rw [sum_cons, ← coef_sum n x l (fun q hq => h q (by simp [hq]))]
    have e : sumTo n (fun j => ((p :: l).map fun p => if p.2 = j then half p.1 else 0).sum * x j) = sumTo n (fun j => (if p.2 = j then half p.1 else 0) * x j + (l.map fun p => if p.2 = j then half p.1 else 0).sum * x j) :=
      sumTo_congr fun j _ => by
        rw [sum_cons]
        grind
    rw [e, sumTo_add, sumTo_one (k := p.2) (h p (by simp)) (fun j _ hj => by
      rw [if_neg (fun e => hj e.symm)]
      grind)]
    simp
/-- row a of N is a multiple of the equation of state a -/
def MatOf (T : Mach) (N : Nat → Nat → Rat) : Prop := ∀ a, a < T.rows.length → ∃ s : Rat, s ≠ 0 ∧
  ∀ j, j < T.rows.length + 1 → N a j = s * (if j = T.rows.length then bval T a else (if j = a then 1 else 0) - coef T a j)
theorem mat_row {T : Mach} (V : Valid T) {N : Nat → Nat → Rat} {a : Nat} {s : Rat} (ha : a < T.rows.length)
    (h : ∀ j, j < T.rows.length + 1 → N a j = s * (if j = T.rows.length then bval T a else (if j = a then 1 else 0) - coef T a j)) (x : Nat → Rat) :
    sumTo T.rows.length (fun j => N a j * x j) = s * (x a - wsum T x a) := by
  have e : sumTo T.rows.length (fun j => N a j * x j) = sumTo T.rows.length (fun j => s * ((if j = a then 1 else 0) * x j) + (-s) * (coef T a j * x j)) :=
    sumTo_congr fun j hj => by
      rw [h j (by omega), if_neg (by omega)]
      grind
  rw [e, sumTo_add, sumTo_mul, sumTo_mul, sumTo_one (k := a) ha (fun j _ hj => by rw [if_neg hj]; grind)]
  have e2 : sumTo T.rows.length (fun j => coef T a j * x j) = wsum T x a := coef_sum _ x (stp T a) fun p hp => V.stp_lt (i := a) (m := p.1) (j := p.2) hp
  rw [e2]
  simp
  grind
theorem sol_sys {T : Mach} (V : Valid T) {N : Nat → Nat → Rat} (h : MatOf T N) (x : Nat → Rat) : Sol T.rows.length N x ↔ Sys T x := by
  constructor
  · intro hs a ha
    obtain ⟨s, h0, hN⟩ := h a ha
    have h1 := hs a ha
    rw [mat_row V ha hN, hN _ (Nat.lt_succ_self _), if_pos rfl] at h1
    have h2 : s * (x a - wsum T x a - bval T a) = 0 := by grind
    rcases Rat.mul_eq_zero.mp h2 with z | z
    · exact absurd z h0
    · grind
  · intro hs a ha
    obtain ⟨s, h0, hN⟩ := h a ha
    rw [mat_row V ha hN, hN _ (Nat.lt_succ_self _), if_pos rfl, hs a ha]
    grind
theorem null_sys {T : Mach} (V : Valid T) {N : Nat → Nat → Rat} (h : MatOf T N) (x : Nat → Rat) : Null T.rows.length N x → SysNull T x := by
  intro hs a ha
  obtain ⟨s, h0, hN⟩ := h a ha
  have h1 := hs a ha
  rw [mat_row V ha hN] at h1
  rcases Rat.mul_eq_zero.mp h1 with z | z
  · exact absurd z h0
  · grind
/-! ### what the elimination tells -/
section
variable {M : Mach} {N m : Nat → Nat → Rat}
theorem gj_some (V : Valid M) (hN : MatOf (trim M) N) (g : GJ (trim M).rows.length (trim M).rows.length N m) (nn : ∀ a, a < (trim M).rows.length → 0 ≤ m a (trim M).rows.length / m a a) :
    IsTot M (some (m 0 (trim M).rows.length / m 0 0)) := by
  have VT := trim_valid V
  have hs : Sys (trim M) fun a => m a (trim M).rows.length / m a a := (sol_sys VT hN _).mp ((g.final _).mpr fun _ _ => rfl)
  exact tot_some V hs nn
theorem gj_neg (V : Valid M) (hN : MatOf (trim M) N) (g : GJ (trim M).rows.length (trim M).rows.length N m) (hn : ∃ a, a < (trim M).rows.length ∧ m a (trim M).rows.length / m a a < 0) : IsTot M none := by
  have VT := trim_valid V
  have hs : Sys (trim M) fun a => m a (trim M).rows.length / m a a := (sol_sys VT hN _).mp ((g.final _).mpr fun _ _ => rfl)
  exact tot_neg V hs (fun y hy a ha => (g.final y).mp ((sol_sys VT hN y).mpr hy) a ha) hn
theorem gj_null (V : Valid M) (hN : MatOf (trim M) N) {k : Nat} (g : GJ (trim M).rows.length k N m) (hk : k < (trim M).rows.length) (h0 : ∀ i, k ≤ i → i < (trim M).rows.length → m i k = 0) : IsTot M none := by
  have VT := trim_valid V
  obtain ⟨v, hv, h1⟩ := g.fail hk h0
  exact tot_null V (null_sys VT hN v hv) ⟨k, hk, by rw [h1]; decide⟩
end
end KM

/-! The law's buildings and what they do to the total. -/
namespace KM
set_option linter.all false

theorem tot_no {M : Mach} (h : ¬ Co M 0) : IsTot M (some 0) := by
  have no : ∀ i, ¬ St M i := fun i hi => h (reach_co hi.1 hi.2)
  exact ⟨fun _ => 0, ⟨fun _ _ => rfl, fun _ => Rat.le_refl, fun i hi => absurd hi (no i)⟩, rfl⟩
theorem tot_co {M : Mach} {r : Rat} (h : IsTot M (some r)) (hc : Co M 0) : 0 < r := by
  obtain ⟨x, hx, rfl⟩ := h
  exact hx.pos ⟨.zero, hc⟩

/-! ### ends one more -/
def laterRow (r : Row) : Row := ⟨r.fin.map (· + 1), r.steps⟩
def later (M : Mach) : Mach := ⟨M.size, M.rows.map laterRow⟩
section
variable {M : Mach}
theorem later_stp (i : Nat) : stp (later M) i = stp M i := by
  unfold stp later
  rw [List.getElem?_map]
  cases M.rows[i]? <;> rfl
theorem later_fin (i : Nat) : fin (later M) i = (fin M i).map (· + 1) := by
  unfold fin later
  rw [List.getElem?_map]
  cases M.rows[i]? <;> rfl
theorem later_reach {i : Nat} : Reach (later M) i ↔ Reach M i := by
  constructor
  · intro h
    induction h with
    | zero => exact .zero
    | step _ h ih => exact .step ih (by rw [later_stp] at h; exact h)
  · intro h
    induction h with
    | zero => exact .zero
    | step _ h ih => exact .step ih (by rw [later_stp]; exact h)
theorem later_coh {i : Nat} : Co (later M) i ↔ Co M i := by
  constructor
  · intro h
    induction h with
    | @fin i e h =>
      rw [later_fin] at h
      cases q : KM.fin M i with
      | none => rw [q] at h; cases h
      | some f => exact .fin q
    | step h _ ih => exact .step (by rw [later_stp] at h; exact h) ih
  · intro h
    induction h with
    | @fin i e h => exact .fin (e := e + 1) (by rw [later_fin, h]; rfl)
    | step h _ ih => exact .step (by rw [later_stp]; exact h) ih
theorem later_bval (i : Nat) : bval (later M) i = half 1 * bval M i := by
  unfold bval
  rw [later_fin]
  cases fin M i with
  | none => simp
  | some e =>
    show half (e + 1) = half 1 * half e
    rw [half_add]; grind
theorem later_wsum (x : Nat → Rat) (i : Nat) : wsum (later M) x i = wsum M x i := by unfold wsum; rw [later_stp]
theorem later_st {i : Nat} : St (later M) i ↔ St M i := by unfold St; rw [later_reach, later_coh]
theorem later_tot {r : Option Rat} (h : IsTot M r) : IsTot (later M) (r.map fun q => half 1 * q) := by
  cases r with
  | none =>
    rintro ⟨x, hx⟩
    refine h ⟨fun i => 2 * x i, fun i hi => ?_, fun i => ?_, fun i hi => ?_⟩
    · show 2 * x i = 0
      rw [hx.off i fun hs => hi (later_st.mp hs)]; grind
    · have := hx.nn i; show 0 ≤ 2 * x i; grind
    · show 2 * x i = _
      rw [wsum_mul, hx.eq i (later_st.mpr hi), later_bval, later_wsum]
      have := half_one_two
      grind
  | some r =>
    obtain ⟨x, hx, rfl⟩ := h
    refine ⟨fun i => half 1 * x i, ⟨fun i hi => ?_, fun i => ?_, fun i hi => ?_⟩, rfl⟩
    · show half 1 * x i = 0
      rw [hx.off i fun hs => hi (later_st.mpr hs)]; grind
    · exact Rat.mul_nonneg (Rat.le_of_lt (half_pos 1)) (hx.nn i)
    · show half 1 * x i = _
      rw [wsum_mul, later_bval, later_wsum, hx.eq i (later_st.mp hi)]
      grind
end

/-! ### a machine within another -/
structure Emb (A B : Mach) (f : Nat → Nat) : Prop where
  stp : ∀ i, i < A.rows.length → stp B (f i) = (stp A i).map fun p => (p.1, f p.2)
  fin : ∀ i, i < A.rows.length → fin B (f i) = fin A i
section
variable {A B : Mach} {f : Nat → Nat}
theorem Emb.co (E : Emb A B f) (V : Valid A) {i : Nat} (hi : i < A.rows.length) : Co B (f i) ↔ Co A i := by
  constructor
  · intro h
    generalize hk : f i = k at h
    induction h generalizing i with
    | @fin k e h =>
      subst hk
      rw [E.fin i hi] at h
      exact .fin h
    | @step k m j h hc ih =>
      subst hk
      rw [E.stp i hi] at h
      obtain ⟨p, hp, e⟩ := List.mem_map.mp h
      cases e
      exact .step (j := p.2) hp (ih (V.stp_lt (m := p.1) hp) rfl)
  · intro h
    induction h with
    | @fin i e h => exact .fin (by rw [E.fin i hi]; exact h)
    | @step i m j h hc ih =>
      refine .step (m := m) (j := f j) ?_ (ih (V.stp_lt h))
      rw [E.stp i hi]
      exact List.mem_map.mpr ⟨(m, j), h, rfl⟩
theorem Emb.reach (E : Emb A B f) (V : Valid A) (h0 : Reach B (f 0)) {i : Nat} (h : Reach A i) : Reach B (f i) := by
  induction h with
  | zero => exact h0
  | @step i m j hr h ih =>
    refine .step (m := m) ih ?_
    rw [E.stp i (V.reach_lt hr)]
    exact List.mem_map.mpr ⟨(m, j), h, rfl⟩
theorem Emb.bval (E : Emb A B f) {i : Nat} (hi : i < A.rows.length) : bval B (f i) = bval A i := by
  unfold KM.bval
  rw [E.fin i hi]
theorem Emb.wsum (E : Emb A B f) {i : Nat} (hi : i < A.rows.length) (X : Nat → Rat) : wsum B X (f i) = wsum A (fun j => X (f j)) i := by
  unfold KM.wsum
  rw [E.stp i hi, List.map_map]
  rfl
/-- a worth of the whole told of the part -/
theorem Emb.worth (E : Emb A B f) (V : Valid A) (hr : ∀ i, i < A.rows.length → (Reach B (f i) ↔ Reach A i)) {X : Nat → Rat} (hX : Worth B X) :
    Worth A (fun i => if i < A.rows.length then X (f i) else 0) := by
  have st : ∀ i, i < A.rows.length → (St B (f i) ↔ St A i) := fun i hi => by unfold St; rw [hr i hi, E.co V hi]
  refine ⟨fun i hi => ?_, fun i => ?_, fun i hi => ?_⟩
  · show (if i < A.rows.length then X (f i) else 0) = 0
    split
    · rename_i h
      exact hX.off _ fun hs => hi ((st i h).mp hs)
    · rfl
  · show 0 ≤ (if i < A.rows.length then X (f i) else 0)
    split
    · exact hX.nn _
    · exact Rat.le_refl
  · have hl := V.reach_lt hi.1
    show (if i < A.rows.length then X (f i) else 0) = _
    rw [if_pos hl, hX.eq _ ((st i hl).mpr hi), E.bval hl, E.wsum hl]
    congr 1
    unfold KM.wsum
    refine sum_congr _ _ _ fun p hp => ?_
    dsimp only
    rw [if_pos (V.stp_lt (m := p.1) hp)]
end

/-! ### rows moved, rows with more letters -/
def movedStep (k : Nat) : Step → Step := Option.map fun p => (p.1, p.2 + k)
def movedRow (k : Nat) (r : Row) : Row := ⟨r.fin, r.steps.map (movedStep k)⟩
def padTo (n : Nat) (l : List Step) : List Step := l ++ List.replicate (n - l.length) none
def padRow (n : Nat) (r : Row) : Row := ⟨r.fin, padTo n r.steps⟩
theorem moved_filter (k : Nat) : ∀ l : List Step, (l.map (movedStep k)).filterMap id = (l.filterMap id).map fun p => (p.1, p.2 + k)
  | [] => rfl
  | none :: l => by
    have := moved_filter k l
    simpa [movedStep] using this
  | some p :: l => by
    have := moved_filter k l
    simpa [movedStep] using this
theorem pad_filter (n : Nat) (l : List Step) : (padTo n l).filterMap id = l.filterMap id := by
  unfold padTo
  rw [List.filterMap_append, List.filterMap_replicate]
  simp
theorem moved_stp (k : Nat) (r : Row) : (movedRow k r).stp = r.stp.map fun p => (p.1, p.2 + k) := moved_filter k r.steps
theorem pad_stp (n : Nat) (r : Row) : (padRow n r).stp = r.stp := pad_filter n r.steps

/-! ### two machines under a first letter -/
def underHead (m0 m1 n1 : Nat) : Row := ⟨none, some (m0, 1) :: some (m1, 1 + n1) :: List.replicate 6 none⟩
def under (A B : Mach) (m0 m1 : Nat) : Mach :=
  ⟨8, underHead m0 m1 A.rows.length :: ((A.rows.map (movedRow 1) ++ B.rows.map (movedRow (1 + A.rows.length))).map (padRow 8))⟩
section
variable {A B : Mach} {m0 m1 : Nat}
theorem under_stp0 : stp (under A B m0 m1) 0 = [(m0, 1), (m1, 1 + A.rows.length)] := rfl
theorem under_fin0 : fin (under A B m0 m1) 0 = none := rfl
theorem under_rowA {i : Nat} (hi : i < A.rows.length) : (under A B m0 m1).rows[i + 1]? = A.rows[i]?.map fun r => padRow 8 (movedRow 1 r) := by
  show ((A.rows.map (movedRow 1) ++ B.rows.map (movedRow (1 + A.rows.length))).map (padRow 8))[i]? = _
  rw [List.getElem?_map, List.getElem?_append_left (by simpa using hi), List.getElem?_map, Option.map_map]
  rfl
theorem under_rowB (j : Nat) : (under A B m0 m1).rows[j + (1 + A.rows.length)]? = B.rows[j]?.map fun r => padRow 8 (movedRow (1 + A.rows.length) r) := by
  have e : j + (1 + A.rows.length) = (j + A.rows.length) + 1 := by omega
  rw [e]
  show ((A.rows.map (movedRow 1) ++ B.rows.map (movedRow (1 + A.rows.length))).map (padRow 8))[j + A.rows.length]? = _
  rw [List.getElem?_map, List.getElem?_append_right (by simp), List.getElem?_map, Option.map_map, List.length_map, Nat.add_sub_cancel]
  rfl
theorem under_embA : Emb A (under A B m0 m1) (· + 1) := by
  refine ⟨fun i hi => ?_, fun i hi => ?_⟩
  · have e := under_rowA (B := B) (m0 := m0) (m1 := m1) hi
    rw [getD_row hi] at e
    rw [stp_of e, stp_of (getD_row hi), pad_stp, moved_stp]
  · have e := under_rowA (B := B) (m0 := m0) (m1 := m1) hi
    rw [getD_row hi] at e
    rw [fin_of e, fin_of (getD_row hi)]
    rfl
theorem under_embB : Emb B (under A B m0 m1) (· + (1 + A.rows.length)) := by
  refine ⟨fun i hi => ?_, fun i hi => ?_⟩
  · have e := under_rowB (A := A) (B := B) (m0 := m0) (m1 := m1) i
    rw [getD_row hi] at e
    rw [stp_of e, stp_of (getD_row hi), pad_stp, moved_stp]
  · have e := under_rowB (A := A) (B := B) (m0 := m0) (m1 := m1) i
    rw [getD_row hi] at e
    rw [fin_of e, fin_of (getD_row hi)]
    rfl
theorem under_reach (VA : Valid A) (VB : Valid B) {k : Nat} (h : Reach (under A B m0 m1) k) : k = 0 ∨ (∃ i, Reach A i ∧ k = i + 1) ∨ ∃ j, Reach B j ∧ k = j + (1 + A.rows.length) := by
  induction h with
  | zero => exact .inl rfl
  | @step i m j hr h ih =>
    rcases ih with rfl | ⟨a, ha, rfl⟩ | ⟨b, hb, rfl⟩
    · rw [under_stp0] at h
      simp at h
      rcases h with ⟨rfl, rfl⟩ | ⟨rfl, rfl⟩
      · exact .inr (.inl ⟨0, .zero, rfl⟩)
      · exact .inr (.inr ⟨0, .zero, by omega⟩)
    · rw [under_embA.stp a (VA.reach_lt ha)] at h
      obtain ⟨p, hp, e⟩ := List.mem_map.mp h
      cases e
      exact .inr (.inl ⟨p.2, .step (m := p.1) ha hp, rfl⟩)
    · rw [under_embB.stp b (VB.reach_lt hb)] at h
      obtain ⟨p, hp, e⟩ := List.mem_map.mp h
      cases e
      exact .inr (.inr ⟨p.2, .step (m := p.1) hb hp, rfl⟩)
theorem under_reach1 : Reach (under A B m0 m1) (0 + 1) := .step (i := 0) (m := m0) .zero (by rw [under_stp0]; simp)
theorem under_reach2 : Reach (under A B m0 m1) (0 + (1 + A.rows.length)) := .step (i := 0) (m := m1) .zero (by rw [under_stp0]; simp)
theorem under_rA (VA : Valid A) (VB : Valid B) (i : Nat) (hi : i < A.rows.length) : Reach (under A B m0 m1) (i + 1) ↔ Reach A i := by
  constructor
  · intro h
    rcases under_reach VA VB h with e | ⟨a, ha, e⟩ | ⟨b, hb, e⟩
    · omega
    · have : i = a := by omega
      rw [this]; exact ha
    · omega
  · exact fun h => under_embA.reach VA under_reach1 h
theorem under_rB (VA : Valid A) (VB : Valid B) (j : Nat) : Reach (under A B m0 m1) (j + (1 + A.rows.length)) ↔ Reach B j := by
  constructor
  · intro h
    rcases under_reach VA VB h with e | ⟨a, ha, e⟩ | ⟨b, hb, e⟩
    · omega
    · have := VA.reach_lt ha
      omega
    · have : j = b := by omega
      rw [this]; exact hb
  · exact fun h => under_embB.reach VB under_reach2 h
theorem under_co0 (VA : Valid A) (VB : Valid B) : Co (under A B m0 m1) 0 ↔ Co A 0 ∨ Co B 0 := by
  constructor
  · intro h
    cases h with
    | fin h => cases h
    | @step _ m j h hc =>
      rw [under_stp0] at h
      simp at h
      rcases h with ⟨_, rfl⟩ | ⟨_, rfl⟩
      · exact .inl ((under_embA.co VA VA.rows1).mp hc)
      · refine .inr ((under_embB (A := A) (m0 := m0) (m1 := m1).co VB VB.rows1).mp ?_)
        rw [Nat.zero_add]; exact hc
  · rintro (h | h)
    · exact .step (i := 0) (m := m0) (j := 0 + 1) (by rw [under_stp0]; simp) ((under_embA.co VA VA.rows1).mpr h)
    · exact .step (i := 0) (m := m1) (j := 0 + (1 + A.rows.length)) (by rw [under_stp0]; simp) ((under_embB.co VB VB.rows1).mpr h)
theorem under_some (VA : Valid A) (VB : Valid B) {r s : Rat} (hA : IsTot A (some r)) (hB : IsTot B (some s)) : IsTot (under A B m0 m1) (some (half m0 * r + half m1 * s)) := by
  obtain ⟨x, hx, rfl⟩ := hA
  obtain ⟨y, hy, rfl⟩ := hB
  let X : Nat → Rat := fun k => if k = 0 then half m0 * x 0 + half m1 * y 0 else if k ≤ A.rows.length then x (k - 1) else y (k - (1 + A.rows.length))
  have X0 : X 0 = half m0 * x 0 + half m1 * y 0 := if_pos rfl
  have XA : ∀ i, i < A.rows.length → X (i + 1) = x i := fun i hi => by
    show (if i + 1 = 0 then _ else if i + 1 ≤ A.rows.length then x (i + 1 - 1) else _) = x i
    rw [if_neg (by omega), if_pos (by omega), Nat.add_sub_cancel]
  have XB : ∀ j, X (j + (1 + A.rows.length)) = y j := fun j => by
    show (if j + (1 + A.rows.length) = 0 then _ else if j + (1 + A.rows.length) ≤ A.rows.length then _ else y (j + (1 + A.rows.length) - (1 + A.rows.length))) = y j
    rw [if_neg (by omega), if_neg (by omega), Nat.add_sub_cancel]
  have part : ∀ k, k = 0 ∨ (∃ i, i < A.rows.length ∧ k = i + 1) ∨ ∃ j, k = j + (1 + A.rows.length) := fun k => by
    by_cases h0 : k = 0
    · exact .inl h0
    · by_cases h1 : k ≤ A.rows.length
      · exact .inr (.inl ⟨k - 1, by omega, by omega⟩)
      · exact .inr (.inr ⟨k - (1 + A.rows.length), by omega⟩)
  refine ⟨X, ⟨fun k hk => ?_, fun k => ?_, fun k hk => ?_⟩, X0⟩
  · rcases part k with rfl | ⟨i, hi, rfl⟩ | ⟨j, rfl⟩
    · have h : ¬ (Co A 0 ∨ Co B 0) := fun h => hk ⟨.zero, (under_co0 VA VB).mpr h⟩
      rw [X0, hx.off 0 fun hs => h (.inl hs.2), hy.off 0 fun hs => h (.inr hs.2)]
      grind
    · rw [XA i hi]
      exact hx.off i fun hs => hk ⟨(under_rA VA VB i hi).mpr hs.1, (under_embA.co VA hi).mpr hs.2⟩
    · rw [XB j]
      exact hy.off j fun hs => hk ⟨(under_rB VA VB j).mpr hs.1, (under_embB.co VB (VB.reach_lt hs.1)).mpr hs.2⟩
  · rcases part k with rfl | ⟨i, hi, rfl⟩ | ⟨j, rfl⟩
    · rw [X0]
      have h1 := Rat.mul_nonneg (Rat.le_of_lt (half_pos m0)) (hx.nn 0)
      have h2 := Rat.mul_nonneg (Rat.le_of_lt (half_pos m1)) (hy.nn 0)
      grind
    · rw [XA i hi]; exact hx.nn i
    · rw [XB j]; exact hy.nn j
  · rcases part k with rfl | ⟨i, hi, rfl⟩ | ⟨j, rfl⟩
    · rw [X0]
      unfold bval wsum
      rw [under_fin0, under_stp0, sum_cons, sum_cons]
      show _ = 0 + (half m0 * X 1 + (half m1 * X (1 + A.rows.length) + _))
      have e1 : X 1 = x 0 := XA 0 VA.rows1
      have e2 : X (1 + A.rows.length) = y 0 := by have := XB 0; rw [Nat.zero_add] at this; exact this
      rw [e1, e2]
      simp
      grind
    · have hs : St A i := ⟨(under_rA VA VB i hi).mp hk.1, (under_embA.co VA hi).mp hk.2⟩
      rw [XA i hi, (under_embA (B := B) (m0 := m0) (m1 := m1)).bval hi, (under_embA (B := B) (m0 := m0) (m1 := m1)).wsum hi, hx.eq i hs]
      congr 1
      unfold wsum
      exact sum_congr _ _ _ fun p hp => by dsimp only; rw [XA _ (VA.stp_lt (m := p.1) hp)]
    · have hr : Reach B j := (under_rB VA VB j).mp hk.1
      have hj := VB.reach_lt hr
      have hs : St B j := ⟨hr, (under_embB.co VB hj).mp hk.2⟩
      rw [XB j, (under_embB (A := A) (m0 := m0) (m1 := m1)).bval hj, (under_embB (A := A) (m0 := m0) (m1 := m1)).wsum hj, hy.eq j hs]
      congr 1
      unfold wsum
      exact sum_congr _ _ _ fun p hp => by dsimp only; rw [XB]
theorem under_noneA (VA : Valid A) (VB : Valid B) (hA : IsTot A none) : IsTot (under A B m0 m1) none := by
  rintro ⟨X, hX⟩
  exact hA ⟨_, under_embA.worth VA (under_rA VA VB) hX⟩
theorem under_noneB (VA : Valid A) (VB : Valid B) (hB : IsTot B none) : IsTot (under A B m0 m1) none := by
  rintro ⟨X, hX⟩
  exact hB ⟨_, under_embB.worth VB (fun j _ => under_rB VA VB j) hX⟩
end

/-! ### one behind another -/
def behindRow (n : Nat) (r : Row) : Row := ⟨none, padTo 7 r.steps ++ [r.fin.map fun e => (e, n)]⟩
def behind (A B : Mach) : Mach := ⟨8, A.rows.map (behindRow A.rows.length) ++ (B.rows.map (movedRow A.rows.length)).map (padRow 8)⟩
section
variable {A B : Mach}
def endStep (n : Nat) : Option Nat → List (Nat × Nat)
  | none => []
  | some e => [(e, n)]
theorem behind_rowA {i : Nat} (hi : i < A.rows.length) : (behind A B).rows[i]? = A.rows[i]?.map (behindRow A.rows.length) := by
  show (A.rows.map (behindRow A.rows.length) ++ _)[i]? = _
  rw [List.getElem?_append_left (by simpa using hi), List.getElem?_map]
theorem behind_rowB (j : Nat) : (behind A B).rows[j + A.rows.length]? = B.rows[j]?.map fun r => padRow 8 (movedRow A.rows.length r) := by
  show (A.rows.map (behindRow A.rows.length) ++ (B.rows.map (movedRow A.rows.length)).map (padRow 8))[j + A.rows.length]? = _
  rw [List.getElem?_append_right (by simp), List.length_map, Nat.add_sub_cancel, List.getElem?_map, List.getElem?_map, Option.map_map]
  rfl
theorem behind_stpA {i : Nat} (hi : i < A.rows.length) : stp (behind A B) i = stp A i ++ endStep A.rows.length (fin A i) := by
  have e := behind_rowA (B := B) hi
  rw [getD_row hi] at e
  rw [stp_of e, stp_of (getD_row hi), fin_of (getD_row hi)]
  show (padTo 7 (A.rows.getD i noRow).steps ++ [(A.rows.getD i noRow).fin.map fun e => (e, A.rows.length)]).filterMap id = _
  rw [List.filterMap_append, pad_filter]
  unfold Row.stp
  cases (A.rows.getD i noRow).fin <;> rfl
theorem behind_finA {i : Nat} (hi : i < A.rows.length) : fin (behind A B) i = none := by
  have e := behind_rowA (B := B) hi
  rw [getD_row hi] at e
  rw [fin_of e]
  rfl
theorem behind_embB : Emb B (behind A B) (· + A.rows.length) := by
  refine ⟨fun i hi => ?_, fun i hi => ?_⟩
  · have e := behind_rowB (A := A) (B := B) i
    rw [getD_row hi] at e
    rw [stp_of e, stp_of (getD_row hi), pad_stp, moved_stp]
  · have e := behind_rowB (A := A) (B := B) i
    rw [getD_row hi] at e
    rw [fin_of e, fin_of (getD_row hi)]
    rfl
theorem mem_endStep {n m j : Nat} {o : Option Nat} (h : (m, j) ∈ endStep n o) : o = some m ∧ j = n := by
  cases o with
  | none => cases h
  | some e =>
    simp [endStep] at h
    obtain ⟨rfl, rfl⟩ := h
    exact ⟨rfl, rfl⟩
theorem behind_coA (VA : Valid A) (VB : Valid B) {i : Nat} (hi : i < A.rows.length) : Co (behind A B) i ↔ Co A i ∧ Co B 0 := by
  constructor
  · intro h
    induction h with
    | @fin i e h =>
      rw [behind_finA hi] at h
      cases h
    | @step i m j h hc ih =>
      rw [behind_stpA hi] at h
      rcases List.mem_append.mp h with h | h
      · obtain ⟨a, b⟩ := ih (VA.stp_lt h)
        exact ⟨.step h a, b⟩
      · obtain ⟨h1, h2⟩ := mem_endStep h
        subst h2
        refine ⟨.fin h1, (behind_embB (A := A).co VB VB.rows1).mp ?_⟩
        rw [Nat.zero_add]; exact hc
  · rintro ⟨h, hB⟩
    have h0 : Co (behind A B) A.rows.length := by
      have := (behind_embB (A := A).co VB VB.rows1).mpr hB
      rw [Nat.zero_add] at this; exact this
    induction h with
    | @fin i e h => exact .step (m := e) (by rw [behind_stpA hi, h]; exact List.mem_append_right _ (by simp [endStep])) h0
    | @step i m j h hc ih => exact .step (by rw [behind_stpA hi]; exact List.mem_append_left _ h) (ih (VA.stp_lt h))
theorem behind_reach (VA : Valid A) (VB : Valid B) {k : Nat} (h : Reach (behind A B) k) : Reach A k ∨ ∃ j, Reach B j ∧ k = j + A.rows.length := by
  induction h with
  | zero => exact .inl .zero
  | @step i m j hr h ih =>
    rcases ih with ha | ⟨b, hb, rfl⟩
    · rw [behind_stpA (VA.reach_lt ha)] at h
      rcases List.mem_append.mp h with h | h
      · exact .inl (.step ha h)
      · obtain ⟨h1, h2⟩ := mem_endStep h
        exact .inr ⟨0, .zero, by omega⟩
    · rw [behind_embB.stp b (VB.reach_lt hb)] at h
      obtain ⟨p, hp, e⟩ := List.mem_map.mp h
      cases e
      exact .inr ⟨p.2, .step (m := p.1) hb hp, rfl⟩
theorem behind_rA (VA : Valid A) (VB : Valid B) {i : Nat} (hi : i < A.rows.length) : Reach (behind A B) i ↔ Reach A i := by
  constructor
  · intro h
    rcases behind_reach VA VB h with h | ⟨j, hj, e⟩
    · exact h
    · omega
  · intro h
    induction h with
    | zero => exact .zero
    | @step i m j hr h ih => exact .step (ih (VA.reach_lt hr)) (by rw [behind_stpA (VA.reach_lt hr)]; exact List.mem_append_left _ h)
/-- an end that is come to -/
theorem end_reached {M : Mach} {i : Nat} (hc : Co M i) : Reach M i → ∃ j e, Reach M j ∧ fin M j = some e := by
  induction hc with
  | @fin i e h => exact fun hr => ⟨i, e, hr, h⟩
  | step h _ ih => exact fun hr => ih (.step hr h)
theorem behind_rB (VA : Valid A) (VB : Valid B) (hA : Co A 0) (j : Nat) : Reach (behind A B) (j + A.rows.length) ↔ Reach B j := by
  constructor
  · intro h
    rcases behind_reach VA VB h with h | ⟨b, hb, e⟩
    · have := VA.reach_lt h
      omega
    · have : j = b := by omega
      rw [this]; exact hb
  · intro h
    obtain ⟨a, e, ha, he⟩ := end_reached hA .zero
    have hl := VA.reach_lt ha
    refine behind_embB.reach VB ?_ h
    refine .step (i := a) (m := e) ((behind_rA VA VB hl).mpr ha) ?_
    rw [behind_stpA hl, he, Nat.zero_add]
    exact List.mem_append_right _ (by simp [endStep])
theorem behind_nought (VA : Valid A) (VB : Valid B) (h : ¬ (Co A 0 ∧ Co B 0)) : IsTot (behind A B) (some 0) :=
  tot_no fun hc => h ((behind_coA VA VB VA.rows1).mp hc)
theorem behind_wsumA {i : Nat} (hi : i < A.rows.length) (X : Nat → Rat) : wsum (behind A B) X i = wsum A X i + bval A i * X A.rows.length := by
  unfold wsum bval
  rw [behind_stpA hi]
  cases fin A i with
  | none => simp [endStep]; grind
  | some e =>
    show ((stp A i ++ [(e, A.rows.length)]).map _).sum = _
    rw [List.map_append, List.sum_append]
    simp
    grind
theorem behind_some (VA : Valid A) (VB : Valid B) (cA : Co A 0) (cB : Co B 0) {r s : Rat} (hA : IsTot A (some r)) (hB : IsTot B (some s)) : IsTot (behind A B) (some (r * s)) := by
  obtain ⟨x, hx, rfl⟩ := hA
  obtain ⟨y, hy, rfl⟩ := hB
  let X : Nat → Rat := fun k => if k < A.rows.length then x k * y 0 else y (k - A.rows.length)
  have XA : ∀ i, i < A.rows.length → X i = x i * y 0 := fun i hi => if_pos hi
  have XB : ∀ j, X (j + A.rows.length) = y j := fun j => by
    show (if j + A.rows.length < A.rows.length then _ else y (j + A.rows.length - A.rows.length)) = y j
    rw [if_neg (by omega), Nat.add_sub_cancel]
  have part : ∀ k, k < A.rows.length ∨ ∃ j, k = j + A.rows.length := fun k => by
    by_cases h1 : k < A.rows.length
    · exact .inl h1
    · exact .inr ⟨k - A.rows.length, by omega⟩
  refine ⟨X, ⟨fun k hk => ?_, fun k => ?_, fun k hk => ?_⟩, XA 0 VA.rows1⟩
  · rcases part k with hi | ⟨j, rfl⟩
    · rw [XA k hi, hx.off k fun hs => hk ⟨(behind_rA VA VB hi).mpr hs.1, (behind_coA VA VB hi).mpr ⟨hs.2, cB⟩⟩]
      grind
    · rw [XB j]
      exact hy.off j fun hs => hk ⟨(behind_rB VA VB cA j).mpr hs.1, (behind_embB.co VB (VB.reach_lt hs.1)).mpr hs.2⟩
  · rcases part k with hi | ⟨j, rfl⟩
    · rw [XA k hi]; exact Rat.mul_nonneg (hx.nn k) (hy.nn 0)
    · rw [XB j]; exact hy.nn j
  · rcases part k with hi | ⟨j, rfl⟩
    · have hs : St A k := ⟨(behind_rA VA VB hi).mp hk.1, ((behind_coA VA VB hi).mp hk.2).1⟩
      rw [XA k hi, behind_wsumA hi, hx.eq k hs]
      have e0 : bval (behind A B) k = 0 := by unfold bval; rw [behind_finA hi]
      have e1 : X A.rows.length = y 0 := by have := XB 0; rw [Nat.zero_add] at this; exact this
      have e2 : wsum A X k = y 0 * wsum A x k := by
        rw [← wsum_mul]
        unfold wsum
        exact sum_congr _ _ _ fun p hp => by rw [XA _ (VA.stp_lt (m := p.1) hp)]; grind
      rw [e0, e1, e2]
      grind
    · have hr : Reach B j := (behind_rB VA VB cA j).mp hk.1
      have hj := VB.reach_lt hr
      have hs : St B j := ⟨hr, (behind_embB.co VB hj).mp hk.2⟩
      rw [XB j, (behind_embB (A := A)).bval hj, (behind_embB (A := A)).wsum hj, hy.eq j hs]
      congr 1
      unfold wsum
      exact sum_congr _ _ _ fun p hp => by dsimp only; rw [XB]
theorem behind_noneB (VA : Valid A) (VB : Valid B) (cA : Co A 0) (hB : IsTot B none) : IsTot (behind A B) none := by
  rintro ⟨X, hX⟩
  exact hB ⟨_, behind_embB.worth VB (fun j _ => behind_rB VA VB cA j) hX⟩
theorem behind_noneA (VA : Valid A) (VB : Valid B) (cA : Co A 0) (cB : Co B 0) (hA : IsTot A none) : IsTot (behind A B) none := by
  rintro ⟨X, hX⟩
  have hn : St (behind A B) (0 + A.rows.length) := ⟨(behind_rB VA VB cA 0).mpr .zero, (behind_embB.co VB VB.rows1).mpr cB⟩
  rw [Nat.zero_add] at hn
  have hp := hX.pos hn
  generalize hc : X A.rows.length = c at hp
  refine hA ⟨fun i => if i < A.rows.length then X i / c else 0, fun i hi => ?_, fun i => ?_, fun i hi => ?_⟩
  · show (if i < A.rows.length then X i / c else 0) = 0
    split
    · rename_i h
      rw [hX.off i fun hs => hi ⟨(behind_rA VA VB h).mp hs.1, ((behind_coA VA VB h).mp hs.2).1⟩]
      grind
    · rfl
  · show 0 ≤ (if i < A.rows.length then X i / c else 0)
    split
    · rename_i h
      have h1 := hX.nn i
      have h2 := Rat.mul_nonneg h1 (Rat.le_of_lt (Rat.inv_pos.mpr hp))
      rw [Rat.div_def]
      exact h2
    · exact Rat.le_refl
  · have hl := VA.reach_lt hi.1
    show (if i < A.rows.length then X i / c else 0) = _
    rw [if_pos hl]
    have h1 := hX.eq i ⟨(behind_rA VA VB hl).mpr hi.1, (behind_coA VA VB hl).mpr ⟨hi.2, cB⟩⟩
    rw [behind_wsumA hl, hc] at h1
    have e0 : bval (behind A B) i = 0 := by unfold bval; rw [behind_finA hl]
    rw [e0] at h1
    have e2 : wsum A (fun i => if i < A.rows.length then X i / c else 0) i = (1 / c) * wsum A X i := by
      rw [← wsum_mul]
      unfold wsum
      exact sum_congr _ _ _ fun p hp => by
        dsimp only
        rw [if_pos (VA.stp_lt (m := p.1) hp)]
        grind
    rw [e2, h1]
    grind
end

/-! ### states twice -/
def low (n k : Nat) : Nat := if k < n then k else k - n
/-- a step, its next state in either copy -/
inductive Twin (n : Nat) : Step → Step → Prop
  | no : Twin n none none
  | one {m j k : Nat} : k < 2 * n → low n k = j → Twin n (some (m, k)) (some (m, j))
inductive All2 {α β : Type} (F : α → β → Prop) : List α → List β → Prop
  | nil : All2 F [] []
  | cons {a : α} {b : β} {l : List α} {r : List β} : F a b → All2 F l r → All2 F (a :: l) (b :: r)
structure TwiceOf (M D : Mach) : Prop where
  size : D.size = M.size
  len : D.rows.length = 2 * M.rows.length + 1
  row : ∀ k, k < 2 * M.rows.length → ∃ r r', D.rows[k]? = some r ∧ M.rows[low M.rows.length k]? = some r' ∧ r.fin = r'.fin ∧ All2 (Twin M.rows.length) r.steps r'.steps
  last : D.rows[2 * M.rows.length]? = some ⟨some 1, List.replicate M.size (some (0, 0))⟩
def Tw (n : Nat) (p q : Nat × Nat) : Prop := p.1 = q.1 ∧ p.2 < 2 * n ∧ low n p.2 = q.2
theorem tw_filter {n : Nat} {l r : List Step} (h : All2 (Twin n) l r) : All2 (Tw n) (l.filterMap id) (r.filterMap id) := by
  induction h with
  | nil => exact .nil
  | cons h _ ih =>
    cases h with
    | no => simpa using ih
    | one h1 h2 => exact .cons ⟨rfl, h1, h2⟩ ih
theorem All2.mem_left {α β : Type} {F : α → β → Prop} {l : List α} {r : List β} (h : All2 F l r) {a : α} (ha : a ∈ l) : ∃ b ∈ r, F a b := by
  induction h with
  | nil => cases ha
  | @cons a' b' l r h _ ih =>
    rcases List.mem_cons.mp ha with rfl | ha
    · exact ⟨b', by simp, h⟩
    · obtain ⟨b, hb, hf⟩ := ih ha
      exact ⟨b, by simp [hb], hf⟩
theorem All2.mem_right {α β : Type} {F : α → β → Prop} {l : List α} {r : List β} (h : All2 F l r) {b : β} (hb : b ∈ r) : ∃ a ∈ l, F a b := by
  induction h with
  | nil => cases hb
  | @cons a' b' l r h _ ih =>
    rcases List.mem_cons.mp hb with rfl | hb
    · exact ⟨a', by simp, h⟩
    · obtain ⟨a, ha, hf⟩ := ih hb
      exact ⟨a, by simp [ha], hf⟩
theorem All2.sum_eq {α β : Type} {F : α → β → Prop} {f : α → Rat} {g : β → Rat} {l : List α} {r : List β} (h : All2 F l r) (hf : ∀ a b, a ∈ l → b ∈ r → F a b → f a = g b) : (l.map f).sum = (r.map g).sum := by
  induction h with
  | nil => rfl
  | @cons a b l r h _ ih =>
    rw [sum_cons, sum_cons, hf a b (by simp) (by simp) h, ih fun a b ha hb q => hf a b (by simp [ha]) (by simp [hb]) q]
/-- three lists alike -/
theorem All2.sum_le3 {α β : Type} {F : α → β → Prop} {f u : α → Rat} {l l' : List α} {r : List β} (h : All2 F l r) (h' : All2 F l' r)
    (hf : ∀ a a' b, a ∈ l → a' ∈ l' → F a b → F a' b → f a - f a' ≤ u a) : (l.map f).sum - (l'.map f).sum ≤ (l.map u).sum := by
  induction h generalizing l' with
  | nil =>
    cases h'
    simp
    grind
  | @cons a b l r h hl ih =>
    cases h' with
    | @cons a' _ l' _ h' hl' =>
      rw [sum_cons, sum_cons, sum_cons]
      have h1 := hf a a' b (by simp) (by simp) h h'
      have h2 := ih hl' fun a a' b ha ha' q q' => hf a a' b (by simp [ha]) (by simp [ha']) q q'
      grind
section
variable {M D : Mach}
theorem TwiceOf.stp2 (T : TwiceOf M D) {k : Nat} (hk : k < 2 * M.rows.length) : All2 (Tw M.rows.length) (stp D k) (stp M (low M.rows.length k)) := by
  obtain ⟨r, r', h1, h2, _, h4⟩ := T.row k hk
  rw [stp_of h1, stp_of h2]
  exact tw_filter h4
theorem TwiceOf.fin2 (T : TwiceOf M D) {k : Nat} (hk : k < 2 * M.rows.length) : fin D k = fin M (low M.rows.length k) := by
  obtain ⟨r, r', h1, h2, h3, _⟩ := T.row k hk
  rw [fin_of h1, fin_of h2, h3]
theorem TwiceOf.reach (T : TwiceOf M D) (V : Valid M) {k : Nat} (h : Reach D k) : k < 2 * M.rows.length ∧ Reach M (low M.rows.length k) := by
  induction h with
  | zero =>
    refine ⟨by have := V.rows1; omega, ?_⟩
    have : low M.rows.length 0 = 0 := by unfold low; split <;> simp
    rw [this]; exact .zero
  | @step i m j hr h ih =>
    obtain ⟨q, hq, h1, h2, h3⟩ := (T.stp2 ih.1).mem_left h
    refine ⟨h2, ?_⟩
    have h3' : low M.rows.length j = q.2 := h3
    rw [h3']
    exact .step (m := q.1) ih.2 hq
theorem TwiceOf.lift (T : TwiceOf M D) (V : Valid M) {i : Nat} (h : Reach M i) : ∃ k, Reach D k ∧ low M.rows.length k = i := by
  induction h with
  | zero => exact ⟨0, .zero, by unfold low; split <;> simp⟩
  | @step i m j hr h ih =>
    obtain ⟨k, hk, e⟩ := ih
    have hl := (T.reach V hk).1
    have h' : (m, j) ∈ stp M (low M.rows.length k) := by rw [e]; exact h
    obtain ⟨p, hp, h1, h2, h3⟩ := (T.stp2 hl).mem_right h'
    exact ⟨p.2, .step (m := p.1) hk hp, h3⟩
theorem TwiceOf.co (T : TwiceOf M D) {k : Nat} (hk : k < 2 * M.rows.length) : Co D k ↔ Co M (low M.rows.length k) := by
  constructor
  · intro h
    induction h with
    | @fin k e h => exact .fin (by rw [← T.fin2 hk]; exact h)
    | @step k m j h hc ih =>
      obtain ⟨q, hq, h1, h2, h3⟩ := (T.stp2 hk).mem_left h
      have h3' : low M.rows.length j = q.2 := h3
      have := ih h2
      rw [h3'] at this
      exact .step (m := q.1) hq this
  · intro h
    generalize e : low M.rows.length k = i at h
    induction h generalizing k with
    | @fin i f h => exact .fin (by rw [T.fin2 hk, e]; exact h)
    | @step i m j h hc ih =>
      subst e
      obtain ⟨p, hp, h1, h2, h3⟩ := (T.stp2 hk).mem_right h
      exact .step (m := p.1) hp (ih h2 h3)
theorem TwiceOf.bval2 (T : TwiceOf M D) {k : Nat} (hk : k < 2 * M.rows.length) : bval D k = bval M (low M.rows.length k) := by
  unfold bval
  rw [T.fin2 hk]
theorem TwiceOf.st (T : TwiceOf M D) (V : Valid M) {k : Nat} (h : St D k) : k < 2 * M.rows.length ∧ St M (low M.rows.length k) := by
  obtain ⟨h1, h2⟩ := T.reach V h.1
  exact ⟨h1, h2, (T.co h1).mp h.2⟩
open Classical in
theorem TwiceOf.some (T : TwiceOf M D) (V : Valid M) {r : Rat} (h : IsTot M (some r)) : IsTot D (some r) := by
  obtain ⟨x, hx, rfl⟩ := h
  have l0 : low M.rows.length 0 = 0 := by unfold low; split <;> simp
  have e : ∀ k, Reach D k → (if St D k then x (low M.rows.length k) else 0) = x (low M.rows.length k) := by
    intro k hr
    split
    · rfl
    · rename_i h
      exact (hx.off _ fun hs => h ⟨hr, (T.co (T.reach V hr).1).mpr hs.2⟩).symm
  refine ⟨fun k => if St D k then x (low M.rows.length k) else 0, ⟨fun k hk => if_neg hk, fun k => ?_, fun k hk => ?_⟩, ?_⟩
  · show 0 ≤ (if St D k then x (low M.rows.length k) else 0)
    split
    · exact hx.nn _
    · exact Rat.le_refl
  · obtain ⟨hl, hs⟩ := T.st V hk
    show (if St D k then x (low M.rows.length k) else 0) = _
    rw [if_pos hk, hx.eq _ hs, T.bval2 hl]
    congr 1
    unfold wsum
    refine ((T.stp2 hl).sum_eq fun a b ha hb q => ?_).symm
    dsimp only
    rw [e a.2 (.step (m := a.1) hk.1 ha), q.1, q.2.2]
  · show (if St D 0 then x (low M.rows.length 0) else 0) = x 0
    rw [e 0 .zero, l0]
def other (n k : Nat) : Nat := if k < n then k + n else k - n
open Classical in
theorem TwiceOf.none (T : TwiceOf M D) (V : Valid M) (VD : Valid D) (h : IsTot M none) : IsTot D none := by
  rintro ⟨X, hX⟩
  generalize hn : M.rows.length = n at *
  have hn1 : 1 ≤ n := by rw [← hn]; exact V.rows1
  have low_other : ∀ k, k < 2 * n → low n (other n k) = low n k := fun k hk => by
    unfold low other
    split <;> split <;> omega
  have copies : ∀ j k, j < 2 * n → k < 2 * n → low n j = low n k → j = k ∨ j = other n k := fun j k hj hk => by
    unfold low other
    split <;> split <;> omega
  have other_lt : ∀ k, k < 2 * n → other n k < 2 * n := fun k hk => by
    unfold other
    split <;> omega
  have other_other : ∀ k, k < 2 * n → other n (other n k) = k := fun k hk => by
    unfold other
    split <;> split <;> omega
  have stl : ∀ {k}, St D k → k < 2 * n ∧ St M (low n k) := fun {k} hk => by have := T.st V hk; rw [hn] at this; exact this
  have rel : ∀ {k}, Reach D k → k < 2 * n := fun {k} hk => by have := (T.reach V hk).1; rw [hn] at this; exact this
  have coo : ∀ {k}, k < 2 * n → (Co D k ↔ Co M (low n k)) := fun {k} hk => by have := T.co (k := k) (by rw [hn]; exact hk); rw [hn] at this; exact this
  have st2 : ∀ {k}, k < 2 * n → All2 (Tw n) (stp D k) (stp M (low n k)) := fun {k} hk => by have := T.stp2 (k := k) (by rw [hn]; exact hk); rw [hn] at this; exact this
  have bv2 : ∀ {k}, k < 2 * n → bval D k = bval M (low n k) := fun {k} hk => by have := T.bval2 (k := k) (by rw [hn]; exact hk); rw [hn] at this; exact this
  -- how much a copy is above the other one
  let v : Nat → Rat := fun k => if St D k ∧ St D (other n k) ∧ X (other n k) ≤ X k then X k - X (other n k) else 0
  have vnn : ∀ k, 0 ≤ v k := fun k => by
    show 0 ≤ (if St D k ∧ St D (other n k) ∧ X (other n k) ≤ X k then X k - X (other n k) else 0)
    split
    · rename_i h; have := h.2.2; grind
    · exact Rat.le_refl
  have vge : ∀ k, St D k → St D (other n k) → X k - X (other n k) ≤ v k := fun k h1 h2 => by
    show _ ≤ (if St D k ∧ St D (other n k) ∧ X (other n k) ≤ X k then X k - X (other n k) else 0)
    by_cases h3 : X (other n k) ≤ X k
    · rw [if_pos ⟨h1, h2, h3⟩]; exact Rat.le_refl
    · rw [if_neg fun q => h3 q.2.2]; grind
  have vz := max_principle VD hX.nn hX.super (v := v) (fun k hk => if_neg fun q => hk q.1) (fun k hk => by
    show (if St D k ∧ St D (other n k) ∧ X (other n k) ≤ X k then X k - X (other n k) else 0) ≤ _
    split
    · rename_i h
      have h1 := stl h.1
      have h2 := stl h.2.1
      rw [hX.eq k h.1, hX.eq _ h.2.1, bv2 h1.1, bv2 h2.1, low_other k h1.1]
      have key : wsum D X k - wsum D X (other n k) ≤ wsum D v k := by
        unfold wsum
        have a1 := st2 h1.1
        have a2 := st2 h2.1
        rw [low_other k h1.1] at a2
        refine a1.sum_le3 (f := fun p : Nat × Nat => half p.1 * X p.2) a2 fun a a' b ha ha' q q' => ?_
        have hp := half_pos a.1
        have ea : a'.1 = a.1 := by rw [q.1, q'.1]
        have ra : Reach D a.2 := .step (m := a.1) h.1.1 ha
        have ra' : Reach D a'.2 := .step (m := a'.1) h.2.1.1 ha'
        show half a.1 * X a.2 - half a'.1 * X a'.2 ≤ half a.1 * v a.2
        rw [ea]
        have goal : X a.2 - X a'.2 ≤ v a.2 := by
          rcases copies a'.2 a.2 q'.2.1 q.2.1 (by rw [q.2.2, q'.2.2]) with e | e
          · rw [e]
            have := vnn a.2
            grind
          · rw [e] at ra' ⊢
            by_cases hs : St D a.2
            · refine vge a.2 hs ⟨ra', ?_⟩
              rw [coo (rel ra'), low_other a.2 (rel ra), ← coo (rel ra)]
              exact hs.2
            · have h0 : X a.2 = 0 := hX.off _ hs
              have h3 := hX.nn (other n a.2)
              have h4 := vnn a.2
              grind
        have := Rat.mul_le_mul_of_nonneg_left goal (Rat.le_of_lt hp)
        grind
      grind
    · exact wsum_nn vnn k)
  have le : ∀ k, St D k → St D (other n k) → X k ≤ X (other n k) := fun k h1 h2 => by
    have a := vge k h1 h2
    have b := vz k
    grind
  have eqc : ∀ j k, St D j → St D k → low n j = low n k → X j = X k := fun j k hj hk e => by
    rcases copies j k (stl hj).1 (stl hk).1 e with rfl | rfl
    · rfl
    · have a := le k hk hj
      have b := le (other n k) hj (by rw [other_other k (stl hk).1]; exact hk)
      rw [other_other k (stl hk).1] at b
      exact Rat.le_antisymm b a
  -- the part's worth
  let y : Nat → Rat := fun i => if h : ∃ k, St D k ∧ low n k = i then X (Classical.choose h) else 0
  have ys : ∀ k, St D k → y (low n k) = X k := fun k hk => by
    have h : ∃ k', St D k' ∧ low n k' = low n k := ⟨k, hk, rfl⟩
    show (if h : ∃ k', St D k' ∧ low n k' = low n k then X (Classical.choose h) else 0) = X k
    rw [dif_pos h]
    exact eqc _ k (Classical.choose_spec h).1 hk (Classical.choose_spec h).2
  have yo : ∀ i, ¬ St M i → y i = 0 := fun i hi => by
    show (if h : ∃ k', St D k' ∧ low n k' = i then X (Classical.choose h) else 0) = 0
    rw [dif_neg]
    rintro ⟨k, hk, rfl⟩
    exact hi (stl hk).2
  refine h ⟨y, yo, fun i => ?_, fun i hi => ?_⟩
  · show 0 ≤ (if h : ∃ k', St D k' ∧ low n k' = i then X (Classical.choose h) else 0)
    split
    · exact hX.nn _
    · exact Rat.le_refl
  · obtain ⟨k, hk, e⟩ := T.lift V hi.1
    rw [hn] at e
    subst e
    have hkl := rel hk
    have hs : St D k := ⟨hk, (coo hkl).mpr hi.2⟩
    rw [ys k hs, hX.eq k hs, bv2 hkl]
    congr 1
    unfold wsum
    refine (st2 hkl).sum_eq fun a b ha hb q => ?_
    have ra : Reach D a.2 := .step (m := a.1) hk ha
    have : X a.2 = y b.2 := by
      rw [← q.2.2]
      by_cases hsa : St D a.2
      · exact (ys _ hsa).symm
      · rw [hX.off _ hsa, yo]
        intro q2
        exact hsa ⟨ra, (coo (rel ra)).mpr q2.2⟩
    rw [this, q.1]
theorem TwiceOf.tot (T : TwiceOf M D) (V : Valid M) (VD : Valid D) {r : Option Rat} (h : IsTot M r) : IsTot D r := by
  cases r with
  | none => exact T.none V VD h
  | some r => exact T.some V h
end
end KM

/-! How large the entries are. -/
namespace KM
set_option linter.all false
def Scaled (n : Nat) (N : Nat → Nat → Rat) : Prop := ∃ Z : Nat → Nat → Int, ∀ i j, i < n → j < n + 1 → N i j * ((2 ^ 60 : Nat) : Rat) = (Z i j : Rat) ∧ (Z i j).natAbs ≤ 2 ^ 64
theorem siegel_le {k : Nat} (hk : k ≤ 30) : siegelX k (2 ^ 64) ≤ 2 ^ 2100 := by
  unfold siegelX
  have h1 : 2 * (k + 1) * 2 ^ 64 ≤ 2 ^ 70 := by
    have : 2 * (k + 1) ≤ 2 ^ 6 := by omega
    calc 2 * (k + 1) * 2 ^ 64 ≤ 2 ^ 6 * 2 ^ 64 := Nat.mul_le_mul_right _ this
      _ = 2 ^ 70 := by rw [← Nat.pow_add]
  calc (2 * (k + 1) * 2 ^ 64) ^ k ≤ (2 ^ 70) ^ k := Nat.pow_le_pow_left h1 k
    _ = 2 ^ (70 * k) := by rw [← Nat.pow_mul]
    _ ≤ 2 ^ 2100 := Nat.pow_le_pow_right (by decide) (by omega)
theorem GS.small {n k : Nat} {N m : Nat → Nat → Rat} {w : Nat → Nat} (s : GS n k N m w) (g : GJ n k N m) (hk : k ≤ n) (hn : n ≤ 30) (hs : Scaled n N) {i j : Nat} (hi : i < n) (hj : j < n + 1) : Small 2200 (m i j) := by
  obtain ⟨Z, hZ⟩ := hs
  obtain ⟨a, b, hb, he, ha, hb2⟩ := s.size (C := 2 ^ 64) (P := 2 ^ 60) g hk (Nat.one_le_two_pow) (Nat.one_le_two_pow) (Nat.pow_le_pow_right (by decide) (by decide)) hZ i j hi hj
  have hX := siegel_le (k := k) (by omega)
  refine small_of hb he ?_ ?_
  · have h1 : (k + 1) * (siegelX k (2 ^ 64) * 2 ^ 64) ≤ 2 ^ 5 * (2 ^ 2100 * 2 ^ 64) := Nat.mul_le_mul (by omega) (Nat.mul_le_mul_right _ hX)
    have h2 : 2 ^ 5 * (2 ^ 2100 * 2 ^ 64) = 2 ^ 2169 := by rw [← Nat.pow_add, ← Nat.pow_add]
    have h3 : (2 : Nat) ^ 2169 < 2 ^ 2200 := Nat.pow_lt_pow_right (by decide) (by decide)
    omega
  · have h1 : siegelX k (2 ^ 64) * 2 ^ 60 ≤ 2 ^ 2100 * 2 ^ 60 := Nat.mul_le_mul_right _ hX
    have h2 : 2 ^ 2100 * 2 ^ 60 = 2 ^ 2160 := by rw [← Nat.pow_add]
    have h3 : (2 : Nat) ^ 2160 < 2 ^ 2200 := Nat.pow_lt_pow_right (by decide) (by decide)
    omega
/-- the program's step -/
def next (k d : Nat) (m : Nat → Nat → Rat) : Nat → Nat → Rat := fun i j => if i = k then m d j / m d k else m (sw k d i) j - m (sw k d i) k * (m d j / m d k)
theorem next_gj {n k d : Nat} {N m : Nat → Nat → Rat} (g : GJ n k N m) (hk : k < n) (hd : k ≤ d) (hdn : d < n) (hp : m d k ≠ 0) : GJ n (k + 1) N (next k d m) := by
  refine g.step hk hd hdn hp (fun i hi e => ⟨?_, 1, - m (sw k d i) k / m d k, by decide, fun j => ?_⟩) ⟨1 / m d k, ?_, fun j => ?_⟩
  · unfold next
    rw [if_neg e]
    grind
  · unfold next
    rw [if_neg e]
    grind
  · grind
  · unfold next
    rw [if_pos rfl]
    grind
theorem next_gs {n k d : Nat} {N m : Nat → Nat → Rat} {w : Nat → Nat} (s : GS n k N m w) (g : GJ n k N m) (hk : k < n) (hd : k ≤ d) (hdn : d < n) (hp : m d k ≠ 0) : GS n (k + 1) N (next k d m) (fun i => w (sw k d i)) := by
  refine s.step g hk hd hdn hp (fun i hi e => ⟨- m (sw k d i) k / m d k, fun j => ?_⟩) (fun i hi => ?_) (fun j => ?_)
  · unfold next
    rw [if_neg e]
    grind
  · unfold next
    rw [if_neg (by omega)]
    grind
  · unfold next
    rw [if_pos rfl]
end KM

/-! The matrix of the equations, as the program writes it. -/
namespace KM
set_option linter.all false
def cof (l : List (Nat × Nat)) (j : Nat) : Rat := (l.map fun p => if p.2 = j then half p.1 else 0).sum
theorem cof_nil (j : Nat) : cof [] j = 0 := rfl
theorem cof_snoc (l : List (Nat × Nat)) (p : Nat × Nat) (j : Nat) : cof (l ++ [p]) j = cof l j + (if p.2 = j then half p.1 else 0) := by
  unfold cof
  rw [List.map_append, List.sum_append]
  simp
  grind
theorem half_scaled {m : Nat} (h : m ≤ 60) : half m * ((2 ^ 60 : Nat) : Rat) = ((2 ^ (60 - m) : Nat) : Rat) := by
  have e : ((2 ^ 60 : Nat) : Rat) = ((2 ^ m : Nat) : Rat) * ((2 ^ (60 - m) : Nat) : Rat) := by
    rw [← Rat.natCast_mul, ← Nat.pow_add, Nat.add_sub_cancel' h]
  rw [e, ← Rat.mul_assoc, half_mul_pow, Rat.one_mul]
theorem cof_scaled (j : Nat) : ∀ l : List (Nat × Nat), (∀ p ∈ l, p.1 ≤ 60) → ∃ z : Nat, cof l j * ((2 ^ 60 : Nat) : Rat) = (z : Rat) ∧ z ≤ l.length * 2 ^ 60
  | [], _ => ⟨0, by rw [cof_nil, Rat.zero_mul]; rfl, by simp⟩
  | p :: l, h => by
    obtain ⟨z, h1, h2⟩ := cof_scaled j l (fun q hq => h q (by simp [hq]))
    have hp := h p (by simp)
    have e : cof (p :: l) j = (if p.2 = j then half p.1 else 0) + cof l j := by unfold cof; rw [sum_cons]
    by_cases c : p.2 = j
    · refine ⟨2 ^ (60 - p.1) + z, ?_, ?_⟩
      · rw [e, if_pos c, Rat.add_mul, h1, half_scaled hp, ← Rat.natCast_add]
      · have : 2 ^ (60 - p.1) ≤ 2 ^ 60 := Nat.pow_le_pow_right (by decide) (by omega)
        rw [List.length_cons, Nat.add_mul, Nat.one_mul]
        omega
    · refine ⟨z, ?_, ?_⟩
      · rw [e, if_neg c, Rat.zero_add, h1]
      · rw [List.length_cons, Nat.add_mul]
        exact Nat.le_trans h2 (Nat.le_add_right _ _)
/-- an entry of a row under construction -/
def ent (a : Nat) (l : List (Nat × Nat)) (j : Nat) : Rat := (if j = a then 1 else 0) - cof l j
theorem ent_scaled (a j : Nat) {l : List (Nat × Nat)} (h : ∀ p ∈ l, p.1 ≤ 60) (hl : l.length ≤ 8) : ∃ z : Int, ent a l j * ((2 ^ 60 : Nat) : Rat) = (z : Rat) ∧ z.natAbs ≤ 2 ^ 64 := by
  obtain ⟨z, h1, h2⟩ := cof_scaled j l h
  have h3 : l.length * 2 ^ 60 ≤ 8 * 2 ^ 60 := Nat.mul_le_mul_right _ hl
  have h4 : z ≤ 8 * 2 ^ 60 := Nat.le_trans h2 h3
  by_cases e : j = a
  · refine ⟨(2 ^ 60 : Nat) - (z : Int), ?_, ?_⟩
    · unfold ent
      rw [if_pos e, Rat.sub_eq_add_neg, Rat.add_mul, Rat.one_mul, Rat.neg_mul, h1, Rat.intCast_sub, Rat.intCast_natCast, Rat.intCast_natCast, Rat.sub_eq_add_neg]
    · have : (8 * 2 ^ 60 : Nat) + 2 ^ 60 ≤ 2 ^ 64 := by decide
      omega
  · refine ⟨- (z : Int), ?_, ?_⟩
    · unfold ent
      rw [if_neg e, Rat.sub_eq_add_neg, Rat.zero_add, Rat.neg_mul, h1, Rat.intCast_neg, Rat.intCast_natCast]
    · have : (8 * 2 ^ 60 : Nat) ≤ 2 ^ 64 := by decide
      omega
theorem small_scaled {r : Rat} {z : Int} (h : r * ((2 ^ 60 : Nat) : Rat) = (z : Rat)) (hz : z.natAbs ≤ 2 ^ 64) : Small 65 r := by
  refine small_of (a := z) (b := ((2 ^ 60 : Nat) : Int)) (by decide) (by rw [Rat.intCast_natCast]; exact h) ?_ ?_
  · have : (2 : Nat) ^ 64 < 2 ^ 65 := by decide
    omega
  · decide
theorem ent_small (a j : Nat) {l : List (Nat × Nat)} (h : ∀ p ∈ l, p.1 ≤ 60) (hl : l.length ≤ 8) : Small 65 (ent a l j) := by
  obtain ⟨z, h1, h2⟩ := ent_scaled a j h hl
  exact small_scaled h1 h2
theorem half_small {m : Nat} (h : m ≤ 60) : Small 65 (half m) := by
  refine small_scaled (z := ((2 ^ (60 - m) : Nat) : Int)) (by rw [half_scaled h, Rat.intCast_natCast]) ?_
  have : 2 ^ (60 - m) ≤ 2 ^ 60 := Nat.pow_le_pow_right (by decide) (by omega)
  have h2 : (2 : Nat) ^ 60 ≤ 2 ^ 64 := by decide
  rw [Int.natAbs_natCast]
  omega
def eqMat (T : Mach) : Nat → Nat → Rat := fun a j => if j = T.rows.length then bval T a else ent a (stp T a) j
theorem eqMat_of (T : Mach) : MatOf T (eqMat T) := fun a ha => ⟨1, by decide, fun j hj => by
  unfold eqMat ent coef cof
  rw [Rat.one_mul]⟩
theorem Valid.row_stp {M : Mach} (V : Valid M) {i : Nat} {r : Row} (h : M.rows[i]? = some r) : (∀ p ∈ r.stp, p.1 ≤ 60) ∧ r.stp.length ≤ 8 := by
  have hm := List.mem_of_getElem? h
  refine ⟨fun p hp => (V.mores r hm p.1 p.2 (mem_rstp.mp hp)).1, ?_⟩
  have h1 := V.len r hm
  have h2 := V.size8
  have h3 : r.stp.length ≤ r.steps.length := List.length_filterMap_le _ _
  omega
theorem eqMat_scaled {T : Mach} (V : Valid T) : Scaled T.rows.length (eqMat T) := by
  have each : ∀ i j, i < T.rows.length → ∃ z : Int, eqMat T i j * ((2 ^ 60 : Nat) : Rat) = (z : Rat) ∧ z.natAbs ≤ 2 ^ 64 := by
    intro i j hi
    have hr := getD_row hi
    obtain ⟨h1, h2⟩ := V.row_stp hr
    unfold eqMat
    by_cases e : j = T.rows.length
    · rw [if_pos e]
      unfold bval
      rw [fin_of hr]
      cases hf : (T.rows.getD i noRow).fin with
      | none => exact ⟨0, by simp, by decide⟩
      | some f =>
        have hf60 := (V.fins _ (List.mem_of_getElem? hr) f hf).2
        refine ⟨((2 ^ (60 - f) : Nat) : Int), ?_, ?_⟩
        · show half f * _ = _
          rw [half_scaled hf60, Rat.intCast_natCast]
        · have : 2 ^ (60 - f) ≤ 2 ^ 60 := Nat.pow_le_pow_right (by decide) (by omega)
          have h2 : (2 : Nat) ^ 60 ≤ 2 ^ 64 := by decide
          rw [Int.natAbs_natCast]
          omega
    · rw [if_neg e, stp_of hr]
      exact ent_scaled i j h1 h2
  refine ⟨fun i j => if h : i < T.rows.length then Classical.choose (each i j h) else 0, fun i j hi _ => ?_⟩
  dsimp only
  rw [dif_pos hi]
  exact Classical.choose_spec (each i j hi)
end KM

/-! Elimination over whole numbers. -/
namespace KM
set_option linter.all false
theorem GJ.stepW {n k d : Nat} {N m m' : Nat → Nat → Rat} (g : GJ n k N m) (hk : k < n) (hd : k ≤ d) (hdn : d < n) (hp : m d k ≠ 0)
    (h1 : ∀ i, i < n → i ≠ k → m' i k = 0 ∧ ∃ a b : Rat, a ≠ 0 ∧ ∀ j, j < n + 1 → m' i j = a * m (sw k d i) j + b * m d j)
    (h2 : ∃ a : Rat, a ≠ 0 ∧ ∀ j, j < n + 1 → m' k j = a * m d j) : GJ n (k + 1) N m' := by
  have g' : GJ n k N (fun i j => if j < n + 1 then m i j else 0) := g.congr (by omega) fun i j _ hj => by rw [if_pos hj]
  have s := g'.step (d := d) (m' := fun i j => if j < n + 1 then m' i j else 0) hk hd hdn (by rw [if_pos (by omega)]; exact hp) (fun i hi e => by
    obtain ⟨z, a, b, ha, h⟩ := h1 i hi e
    refine ⟨by rw [if_pos (by omega)]; exact z, a, b, ha, fun j => ?_⟩
    by_cases hj : j < n + 1
    · rw [if_pos hj, if_pos hj, if_pos hj]; exact h j hj
    · rw [if_neg hj, if_neg hj, if_neg hj]; grind) (by
    obtain ⟨a, ha, h⟩ := h2
    refine ⟨a, ha, fun j => ?_⟩
    by_cases hj : j < n + 1
    · rw [if_pos hj, if_pos hj]; exact h j hj
    · rw [if_neg hj, if_neg hj]; grind)
  exact s.congr (by omega) fun i j _ hj => by rw [if_pos hj]
def castM (m : Nat → Nat → Int) : Nat → Nat → Rat := fun i j => ((m i j : Int) : Rat)
/-- row i after the column k, the pivot row taken from d -/
structure RD (n k d w : Nat) (m : Nat → Nat → Int) (i : Nat) (f : Nat → Int) : Prop where
  self : i = k → ∀ j, j < n + 1 → f j = m d j
  zero : i ≠ k → f k = 0
  lin : i ≠ k → ∃ a b : Rat, a ≠ 0 ∧ ∀ j, j < n + 1 → ((f j : Int) : Rat) = a * (m (sw k d i) j : Rat) + b * (m d j : Rat)
  size : ∀ j, j < n + 1 → (f j).natAbs < 2 ^ (2 * w + 1)
theorem cross_small {x y z u : Int} {w : Nat} (hx : x.natAbs < 2 ^ w) (hy : y.natAbs < 2 ^ w) (hz : z.natAbs < 2 ^ w) (hu : u.natAbs < 2 ^ w) : (x * y - z * u).natAbs < 2 ^ (2 * w + 1) := by
  have h1 : (x * y).natAbs < 2 ^ (w + w) := by
    rw [Int.natAbs_mul, Nat.pow_add]; exact Nat.mul_lt_mul'' hx hy
  have h2 : (z * u).natAbs < 2 ^ (w + w) := by
    rw [Int.natAbs_mul, Nat.pow_add]; exact Nat.mul_lt_mul'' hz hu
  have e : 2 ^ (2 * w + 1) = 2 ^ (w + w) + 2 ^ (w + w) := by
    rw [Nat.pow_succ, show 2 * w = w + w by omega]; omega
  omega
theorem small_up {z : Int} {w : Nat} (h : z.natAbs < 2 ^ w) : z.natAbs < 2 ^ (2 * w + 1) := Nat.lt_of_lt_of_le h (Nat.pow_le_pow_right (by decide) (by omega))
section
variable {n k d w : Nat} {m : Nat → Nat → Int} {i : Nat}
/-- the pivot row itself -/
theorem RD.piv (hw : ∀ j, j < n + 1 → (m d j).natAbs < 2 ^ w) : RD n k d w m k (m d) := ⟨fun _ j _ => rfl, fun h => absurd rfl h, fun h => absurd rfl h, fun j hj => small_up (hw j hj)⟩
/-- a row with nothing in the column -/
theorem RD.skip (hi : i ≠ k) (h0 : m (sw k d i) k = 0) (hw : ∀ j, j < n + 1 → (m (sw k d i) j).natAbs < 2 ^ w) : RD n k d w m i (m (sw k d i)) :=
  ⟨fun h => absurd h hi, fun _ => h0, fun _ => ⟨1, 0, by decide, fun j _ => by grind⟩, fun j hj => small_up (hw j hj)⟩
theorem RD.sub {f : Nat → Int} {c : Nat} (hi : i ≠ k) (hk : k < n) (hp : m d k ≠ 0) (hc : 0 < c) (hf : ∀ j, j < n + 1 → m (sw k d i) j * m d k - m (sw k d i) k * m d j = (c : Int) * f j)
    (hw : ∀ j, j < n + 1 → (m (sw k d i) j).natAbs < 2 ^ w) (hw2 : ∀ j, j < n + 1 → (m d j).natAbs < 2 ^ w) : RD n k d w m i f := by
  have hcR : ((c : Int) : Rat) ≠ 0 := by
    intro z
    have : (c : Int) = 0 := by exact_mod_cast z
    omega
  have hpR : ((m d k : Int) : Rat) ≠ 0 := by
    intro z
    exact hp (by exact_mod_cast z)
  refine ⟨fun h => absurd h hi, fun _ => ?_, fun _ => ⟨((m d k : Int) : Rat) / ((c : Int) : Rat), -((m (sw k d i) k : Int) : Rat) / ((c : Int) : Rat), ?_, fun j hj => ?_⟩, fun j hj => ?_⟩
  · have h := hf k (by omega)
    have e : m (sw k d i) k * m d k - m (sw k d i) k * m d k = 0 := Int.sub_self _
    rw [e] at h
    rcases Int.mul_eq_zero.mp h.symm with h | h
    · omega
    · exact h
  · grind
  · have h := hf j hj
    have h2 : ((m (sw k d i) j * m d k - m (sw k d i) k * m d j : Int) : Rat) = (((c : Int) * f j : Int) : Rat) := by rw [h]
    rw [Rat.intCast_sub, Rat.intCast_mul, Rat.intCast_mul, Rat.intCast_mul] at h2
    grind
  · have h := hf j hj
    have h1 := cross_small (hw j hj) (hw2 k (by omega)) (hw k (by omega)) (hw2 j hj)
    rw [h, Int.natAbs_mul, Int.natAbs_natCast] at h1
    have h2 : (f j).natAbs ≤ c * (f j).natAbs := Nat.le_mul_of_pos_left _ hc
    omega
theorem RD.gj {N : Nat → Nat → Rat} {m' : Nat → Nat → Int} (g : GJ n k N (castM m)) (hk : k < n) (hd : k ≤ d) (hdn : d < n) (hp : m d k ≠ 0) (h : ∀ i, i < n → RD n k d w m i (m' i)) : GJ n (k + 1) N (castM m') := by
  refine g.stepW hk hd hdn (fun z => hp ?_) (fun i hi e => ⟨?_, ?_⟩) ⟨1, by decide, fun j hj => ?_⟩
  · have z : ((m d k : Int) : Rat) = 0 := z
    exact_mod_cast z
  · show ((m' i k : Int) : Rat) = 0
    rw [(h i hi).zero e]; rfl
  · exact (h i hi).lin e
  · show ((m' k j : Int) : Rat) = 1 * ((m d j : Int) : Rat)
    rw [(h k hk).self rfl j hj, Rat.one_mul]
end
/-- the width of the entries after k columns -/
def wd : Nat → Nat
  | 0 => 65
  | k + 1 => 2 * wd k + 1
theorem wd_le : ∀ {k : Nat}, k ≤ 6 → wd k ≤ 4223 := by
  intro k hk
  have : k = 0 ∨ k = 1 ∨ k = 2 ∨ k = 3 ∨ k = 4 ∨ k = 5 ∨ k = 6 := by omega
  rcases this with rfl | rfl | rfl | rfl | rfl | rfl | rfl <;> decide
/-- the row of a state over whole numbers, before it is made lighter -/
def entZ (a : Nat) (l : List (Nat × Nat)) (j : Nat) : Int := (if j = a then (2 : Int) ^ 60 else 0) - (l.map fun p => if p.2 = j then ((2 ^ (60 - p.1) : Nat) : Int) else 0).sum
theorem entZ_nil (a j : Nat) : entZ a [] j = if j = a then (2 : Int) ^ 60 else 0 := by unfold entZ; simp
theorem entZ_snoc (a : Nat) (l : List (Nat × Nat)) (p : Nat × Nat) (j : Nat) : entZ a (l ++ [p]) j = entZ a l j - (if p.2 = j then ((2 ^ (60 - p.1) : Nat) : Int) else 0) := by
  unfold entZ
  rw [List.map_append, List.sum_append]
  simp
  omega
theorem entZ_cast (a j : Nat) : ∀ {l : List (Nat × Nat)}, (∀ p ∈ l, p.1 ≤ 60) → ((entZ a l j : Int) : Rat) = ent a l j * ((2 ^ 60 : Nat) : Rat) := by
  have key : ∀ {l : List (Nat × Nat)}, (∀ p ∈ l, p.1 ≤ 60) → (((l.map fun p => if p.2 = j then ((2 ^ (60 - p.1) : Nat) : Int) else 0).sum : Int) : Rat) = cof l j * ((2 ^ 60 : Nat) : Rat) := by
    intro l
    induction l with
    | nil => intro _; rw [cof_nil, Rat.zero_mul]; rfl
    | cons p l ih =>
      intro h
      have hp := h p (by simp)
      have e : cof (p :: l) j = (if p.2 = j then half p.1 else 0) + cof l j := by unfold cof; rw [sum_cons]
      rw [List.map_cons, List.sum_cons, Rat.intCast_add, ih fun q hq => h q (by simp [hq]), e, Rat.add_mul]
      by_cases c : p.2 = j
      · rw [if_pos c, if_pos c, half_scaled hp, Rat.intCast_natCast]
      · rw [if_neg c, if_neg c, Rat.zero_mul]; rfl
  intro l h
  unfold entZ ent
  rw [Rat.intCast_sub, key h, Rat.sub_eq_add_neg, Rat.sub_eq_add_neg, Rat.add_mul, Rat.neg_mul]
  congr 1
  by_cases c : j = a
  · rw [if_pos c, if_pos c, Rat.one_mul]; rfl
  · rw [if_neg c, if_neg c, Rat.zero_mul]; rfl
theorem entZ_small (a j : Nat) {l : List (Nat × Nat)} (h : ∀ p ∈ l, p.1 ≤ 60) (hl : l.length ≤ 8) : (entZ a l j).natAbs < 2 ^ 65 := by
  obtain ⟨z, h1, h2⟩ := ent_scaled a j h hl
  have e : ((entZ a l j : Int) : Rat) = (z : Rat) := (entZ_cast a j h).trans h1
  have e : entZ a l j = z := by exact_mod_cast e
  rw [e]
  have : (2 : Nat) ^ 64 < 2 ^ 65 := by decide
  omega
def bvalZ (T : Mach) (a : Nat) : Int := match fin T a with
  | none => 0
  | some e => ((2 ^ (60 - e) : Nat) : Int)
theorem bvalZ_cast {T : Mach} {a : Nat} (h : ∀ e, fin T a = some e → e ≤ 60) : ((bvalZ T a : Int) : Rat) = bval T a * ((2 ^ 60 : Nat) : Rat) := by
  unfold bvalZ bval
  cases hf : fin T a with
  | none => rw [Rat.zero_mul]; rfl
  | some e =>
    show (((2 ^ (60 - e) : Nat) : Int) : Rat) = half e * _
    rw [half_scaled (h e hf), Rat.intCast_natCast]
theorem bvalZ_small (T : Mach) (a : Nat) : (bvalZ T a).natAbs < 2 ^ 65 := by
  unfold bvalZ
  cases fin T a with
  | none => decide
  | some e =>
    show (((2 ^ (60 - e) : Nat) : Int)).natAbs < 2 ^ 65
    rw [Int.natAbs_natCast]
    exact Nat.pow_lt_pow_right (by decide) (by omega)
/-- the whole row -/
def rowZ (T : Mach) (a : Nat) (l : List (Nat × Nat)) (j : Nat) : Int := if j = T.rows.length then bvalZ T a else entZ a l j
/-- rows that are parts of those rows -/
def LightOf (T : Mach) (a : Nat) (f : Nat → Int) : Prop := ∃ c : Nat, 0 < c ∧ ∀ j, j < T.rows.length + 1 → rowZ T a (stp T a) j = (c : Int) * f j
theorem light_mat {T : Mach} (V : Valid T) {m : Nat → Nat → Int} (h : ∀ a, a < T.rows.length → LightOf T a (m a)) : MatOf T (castM m) := by
  intro a ha
  obtain ⟨c, hc, hj⟩ := h a ha
  have hr := getD_row ha
  obtain ⟨h1, h2⟩ := V.row_stp hr
  have hcR : ((c : Int) : Rat) ≠ 0 := by
    intro z
    have : (c : Int) = 0 := by exact_mod_cast z
    omega
  have h60 : ((2 ^ 60 : Nat) : Rat) ≠ 0 := by have := pow_pos 60; grind
  refine ⟨((2 ^ 60 : Nat) : Rat) / ((c : Int) : Rat), by grind, fun j hjn => ?_⟩
  have e := hj j hjn
  have e : ((rowZ T a (stp T a) j : Int) : Rat) = (((c : Int) * m a j : Int) : Rat) := by rw [e]
  rw [Rat.intCast_mul] at e
  have e2 : ((rowZ T a (stp T a) j : Int) : Rat) = (if j = T.rows.length then bval T a else (if j = a then 1 else 0) - coef T a j) * ((2 ^ 60 : Nat) : Rat) := by
    unfold rowZ
    by_cases c : j = T.rows.length
    · rw [if_pos c, if_pos c]
      refine bvalZ_cast fun e he => ?_
      rw [fin_of hr] at he
      exact (V.fins _ (List.mem_of_getElem? hr) e he).2
    · rw [if_neg c, if_neg c]
      refine entZ_cast a j ?_
      rw [stp_of hr]; exact h1
  show ((m a j : Int) : Rat) = _
  rw [e2] at e
  generalize (if j = T.rows.length then bval T a else (if j = a then 1 else 0) - coef T a j) = X at *
  generalize ((2 ^ 60 : Nat) : Rat) = Y at *
  generalize ((c : Int) : Rat) = C at *
  generalize ((m a j : Int) : Rat) = Z at *
  have : Z = (X * Y) / C := by rw [e]; grind
  rw [this]; grind
theorem light_small {T : Mach} (V : Valid T) {a : Nat} {f : Nat → Int} (ha : a < T.rows.length) (h : LightOf T a f) {j : Nat} (hj : j < T.rows.length + 1) : (f j).natAbs < 2 ^ 65 := by
  obtain ⟨c, hc, he⟩ := h
  obtain ⟨h1, h2⟩ := V.row_stp (getD_row ha)
  have e := he j hj
  have s : (rowZ T a (stp T a) j).natAbs < 2 ^ 65 := by
    unfold rowZ
    by_cases c : j = T.rows.length
    · rw [if_pos c]; exact bvalZ_small T a
    · rw [if_neg c]
      refine entZ_small a j ?_ ?_
      · rw [stp_of (getD_row ha)]; exact h1
      · rw [stp_of (getD_row ha)]; exact h2
  rw [e, Int.natAbs_mul, Int.natAbs_natCast] at s
  have h2 : (f j).natAbs ≤ c * (f j).natAbs := Nat.le_mul_of_pos_left _ hc
  omega
/-- the greatest common divisor of a row -/
def rowGcd (f : Nat → Int) : Nat → Nat
  | 0 => 0
  | n + 1 => Nat.gcd (rowGcd f n) (f n).natAbs
theorem rowGcd_dvd (f : Nat → Int) : ∀ {n j : Nat}, j < n → rowGcd f n ∣ (f j).natAbs
  | n + 1, j, h => by
    by_cases e : j = n
    · subst e; exact Nat.gcd_dvd_right _ _
    · exact Nat.dvd_trans (Nat.gcd_dvd_left _ _) (rowGcd_dvd f (n := n) (j := j) (by omega))
theorem rowGcd_pos (f : Nat → Int) : ∀ {n : Nat}, rowGcd f n ≠ 0 → ∃ j, j < n ∧ f j ≠ 0
  | 0, h => absurd rfl h
  | n + 1, h => by
    by_cases e : f n = 0
    · have : rowGcd f (n + 1) = rowGcd f n := by
        show Nat.gcd (rowGcd f n) (f n).natAbs = _
        rw [e]; exact Nat.gcd_zero_right _
      rw [this] at h
      obtain ⟨j, h1, h2⟩ := rowGcd_pos f h
      exact ⟨j, by omega, h2⟩
    · exact ⟨n, by omega, e⟩
theorem rowGcd_zero (f : Nat → Int) {n : Nat} (h : rowGcd f n = 0) {j : Nat} (hj : j < n) : f j = 0 := by
  have := rowGcd_dvd f hj
  rw [h] at this
  have := Nat.eq_zero_of_zero_dvd this
  omega
end KM

set_option Elab.async false
set_option linter.all false
set_option maxRecDepth 100000
set_option maxHeartbeats 4000000
/-! Rules that the layer lacks: // by any number, enumerate of a tuple, tuple * 0 or 1, d.update(d2). -/
namespace KR
open PySem PySem.Spec PyProof.Rows L2

/-! ### // by a number that is not 0, of fewer than 9000 bits -/
def CDivS (_ j : Int) : Prop := j ≠ 0 ∧ j.natAbs.log2 < 9000
section
variable {X : Cx}
theorem op_fdivS : OpR X (binaryOp .FloorDiv) (rI CDivS fun i j => .int (i.fdiv j)) := opI fun i j _ _ _ _ _ hc q =>
  floordiv_int hc.1 q (.inl (PyProof.noPylong_of_log2 hc.2))
end
theorem divS_of {i j : Int} {b : Nat} (h : j ≠ 0) (hb : j.natAbs < 2 ^ b) (h9 : b ≤ 9000) : CDivS i j := by
  refine ⟨h, ?_⟩
  by_cases h0 : b = 0
  · subst h0
    simp at hb
    exact absurd hb h
  · exact Nat.lt_of_lt_of_le (PySem.Flt.log2_lt_of (by omega) hb) h9

/-! ### enumerate(t), t a tuple -/
section
variable {prog : Program} {w : World} {A : Around} {E : Value → Shared → Prop} {s : Shared}
theorem meets_enumerate_newT (l : Addr) (items : Array Value) (n : Nat) (dct : Option Addr) (sl : Array (Option Value)) :
    Meets (Builtin.«enumerate.__new__» ⟨[.type "enumerate", .ref l], []⟩) (fun _ R s => s.heap.get? l = some { cls := .type "tuple", dict := dct, data := .seq items n, slots := sl } ∧
      R (.ok (.ret (.ref (s.heap.push { cls := .type "tuple_iterator", data := .fields #[.ref l, .int 0 0] }).objs.size)))
        { s with heap := (s.heap.push { cls := .type "tuple_iterator", data := .fields #[.ref l, .int 0 0] }).push { cls := .type "enumerate", data := .fields #[.none, .bool false, .ref s.heap.objs.size, rawInt 0, .none, .none] } }) :=
  .of_wp fun prog w A R s h => by
    obtain ⟨hp, g, d, tk, os⟩ := s; obtain ⟨hl, h⟩ := h
    have hsub := sub_enumerate
    have hL : Heap.IsTuple (Shared.heap ⟨hp, g, d, tk, os⟩) l items := ⟨_, hl, rfl, n, rfl⟩
    wp_walk using AutoSeq1.wpAny_loadPart' hl
    refine wpAny_stack_any fun st => wpAny_pure ?_
    split
    · rename_i c _ _ _ _ _
      cases (c == Value.type "enumerate")
      · wp_walk using AutoSeq1.wpAny_loadPart' hl, wpAny_pyIter_tuple hL
        exact ⟨_, rfl, h⟩
      · wp_walk using AutoSeq1.wpAny_loadPart' hl, wpAny_pyIter_tuple hL
        exact ⟨_, rfl, h⟩
    · wp_walk using AutoSeq1.wpAny_loadPart' hl, wpAny_pyIter_tuple hL
      exact ⟨_, rfl, h⟩
theorem call_enumerate_tuple {l : Addr} {items : Array Value} {Q : Value → Shared → Prop} (hL : s.heap.IsTuple l items)
    (h : ∀ h', IsEnum h' (s.heap.objs.size + 1) s.heap.objs.size 0 .none → h'.IsTupleIter s.heap.objs.size l 0 → h'.objs.size = s.heap.objs.size + 2 →
      (∀ b o, s.heap.get? b = some o → h'.get? b = some o) → Q (.ref (s.heap.objs.size + 1)) { s with heap := h' }) :
    wpAny (model prog w) A (call (.type "enumerate") [.ref l]) Q E s := by
  obtain ⟨⟨c, dct, dt, sl⟩, hl, hc, n, hd⟩ := hL
  replace hc : c = .type "tuple" := hc
  replace hd : dt = .seq items n := hd
  subst hc hd
  refine callType_new F.called_enumerate (by decide) (F.typeCall_enumerate_1 _) (F.newCall_enumerate_1 _) (fun obj => F.args_object_init_2 obj _) F.entry_enumerate_new
    (meets_enumerate_newT l items n dct sl) ⟨hl, ?_⟩
  have hz : (s.heap.push { cls := .type "tuple_iterator", data := .fields #[.ref l, .int 0 0] }).objs.size = s.heap.objs.size + 1 := Heap.size_push ..
  show _ ∧ _
  rw [hz]
  have he : IsEnum ((s.heap.push { cls := .type "tuple_iterator", data := .fields #[.ref l, .int 0 0] }).push
      { cls := .type "enumerate", data := .fields #[.none, .bool false, .ref s.heap.objs.size, rawInt 0, .none, .none] }) (s.heap.objs.size + 1) s.heap.objs.size 0 .none := by
    have := Heap.get?_push_size (s.heap.push { cls := .type "tuple_iterator", data := .fields #[.ref l, .int 0 0] })
      (o := { cls := .type "enumerate", data := .fields #[.none, .bool false, .ref s.heap.objs.size, rawInt 0, .none, .none] }) rfl
    rw [hz] at this; exact this
  refine ⟨⟨_, he, rfl⟩, h _ he ⟨_, Heap.get?_push_of_some _ (Heap.get?_push_size _ rfl), rfl, rfl⟩ (by rw [Heap.size_push, hz]) fun b o x => Heap.get?_push_of_some _ (Heap.get?_push_of_some _ x)⟩
end
/-- the tuple at a as it stands, its items in new pairs -/
def IteT (K : PySem.W.Frag) (a : Addr) : It :=
  ⟨fun i H => ∃ (xs : List V) (x : V), SqT K H a xs ∧ xs[i]? = some x, fun i H v H' => ∃ T x, v = .ref T ∧ H T = none ∧ H' = upd H T (.tup [.int (i : Nat), x]) ∧ ∀ xs, SqT K H a xs → xs[i]? = some x, fun i H => ∃ xs : List V, SqT K H a xs ∧ xs.length ≤ i⟩
theorem turn_enumT {P : Program} {w : World} {K : PySem.W.Frag} {elts : List Expr} {kk : Nat} {tpos : Pos} (a e it : Addr) :
    Turn P w K (.Tuple elts kk tpos) (IteT K a) [e, it] e (fun i h => (∃ old, IsEnum h e it ((i : Nat) : Int) old) ∧ h.IsTupleIter it a i ∧ e ≠ it) where
  mem := by simp
  obj := fun i h st b hb => by
    obtain ⟨⟨old, he⟩, ⟨o, ho, hc, hd⟩, _⟩ := st
    have e' : b = e ∨ b = it := by simpa using hb
    rcases e' with z | z
    · rw [z]; exact ⟨_, he, fun v q => nomatch q⟩
    · rw [z]; exact ⟨o, ho, fun v q => by rw [hd] at q; cases q⟩
  keep := fun i h h' st k => let ⟨⟨old, he⟩, hi, hne⟩ := st; ⟨⟨old, k e (by simp) _ he⟩, hi.at fun o q => k it (by simp) o q, hne⟩
  item := by
    intro X hP hw hK hc i pins s σ H E I hf st hg
    subst hP hw hK
    obtain ⟨⟨old, he⟩, hit, hne⟩ := st
    obtain ⟨xs, x, hq, hx⟩ := hg
    obtain ⟨its, rv, p, hz⟩ := I.tuple hq
    obtain ⟨u, hu, ru⟩ := rv.get hx
    have hel : e < s.heap.objs.size := Heap.lt_size he
    have hil : it < s.heap.objs.size := by obtain ⟨_, q, _⟩ := hit; exact Heap.lt_size q
    have p' : s.heap.IsTuple a its.toArray := p
    have hai : a ≠ it := fun z => by
      obtain ⟨o1, e1, c1, _⟩ := p'
      obtain ⟨o2, e2, c2, _⟩ := hit
      rw [z, e2] at e1
      cases e1
      rw [c2] at c1
      exact absurd (Value.type.inj c1) (by decide)
    have hae : e ≠ a := fun z => by
      obtain ⟨o1, e1, c1, _⟩ := p'
      have e2 : s.heap.get? e = _ := he
      rw [← z, e2] at e1
      cases e1
      exact absurd (Value.type.inj c1) (by decide)
    have hef : e ∉ [it, a] := fun z => by
      have e' : e = it ∨ e = a := by simpa using z
      exact e'.elim hne hae
    have hlt : i < its.toArray.size := by
      have := (List.getElem?_eq_some_iff.mp hu).1
      simpa using this
    refine wpAny_pyNext_enum_itemD (Draws.tuple (A := X.A.in1) (by show X.A.handled = none; exact I.ok.hd hc) it a hai its.toArray) he ⟨hit, p'⟩ hlt hne hef fun y h' tk hy ho hst' hT hsz hk => ?_
    have hyu : y = u := by
      have hy' : its.toArray[i]? = some y := hy
      have : its[i]? = some y := by simpa using hy'
      rw [hu] at this
      exact (Option.some.inj this).symm
    subst hyu
    refine ⟨_, rfl, wpAny_letOwnedTupleGo_enum (s := { s with heap := h', toks := tk + 1 }) ho fun h'' he' sb => ?_⟩
    have hT2 : h''.get? s.heap.objs.size = some { cls := .type "tuple", data := .seq #[.int i tk, y] } := (sb.2 _ (Nat.ne_of_gt hel)).trans hT
    have new : ObjOk X.prog X.w (upd H s.heap.objs.size (.tup [.int (i : Nat), x])) h'' s.heap.objs.size (.tup [.int (i : Nat), x]) :=
      ⟨by show 2 ≤ sizeLine; decide, [.int i tk, y], .cons ⟨_, rfl⟩ (.cons ru .nil), ⟨_, hT2, rfl, _, rfl⟩⟩
    have I1 : Inv X pins σ (upd H s.heap.objs.size (.tup [.int (i : Nat), x])) { s with heap := h'', toks := tk + 1 } :=
      I.turnedNew (ch := [e, it]) (fun b ob hb q => (sb.2 b (fun z => hb (by simp [z]))).trans (hk b ob (fun z => hb (by simp [z])) (fun z => hb (by simp [z])) q)) hf (Nat.le_refl _) new
    refine ⟨.ref s.heap.objs.size, _, I1, rfl, ⟨_, x, rfl, I.hok.fresh (Nat.le_refl _), rfl, fun ys hy => by rw [I.tuple_inj hy hq]; exact hx⟩, ⟨⟨y, ?_⟩, hst'.1.at fun o q => (sb.2 it (Ne.symm hne)).trans q, hne⟩, fun b hb => ?_⟩
    · have e1 : ((i + 1 : Nat) : Int) = (i : Int) + 1 := by omega
      rw [e1]; exact he'
    · have hb' : b < s.heap.objs.size := by
        have e' : b = e ∨ b = it := by simpa using hb
        rcases e' with z | z
        · rw [z]; exact hel
        · rw [z]; exact hil
      rw [upd_ne (Nat.ne_of_lt hb')]
      exact (hf b hb).1
  done := by
    intro X hP hw hK hc i pins s σ H E I hf st hg
    subst hP hw hK
    obtain ⟨⟨old, he⟩, hit, hne⟩ := st
    obtain ⟨xs, hq, hx⟩ := hg
    obtain ⟨its, rv, p, hz⟩ := I.tuple hq
    have p' : s.heap.IsTuple a its.toArray := p
    have hl := rv.length
    have hai : a ≠ it := fun z => by
      obtain ⟨o1, e1, c1, _⟩ := p'
      obtain ⟨o2, e2, c2, _⟩ := hit
      rw [z, e2] at e1
      cases e1
      rw [c2] at c1
      exact absurd (Value.type.inj c1) (by decide)
    obtain ⟨f0, f1, f2, f3, f4, f5⟩ := hf it (by simp)
    have hT : s.TypeIs (.ref e) "enumerate" := ⟨_, he, rfl⟩
    unfold pyNext
    refine wpAny_bind (wpAny_attempt (wpAny_callSpecial?_slot (name := Str.ofString "__next__") hT F.slot_enumerate_next
      (wpAny_call_entry F.slot_enumerate_next hT F.entry_enumerate_next ?_ (F.args_enumerate_next_1 _))))
    show wpAny _ _ (field (.ref e) 2 >>= _) _ _ _
    refine wpAny_bind (wpAny_field he rfl (x := .ref it) rfl ?_)
    refine wpAny_bind (wpAny_nextOf_tuple_end (by show X.A.handled = none; exact I.ok.hd hc) hit p' (by simp; omega) fun h' x he' hx' => ?_)
    obtain ⟨o, ho, hc'⟩ := hx'
    refine wpAny_bind (wpAny_isInstance (T := "StopIteration") (b := true) ⟨o, ho, hc'⟩ isSubtype_stop ?_)
    exact wpAny_pure ⟨rfl, I.turned (t' := s.toks) (fun b o hb q => he' b o hb q) f0 f1 f3 f4 f5⟩
  self := fun A i s Q E st h => let ⟨⟨_, he⟩, _⟩ := st; wpAny_pyIter_enum he h
def iEnumT (K : PySem.W.Frag) (ta : TA) : TI := fun σ H R => ta σ H fun vs H1 => ∃ a xs, vs = [.ref a] ∧ SqT K H1 a xs ∧ R (IteT K a) H1
theorem pi_enumT {X : Cx} {e : Expr} {ta : TA} {p pos tpos : Pos} {elts : List Expr} {kk : Nat} (hg : Gl X "enumerate") (hm : X.mg "enumerate" = none) (ha : PA X [e] ta) (hs : starEach [e] X.env = [(false, eval e X.env)] := by rfl) :
    PI X (.Tuple elts kk tpos) (.Call (.Name "enumerate" p) [e] [] pos) (iEnumT X.K ta) := by
  refine ⟨fun pins s σ H R I h => ?_⟩
  refine Call_ (ld_blt I hg hm boot_enumerate (PyProof.Rows.callWith_type1 (thn (ha.run pos pins s σ H _ I h) fun us s1 ⟨vs, H1, I1, r1, q1⟩ => ?_) hs rfl))
  obtain ⟨a, xs, ex, hq, q⟩ := q1
  subst ex
  cases r1 with
  | cons r rr =>
    cases rr
    cases r
    obtain ⟨its, rv, p', hz⟩ := I1.tuple hq
    have p2 : s1.heap.IsTuple a its.toArray := p'
    refine call_enumerate_tuple p2 fun h' he hit hsz hk => wpAny_pyIter_enum he ?_
    have I2 : Inv X pins σ H1 { s1 with heap := h' } := I1.kept (t' := s1.toks) hk
    refine ⟨s1.heap.objs.size + 1, [s1.heap.objs.size + 1, s1.heap.objs.size], _, _, H1, rfl, I2, turn_enumT a (s1.heap.objs.size + 1) s1.heap.objs.size, ⟨⟨.none, he⟩, hit, Nat.succ_ne_self _⟩, fun b hb => ?_, q⟩
    have e' : b = s1.heap.objs.size + 1 ∨ b = s1.heap.objs.size := by simpa using hb
    have hle : s1.heap.objs.size ≤ b := by
      rcases e' with z | z
      · rw [z]; exact Nat.le_add_right _ _
      · rw [z]; exact Nat.le_refl _
    exact I1.fpOk hle (I1.hok.fresh hle)
theorem walk_enumT {K : PySem.W.Frag} {a : Addr} {xs : List V} : Walk (IteT K a) xs.length (fun H => SqT K H a xs) (YPair (fun i => some (.int (i : Nat))) (fun i => xs[i]?)) := by
  refine ⟨fun i _ hi q => ⟨xs, xs[i], q, by simp [hi]⟩, fun _ q => ⟨xs, q, Nat.le_refl _⟩, fun i H v H' _ q y => ?_⟩
  obtain ⟨T, x, h1, h2, h3, h4⟩ := y
  exact ⟨T, .int (i : Nat), x, h1, h2, h3, rfl, h4 xs q⟩

/-! ### tuple * 0, tuple * 1 -/
theorem tuple_mul0 (l : Addr) (items : Array Value) (n : Nat) (dd : Option Addr) (sl : Array (Option Value)) (u : Tok) (c1 : (items.isEmpty || (0 : Int) == 1) = false) :
    Meets (Builtin.«tuple.__mul__» ⟨[.ref l, .int 0 u], []⟩) (fun _ R s => s.heap.get? l = some { cls := .type "tuple", dict := dd, data := .seq items n, slots := sl } ∧
      R (.ok (.ret (Value.ref s.heap.objs.size))) { s with heap := s.heap.push { cls := Value.type "tuple", data := Data.seq #[] }, toks := s.toks }) :=
  .of_wp fun prog w A R s h => by
    obtain ⟨hp, g, d, tk, os⟩ := s
    obtain ⟨hl, h⟩ := h
    have f1 := AutoSeq1.idx_int
    wp_walk using AutoSeq1.wpAny_loadPart' hl
    repeat (first
      | (refine wpAny_ite_false (decide_eq_false (by decide)) ?_; wp_walk using AutoSeq1.wpAny_loadPart' hl)
      | (refine wpAny_ite_false (decide_eq_false (by rw [c1]; exact Bool.false_ne_true)) ?_; wp_walk using AutoSeq1.wpAny_loadPart' hl)
      | (refine wpAny_ite_true (decide_eq_true (by simp)) ?_; wp_walk using AutoSeq1.wpAny_loadPart' hl))
    exact ⟨_, rfl, h⟩
theorem tuple_mul1 (l : Addr) (items : Array Value) (n : Nat) (dd : Option Addr) (sl : Array (Option Value)) (u : Tok) :
    Meets (Builtin.«tuple.__mul__» ⟨[.ref l, .int 1 u], []⟩) (fun _ R s => s.heap.get? l = some { cls := .type "tuple", dict := dd, data := .seq items n, slots := sl } ∧
      R (.ok (.ret (Value.ref l))) s) :=
  .of_wp fun prog w A R s h => by
    obtain ⟨hp, g, d, tk, os⟩ := s
    obtain ⟨hl, h⟩ := h
    have f1 := AutoSeq1.idx_int
    wp_walk using AutoSeq1.wpAny_loadPart' hl
    exact ⟨_, rfl, h⟩
def rRepA (K : PySem.W.Frag) : R2 := fun x y H Q => ∃ l k xs, x = .ref l ∧ y = .int k ∧ SqT K H l xs ∧ xs ≠ [] ∧ 0 ≤ k ∧ k ≤ 1000 ∧ xs.length ≤ 1000 ∧
  (k = 1 → Q (.ref l) H) ∧ (k ≠ 1 → ∀ p, H p = none → Q (.ref p) (upd H p (.tup (List.replicate k.toNat xs).flatten)))
theorem op_repA {X : Cx} : OpR X (binaryOp .Mult) (rRepA X.K) := by
  intro pins s σ H x y v u Q I rx ry h
  obtain ⟨l, k, xs, rfl, rfl, hT, hne, h0, h1, hz, q1, q2⟩ := h
  by_cases e2 : 2 ≤ k
  · exact op_repT pins s σ H _ _ v u Q I rx ry ⟨l, k, xs, rfl, rfl, hT, hne, e2, h1, hz, q2 (by omega)⟩
  · cases rx
    obtain ⟨t, rfl⟩ := ry
    obtain ⟨its, r, ⟨⟨cls, dd, data, sl⟩, ho, hc, n, hd⟩, hs⟩ := I.tuple hT
    simp only at hc hd
    subst hc hd
    have hle : its.length = xs.length := r.length.symm
    have hn : its ≠ [] := fun e => hne (by
      rw [e] at hle
      exact List.eq_nil_of_length_eq_zero hle.symm)
    have hi : its.toArray.isEmpty = false := by
      cases its with
      | nil => exact absurd rfl hn
      | cons a b => rfl
    by_cases e1 : k = 1
    · subst e1
      refine wpAny_binaryOp_repeat_ref (T := "tuple") (U := "int") (by decide) ⟨_, ho, rfl⟩ (fun s' => typeIs_int s' 1 t) noFill_tuple_mul F.fills_int_mul F.slot_int_rmul repeat_tuple F.slot_int_index.lookup
        (call_meets F.slot_int_rmul (typeIs_int s 1 t) F.entry_int_rmul (F.args_int_rmul_2 _ _) (int_rmul_tuple 1 t l its.toArray n dd sl)
          ⟨ho, rfl, ⟨_, ho, rfl⟩, call_meets F.slot_tuple_mul ⟨_, ho, rfl⟩ F.entry_tuple_mul (F.args_tuple_mul_2 _ _) (tuple_mul1 l its.toArray n dd sl t) ⟨ho, ?_⟩⟩)
      exact ⟨.ref l, H, I, rfl, q1 rfl⟩
    · have e0 : k = 0 := by omega
      subst e0
      refine wpAny_binaryOp_repeat_ref (T := "tuple") (U := "int") (by decide) ⟨_, ho, rfl⟩ (fun s' => typeIs_int s' 0 t) noFill_tuple_mul F.fills_int_mul F.slot_int_rmul repeat_tuple F.slot_int_index.lookup
        (call_meets F.slot_int_rmul (typeIs_int s 0 t) F.entry_int_rmul (F.args_int_rmul_2 _ _) (int_rmul_tuple 0 t l its.toArray n dd sl)
          ⟨ho, rfl, ⟨_, ho, rfl⟩, call_meets F.slot_tuple_mul ⟨_, ho, rfl⟩ F.entry_tuple_mul (F.args_tuple_mul_2 _ _) (tuple_mul0 l its.toArray n dd sl t (by rw [hi]; decide)) ⟨ho, ?_⟩⟩)
      refine ⟨.ref s.heap.objs.size, _, I.laid (t' := s.toks) (o := .tup []) (fun b ob q => Heap.get?_push_of_some _ q) (Nat.le_refl _) ?_, rfl, q2 (by decide) _ (I.hok.fresh (Nat.le_refl _))⟩
      exact ⟨Nat.zero_le _, [], .nil, IsTup.new _ _⟩

/-! ### d.update(d2) -/
def rDUpd : V → List V → Hp → VK → Prop := fun x vs H Q => ∃ (a b : Addr) (ks ms : List (Key × V)), x = .ref a ∧ vs = [.ref b] ∧ H a = some (.dK ks) ∧ H b = some (.dK ms) ∧ a ≠ b ∧ ks.length + ms.length ≤ sizeLine ∧
  Q .non (upd H a (.dK (mergeK ks ms)))
theorem mt_update {X : Cx} : MtR X "dict.update" rDUpd := by
  intro pins s σ H x vs v us Q I rx rv h
  obtain ⟨a, b, ks, ms, rfl, rfl, ha, hb, hne, hsz, q⟩ := h
  cases rx
  obtain ⟨u, rfl, ru⟩ := rv.one
  cases ru
  obtain ⟨z, hd, vs, rel, dd⟩ := dk_of I.hok ha
  obtain ⟨z2, hd2, vs2, rel2, dd2⟩ := dk_of I.hok hb
  refine call_meetsIn PySem.F.slot_dict_update dd.typeIs PySem.F.entry_dict_update (PySem.F.args_dict_update_2 _ _) (meets_dict_update (mixKind X.prog X.w) a b hne hd2)
    ⟨vs, vs2, dd, dd2, by rw [← rel.length, ← rel2.length]; exact hsz, fun h' dd' _ hs => ?_⟩
  have hl2 : (mergeK ks ms).length ≤ sizeLine := Nat.le_trans (length_mergeK ms ks) hsz
  have he : ∃ q, h'.get? a = some q := let ⟨q, _, _, hq, _⟩ := dd'; ⟨q, hq⟩
  exact ⟨.non, _, d_write (t' := s.toks) I (by rw [ha]; exact True.intro) hs he (dk_new hl2 hd (KV.merge rel2 rel) dd'), rfl, q⟩
end KR

set_option Elab.async false
set_option linter.all false
set_option maxRecDepth 100000
set_option maxHeartbeats 4000000
/-! What stands where; a def of the text; the top's facts. -/
namespace KP
open PySem PySem.Spec PyProof.Rows L2 KR
open KM (Mach All2)

/-! ### the text -/
def topS (i : Nat) : Stmt := PySem.Challenge.pw_keptlengths_k14_whole_sums_of_machines_b.main.body.getD i (.Pass ⟨0, 0, 0, 0⟩)

/-! ### tuples that stand -/
def KT (K : PySem.W.Frag) (a : Addr) (xs : List V) : Prop :=
  ∃ (o : Obj) (its : Array Value) (n : Nat), K.lookup a = some o ∧ o.cls = .type "tuple" ∧ o.data = .seq its n ∧ its.size ≤ sizeLine ∧ Vals xs its.toList
def TpA (K : PySem.W.Frag) (H : Hp) (a : Addr) (xs : List V) : Prop := H a = some (.tup xs) ∨ KT K a xs
/-- tuples stay -/
def Tup (H H' : Hp) : Prop := ∀ b xs, H b = some (.tup xs) → H' b = some (.tup xs)
section
variable {K : PySem.W.Frag} {H H' H2 : Hp} {a p : Addr} {xs : List V}
theorem TpA.sq (h : TpA K H a xs) : SqT K H a xs := h.elim (fun h => .inl (.inl h)) fun h => .inr h
theorem TpA.keep (g : Tup H H') (h : TpA K H a xs) : TpA K H' a xs := h.elim (fun h => .inl (g _ _ h)) fun h => .inr h
theorem TpA.new : TpA K (upd H p (.tup xs)) p xs := .inl upd_same
theorem TpA.ty (h : TpA K H a xs) : TyX K H (.ref a) (.type "tuple") := by
  rcases h with h | ⟨o, its, n, h, c, _⟩
  · exact .base (.tup h)
  · exact .kTuple h c
theorem Tup.refl (H : Hp) : Tup H H := fun _ _ h => h
theorem Tup.trans (a : Tup H H') (b : Tup H' H2) : Tup H H2 := fun c o h => b c o (a c o h)
theorem same_tup (h : Same H H') : Tup H H' := fun b xs e => h b _ e
theorem same_new {o : HO} (h : H p = none) : Same H (upd H p o) := fun b x e => by
  rw [upd_ne (ne_of_none e h)]
  exact e
/-- what H does not know may change -/
theorem Same.mut {o : HO} (s : Same H H') (h : H p = none) : Same H (upd H' p o) := fun b x e => by
  rw [upd_ne (ne_of_none e h)]
  exact s b x e
theorem tup_new {o : HO} (h : H p = none) : Tup H (upd H p o) := same_tup (same_new h)
/-- a list may change -/
theorem tup_lst {o : HO} {xs : List V} (h : H p = some (.lst xs)) : Tup H (upd H p o) := fun b ys e => by
  rw [upd_ne (ne_of e h (by intro q; cases q))]
  exact e
theorem tup_dk {o : HO} {kvs : List (Key × V)} (h : H p = some (.dK kvs)) : Tup H (upd H p o) := fun b ys e => by
  rw [upd_ne (ne_of e h (by intro q; cases q))]
  exact e
theorem ne_new {o : HO} (h : H a = some o) (n : H p = none) : a ≠ p := ne_of_none h n
end

/-! ### data -/
def StepA (K : PySem.W.Frag) (H : Hp) (v : V) : KM.Step → Prop
  | none => v = .non
  | some p => ∃ a, v = .ref a ∧ TpA K H a [.int (p.1 : Int), .int (p.2 : Int)]
def optV : Option Nat → V
  | none => .non
  | some e => .int (e : Int)
def RowA (K : PySem.W.Frag) (H : Hp) (v : V) (r : KM.Row) : Prop :=
  ∃ (a b : Addr) (ss : List V), v = .ref a ∧ TpA K H a [optV r.fin, .ref b] ∧ TpA K H b ss ∧ All2 (StepA K H) ss r.steps
def RowsA (K : PySem.W.Frag) (H : Hp) (v : V) (rows : List KM.Row) : Prop :=
  ∃ (b : Addr) (rs : List V), v = .ref b ∧ TpA K H b rs ∧ All2 (RowA K H) rs rows
def MachA (K : PySem.W.Frag) (H : Hp) (v : V) (M : Mach) : Prop :=
  ∃ (a : Addr) (u : V), v = .ref a ∧ TpA K H a [.int (M.size : Int), u] ∧ RowsA K H u M.rows
def FrA (K : PySem.W.Frag) (H : Hp) (v : V) (r : Rat) : Prop := ∃ a, v = .ref a ∧ TpA K H a [.int r.num, .int (r.den : Int)]
def OFrA (K : PySem.W.Frag) (H : Hp) (v : V) : Option Rat → Prop
  | none => v = .non
  | some r => FrA K H v r
section
variable {K : PySem.W.Frag} {H H' : Hp} {v : V}
theorem _root_.KM.All2.mono {α β : Type} {F G : α → β → Prop} {l : List α} {r : List β} (h : All2 F l r) (hf : ∀ a b, F a b → G a b) : All2 G l r := by
  induction h with
  | nil => exact .nil
  | cons h _ ih => exact .cons (hf _ _ h) ih
theorem _root_.KM.All2.len {α β : Type} {F : α → β → Prop} {l : List α} {r : List β} (h : All2 F l r) : l.length = r.length := by
  induction h with
  | nil => rfl
  | cons _ _ ih => simp [ih]
theorem _root_.KM.All2.get {α β : Type} {F : α → β → Prop} {l : List α} {r : List β} (h : All2 F l r) {i : Nat} {a : α} (e : l[i]? = some a) : ∃ b, r[i]? = some b ∧ F a b := by
  induction h generalizing i with
  | nil => simp at e
  | @cons a' b' l r h _ ih =>
    cases i with
    | zero => simp at e; subst e; exact ⟨b', rfl, h⟩
    | succ i =>
      obtain ⟨b, h1, h2⟩ := ih (i := i) (by simpa using e)
      exact ⟨b, by simpa using h1, h2⟩
theorem _root_.KM.All2.getR {α β : Type} {F : α → β → Prop} {l : List α} {r : List β} (h : All2 F l r) {i : Nat} {b : β} (e : r[i]? = some b) : ∃ a, l[i]? = some a ∧ F a b := by
  induction h generalizing i with
  | nil => simp at e
  | @cons a' b' l r h _ ih =>
    cases i with
    | zero => simp at e; subst e; exact ⟨a', rfl, h⟩
    | succ i =>
      obtain ⟨b, h1, h2⟩ := ih (i := i) (by simpa using e)
      exact ⟨b, by simpa using h1, h2⟩
theorem _root_.KM.All2.app {α β : Type} {F : α → β → Prop} {l l' : List α} {r r' : List β} (h : All2 F l r) (h' : All2 F l' r') : All2 F (l ++ l') (r ++ r') := by
  induction h with
  | nil => exact h'
  | cons h _ ih => exact .cons h ih
theorem _root_.KM.All2.one {α β : Type} {F : α → β → Prop} {a : α} {b : β} (h : F a b) : All2 F [a] [b] := .cons h .nil
theorem _root_.KM.All2.snoc {α β : Type} {F : α → β → Prop} {l : List α} {r : List β} {a : α} {b : β} (h : All2 F l r) (h' : F a b) : All2 F (l ++ [a]) (r ++ [b]) := KM.All2.app h (KM.All2.one h')
theorem _root_.KM.All2.rep {α β : Type} {F : α → β → Prop} {a : α} {b : β} (h : F a b) : ∀ n, All2 F (List.replicate n a) (List.replicate n b)
  | 0 => .nil
  | n + 1 => .cons h (KM.All2.rep h n)
theorem StepA.keep (g : Tup H H') {st : KM.Step} (h : StepA K H v st) : StepA K H' v st := by
  cases st with
  | none => exact h
  | some p => obtain ⟨a, e, t⟩ := h; exact ⟨a, e, t.keep g⟩
theorem RowA.keep (g : Tup H H') {r : KM.Row} (h : RowA K H v r) : RowA K H' v r := by
  obtain ⟨a, b, ss, e, t, u, q⟩ := h
  exact ⟨a, b, ss, e, t.keep g, u.keep g, All2.mono q fun _ _ h => h.keep g⟩
theorem RowsA.keep (g : Tup H H') {rows : List KM.Row} (h : RowsA K H v rows) : RowsA K H' v rows := by
  obtain ⟨b, rs, e, t, q⟩ := h
  exact ⟨b, rs, e, t.keep g, All2.mono q fun _ _ h => h.keep g⟩
theorem MachA.keep (g : Tup H H') {M : Mach} (h : MachA K H v M) : MachA K H' v M := by
  obtain ⟨a, u, e, t, q⟩ := h
  exact ⟨a, u, e, t.keep g, q.keep g⟩
theorem FrA.keep (g : Tup H H') {r : Rat} (h : FrA K H v r) : FrA K H' v r := by
  obtain ⟨a, e, t⟩ := h
  exact ⟨a, e, t.keep g⟩
theorem OFrA.keep (g : Tup H H') {r : Option Rat} (h : OFrA K H v r) : OFrA K H' v r := by
  cases r with
  | none => exact h
  | some r => exact FrA.keep g h
end

/-! ### a def of the text that keeps a promise -/
def Ok (P : Program) (w : World) (K : PySem.W.Frag) (mg : Str → Option Value) (base : Heap) (k : Nat) (x : Str) (ps : List Str) (sp : Sp) : Prop :=
  ∃ (f : Addr) (fd : FuncData), mg x = some (.ref f) ∧ PySem.W.keepIn K (.ref f) = true ∧ Binds K fd ps [] ∧ FnOk P w K mg base CX0 k f fd ps sp
/-- where it stands -/
def At (K : PySem.W.Frag) (mg : Str → Option Value) (x : Str) (st : Stmt) (ps : List Str) : Prop :=
  ∃ (f : Addr) (fd : FuncData), mg x = some (.ref f) ∧ Fun K x x st f fd ∧ Binds K fd ps []
/-- the reading of a call of it -/
def tFn (sp : Sp) (t : L2.TA) : TE := fun σ H Q => t σ H fun vs H1 => sp vs H1 Q E0
section
variable {P : Program} {w : World} {K : PySem.W.Frag} {mg : Str → Option Value} {base : Heap}
theorem At.ok {x : Str} {st : Stmt} {N ps : List Str} {k : Nat} {sp : Sp} (D : At K mg x st ps) (S : FnScope N ps (defScope st)) (len : ∀ vs H Q E, sp vs H Q E → vs.length = ps.length)
    (hbody : ∀ (f : Addr) (cdv : Value) (A : Around) (outer : List Env) (s : Shared) (H : Hp) (vs : List V) (Q : VK) (E : XK), Room k (A.deeper (envOfC x (defScope st) s.heap.objs.size f cdv)) → sp vs H Q E →
      ∃ t, PSs (cxOf CX0 P w K mg base N x (defScope st) f cdv A outer s H E).nox (defBody st) t ∧ t { nx := fun _ H' => Q .non H', rt := Q } (start N vs) H) : Ok P w K mg base (k + 1) x ps sp := by
  obtain ⟨f, fd, hm, F, b⟩ := D
  exact ⟨f, fd, hm, F.kp, b, F.ok S len (fun cdv A outer s H vs Q E hr h => hbody f cdv A outer s H vs Q E hr h)⟩
end
section
variable {X : Cx} {k : Nat} {x : Str} {ps : List Str} {sp : Sp} {e : Expr} {es : List Expr} {ta : L2.TA} {p pos : Pos}
theorem pe_fn (O : Ok X.prog X.w X.K X.mg X.base k x ps sp) (hr : Room k X.A) (ha : PA X (e :: es) ta) (hg : Gl X x := by rfl) (hdb : (x == ("__debug__" : Str)) = false := by decide)
    (he : starEach (e :: es) X.env = (false, eval e X.env) :: starEach es X.env := by rfl) (hpl : (backTo pos (starEach es X.env)).any (·.1) = false := by rfl) :
    PE X (.Call (.Name x p) (e :: es) [] pos) (tFn sp ta) := by
  obtain ⟨f, fd, hm, kp, b, F⟩ := O
  refine ⟨fun pins s σ H Q I h => ?_⟩
  refine (pe_call F hr hg hm kp b .nil pass0 ha hdb he hpl).run pins s σ H Q I ?_
  show ta σ H fun vs H1 => sp (vs ++ []) H1 Q E0
  simp only [List.append_nil]
  exact h
/-- a name of the module's that holds a flat value or a tuple -/
def MgC (mg : Str → Option Value) (x : Str) (v : V) : Prop := ∃ u, mg x = some u ∧ RelV v u
theorem pe_g {v : V} (h : MgC X.mg x v) (hg : Gl X x := by rfl) (hd : (x == ("__debug__" : Str)) = false := by decide) : PE X (.Name x pos) (tC v) := by
  obtain ⟨u, hm, r⟩ := h
  exact pe_glob hg hm r hd
end
/-- the top's facts: names that are built-ins, the constants -/
structure Txt (K : PySem.W.Frag) (mg : Str → Option Value) (aN aO : Addr) : Prop where
  len : mg "len" = none
  range : mg "range" = none
  isinstance : mg "isinstance" = none
  all_ : mg "all" = none
  any_ : mg "any" = none
  tuple : mg "tuple" = none
  list : mg "list" = none
  sorted : mg "sorted" = none
  enumerate : mg "enumerate" = none
  zip : mg "zip" = none
  abs_ : mg "abs" = none
  int_ : mg "int" = none
  sum_ : mg "sum" = none
  dict_ : mg "dict" = none
  bool_ : mg "bool" = none
  gcd : mg "gcd" = some (.builtin "math.gcd")
  nought : MgC mg "NOUGHT" (.ref aN)
  noughtT : KT K aN [.int 0, .int 1]
  one : MgC mg "ONE" (.ref aO)
  oneT : KT K aO [.int 1, .int 1]
  msize : MgC mg "MOST_SIZE" (.int 8)
  mstates : MgC mg "MOST_STATES" (.int 30)
  mmore : MgC mg "MOST_MORE" (.int 60)
  size : MgC mg "SIZE" (.int 0)
  rows : MgC mg "ROWS" (.int 1)
end KP

set_option Elab.async false
set_option linter.all false
set_option maxRecDepth 100000
set_option maxHeartbeats 4000000
/-! is_integer .. check_machine: a machine is one. -/
namespace KW
open PySem PySem.Spec PyProof.Rows L2 KR KP
open KM (Mach All2)
/-! ### small words -/
theorem iteD {p : Prop} [Decidable p] {A B : Prop} (h : p) (x : A) : if decide p = true then A else B := by
  rw [decide_eq_true h]
  exact iteT x
theorem iteDN {p : Prop} [Decidable p] {A B : Prop} (h : ¬ p) (x : B) : if decide p = true then A else B := by
  rw [decide_eq_false h]
  exact iteF x
theorem iteBT {b : Bool} {A B : Prop} (h : b = true) (x : A) : if b = true then A else B := by
  rw [if_pos h]; exact x
theorem iteBF {b : Bool} {A B : Prop} (h : b = false) (x : B) : if b = true then A else B := by
  rw [h]; exact iteF x
theorem qB {p : Prop} [Decidable p] {Q : VK} {H : Hp} (h : p) (q : Q (.bl true) H) : Q (.bl (decide p)) H := by
  rw [decide_eq_true h]; exact q
theorem qBF {p : Prop} [Decidable p] {Q : VK} {H : Hp} (h : ¬ p) (q : Q (.bl false) H) : Q (.bl (decide p)) H := by
  rw [decide_eq_false h]; exact q
abbrev tyIs : String := "int"
section
variable {P : Program} {w : World} {K : PySem.W.Frag} {mg : Str → Option Value} {base : Heap} {aN aO : Addr}
/-! ### is_integer -/
abbrev sIsInt : Stmt := topS 5
theorem scIsInt : FnScope ["thing"] ["thing"] (defScope sIsInt) := ⟨rfl, rfl, rfl, by decide +kernel, rfl, by decide +kernel, by decide +kernel⟩
def spIsInt : Sp := fun vs H Q _ => ∃ i : Int, vs = [.int i] ∧ Q (.bl true) H
theorem ok_is_integer (T : Txt K mg aN aO) (D : At K mg "is_integer" sIsInt ["thing"]) : Ok P w K mg base 1 "is_integer" ["thing"] spIsInt := by
  refine D.ok scIsInt (fun vs H Q E h => ?_) (fun f cdv A outer s H vs Q E hr h => ?_)
  · obtain ⟨i, rfl, _⟩ := h; rfl
  · obtain ⟨i, rfl, q⟩ := h
    refine ⟨_, pss_one (ps_ret (pe_and (pe_callB call_isi (by rfl) T.isinstance boot_isinstance (pa_cons (pv 0) (pa_cons (pe_bltn (v := .ty "int") (by rfl) T.int_ boot_int rfl) pa_nil)))
      (pe_one (pe_not (pe_callB call_isi (by rfl) T.isinstance boot_isinstance (pa_cons (pv 0) (pa_cons (pe_bltn (v := .ty "bool") (by rfl) T.bool_ (u := .type "bool") (by decide +kernel) rfl) pa_nil))))))), ?_⟩
    refine ⟨_, rfl, _, _, _, _, true, rfl, .ty "int", .base (.int i), kit_ty (by decide +kernel), _, rfl, iteT ?_⟩
    exact ⟨_, rfl, _, _, _, _, false, rfl, .ty "bool", .base (.int i), kit_ty (by decide +kernel), _, rfl, q⟩
/-! ### is_between -/
abbrev sIsBetween : Stmt := topS 6
theorem scIsBetween : FnScope ["thing", "least", "most"] ["thing", "least", "most"] (defScope sIsBetween) := ⟨rfl, rfl, rfl, by decide +kernel, rfl, by decide +kernel, by decide +kernel⟩
def spIsBetween : Sp := fun vs H Q _ => ∃ i a b : Int, vs = [.int i, .int a, .int b] ∧ a ≤ i ∧ i ≤ b ∧ Q (.bl true) H
theorem ok_is_between (D : At K mg "is_between" sIsBetween ["thing", "least", "most"]) (O : Ok P w K mg base 1 "is_integer" ["thing"] spIsInt) : Ok P w K mg base 2 "is_between" ["thing", "least", "most"] spIsBetween := by
  refine D.ok scIsBetween (fun vs H Q E h => ?_) (fun f cdv A outer s H vs Q E hr h => ?_)
  · obtain ⟨i, a, b, rfl, _⟩ := h; rfl
  · obtain ⟨i, a, b, rfl, h1, h2, q⟩ := h
    refine ⟨_, pss_one (ps_ret (pe_and (pe_fn O hr (pa_cons (pv 0) pa_nil)) (pe_one (pe_chain op_le op_le (pv 1) (pv 0) (pv 2))))), ?_⟩
    refine ⟨_, rfl, i, rfl, _, rfl, iteT ?_⟩
    refine ⟨_, rfl, _, rfl, _, _, rfl, rfl, _, rfl, iteD h1 ?_⟩
    exact ⟨_, rfl, _, _, rfl, rfl, qB h2 q⟩
/-! ### is_index -/
abbrev sIsIndex : Stmt := topS 7
theorem scIsIndex : FnScope ["thing", "many"] ["thing", "many"] (defScope sIsIndex) := ⟨rfl, rfl, rfl, by decide +kernel, rfl, by decide +kernel, by decide +kernel⟩
def spIsIndex : Sp := fun vs H Q _ => ∃ i n : Int, vs = [.int i, .int n] ∧ 0 ≤ i ∧ i < n ∧ Q (.bl true) H
theorem ok_is_index (D : At K mg "is_index" sIsIndex ["thing", "many"]) (O : Ok P w K mg base 2 "is_between" ["thing", "least", "most"] spIsBetween) : Ok P w K mg base 3 "is_index" ["thing", "many"] spIsIndex := by
  refine D.ok scIsIndex (fun vs H Q E h => ?_) (fun f cdv A outer s H vs Q E hr h => ?_)
  · obtain ⟨i, n, rfl, _⟩ := h; rfl
  · obtain ⟨i, n, rfl, h1, h2, q⟩ := h
    refine ⟨_, pss_one (ps_ret (pe_fn O hr (pa_cons (pv 0) (pa_cons pe_int (pa_cons (pe_op op_sub (pv 1) pe_int) pa_nil))))), ?_⟩
    exact ⟨_, rfl, _, rfl, _, _, rfl, rfl, i, 0, n - 1, rfl, h1, by omega, q⟩
/-! ### is_tuple_of -/
abbrev sIsTupleOf : Stmt := topS 8
theorem scIsTupleOf : FnScope ["thing", "many"] ["thing", "many"] (defScope sIsTupleOf) := ⟨rfl, rfl, rfl, by decide +kernel, rfl, by decide +kernel, by decide +kernel⟩
def spIsTupleOf (K : PySem.W.Frag) : Sp := fun vs H Q _ => ∃ (a : Addr) (xs : List V) (n : Int), vs = [.ref a, .int n] ∧ TpA K H a xs ∧ (xs.length : Int) = n ∧ Q (.bl true) H
theorem ok_is_tuple_of (T : Txt K mg aN aO) (D : At K mg "is_tuple_of" sIsTupleOf ["thing", "many"]) : Ok P w K mg base 1 "is_tuple_of" ["thing", "many"] (spIsTupleOf K) := by
  refine D.ok scIsTupleOf (fun vs H Q E h => ?_) (fun f cdv A outer s H vs Q E hr h => ?_)
  · obtain ⟨a, xs, n, rfl, _⟩ := h; rfl
  · obtain ⟨a, xs, n, rfl, h1, h2, q⟩ := h
    refine ⟨_, pss_one (ps_ret (pe_and (pe_callB call_isi (by rfl) T.isinstance boot_isinstance (pa_cons (pv 0) (pa_cons (pe_bltn (v := .ty "tuple") (by rfl) T.tuple boot_tuple rfl) pa_nil)))
      (pe_one (pe_cmpR op_eq (pe_callB call_len_seq (by rfl) T.len boot_len (pa_cons (pv 0) pa_nil)) (pv 1) (nomark _))))), ?_⟩
    refine ⟨_, rfl, _, _, _, _, true, rfl, .ty "tuple", h1.ty, kit_ty (by decide +kernel), _, rfl, iteT ?_⟩
    refine ⟨_, rfl, a, xs, rfl, .inr h1.sq, _, rfl, rfl, ?_⟩
    exact qB (by rw [h2]) q
/-! ### is_size -/
abbrev sIsSize : Stmt := topS 23
theorem scIsSize : FnScope ["thing"] ["thing"] (defScope sIsSize) := ⟨rfl, rfl, rfl, by decide +kernel, rfl, by decide +kernel, by decide +kernel⟩
def spIsSize : Sp := fun vs H Q _ => ∃ i : Int, vs = [.int i] ∧ 1 ≤ i ∧ i ≤ 8 ∧ Q (.bl true) H
theorem ok_is_size (T : Txt K mg aN aO) (D : At K mg "is_size" sIsSize ["thing"]) (O : Ok P w K mg base 2 "is_between" ["thing", "least", "most"] spIsBetween) : Ok P w K mg base 3 "is_size" ["thing"] spIsSize := by
  refine D.ok scIsSize (fun vs H Q E h => ?_) (fun f cdv A outer s H vs Q E hr h => ?_)
  · obtain ⟨i, rfl, _⟩ := h; rfl
  · obtain ⟨i, rfl, h1, h2, q⟩ := h
    refine ⟨_, pss_one (ps_ret (pe_fn O hr (pa_cons (pv 0) (pa_cons pe_int (pa_cons (pe_g T.msize) pa_nil))))), ?_⟩
    exact ⟨_, rfl, i, 1, 8, rfl, h1, h2, q⟩
/-! ### is_step -/
abbrev sIsStep : Stmt := topS 24
theorem scIsStep : FnScope ["thing", "states"] ["thing", "states"] (defScope sIsStep) := ⟨rfl, rfl, rfl, by decide +kernel, rfl, by decide +kernel, by decide +kernel⟩
def spIsStep (K : PySem.W.Frag) : Sp := fun vs H Q _ => ∃ (v : V) (st : KM.Step) (n : Nat), vs = [v, .int (n : Int)] ∧ StepA K H v st ∧ (∀ m s, st = some (m, s) → m ≤ 60 ∧ s < n) ∧ Q (.bl true) H
theorem ok_is_step (T : Txt K mg aN aO) (D : At K mg "is_step" sIsStep ["thing", "states"]) (OT : Ok P w K mg base 1 "is_tuple_of" ["thing", "many"] (spIsTupleOf K)) (OB : Ok P w K mg base 2 "is_between" ["thing", "least", "most"] spIsBetween)
    (OI : Ok P w K mg base 3 "is_index" ["thing", "many"] spIsIndex) : Ok P w K mg base 4 "is_step" ["thing", "states"] (spIsStep K) := by
  refine D.ok scIsStep (fun vs H Q E h => ?_) (fun f cdv A outer s H vs Q E hr h => ?_)
  · obtain ⟨v, st, n, rfl, _⟩ := h; rfl
  · obtain ⟨v, st, n, rfl, h1, h2, q⟩ := h
    refine ⟨_, pss_cons (ps_if (pt_cmpR op_isN (pv 0) pe_non (nomark _)) (pss_one (ps_ret pe_bl)) pss_nil)
      (pss_one (ps_ret (pe_and (pe_fn OT (hr.mono (by decide)) (pa_cons (pv 0) (pa_cons pe_int pa_nil)))
        (pe_and (pe_fn OB (hr.mono (by decide)) (pa_cons (pe_ix ix_tup (pv 0) pe_int (fun _ _ => rfl)) (pa_cons pe_int (pa_cons (pe_g T.mmore) pa_nil))))
          (pe_one (pe_fn OI hr (pa_cons (pe_ix ix_tup (pv 0) pe_int (fun _ _ => rfl)) (pa_cons (pv 1) pa_nil)))))))), ?_⟩
    cases st with
    | none =>
      obtain rfl : v = .non := h1
      exact ⟨_, rfl, rfl, _, rfl, iteD rfl q⟩
    | some p =>
      obtain ⟨a, rfl, ht⟩ := h1
      obtain ⟨h3, h4⟩ := h2 p.1 p.2 rfl
      refine ⟨_, rfl, rfl, _, rfl, iteDN (by intro z; cases z) ?_⟩
      refine ⟨_, rfl, a, _, 2, rfl, ht, rfl, _, rfl, iteT ?_⟩
      refine ⟨_, rfl, a, _, _, _, rfl, rfl, ht.sq, atI_nat (j := 0) rfl, _, 0, 60, rfl, by omega, by omega, _, rfl, iteT ?_⟩
      exact ⟨_, rfl, a, _, _, _, rfl, rfl, ht.sq, atI_nat (j := 1) rfl, _, rfl, _, _, rfl, by omega, by omega, q⟩
/-! ### is_row -/
abbrev sIsRow : Stmt := topS 25
abbrev nIsRow : List Str := ["thing", "size", "states", "step"]
theorem scIsRow : FnScope nIsRow ["thing", "size", "states"] (defScope sIsRow) := ⟨rfl, rfl, rfl, by decide +kernel, rfl, by decide +kernel, by decide +kernel⟩
structure RowOk (size n : Nat) (r : KM.Row) : Prop where
  len : r.steps.length = size
  fins : ∀ e, r.fin = some e → 1 ≤ e ∧ e ≤ 60
  mores : ∀ m s, some (m, s) ∈ r.steps → m ≤ 60 ∧ s < n
def spIsRow (K : PySem.W.Frag) : Sp := fun vs H Q _ => ∃ (v : V) (r : KM.Row) (size n : Nat), vs = [v, .int (size : Int), .int (n : Int)] ∧ RowA K H v r ∧ RowOk size n r ∧ r.steps.length ≤ 8 ∧ ∀ H', Same H H' → Q (.bl true) H'
theorem ok_is_row (T : Txt K mg aN aO) (D : At K mg "is_row" sIsRow ["thing", "size", "states"]) (OT : Ok P w K mg base 1 "is_tuple_of" ["thing", "many"] (spIsTupleOf K)) (OB : Ok P w K mg base 2 "is_between" ["thing", "least", "most"] spIsBetween)
    (OS : Ok P w K mg base 4 "is_step" ["thing", "states"] (spIsStep K)) : Ok P w K mg base 5 "is_row" ["thing", "size", "states"] (spIsRow K) := by
  refine D.ok scIsRow (fun vs H Q E h => ?_) (fun f cdv A outer s H vs Q E hr h => ?_)
  · obtain ⟨v, r, size, n, rfl, _⟩ := h; rfl
  · obtain ⟨v, r, size, n, rfl, ⟨a, b, ss, rfl, ta, tb, hss⟩, ok, l8, q⟩ := h
    have lss := hss.len
    refine ⟨_, pss_cons (ps_if (PW.pt (pw_or (pt_not (pt_val (pe_fn OT (hr.mono (by decide)) (pa_cons (pv 0) (pa_cons pe_int pa_nil)))))
        (pw_or1 (pt_not (pt_val (pe_fn OT (hr.mono (by decide)) (pa_cons (pe_ix ix_tup (pv 0) pe_int (fun _ _ => rfl)) (pa_cons (pv 1) pa_nil)))))))) (pss_one (ps_ret pe_bl)) pss_nil)
      (pss_cons (ps_if (PW.pt (pw_and (pt_cmpR op_notN (pe_ix ix_tup (pv 0) pe_int (fun _ _ => rfl)) pe_non (nomark _))
          (pw_and1 (pt_not (pt_val (pe_fn OB (hr.mono (by decide)) (pa_cons (pe_ix ix_tup (pv 0) pe_int (fun _ _ => rfl)) (pa_cons pe_int (pa_cons (pe_g T.mmore) pa_nil))))))))) (pss_one (ps_ret pe_bl)) pss_nil)
      (pss_one (ps_ret (pe_callB (cr_all rfl) (by rfl) T.all_ boot_all (pa_cons
        (pe_lc (own := [("step", 3)]) (g := gName 3) (tt := tYes) rfl scIsRow.nd (pi_tup (pe_ix ix_tup (pv 0) pe_int (fun _ _ => rfl))) (blkOk_by (N := nIsRow) (sc := defScope sIsRow) (by decide +kernel))
          (fun _ _ _ _ _ => pg_name (i := 3) scIsRow.nd rfl (Or.inl rfl)) (fun _ _ _ _ _ => pts_nil) (fun _ _ _ _ _ => pe_fn OS hr (pa_cons (pv 3) (pa_cons (pv 2) pa_nil)))) pa_nil))))), ?_⟩
    refine ⟨_, rfl, a, _, 2, rfl, ta, rfl, _, rfl, iteF ?_⟩
    refine ⟨_, rfl, a, _, _, _, rfl, rfl, ta.sq, atI_nat (j := 1) rfl, _, rfl, b, ss, _, rfl, tb, by rw [lss, ok.len], _, rfl, iteF ?_⟩
    -- the rest of the body
    have rest : ∀ (D : Ends), D.rt = Q → tRet (tCB (rAll K) (tCons (tLc (iTup K (tOp (rIxT K) (tVar 0) (tC (.int 1)))) (gName 3) tYes (tFn (spIsStep K) (tCons (tVar 3) (tCons (tVar 2) tNil))) [3]) tNil)) D [some (.ref a), some (.int (size : Int)), some (.int (n : Int)), none] H := by
      intro D hD
      refine ⟨_, rfl, a, _, _, _, rfl, rfl, ta.sq, atI_nat (j := 1) rfl, b, rfl, ⟨_, tb.sq⟩, fun L nL => ?_⟩
      refine lc_tup (K := K) (a := b) (xs := ss) (fun i H' => Same H H' ∧ H' L = some (.lst ((List.replicate i true).map V.bl))) ⟨same_new nL, upd_same⟩ (fun i H' _ ⟨sm, _⟩ => (tb.keep (same_tup sm)).sq) ?_ ?_
      · rintro i x H' hi ⟨sm, hL⟩
        obtain ⟨st, hst, hx⟩ := hss.get hi
        have hi8 : i < ss.length := (List.getElem?_eq_some_iff.mp hi).1
        refine ⟨rfl, ?_⟩
        refine ⟨_, rfl, _, rfl, x, st, n, rfl, hx.keep (same_tup sm), fun m s e => ok.mores m s (e ▸ List.mem_of_getElem? hst), _, hL, ?_, Same.mut sm nL, ?_⟩
        · rw [List.length_map, List.length_replicate]
          exact small1000 (by omega)
        · rw [upd_same, List.replicate_succ', List.map_append]
          rfl
      · rintro H' ⟨sm, hL⟩
        refine ⟨L, _, rfl, SqL.of hL, ?_⟩
        rw [hD]
        have e : (List.replicate ss.length true).all id = true := by simp
        rw [e]
        exact q H' sm
    cases hf : r.fin with
    | none =>
      rw [hf] at ta
      refine ⟨_, rfl, a, _, _, _, rfl, rfl, ta.sq, atI_nat (j := 0) rfl, rfl, _, rfl, ?_⟩
      refine iteBF (by simp [optV]) ?_
      exact iteF (rest _ rfl)
    | some e =>
      rw [hf] at ta
      obtain ⟨e1, e2⟩ := ok.fins e hf
      refine ⟨_, rfl, a, _, _, _, rfl, rfl, ta.sq, atI_nat (j := 0) rfl, rfl, _, rfl, ?_⟩
      refine iteBT (by simp [optV]) ?_
      refine ⟨_, rfl, a, _, _, _, rfl, rfl, ta.sq, atI_nat (j := 0) rfl, (e : Int), 1, 60, rfl, by omega, by omega, _, rfl, ?_⟩
      exact iteF (rest _ rfl)
end
end KW

set_option Elab.async false
set_option linter.all false
set_option maxRecDepth 100000
set_option maxHeartbeats 4000000
/-! is_machine, check_machine; fractions. -/
namespace KW
open PySem PySem.Spec PyProof.Rows L2 KR KP
open KM (Mach All2)
section
variable {P : Program} {w : World} {K : PySem.W.Frag} {mg : Str → Option Value} {base : Heap} {aN aO : Addr}
/-! ### is_machine -/
abbrev sIsMachine : Stmt := topS 26
abbrev nIsMachine : List Str := ["thing", "states", "row"]
theorem scIsMachine : FnScope nIsMachine ["thing"] (defScope sIsMachine) := ⟨rfl, rfl, rfl, by decide +kernel, rfl, by decide +kernel, by decide +kernel⟩
def spIsMachine (K : PySem.W.Frag) : Sp := fun vs H Q _ => ∃ (v : V) (M : Mach), vs = [v] ∧ MachA K H v M ∧ KM.Valid M ∧ ∀ H', Same H H' → Q (.bl true) H'
theorem ok_is_machine (T : Txt K mg aN aO) (D : At K mg "is_machine" sIsMachine ["thing"]) (OT : Ok P w K mg base 1 "is_tuple_of" ["thing", "many"] (spIsTupleOf K)) (OZ : Ok P w K mg base 3 "is_size" ["thing"] spIsSize)
    (OR : Ok P w K mg base 5 "is_row" ["thing", "size", "states"] (spIsRow K)) : Ok P w K mg base 6 "is_machine" ["thing"] (spIsMachine K) := by
  refine D.ok scIsMachine (fun vs H Q E h => ?_) (fun f cdv A outer s H vs Q E hr h => ?_)
  · obtain ⟨v, M, rfl, _⟩ := h; rfl
  · obtain ⟨v, M, rfl, ⟨a, u, rfl, ta, b, rs, rfl, tb, hrs⟩, ok, q⟩ := h
    have lrs := hrs.len
    have s1 := ok.size1
    have s8 := ok.size8
    have r1 := ok.rows1
    have r30 := ok.rows30
    refine ⟨_, pss_cons (ps_if (PW.pt (pw_or (pt_not (pt_val (pe_fn OT (hr.mono (by decide)) (pa_cons (pv 0) (pa_cons pe_int pa_nil)))))
        (pw_or (pt_not (pt_val (pe_fn OZ (hr.mono (by decide)) (pa_cons (pe_ix ix_tup (pv 0) (pe_g T.size) (fun _ _ => rfl)) pa_nil))))
        (pw_or1 (pt_not (pt_val (pe_callB call_isi (by rfl) T.isinstance boot_isinstance (pa_cons (pe_ix ix_tup (pv 0) (pe_g T.rows) (fun _ _ => rfl)) (pa_cons (pe_bltn (v := .ty "tuple") (by rfl) T.tuple boot_tuple rfl) pa_nil))))))))) (pss_one (ps_ret pe_bl)) pss_nil)
      (pss_cons (ps_set (i := 1) scIsMachine.nd rfl (Or.inr rfl) (pe_callB call_len_seq (by rfl) T.len boot_len (pa_cons (pe_ix ix_tup (pv 0) (pe_g T.rows) (fun _ _ => rfl)) pa_nil)))
      (pss_one (ps_ret (pe_and (pe_chain op_le op_le pe_int (pv 1) (pe_g T.mstates)) (pe_one (pe_callB (cr_all rfl) (by rfl) T.all_ boot_all (pa_cons
        (pe_lc (own := [("row", 2)]) (g := gName 2) (tt := tYes) rfl scIsMachine.nd (pi_tup (pe_ix ix_tup (pv 0) (pe_g T.rows) (fun _ _ => rfl))) (blkOk_by (N := nIsMachine) (sc := defScope sIsMachine) (by decide +kernel))
          (fun _ _ _ _ _ => pg_name (i := 2) scIsMachine.nd rfl (Or.inl rfl)) (fun _ _ _ _ _ => pts_nil) (fun _ _ _ _ _ => pe_fn OR hr (pa_cons (pv 2) (pa_cons (pe_ix (r := rIxT K) ix_tup (pv 0) (pe_g T.size) (fun _ _ => rfl)) (pa_cons (pv 1) pa_nil))))) pa_nil))))))), ?_⟩
    refine ⟨_, rfl, a, _, 2, rfl, ta, rfl, _, rfl, iteF ?_⟩
    refine ⟨_, rfl, a, _, _, _, rfl, rfl, ta.sq, atI_nat (j := 0) rfl, _, rfl, by omega, by omega, _, rfl, iteF ?_⟩
    refine ⟨_, rfl, a, _, _, _, rfl, rfl, ta.sq, atI_nat (j := 1) rfl, _, _, _, _, true, rfl, .ty "tuple", tb.ty, kit_ty (by decide +kernel), _, rfl, iteF ?_⟩
    refine ⟨_, rfl, a, _, _, _, rfl, rfl, ta.sq, atI_nat (j := 1) rfl, b, rs, rfl, .inr tb.sq, ?_⟩
    refine ⟨_, rfl, _, _, rfl, rfl, _, rfl, iteD (by rw [lrs]; omega) ?_⟩
    refine ⟨_, _, rfl, rfl, _, rfl, iteD (by rw [lrs]; omega) ?_⟩
    refine ⟨_, rfl, a, _, _, _, rfl, rfl, ta.sq, atI_nat (j := 1) rfl, b, rfl, ⟨_, tb.sq⟩, fun L nL => ?_⟩
    refine lc_tup (K := K) (a := b) (xs := rs) (fun i H' => Same H H' ∧ H' L = some (.lst ((List.replicate i true).map V.bl))) ⟨same_new nL, upd_same⟩ (fun i H' _ ⟨sm, _⟩ => (tb.keep (same_tup sm)).sq) ?_ ?_
    · rintro i x H' hi ⟨sm, hL⟩
      obtain ⟨r, hrr, hx⟩ := hrs.get hi
      have hi30 : i < rs.length := (List.getElem?_eq_some_iff.mp hi).1
      have hm := List.mem_of_getElem? hrr
      refine ⟨rfl, ?_⟩
      refine ⟨_, rfl, _, rfl, a, _, _, _, rfl, rfl, (ta.keep (same_tup sm)).sq, atI_nat (j := 0) rfl, _, rfl, x, r, M.size, rs.length, rfl, hx.keep (same_tup sm), ⟨ok.len r hm, ok.fins r hm, fun m s e => by rw [lrs]; exact ok.mores r hm m s e⟩, by rw [ok.len r hm]; exact s8, fun H2 sm2 => ?_⟩
      refine ⟨_, sm2 _ _ hL, ?_, Same.mut (sm.trans sm2) nL, ?_⟩
      · rw [List.length_map, List.length_replicate]
        exact small1000 (by omega)
      · rw [upd_same, List.replicate_succ', List.map_append]
        rfl
    · rintro H' ⟨sm, hL⟩
      refine ⟨L, _, rfl, SqL.of hL, ?_⟩
      have e : (List.replicate rs.length true).all id = true := by simp
      rw [e]
      exact q H' sm
/-! ### check_machine -/
abbrev sCheckMachine : Stmt := topS 27
theorem scCheckMachine : FnScope ["thing"] ["thing"] (defScope sCheckMachine) := ⟨rfl, rfl, rfl, by decide +kernel, rfl, by decide +kernel, by decide +kernel⟩
def spCheckMachine (K : PySem.W.Frag) : Sp := fun vs H Q _ => ∃ (v : V) (M : Mach), vs = [v] ∧ MachA K H v M ∧ KM.Valid M ∧ ∀ H', Same H H' → Q .non H'
theorem ok_check_machine (D : At K mg "check_machine" sCheckMachine ["thing"]) (O : Ok P w K mg base 6 "is_machine" ["thing"] (spIsMachine K)) : Ok P w K mg base 7 "check_machine" ["thing"] (spCheckMachine K) := by
  refine D.ok scCheckMachine (fun vs H Q E h => ?_) (fun f cdv A outer s H vs Q E hr h => ?_)
  · obtain ⟨v, M, rfl, _⟩ := h; rfl
  · obtain ⟨v, M, rfl, hM, ok, q⟩ := h
    refine ⟨_, pss_one (ps_if (pt_not (pt_val (pe_fn O hr (pa_cons (pv 0) pa_nil)))) pss_never pss_nil), ?_⟩
    exact ⟨_, rfl, v, M, rfl, hM, ok, fun H' sm => ⟨_, rfl, iteF (q H' sm)⟩⟩
end

/-! ### a fraction in least terms -/
theorem fdiv_sign {a g : Int} (hg : 0 < g) (hd : g ∣ a) : a.fdiv (-g) = -(a / g) := by
  rw [Int.fdiv_eq_ediv_of_dvd (Int.neg_dvd.mpr hd), Int.ediv_neg]
theorem fdiv_plain {a g : Int} (hd : g ∣ a) : a.fdiv g = a / g := Int.fdiv_eq_ediv_of_dvd hd
/-- what both programs do: g the common divisor, with b's sign -/
theorem least_terms {a b : Int} (hb : b ≠ 0) : a.fdiv (if b < 0 then -((Nat.gcd a.natAbs b.natAbs : Nat) : Int) else ((Nat.gcd a.natAbs b.natAbs : Nat) : Int)) = (Rat.divInt a b).num ∧
    b.fdiv (if b < 0 then -((Nat.gcd a.natAbs b.natAbs : Nat) : Int) else ((Nat.gcd a.natAbs b.natAbs : Nat) : Int)) = ((Rat.divInt a b).den : Int) := by
  have hg : 0 < Nat.gcd a.natAbs b.natAbs := Nat.gcd_pos_of_pos_right _ (by omega)
  have hda : ((Nat.gcd a.natAbs b.natAbs : Nat) : Int) ∣ a := Int.ofNat_dvd_left.mpr (Nat.gcd_dvd_left _ _)
  have hdb : ((Nat.gcd a.natAbs b.natAbs : Nat) : Int) ∣ b := Int.ofNat_dvd_left.mpr (Nat.gcd_dvd_right _ _)
  have eg : Int.gcd b a = Nat.gcd a.natAbs b.natAbs := by
    show Nat.gcd b.natAbs a.natAbs = _
    exact Nat.gcd_comm _ _
  rw [Rat.num_divInt, Rat.den_divInt, if_neg hb, eg]
  generalize hG : Nat.gcd a.natAbs b.natAbs = g at *
  by_cases h : b < 0
  · rw [if_pos h, Int.sign_eq_neg_one_of_neg h]
    rw [fdiv_sign (by omega) hda, fdiv_sign (by omega) hdb]
    refine ⟨?_, ?_⟩
    · rw [Int.neg_mul, Int.one_mul, Int.neg_ediv_of_dvd hda]
    · rw [Int.natCast_ediv, (show ((b.natAbs : Nat) : Int) = -b by omega), Int.neg_ediv_of_dvd hdb]
  · rw [if_neg h, Int.sign_eq_one_of_pos (by omega), Int.one_mul, fdiv_plain hda, fdiv_plain hdb]
    refine ⟨rfl, ?_⟩
    rw [Int.natCast_ediv, (show ((b.natAbs : Nat) : Int) = b by omega)]
theorem gcd_log {a b : Int} {n : Nat} (hb : b ≠ 0) (h : b.natAbs < 2 ^ n) (h9 : n ≤ 9000) : ∀ x : Int, CDivS x (if b < 0 then -((Nat.gcd a.natAbs b.natAbs : Nat) : Int) else ((Nat.gcd a.natAbs b.natAbs : Nat) : Int)) := by
  intro x
  have hg : 0 < Nat.gcd a.natAbs b.natAbs := Nat.gcd_pos_of_pos_right _ (by omega)
  have hl : Nat.gcd a.natAbs b.natAbs ≤ b.natAbs := Nat.le_of_dvd (by omega) (Nat.gcd_dvd_right _ _)
  refine divS_of (b := n) ?_ ?_ h9
  · split <;> omega
  · split <;> omega
section
variable {P : Program} {w : World} {K : PySem.W.Frag} {mg : Str → Option Value} {base : Heap} {aN aO : Addr}
abbrev sFraction : Stmt := topS 12
theorem scFraction : FnScope ["top", "bottom", "shared"] ["top", "bottom"] (defScope sFraction) := ⟨rfl, rfl, rfl, by decide +kernel, rfl, by decide +kernel, by decide +kernel⟩
def spFraction (K : PySem.W.Frag) : Sp := fun vs H Q _ => ∃ a b : Int, vs = [.int a, .int b] ∧ b ≠ 0 ∧ b.natAbs < 2 ^ 9000 ∧ ∀ H' z, Same H H' → FrA K H' z (Rat.divInt a b) → Q z H'
theorem ok_fraction (T : Txt K mg aN aO) (D : At K mg "fraction" sFraction ["top", "bottom"]) : Ok P w K mg base 1 "fraction" ["top", "bottom"] (spFraction K) := by
  refine D.ok scFraction (fun vs H Q E h => ?_) (fun f cdv A outer s H vs Q E hr h => ?_)
  · obtain ⟨a, b, rfl, _⟩ := h; rfl
  · obtain ⟨a, b, rfl, hb, hn, q⟩ := h
    refine ⟨_, pss_cons (ps_set (i := 2) scFraction.nd rfl (Or.inl rfl) (pe_callBfun cr_gcd (by rfl) T.gcd (pa_cons (pv 0) (pa_cons (pv 1) pa_nil))))
      (pss_cons (ps_if (pt_cmpR op_lt (pv 1) pe_int (nomark _)) (pss_one (ps_set (i := 2) scFraction.nd rfl (Or.inl rfl) (pe_un un_neg (pv 2)))) pss_nil)
      (pss_one (ps_ret (pe_tup (pa_cons (pe_op op_fdivS (pv 0) (pv 2)) (pa_cons (pe_op op_fdivS (pv 1) (pv 2)) pa_nil)))))), ?_⟩
    refine ⟨_, rfl, _, rfl, a, b, rfl, ?_⟩
    obtain ⟨e1, e2⟩ := least_terms (a := a) hb
    have hc := gcd_log (a := a) hb hn (Nat.le_refl _)
    refine ⟨_, rfl, _, _, rfl, rfl, _, rfl, ?_⟩
    have fin : ∀ g : Int, g = (if b < 0 then -((Nat.gcd a.natAbs b.natAbs : Nat) : Int) else ((Nat.gcd a.natAbs b.natAbs : Nat) : Int)) →
        tRet (tTup (tCons (tOp (rI CDivS fun i j => .int (i.fdiv j)) (tVar 0) (tVar 2)) (tCons (tOp (rI CDivS fun i j => .int (i.fdiv j)) (tVar 1) (tVar 2)) tNil))) { nx := fun _ H' => Q .non H', rt := Q } [some (.int a), some (.int b), some (.int g)] H := by
      intro g hg
      rw [← hg] at e1 e2 hc
      refine ⟨_, rfl, _, rfl, _, _, rfl, rfl, hc a, _, rfl, _, rfl, _, _, rfl, rfl, hc b, by show 2 ≤ sizeLine; decide, fun p hp => ?_⟩
      show Q (.ref p) (upd H p (.tup [.int (a.fdiv g), .int (b.fdiv g)]))
      rw [e1, e2]
      exact q _ _ (same_new hp) ⟨p, rfl, .inl upd_same⟩
    refine ite2 (fun h => ?_) (fun h => ?_)
    · have h : b < 0 := of_decide_eq_true h
      exact ⟨_, rfl, _, rfl, fin _ (by rw [if_pos h])⟩
    · have h : ¬ b < 0 := fun z => h (decide_eq_true z)
      exact fin _ (by rw [if_neg h])
/-! ### plus, minus, times .. -/
theorem small_bits {n : Nat} {r : Rat} (h : KM.Small n r) : r.num.natAbs < 2 ^ n ∧ ((r.den : Int)).natAbs < 2 ^ n := ⟨h.1, by simpa using h.2⟩
abbrev sMinus : Stmt := topS 14
theorem scMinus : FnScope ["one", "other"] ["one", "other"] (defScope sMinus) := ⟨rfl, rfl, rfl, by decide +kernel, rfl, by decide +kernel, by decide +kernel⟩
/-- a two-place operation on fractions -/
def spFr2 (K : PySem.W.Frag) (ok : Rat → Rat → Prop) (g : Rat → Rat → Rat) : Sp := fun vs H Q _ => ∃ (v u : V) (x y : Rat), vs = [v, u] ∧ FrA K H v x ∧ FrA K H u y ∧ KM.Small 4500 x ∧ KM.Small 4500 y ∧ ok x y ∧ ∀ H' z, Same H H' → FrA K H' z (g x y) → Q z H'
theorem den_mul_small {x y : Rat} (hx : KM.Small 4500 x) (hy : KM.Small 4500 y) : ((x.den : Int) * (y.den : Int)).natAbs < 2 ^ 9000 := by
  have := wide_lt (small_bits hx).2 (small_bits hy).2
  exact this
theorem mul45 {i j : Int} (hi : i.natAbs < 2 ^ 4500) (hj : j.natAbs < 2 ^ 4500) : CMulW i j := wide_mul hi hj (by decide) (by decide) (by decide)
theorem den_ne (x : Rat) : (x.den : Int) ≠ 0 := by have := x.den_nz; omega
theorem ok_minus (D : At K mg "minus" sMinus ["one", "other"]) (O : Ok P w K mg base 1 "fraction" ["top", "bottom"] (spFraction K)) : Ok P w K mg base 2 "minus" ["one", "other"] (spFr2 K (fun _ _ => True) fun x y => x - y) := by
  refine D.ok scMinus (fun vs H Q E h => ?_) (fun f cdv A outer s H vs Q E hr h => ?_)
  · obtain ⟨v, u, x, y, rfl, _⟩ := h; rfl
  · obtain ⟨v, u, x, y, rfl, ⟨a, rfl, ta⟩, ⟨b, rfl, tb⟩, hx, hy, _, q⟩ := h
    obtain ⟨x1, x2⟩ := small_bits hx
    obtain ⟨y1, y2⟩ := small_bits hy
    refine ⟨_, pss_one (ps_ret (pe_fn O hr (pa_cons (pe_op op_sub (pe_op op_mulW (pe_ix ix_tup (pv 0) pe_int (fun _ _ => rfl)) (pe_ix ix_tup (pv 1) pe_int (fun _ _ => rfl)))
        (pe_op op_mulW (pe_ix ix_tup (pv 1) pe_int (fun _ _ => rfl)) (pe_ix ix_tup (pv 0) pe_int (fun _ _ => rfl))))
      (pa_cons (pe_op op_mulW (pe_ix ix_tup (pv 0) pe_int (fun _ _ => rfl)) (pe_ix ix_tup (pv 1) pe_int (fun _ _ => rfl))) pa_nil)))), ?_⟩
    refine ⟨_, rfl, a, _, _, _, rfl, rfl, ta.sq, atI_nat (j := 0) rfl, _, rfl, b, _, _, _, rfl, rfl, tb.sq, atI_nat (j := 1) rfl, _, _, rfl, rfl, mul45 x1 y2, ?_⟩
    refine ⟨_, rfl, b, _, _, _, rfl, rfl, tb.sq, atI_nat (j := 0) rfl, _, rfl, a, _, _, _, rfl, rfl, ta.sq, atI_nat (j := 1) rfl, _, _, rfl, rfl, mul45 y1 x2, _, _, rfl, rfl, ?_⟩
    refine ⟨_, rfl, a, _, _, _, rfl, rfl, ta.sq, atI_nat (j := 1) rfl, _, rfl, b, _, _, _, rfl, rfl, tb.sq, atI_nat (j := 1) rfl, _, _, rfl, rfl, mul45 x2 y2, ?_⟩
    refine ⟨_, _, rfl, Int.mul_ne_zero (den_ne x) (den_ne y), den_mul_small hx hy, fun H' z sm hz => q H' z sm ?_⟩
    have e : x - y = Rat.divInt (x.num * (y.den : Int) - y.num * (x.den : Int)) ((x.den : Int) * (y.den : Int)) := by
      rw [Rat.sub_def', ← Int.natCast_mul, Rat.divInt_ofNat]
    show FrA K H' z (x - y)
    rw [e]; exact hz
abbrev sTimes : Stmt := topS 15
theorem scTimes : FnScope ["one", "other"] ["one", "other"] (defScope sTimes) := ⟨rfl, rfl, rfl, by decide +kernel, rfl, by decide +kernel, by decide +kernel⟩
theorem ok_times (D : At K mg "times" sTimes ["one", "other"]) (O : Ok P w K mg base 1 "fraction" ["top", "bottom"] (spFraction K)) : Ok P w K mg base 2 "times" ["one", "other"] (spFr2 K (fun _ _ => True) fun x y => x * y) := by
  refine D.ok scTimes (fun vs H Q E h => ?_) (fun f cdv A outer s H vs Q E hr h => ?_)
  · obtain ⟨v, u, x, y, rfl, _⟩ := h; rfl
  · obtain ⟨v, u, x, y, rfl, ⟨a, rfl, ta⟩, ⟨b, rfl, tb⟩, hx, hy, _, q⟩ := h
    obtain ⟨x1, x2⟩ := small_bits hx
    obtain ⟨y1, y2⟩ := small_bits hy
    refine ⟨_, pss_one (ps_ret (pe_fn O hr (pa_cons (pe_op op_mulW (pe_ix ix_tup (pv 0) pe_int (fun _ _ => rfl)) (pe_ix ix_tup (pv 1) pe_int (fun _ _ => rfl)))
      (pa_cons (pe_op op_mulW (pe_ix ix_tup (pv 0) pe_int (fun _ _ => rfl)) (pe_ix ix_tup (pv 1) pe_int (fun _ _ => rfl))) pa_nil)))), ?_⟩
    refine ⟨_, rfl, a, _, _, _, rfl, rfl, ta.sq, atI_nat (j := 0) rfl, _, rfl, b, _, _, _, rfl, rfl, tb.sq, atI_nat (j := 0) rfl, _, _, rfl, rfl, mul45 x1 y1, ?_⟩
    refine ⟨_, rfl, a, _, _, _, rfl, rfl, ta.sq, atI_nat (j := 1) rfl, _, rfl, b, _, _, _, rfl, rfl, tb.sq, atI_nat (j := 1) rfl, _, _, rfl, rfl, mul45 x2 y2, ?_⟩
    refine ⟨_, _, rfl, Int.mul_ne_zero (den_ne x) (den_ne y), den_mul_small hx hy, fun H' z sm hz => q H' z sm ?_⟩
    have e : x * y = Rat.divInt (x.num * y.num) ((x.den : Int) * (y.den : Int)) := by
      rw [Rat.mul_def', ← Int.natCast_mul, Rat.divInt_ofNat]
    show FrA K H' z (x * y)
    rw [e]; exact hz
abbrev sDivided : Stmt := topS 16
theorem scDivided : FnScope ["one", "other"] ["one", "other"] (defScope sDivided) := ⟨rfl, rfl, rfl, by decide +kernel, rfl, by decide +kernel, by decide +kernel⟩
theorem ok_divided (D : At K mg "divided" sDivided ["one", "other"]) (O : Ok P w K mg base 1 "fraction" ["top", "bottom"] (spFraction K)) : Ok P w K mg base 2 "divided" ["one", "other"] (spFr2 K (fun _ y => y ≠ 0) fun x y => x / y) := by
  refine D.ok scDivided (fun vs H Q E h => ?_) (fun f cdv A outer s H vs Q E hr h => ?_)
  · obtain ⟨v, u, x, y, rfl, _⟩ := h; rfl
  · obtain ⟨v, u, x, y, rfl, ⟨a, rfl, ta⟩, ⟨b, rfl, tb⟩, hx, hy, h0, q⟩ := h
    obtain ⟨x1, x2⟩ := small_bits hx
    obtain ⟨y1, y2⟩ := small_bits hy
    refine ⟨_, pss_one (ps_ret (pe_fn O hr (pa_cons (pe_op op_mulW (pe_ix ix_tup (pv 0) pe_int (fun _ _ => rfl)) (pe_ix ix_tup (pv 1) pe_int (fun _ _ => rfl)))
      (pa_cons (pe_op op_mulW (pe_ix ix_tup (pv 0) pe_int (fun _ _ => rfl)) (pe_ix ix_tup (pv 1) pe_int (fun _ _ => rfl))) pa_nil)))), ?_⟩
    refine ⟨_, rfl, a, _, _, _, rfl, rfl, ta.sq, atI_nat (j := 0) rfl, _, rfl, b, _, _, _, rfl, rfl, tb.sq, atI_nat (j := 1) rfl, _, _, rfl, rfl, mul45 x1 y2, ?_⟩
    refine ⟨_, rfl, a, _, _, _, rfl, rfl, ta.sq, atI_nat (j := 1) rfl, _, rfl, b, _, _, _, rfl, rfl, tb.sq, atI_nat (j := 0) rfl, _, _, rfl, rfl, mul45 x2 y1, ?_⟩
    have n0 : y.num ≠ 0 := fun z => h0 (Rat.num_eq_zero.mp z)
    have hs : ((x.den : Int) * y.num).natAbs < 2 ^ 9000 := wide_lt x2 y1
    refine ⟨_, _, rfl, Int.mul_ne_zero (den_ne x) n0, hs, fun H' z sm hz => q H' z sm ?_⟩
    have e : x / y = Rat.divInt (x.num * (y.den : Int)) ((x.den : Int) * y.num) := by
      have e1 := Rat.num_divInt_den x
      rw [Rat.div_def, Rat.inv_def, ← Rat.divInt_mul_divInt, e1]
    show FrA K H' z (x / y)
    rw [e]; exact hz
abbrev sIsLess : Stmt := topS 13
theorem scIsLess : FnScope ["one", "other"] ["one", "other"] (defScope sIsLess) := ⟨rfl, rfl, rfl, by decide +kernel, rfl, by decide +kernel, by decide +kernel⟩
def spIsLess (K : PySem.W.Frag) : Sp := fun vs H Q _ => ∃ (v u : V) (x y : Rat), vs = [v, u] ∧ FrA K H v x ∧ FrA K H u y ∧ KM.Small 4500 x ∧ KM.Small 4500 y ∧ Q (.bl (decide (x < y))) H
theorem ok_is_less (D : At K mg "is_less" sIsLess ["one", "other"]) : Ok P w K mg base 1 "is_less" ["one", "other"] (spIsLess K) := by
  refine D.ok scIsLess (fun vs H Q E h => ?_) (fun f cdv A outer s H vs Q E hr h => ?_)
  · obtain ⟨v, u, x, y, rfl, _⟩ := h; rfl
  · obtain ⟨v, u, x, y, rfl, ⟨a, rfl, ta⟩, ⟨b, rfl, tb⟩, hx, hy, q⟩ := h
    obtain ⟨x1, x2⟩ := small_bits hx
    obtain ⟨y1, y2⟩ := small_bits hy
    refine ⟨_, pss_one (ps_ret (pe_cmpR op_lt (pe_op op_mulW (pe_ix ix_tup (pv 0) pe_int (fun _ _ => rfl)) (pe_ix ix_tup (pv 1) pe_int (fun _ _ => rfl)))
      (pe_op op_mulW (pe_ix ix_tup (pv 1) pe_int (fun _ _ => rfl)) (pe_ix ix_tup (pv 0) pe_int (fun _ _ => rfl))) (nomark _))), ?_⟩
    refine ⟨_, rfl, a, _, _, _, rfl, rfl, ta.sq, atI_nat (j := 0) rfl, _, rfl, b, _, _, _, rfl, rfl, tb.sq, atI_nat (j := 1) rfl, _, _, rfl, rfl, mul45 x1 y2, ?_⟩
    refine ⟨_, rfl, b, _, _, _, rfl, rfl, tb.sq, atI_nat (j := 0) rfl, _, rfl, a, _, _, _, rfl, rfl, ta.sq, atI_nat (j := 1) rfl, _, _, rfl, rfl, mul45 y1 x2, _, _, rfl, rfl, ?_⟩
    have e : decide (x.num * (y.den : Int) < y.num * (x.den : Int)) = decide (x < y) := decide_eq_decide.mpr (Rat.lt_iff x y).symm
    show Q (.bl (decide (x.num * (y.den : Int) < y.num * (x.den : Int)))) H
    rw [e]; exact q
abbrev sHalfTo : Stmt := topS 36
theorem scHalfTo : FnScope ["many"] ["many"] (defScope sHalfTo) := ⟨rfl, rfl, rfl, by decide +kernel, rfl, by decide +kernel, by decide +kernel⟩
def spHalfTo (K : PySem.W.Frag) : Sp := fun vs H Q _ => ∃ m : Nat, vs = [.int (m : Int)] ∧ m ≤ 1000 ∧ ∀ H' z, Same H H' → FrA K H' z (KM.half m) → Q z H'
theorem ok_half_to (D : At K mg "half_to" sHalfTo ["many"]) : Ok P w K mg base 1 "half_to" ["many"] (spHalfTo K) := by
  refine D.ok scHalfTo (fun vs H Q E h => ?_) (fun f cdv A outer s H vs Q E hr h => ?_)
  · obtain ⟨m, rfl, _⟩ := h; rfl
  · obtain ⟨m, rfl, hm, q⟩ := h
    refine ⟨_, pss_one (ps_ret (pe_tup (pa_cons pe_int (pa_cons (pe_op op_oneShl pe_int (pv 0)) pa_nil)))), ?_⟩
    refine ⟨_, rfl, m, rfl, rfl, by omega, by show 2 ≤ sizeLine; decide, fun p hp => ?_⟩
    refine q _ _ (same_new hp) ⟨p, rfl, .inl ?_⟩
    rw [upd_same, KM.half_num, KM.half_den, PySem.W.kbt_cast]
end
end KW

set_option Elab.async false
set_option linter.all false
set_option maxRecDepth 100000
set_option maxHeartbeats 4000000
/-! reached, ending. -/
namespace KW
open PySem PySem.Spec PyProof.Rows L2 KR KP
open KM (Mach All2)
/-! ### a dict of states -/
def dk (ks : List Nat) : List (Key × V) := ks.map fun (i : Nat) => ((Sum.inl (i : Int) : Key), V.bl true)
def il (ls : List Nat) : List V := ls.map fun (i : Nat) => V.int (i : Int)
theorem il_len (ls : List Nat) : (il ls).length = ls.length := by unfold il; rw [List.length_map]
theorem il_snoc (ls : List Nat) (i : Nat) : il (ls ++ [i]) = il ls ++ [V.int (i : Int)] := by unfold il; rw [List.map_append]; rfl
theorem dk_val (ks : List Nat) (i : Nat) : valV (dk ks) (Sum.inl (i : Int)) = if i ∈ ks then some (V.bl true) else none := by
  induction ks with
  | nil => rfl
  | cons a r ih =>
    show valV (((Sum.inl (a : Int) : Key), V.bl true) :: dk r) _ = _
    by_cases e : a = i
    · subst e
      rw [valV_pos rfl, if_pos (by simp)]
    · rw [valV_neg (by intro q; have q : (a : Int) = (i : Int) := Sum.inl.inj q; omega), ih]
      have : (i ∈ a :: r) = (i ∈ r) := by
        rw [List.mem_cons]
        exact propext ⟨fun h => h.resolve_left fun z => e z.symm, Or.inr⟩
      simp only [this]
theorem dk_put {ks : List Nat} {i : Nat} (h : i ∉ ks) : putK (dk ks) (Sum.inl (i : Int)) (V.bl true) = dk (ks ++ [i]) := by
  rw [putK_new _ (by rw [dk_val, if_neg h])]
  unfold dk
  rw [List.map_append]
  rfl
theorem dk_put_in {ks : List Nat} {i : Nat} (h : i ∈ ks) : putK (dk ks) (Sum.inl (i : Int)) (V.bl true) = dk ks := by
  unfold putK
  rw [valV_any, dk_val, if_pos h]
  show List.map (fun kv => if kv.1 = (Sum.inl (i : Int) : Key) then (kv.1, V.bl true) else kv) (dk ks) = dk ks
  unfold dk
  rw [List.map_map]
  refine List.map_congr_left fun a _ => ?_
  show (if ((Sum.inl (a : Int) : Key)) = Sum.inl (i : Int) then _ else _) = _
  split <;> rfl
theorem dk_len (ks : List Nat) : (dk ks).length = ks.length := by unfold dk; rw [List.length_map]
theorem len_le_of {ks : List Nat} {n : Nat} (nd : ks.Nodup) (h : ∀ i ∈ ks, i < n) : ks.length ≤ n := by
  have := KM.nodup_len (l2 := List.range n) nd fun i hi => List.mem_range.mpr (h i hi)
  rwa [List.length_range] at this
theorem closed_reach {M : Mach} {ks : List Nat} (h0 : 0 ∈ ks) (hc : ∀ i ∈ ks, ∀ m j, (m, j) ∈ KM.stp M i → j ∈ ks) {i : Nat} (h : KM.Reach M i) : i ∈ ks := by
  induction h with
  | zero => exact h0
  | step _ h ih => exact hc _ ih _ _ h
/-- a step of the machine's row i -/
theorem stp_at {M : Mach} {i : Nat} {r : KM.Row} {m j : Nat} (h : M.rows[i]? = some r) (hs : some (m, j) ∈ r.steps) : (m, j) ∈ KM.stp M i := by
  rw [KM.stp_of h]; exact KM.mem_rstp.mpr hs
theorem stp_row {M : Mach} {i : Nat} {r : KM.Row} {m j : Nat} (h : M.rows[i]? = some r) (hs : (m, j) ∈ KM.stp M i) : some (m, j) ∈ r.steps := by
  rw [KM.stp_of h] at hs; exact KM.mem_rstp.mp hs
section
variable {P : Program} {w : World} {K : PySem.W.Frag} {mg : Str → Option Value} {base : Heap} {aN aO : Addr}
/-! ### reached -/
abbrev sReached : Stmt := topS 28
abbrev nReached : List Str := ["machine", "found", "left", "step"]
theorem scReached : FnScope nReached ["machine"] (defScope sReached) := ⟨rfl, rfl, rfl, by decide +kernel, rfl, by decide +kernel, by decide +kernel⟩
def spReached (K : PySem.W.Frag) : Sp := fun vs H Q _ => ∃ (v : V) (M : Mach), vs = [v] ∧ MachA K H v M ∧ KM.Valid M ∧
  ∀ (H' : Hp) (p : Addr) (ks : List Nat), Same H H' → H p = none → H' p = some (.dK (dk ks)) → ks.Nodup → (∀ i, i ∈ ks ↔ KM.Reach M i) → Q (.ref p) H'
/-- what holds in the loops -/
structure RInv (M : Mach) (ks ls : List Nat) : Prop where
  nd : ks.Nodup
  zero : 0 ∈ ks
  reach : ∀ i ∈ ks, KM.Reach M i
  sub : ∀ i ∈ ls, i ∈ ks
  short : ls.length ≤ ks.length
theorem RInv.le {M : Mach} (V : KM.Valid M) {ks ls : List Nat} (h : RInv M ks ls) : ks.length ≤ M.rows.length := len_le_of h.nd fun i hi => V.reach_lt (h.reach i hi)
theorem ok_reached (T : Txt K mg aN aO) (D : At K mg "reached" sReached ["machine"]) : Ok P w K mg base 1 "reached" ["machine"] (spReached K) := by
  refine D.ok scReached (fun vs H Q E h => ?_) (fun f cdv A outer s H vs Q E hr h => ?_)
  · obtain ⟨v, M, rfl, _⟩ := h; rfl
  · obtain ⟨v, M, rfl, ⟨a, u, rfl, ta, b, rs, rfl, tb, hrs⟩, ok, q⟩ := h
    have lrs := hrs.len
    have r30 := ok.rows30
    refine ⟨_, pss_cons (ps_set (i := 1) scReached.nd rfl (Or.inl rfl) (pe_disp (pps_cons pe_int pe_bl pps_nil) (by rfl) (by rfl) (fun z => by cases z) (by decide)))
      (pss_cons (ps_set (i := 2) scReached.nd rfl (Or.inl rfl) (pe_lst (pa_cons pe_int pa_nil)))
      (pss_cons (ps_while PassesOwn.never (pt_cmpR op_gt (pe_callB call_len_seq (by rfl) T.len boot_len (pa_cons (pv 2) pa_nil)) pe_int (nomark _))
        (pss_one (ps_for PassesOwn.never rfl (pi_tup (pe_ix ix_tup (pe_ix ix_tup (pe_ix ix_tup (pv 0) (pe_g T.rows) (fun _ _ => rfl)) (pe_bm0 PySem.F.plainAttrs_list PySem.F.slot_list_pop PySem.F.type_list_pop mt_pop (pv 2)) (fun _ _ => rfl)) pe_int (fun _ _ => rfl)))
          (pg_name (i := 3) scReached.nd rfl (Or.inl rfl))
          (pss_one (ps_if (PW.pt (pw_and (pt_cmpR op_notN (pv 3) pe_non (nomark _)) (pw_and1 (pt_cmp (pc_dnotin (hu_of hr) (pe_ix ix_tup (pv 3) pe_int (fun _ _ => rfl)) (pv 1))))))
            (pss_cons (ps_dput (hu_of hr) (pv 1) (pe_ix ix_tup (pv 3) pe_int (fun _ _ => rfl)) pe_bl rfl)
              (pss_one (ps_expr (pe_bm PySem.F.plainAttrs_list PySem.F.slot_list_append PySem.F.type_list_append mt_append (pv 2) (pa_cons (pe_ix ix_tup (pv 3) pe_int (fun _ _ => rfl)) pa_nil))))) pss_nil)))))
      (pss_one (ps_ret (pv 1))))), ?_⟩
    -- found = {0: True}
    refine fun d nd => ⟨upd_same, [((Sum.inl 0 : Key), V.bl true)], rfl, by show 1 ≤ 15; decide, ?_⟩
    rw [upd_upd]
    have sd : Same H (upd H d (.dK (mergeK [] [((Sum.inl 0 : Key), V.bl true)]))) := same_new nd
    -- left = [0]
    refine ⟨by show 1 ≤ sizeLine; decide, fun l nl => ?_⟩
    have nld : l ≠ d := fun e => by rw [e, upd_same] at nl; cases nl
    have nlH : H l = none := sd.free nl
    refine ⟨fun m σ H' => ∃ (ks ls : List Nat) (x : Option V), σ = [some (.ref a), some (.ref d), some (.ref l), x] ∧ Same H H' ∧ H' d = some (.dK (dk ks)) ∧ H' l = some (.lst (il ls)) ∧
        RInv M ks ls ∧ (∀ i ∈ ks, i ∉ ls → ∀ m j, (m, j) ∈ KM.stp M i → j ∈ ks) ∧ m = (M.rows.length - ks.length) + ls.length,
      ⟨_, [0], [0], none, rfl, sd.trans (same_new nl), by rw [upd_ne nld.symm, upd_same]; rfl, upd_same, ⟨by simp, by simp, by intro i hi; simp at hi; subst hi; exact .zero, fun i h => h, Nat.le_refl _⟩, by intro i hi hn; exact absurd hi hn, rfl⟩, ?_⟩
    rintro m σ H1 ⟨ks, ls, x, rfl, sm, hd, hl, R, cl, rfl⟩
    have hmono := R.le ok
    refine ⟨_, rfl, l, _, rfl, .inl (SqL.of hl), _, _, rfl, rfl, _, rfl, ?_⟩
    refine ite2 (fun hpos => ?_) (fun hpos => ?_)
    · have hpos : (0 : Int) < ((il ls).length : Int) := of_decide_eq_true hpos
      rw [il_len] at hpos
      -- left.pop()
      obtain ⟨ls0, i, rfl⟩ : ∃ ls0 i, ls = ls0 ++ [i] := ⟨ls.dropLast, ls.getLast (by intro e; rw [e] at hpos; simp at hpos), (List.dropLast_concat_getLast _).symm⟩
      have hi : i ∈ ks := R.sub i (by simp)
      have hilt := ok.reach_lt (R.reach i hi)
      obtain ⟨r, hr_⟩ : ∃ r, M.rows[i]? = some r := ⟨_, List.getElem?_eq_getElem hilt⟩
      obtain ⟨xr, hxr, arow, brow, ss, rfl, trow, tst, hss⟩ := hrs.getR hr_
      have emap : il (ls0 ++ [i]) = il ls0 ++ [V.int (i : Int)] := il_snoc _ _
      have g1 := same_tup sm
      have g2 : Tup H (upd H1 l (.lst (il ls0))) := g1.trans (tup_lst hl)
      refine ⟨fun σ H' => ∃ (ks' ls' : List Nat) (x : Option V), σ = [some (.ref a), some (.ref d), some (.ref l), x] ∧ Same H H' ∧ H' d = some (.dK (dk ks')) ∧ H' l = some (.lst (il ls')) ∧
          RInv M ks' ls' ∧ (∀ c ∈ ks', c ∉ ls' → c ≠ i → ∀ m j, (m, j) ∈ KM.stp M c → j ∈ ks') ∧ (∀ m j, some (m, j) ∈ r.steps.take ss.length → j ∈ ks') ∧ ls'.length + ks.length = ls0.length + ks'.length, ?_, ?_⟩
      rotate_left
      · refine ⟨_, rfl, a, _, _, _, rfl, rfl, (ta.keep g1).sq, atI_nat (j := 1) rfl, _, rfl, .inl ⟨rfl, _, SqL.of hl⟩, l, _, V.int (i : Int), rfl, rfl, hl, ?_, ?_⟩
        · rw [emap, List.length_append, List.length_singleton, Nat.add_sub_cancel, List.getElem?_append_right (by simp)]
          simp
        · rw [emap, List.dropLast_concat]
          refine ⟨b, rs, _, _, rfl, rfl, (tb.keep g2).sq, atI_nat hxr, arow, _, _, _, rfl, rfl, (trow.keep g2).sq, atI_nat (j := 1) rfl, brow, rfl, ⟨_, (tst.keep g2).sq⟩, ?_⟩
          refine for_tup (K := K) (a := brow) (xs := ss) (fun t σ H' => ∃ (ks' ls' : List Nat) (x : Option V), σ = [some (.ref a), some (.ref d), some (.ref l), x] ∧ Same H H' ∧ H' d = some (.dK (dk ks')) ∧ H' l = some (.lst (il ls')) ∧
              RInv M ks' ls' ∧ (∀ c ∈ ks', c ∉ ls' → c ≠ i → ∀ m j, (m, j) ∈ KM.stp M c → j ∈ ks') ∧ i ∈ ks' ∧ (∀ m j, some (m, j) ∈ r.steps.take t → j ∈ ks') ∧ ls'.length + ks.length = ls0.length + ks'.length)
            ⟨ks, ls0, x, rfl, Same.mut sm nlH, ?_, upd_same, ⟨R.nd, R.zero, R.reach, fun c hc => R.sub c (by simp [hc]), by have := R.short; rw [List.length_append, List.length_singleton] at this; omega⟩, fun c hc hn hne => cl c hc (by simp [hn, hne]), hi, by simp, rfl⟩ ?_ ?_ ?_
          · rw [upd_ne (ne_of hd hl (by intro z; cases z))]; exact hd
          · rintro t σ H' _ ⟨_, _, _, _, sm', _⟩
            exact (tst.keep (same_tup sm')).sq
          · rintro t y σ H' hy ⟨ks', ls', x', rfl, sm', hd', hl', R', cl', hi', tk', len'⟩
            have hmono' := R'.le ok
            have g' := same_tup sm'
            obtain ⟨st, hst, hyst⟩ := hss.get hy
            have tksucc : ∀ m j, some (m, j) ∈ r.steps.take (t + 1) → some (m, j) ∈ r.steps.take t ∨ st = some (m, j) := by
              intro m j hm
              rw [List.take_add_one, hst] at hm
              rcases List.mem_append.mp hm with hm | hm
              · exact .inl hm
              · right
                simp at hm
                exact hm.symm
            cases st with
            | none =>
              obtain rfl : y = .non := hyst
              refine ⟨_, rfl, rfl, _, rfl, iteF ?_⟩
              refine iteF ⟨ks', ls', _, rfl, sm', hd', hl', R', cl', hi', fun m j hm => ?_, len'⟩
              rcases tksucc m j hm with h | h
              · exact tk' m j h
              · cases h
            | some p =>
              obtain ⟨ay, rfl, tay⟩ := hyst
              have tay' := tay.keep g'
              refine ⟨_, rfl, rfl, _, rfl, iteT ?_⟩
              refine ⟨_, rfl, ay, _, _, _, rfl, rfl, tay'.sq, atI_nat (j := 1) rfl, _, rfl, d, _, rfl, DGet.k (k := Sum.inl (p.2 : Int)) hd', _, rfl, ?_⟩
              have hmem : some (p.1, p.2) ∈ r.steps := List.mem_of_getElem? hst
              by_cases hin : p.2 ∈ ks'
              · refine iteBF (by rw [dk_val, if_pos hin]; rfl) ⟨ks', ls', _, rfl, sm', hd', hl', R', cl', hi', fun m j hm => ?_, len'⟩
                rcases tksucc m j hm with h | h
                · exact tk' m j h
                · cases h; exact hin
              · refine iteBT (by rw [dk_val, if_neg hin]; rfl) ?_
                refine ⟨_, rfl, _, rfl, ay, _, _, _, rfl, rfl, tay'.sq, atI_nat (j := 1) rfl, d, _, rfl, DPut.k (k := Sum.inl (p.2 : Int)) hd' (by rw [dk_len]; exact small1000 (by omega)), ?_⟩
                have nl2 : l ≠ d := ne_of hl' hd' (by intro z; cases z)
                have hl2 : upd H' d (.dK (putK (dk ks') (Sum.inl (p.2 : Int)) (V.bl true))) l = some (.lst (il ls')) := by rw [upd_ne nl2]; exact hl'
                refine ⟨_, rfl, .inl ⟨rfl, _, SqL.of hl2⟩, _, rfl, ay, _, _, _, rfl, rfl, (tay'.keep (tup_dk hd')).sq, atI_nat (j := 1) rfl, l, _, _, rfl, rfl, hl2, ?_, ?_⟩
                · rw [il_len]
                  have := R'.short
                  exact small1000 (by omega)
                · refine ⟨ks' ++ [p.2], ls' ++ [p.2], _, rfl, Same.mut (Same.mut sm' nd) nlH, ?_, ?_, ⟨?_, ?_, ?_, ?_, by have := R'.short; simp; omega⟩, ?_, ?_, ?_, ?_⟩
                  · rw [upd_ne nl2.symm, upd_same, dk_put hin]
                  · rw [upd_same, il_snoc]
                  · exact nd_snoc R'.nd hin
                  · simp [R'.zero]
                  · intro c hc
                    rcases List.mem_append.mp hc with hc | hc
                    · exact R'.reach c hc
                    · simp at hc
                      subst hc
                      exact .step (m := p.1) (R'.reach i hi') (stp_at hr_ hmem)
                  · intro c hc
                    rcases List.mem_append.mp hc with hc | hc
                    · simp [R'.sub c hc]
                    · simp at hc; simp [hc]
                  · intro c hc hn hne m j hm
                    rcases List.mem_append.mp hc with hc | hc
                    · have := cl' c hc (fun z => hn (by simp [z])) hne m j hm
                      simp [this]
                    · exact absurd (List.mem_append.mpr (.inr hc)) hn
                  · simp [hi']
                  · intro m j hm
                    rcases tksucc m j hm with h | h
                    · simp [tk' m j h]
                    · cases h; simp
                  · simp; omega
          · rintro σ H' ⟨ks', ls', x', rfl, sm', hd', hl', R', cl', hi', tk', len'⟩
            have hmono' := R'.le ok
            exact ⟨ks', ls', x', rfl, sm', hd', hl', R', cl', tk', len'⟩
      · rintro σ' H' ⟨ks', ls', x', rfl, sm', hd', hl', R', cl', tk', len'⟩
        have hmono' := R'.le ok
        refine ⟨_, ?_, ks', ls', x', rfl, sm', hd', hl', R', fun c hc hn m j hm => ?_, rfl⟩
        · rw [List.length_append, List.length_singleton]; omega
        · by_cases e : c = i
          · subst e
            refine tk' m j ?_
            rw [List.take_of_length_le (by rw [hss.len]; exact Nat.le_refl _)]
            exact stp_row hr_ hm
          · exact cl' c hc hn e m j hm
    · have hpos : ¬ (0 : Int) < ((il ls).length : Int) := fun z => hpos (decide_eq_true z)
      rw [il_len] at hpos
      have e : ls = [] := List.eq_nil_of_length_eq_zero (by omega)
      subst e
      refine ⟨_, rfl, q H1 d ks sm nd hd R.nd fun i => ⟨R.reach i, fun h => closed_reach R.zero (fun i hi => cl i hi (by simp)) h⟩⟩
end
end KW

set_option Elab.async false
set_option linter.all false
set_option maxRecDepth 100000
set_option maxHeartbeats 4000000
/-! ending. -/
namespace KW
open PySem PySem.Spec PyProof.Rows L2 KR KP
open KM (Mach All2)
theorem take_snoc {α : Type} {l : List α} {i : Nat} {x : α} (h : l[i]? = some x) : l.take (i + 1) = l.take i ++ [x] := by
  rw [List.take_add_one, h]; rfl
/-- a dict comprehension over a walk -/
theorem dc_it {J : It} {n : Nat} {G : Hp → Prop} {Y : Nat → Hp → V → Hp → Prop} (w : Walk J n G Y) {g : TG} {tt : TT} {tk tv : TE} {vs : List Nat} {σ : L2.St} {H1 : Hp} {D : Addr} {Qd : Hp → Prop} (Pv : Nat → Hp → Prop) (h0 : Pv 0 (upd H1 D (.dK []))) (hG : ∀ i H, i ≤ n → Pv i H → G H)
    (hs : ∀ i x H H', i < n → Pv i H → Y i H x H' → g x (wipe σ vs) H' fun σ2 H2 => wipe σ2 vs = wipe σ vs ∧ tt σ2 H2 fun b H3 =>
      if b = true then tk σ2 H3 fun y H4 => tv σ2 H4 fun z H5 => ∃ kvs k, y = kV k ∧ H5 D = some (.dK kvs) ∧ kvs.length < sizeLine ∧ Pv (i + 1) (upd H5 D (.dK (putK kvs k z))) else Pv (i + 1) H3) (hd : ∀ H, Pv n H → Qd H) :
    ∃ W : Nat → Nat → Hp → Prop, (∃ m, W 0 m (upd H1 D (.dK []))) ∧ ∀ i m H, W i m H →
      (J.stop i H ∧ Qd H) ∨ (J.go i H ∧ ∃ Nx : Hp → Prop, (∀ H', Nx H' → ∃ m', m' < m ∧ W (i + 1) m' H') ∧ ∀ x H', J.yld i H x H' → g x (wipe σ vs) H' fun σ2 H2 => wipe σ2 vs = wipe σ vs ∧ tt σ2 H2 fun b H3 =>
        if b = true then tk σ2 H3 fun y H4 => tv σ2 H4 fun z H5 => ∃ kvs k, y = kV k ∧ H5 D = some (.dK kvs) ∧ kvs.length < sizeLine ∧ Nx (upd H5 D (.dK (putK kvs k z))) else Nx H3) := by
  refine ⟨fun i m H => m = n - i ∧ i ≤ n ∧ Pv i H, ⟨n, by simp, Nat.zero_le _, h0⟩, ?_⟩
  rintro i m H ⟨rfl, hi, p⟩
  have q := hG i H hi p
  by_cases hlt : i < n
  · refine .inr ⟨w.goes i H hlt q, Pv (i + 1), fun H' p' => ⟨n - (i + 1), by omega, rfl, hlt, p'⟩, fun x H' y => hs i x H H' hlt p (w.yields i H x H' hlt q y)⟩
  · have e : i = n := by omega
    subst e
    exact .inl ⟨w.stops H q, hd H p⟩
def inb (ks : List Nat) : KM.Step → Bool
  | none => false
  | some p => decide (p.2 ∈ ks)
theorem inb_any {ks : List Nat} {l : List KM.Step} (h : l.any (inb ks) = true) : ∃ m j, some (m, j) ∈ l ∧ j ∈ ks := by
  obtain ⟨st, h1, h2⟩ := List.any_eq_true.mp h
  cases st with
  | none => cases h2
  | some p => exact ⟨p.1, p.2, h1, of_decide_eq_true h2⟩
theorem inb_not {ks : List Nat} {l : List KM.Step} (h : l.any (inb ks) = false) {m j : Nat} (hm : some (m, j) ∈ l) : j ∉ ks := by
  intro hj
  have : l.any (inb ks) = true := List.any_eq_true.mpr ⟨some (m, j), hm, decide_eq_true hj⟩
  rw [h] at this
  cases this
theorem co_lt {M : Mach} {i : Nat} (h : KM.Co M i) : i < M.rows.length := by
  cases h with
  | fin h =>
    apply Classical.byContradiction
    intro n
    rw [KM.fin_out (by omega)] at h
    cases h
  | step h _ =>
    apply Classical.byContradiction
    intro n
    rw [KM.stp_out (by omega)] at h
    cases h
theorem closed_co {M : Mach} {ks : List Nat} (h0 : ∀ i e, KM.fin M i = some e → i ∈ ks) (hc : ∀ i, i < M.rows.length → i ∉ ks → ∀ m j, (m, j) ∈ KM.stp M i → j ∉ ks) {i : Nat} (h : KM.Co M i) : i ∈ ks := by
  induction h with
  | fin h => exact h0 _ _ h
  | @step i m j h hco ih =>
    apply Classical.byContradiction
    intro n
    exact hc i (co_lt (.step h hco)) n m j h ih
section
variable {P : Program} {w : World} {K : PySem.W.Frag} {mg : Str → Option Value} {base : Heap} {aN aO : Addr}
abbrev sEnding : Stmt := topS 29
abbrev nEnding : List Str := ["machine", "found", "grown", "state", "row", "step"]
theorem scEnding : FnScope nEnding ["machine"] (defScope sEnding) := ⟨rfl, rfl, rfl, by decide +kernel, rfl, by decide +kernel, by decide +kernel⟩
def spEnding (K : PySem.W.Frag) : Sp := fun vs H Q _ => ∃ (v : V) (M : Mach), vs = [v] ∧ MachA K H v M ∧ KM.Valid M ∧
  ∀ (H' : Hp) (p : Addr) (ks : List Nat), Same H H' → H p = none → H' p = some (.dK (dk ks)) → (∀ i, i ∈ ks ↔ KM.Co M i) → Q (.ref p) H'
theorem ok_ending (T : Txt K mg aN aO) (D : At K mg "ending" sEnding ["machine"]) : Ok P w K mg base 1 "ending" ["machine"] (spEnding K) := by
  refine D.ok scEnding (fun vs H Q E h => ?_) (fun f cdv A outer s H vs Q E hr h => ?_)
  · obtain ⟨v, M, rfl, _⟩ := h; rfl
  · obtain ⟨v, M, rfl, ⟨a, u, rfl, ta, b, rs, rfl, tb, hrs⟩, ok, q⟩ := h
    have lrs := hrs.len
    have r30 := ok.rows30
    refine ⟨_, pss_cons (ps_set (i := 1) scEnding.nd rfl (Or.inr rfl) (pe_dc (own := [("state", 3), ("row", 4)]) (g := gTup K 2 (gCons (gName 3) (gCons (gName 4) gNil))) rfl scEnding.nd
          (pi_enumT (by rfl) T.enumerate (pa_cons (pe_ix ix_tup (pv 0) (pe_g T.rows) (fun _ _ => rfl)) pa_nil)) (blkOk_by (N := nEnding) (sc := defScope sEnding) (by decide +kernel))
          (fun _ _ _ _ _ => pg_tup rfl (pgs_cons (pg_name (i := 3) scEnding.nd rfl (Or.inl rfl)) (pgs_cons (pg_name (i := 4) scEnding.nd rfl (Or.inl rfl)) pgs_nil)))
          (fun _ _ _ _ _ => pts_one (pt_cmpR op_notN (pe_ix (r := rIxT K) ix_tup (pv 4) pe_int (fun _ _ => rfl)) pe_non (nomark _))) (fun _ _ _ _ _ => pv 3) (fun _ _ _ _ _ => pe_bl)))
      (pss_cons (ps_set (i := 2) scEnding.nd rfl (Or.inl rfl) pe_bl)
      (pss_cons (ps_while PassesOwn.never (pt_val (pv 2))
        (pss_cons (ps_set (i := 2) scEnding.nd rfl (Or.inl rfl) pe_bl)
          (pss_one (ps_for PassesOwn.never rfl (pi_enumT (by rfl) T.enumerate (pa_cons (pe_ix ix_tup (pv 0) (pe_g T.rows) (fun _ _ => rfl)) pa_nil))
            (pg_tup rfl (pgs_cons (pg_name (i := 3) scEnding.nd rfl (Or.inl rfl)) (pgs_cons (pg_name (i := 4) scEnding.nd rfl (Or.inl rfl)) pgs_nil)))
            (pss_one (ps_if (PW.pt (pw_and (pt_cmp (pc_dnotin (hu_of hr) (pv 3) (pv 1))) (pw_and1 (pt_val (pe_callB (cr_any rfl) (by rfl) T.any_ boot_any (pa_cons
                (pe_lc (own := [("step", 5)]) (g := gName 5) (tt := tYes) rfl scEnding.nd (pi_tup (pe_ix ix_tup (pv 4) pe_int (fun _ _ => rfl))) (blkOk_by (N := nEnding) (sc := defScope sEnding) (by decide +kernel))
                  (fun _ _ _ _ _ => pg_name (i := 5) scEnding.nd rfl (Or.inl rfl)) (fun _ _ _ _ _ => pts_nil)
                  (fun _ _ _ _ _ => pe_and (pe_cmpR op_notN (pv 5) pe_non (nomark _)) (pe_one (pe_cmp (pc_din (hu_of hr) (pe_ix (r := rIxT K) ix_tup (pv 5) pe_int (fun _ _ => rfl)) (pv 1)))))) pa_nil))))))
              (pss_cons (ps_dput (hu_of hr) (pv 1) (pv 3) pe_bl rfl) (pss_one (ps_set (i := 2) scEnding.nd rfl (Or.inl rfl) pe_bl))) pss_nil)))))
        )
      (pss_one (ps_ret (pv 1))))), ?_⟩
    -- the ends
    refine ⟨_, rfl, a, _, _, _, rfl, rfl, ta.sq, atI_nat (j := 1) rfl, b, rs, rfl, tb.sq, fun d nd => ?_⟩
    have hfin : ∀ i r, M.rows[i]? = some r → KM.fin M i = r.fin := fun i r h => KM.fin_of h
    refine dc_it (walk_enumT (K := K) (a := b) (xs := rs)) (fun i H' => ∃ ks : List Nat, Same H H' ∧ H' d = some (.dK (dk ks)) ∧ ks.Nodup ∧ ∀ s, s ∈ ks ↔ s < i ∧ ∃ e, KM.fin M s = some e)
      ⟨[], same_new nd, upd_same, by simp, by simp⟩ (fun i H' _ ⟨_, sm, _⟩ => (tb.keep (same_tup sm)).sq) ?_ ?_
    · rintro i x H1 H2 hi ⟨ks, sm, hd, nod, mem⟩ ⟨tp, x1, x2, rfl, ntp, rfl, e1, e2⟩
      cases e1
      obtain ⟨r, hr_, ar, br, ss, rfl, tr, ts, hss⟩ := hrs.get e2
      have sm2 : Same H (upd H1 tp (.tup [.int (i : Nat), .ref ar])) := sm.trans (same_new ntp)
      have hd2 : upd H1 tp (.tup [.int (i : Nat), .ref ar]) d = some (.dK (dk ks)) := by rw [upd_ne (ne_of_none hd ntp)]; exact hd
      refine ⟨tp, _, rfl, SqT.of upd_same, rfl, _, _, rfl, _, _, rfl, rfl, rfl, ?_⟩
      refine ⟨_, rfl, ar, _, _, _, rfl, rfl, (tr.keep (same_tup sm2)).sq, atI_nat (j := 0) rfl, rfl, _, rfl, ?_⟩
      cases hf : r.fin with
      | none =>
        refine iteBF (by simp [optV]) ⟨ks, sm2, hd2, nod, fun s => ?_⟩
        rw [mem]
        constructor
        · rintro ⟨h1, h2⟩; exact ⟨by omega, h2⟩
        · rintro ⟨h1, e, h2⟩
          refine ⟨?_, e, h2⟩
          have : s ≠ i := by
            rintro rfl
            rw [hfin _ _ hr_, hf] at h2
            cases h2
          omega
      | some e =>
        have hni : i ∉ ks := fun h => by have := ((mem i).mp h).1; omega
        refine iteBT (by simp [optV]) ⟨_, rfl, _, Sum.inl (i : Int), rfl, hd2, ?_, ks ++ [i], Same.mut sm2 nd, ?_, nd_snoc nod hni, fun s => ?_⟩
        · rw [dk_len]
          have := len_le_of nod (fun s hs => ((mem s).mp hs).1)
          exact small1000 (by omega)
        · rw [upd_same, dk_put hni]
        · rw [List.mem_append, mem, List.mem_singleton]
          constructor
          · rintro (⟨h1, h2⟩ | rfl)
            · exact ⟨by omega, h2⟩
            · exact ⟨by omega, e, by rw [hfin _ _ hr_, hf]⟩
          · rintro ⟨h1, h2⟩
            by_cases e : s = i
            · exact .inr e
            · exact .inl ⟨by omega, h2⟩
    · rintro H1 ⟨ks0, sm0, hd0, nod0, mem0⟩
      -- grown = True; while grown
      refine ⟨fun m σ H' => ∃ (ks : List Nat) (g : Bool) (x3 x4 : Option V), σ = [some (.ref a), some (.ref d), some (.bl g), x3, x4, none] ∧ Same H H' ∧ H' d = some (.dK (dk ks)) ∧ ks.Nodup ∧ (∀ i ∈ ks, KM.Co M i) ∧
          (∀ i e, KM.fin M i = some e → i ∈ ks) ∧ (g = false → ∀ i, i < M.rows.length → i ∉ ks → ∀ m j, (m, j) ∈ KM.stp M i → j ∉ ks) ∧ m = 2 * (M.rows.length - ks.length) + (if g then 1 else 0),
        ⟨_, ks0, true, none, none, rfl, sm0, hd0, nod0, fun i hi => ?_, fun i e he => ?_, (by intro z; cases z), rfl⟩, ?_⟩
      · obtain ⟨_, e, he⟩ := (mem0 i).mp hi
        exact .fin he
      · exact (mem0 i).mpr ⟨by rw [lrs]; exact co_lt (.fin he), e, he⟩
      · rintro m σ H2 ⟨ks, g, x3, x4, rfl, sm, hd, nod, hco, hends, hcl, rfl⟩
        have hle : ks.length ≤ M.rows.length := len_le_of nod fun i hi => co_lt (hco i hi)
        refine ⟨_, rfl, g, rfl, ?_⟩
        refine ite2 (fun hg => ?_) (fun hg => ?_)
        · subst hg
          refine ⟨fun σ' H' => ∃ (ks' : List Nat) (g' : Bool) (x3 x4 : Option V), σ' = [some (.ref a), some (.ref d), some (.bl g'), x3, x4, none] ∧ Same H H' ∧ H' d = some (.dK (dk ks')) ∧ ks'.Nodup ∧ (∀ i ∈ ks', KM.Co M i) ∧
            (∀ i e, KM.fin M i = some e → i ∈ ks') ∧ (g' = false → ks' = ks ∧ ∀ i, i < rs.length → i ∉ ks → ∀ m j, (m, j) ∈ KM.stp M i → j ∉ ks) ∧ (g' = true → ks.length < ks'.length), ?_, ?_⟩
          · rintro σ' H' ⟨ks', g', y3, y4, rfl, sm', hd', nod', hco', hends', hf, ht⟩
            have hle' : ks'.length ≤ M.rows.length := len_le_of nod' fun i hi => co_lt (hco' i hi)
            refine ⟨_, ?_, ks', g', y3, y4, rfl, sm', hd', nod', hco', hends', fun z i hi hn => ?_, rfl⟩
            · cases g' with
              | false =>
                rw [(hf rfl).1]
                simp
              | true =>
                have := ht rfl
                simp; omega
            · obtain ⟨e1, e2⟩ := hf z
              rw [e1] at hn ⊢
              exact e2 i (by rw [lrs]; exact hi) hn
          · refine ⟨_, rfl, a, _, _, _, rfl, rfl, (ta.keep (same_tup sm)).sq, atI_nat (j := 1) rfl, b, rs, rfl, (tb.keep (same_tup sm)).sq, ?_⟩
            refine for_it (walk_enumT (K := K) (a := b) (xs := rs)) (fun t σ' H' => ∃ (ks' : List Nat) (g' : Bool) (x3 x4 : Option V), σ' = [some (.ref a), some (.ref d), some (.bl g'), x3, x4, none] ∧ Same H H' ∧ H' d = some (.dK (dk ks')) ∧ ks'.Nodup ∧ (∀ i ∈ ks', KM.Co M i) ∧
              (∀ i e, KM.fin M i = some e → i ∈ ks') ∧ (g' = false → ks' = ks ∧ ∀ i, i < t → i ∉ ks → ∀ m j, (m, j) ∈ KM.stp M i → j ∉ ks) ∧ (g' = true → ks.length < ks'.length))
              ⟨ks, false, x3, x4, rfl, sm, hd, nod, hco, hends, fun _ => ⟨rfl, fun i hi => by omega⟩, (by intro z; cases z)⟩ (fun i _ H' _ ⟨_, _, _, _, _, sm', _⟩ => (tb.keep (same_tup sm')).sq) ?_ ?_
            · rintro t y σ' H3 H4 ht ⟨ks', g', y3, y4, rfl, sm', hd', nod', hco', hends', hf, htr⟩ ⟨tp, x1, x2, rfl, ntp, rfl, e1, e2⟩
              cases e1
              have hle' : ks'.length ≤ M.rows.length := len_le_of nod' fun i hi => co_lt (hco' i hi)
              obtain ⟨r, hr_, ar, br, ss, rfl, tr, ts, hss⟩ := hrs.get e2
              have sm2 : Same H (upd H3 tp (.tup [.int (t : Nat), .ref ar])) := sm'.trans (same_new ntp)
              have hd2 : upd H3 tp (.tup [.int (t : Nat), .ref ar]) d = some (.dK (dk ks')) := by rw [upd_ne (ne_of_none hd' ntp)]; exact hd'
              have hT : upd H3 tp (.tup [.int (t : Nat), .ref ar]) tp = some (.tup [.int (t : Nat), .ref ar]) := upd_same
              generalize upd H3 tp (.tup [.int (t : Nat), .ref ar]) = H5 at sm2 hd2 hT
              have tlt : t < M.rows.length := (List.getElem?_eq_some_iff.mp hr_).1
              refine ⟨tp, _, rfl, SqT.of hT, rfl, _, _, rfl, _, _, rfl, rfl, ?_⟩
              refine ⟨_, rfl, _, rfl, d, _, rfl, DGet.k (k := Sum.inl (t : Int)) hd2, _, rfl, ?_⟩
              by_cases hin : t ∈ ks'
              · refine iteBF (by rw [dk_val, if_pos hin]; rfl) (iteF ⟨ks', g', _, _, rfl, sm2, hd2, nod', hco', hends', fun z => ?_, htr⟩)
                obtain ⟨e1, e2'⟩ := hf z
                refine ⟨e1, fun i hi hn => ?_⟩
                by_cases e : i = t
                · subst e; rw [e1] at hin; exact absurd hin hn
                · exact e2' i (by omega) hn
              · refine iteBT (by rw [dk_val, if_neg hin]; rfl) ?_
                have tr5 := tr.keep (same_tup sm2)
                have ts5 := ts.keep (same_tup sm2)
                refine ⟨_, rfl, ar, _, _, _, rfl, rfl, tr5.sq, atI_nat (j := 1) rfl, br, rfl, ⟨_, ts5.sq⟩, fun L nL => ?_⟩
                refine lc_tup (K := K) (a := br) (xs := ss) (fun i H' => Same H5 H' ∧ H' L = some (.lst (((r.steps.take i).map (inb ks')).map V.bl))) ⟨same_new nL, upd_same⟩ (fun i H' _ ⟨sm6, _⟩ => (ts5.keep (same_tup sm6)).sq) ?_ ?_
                · rintro i x H6 hi6 ⟨sm6, hL⟩
                  obtain ⟨st, hst, hx⟩ := hss.get hi6
                  have hx6 := hx.keep (same_tup (sm2.trans sm6))
                  have hil : i < r.steps.length := (List.getElem?_eq_some_iff.mp hst).1
                  have l8 := ok.size8
                  have ll := ok.len r (List.mem_of_getElem? hr_)
                  have done : ∀ c, c = inb ks' st → ∃ acc, H6 L = some (.lst acc) ∧ acc.length < sizeLine ∧ Same H5 (upd H6 L (.lst (acc ++ [V.bl c]))) ∧ upd H6 L (.lst (acc ++ [V.bl c])) L = some (.lst (((r.steps.take (i + 1)).map (inb ks')).map V.bl)) := by
                    rintro c rfl
                    refine ⟨_, hL, ?_, Same.mut sm6 nL, ?_⟩
                    · rw [List.length_map, List.length_map, List.length_take]
                      exact small1000 (by omega)
                    · rw [upd_same, take_snoc hst, List.map_append, List.map_append]
                      rfl
                  refine ⟨rfl, ?_⟩
                  cases st with
                  | none =>
                    obtain rfl : x = .non := hx6
                    exact ⟨_, rfl, rfl, _, rfl, iteF (done _ rfl)⟩
                  | some p =>
                    obtain ⟨ax, rfl, tx⟩ := hx6
                    refine ⟨_, rfl, rfl, _, rfl, iteT ?_⟩
                    refine ⟨_, rfl, ax, _, _, _, rfl, rfl, tx.sq, atI_nat (j := 1) rfl, _, rfl, d, _, rfl, DGet.k (k := Sum.inl (p.2 : Int)) (sm6 _ _ hd2), ?_⟩
                    refine done _ ?_
                    rw [dk_val]
                    by_cases hp : p.2 ∈ ks'
                    · rw [if_pos hp]; simp [inb, hp]
                    · rw [if_neg hp]; simp [inb, hp]
                · rintro H6 ⟨sm6, hL⟩
                  have elen : r.steps.take ss.length = r.steps := List.take_of_length_le (by rw [hss.len]; exact Nat.le_refl _)
                  rw [elen] at hL
                  refine ⟨L, _, rfl, SqL.of hL, _, rfl, ?_⟩
                  have sm7 := sm2.trans sm6
                  have hd6 := sm6 _ _ hd2
                  have eany : ((r.steps.map (inb ks')).any id) = r.steps.any (inb ks') := by rw [List.any_map]; rfl
                  refine ite2 (fun hc => ?_) (fun hc => ?_)
                  · rw [eany] at hc
                    obtain ⟨mm, j, hm, hj⟩ := inb_any hc
                    have hcot : KM.Co M t := .step (stp_at hr_ hm) (hco' j hj)
                    refine ⟨_, rfl, _, rfl, d, _, rfl, DPut.k (k := Sum.inl (t : Int)) hd6 (by rw [dk_len]; exact small1000 (by omega)), ?_⟩
                    refine ⟨ks' ++ [t], true, _, _, rfl, Same.mut sm7 nd, ?_, nd_snoc nod' hin, ?_, fun i e he => by simp [hends' i e he], (by intro z; cases z), fun _ => ?_⟩
                    · rw [upd_same, dk_put hin]
                    · intro i hi
                      rcases List.mem_append.mp hi with hi | hi
                      · exact hco' i hi
                      · simp at hi; subst hi; exact hcot
                    · rw [List.length_append, List.length_singleton]
                      cases g' with
                      | false => rw [(hf rfl).1]; omega
                      | true => have := htr rfl; omega
                  · rw [eany] at hc
                    have hc : r.steps.any (inb ks') = false := by simpa using hc
                    refine ⟨ks', g', _, _, rfl, sm7, hd6, nod', hco', hends', fun z => ?_, htr⟩
                    obtain ⟨e1, e2'⟩ := hf z
                    refine ⟨e1, fun i hi hn m j hm => ?_⟩
                    by_cases e : i = t
                    · subst e
                      rw [← e1]
                      exact inb_not hc (stp_row hr_ hm)
                    · exact e2' i (by omega) hn m j hm
            · rintro σ' H3 ⟨ks', g', y3, y4, rfl, sm', hd', nod', hco', hends', hf, htr⟩
              exact ⟨ks', g', y3, y4, rfl, sm', hd', nod', hco', hends', hf, htr⟩
        · have hg : g = false := by cases g <;> simp_all
          subst hg
          exact ⟨_, rfl, q H2 d ks sm nd hd fun i => ⟨hco i, fun h => closed_co hends (hcl rfl) h⟩⟩
end
end KW

set_option Elab.async false
set_option linter.all false
set_option maxRecDepth 100000
set_option maxHeartbeats 4000000
/-! raw_trimmed. -/
namespace KW
open PySem PySem.Spec PyProof.Rows L2 KR KP
open KM (Mach All2)
/-! ### ascending lists -/
theorem asc_ext : ∀ (l r : List Nat), l.Pairwise (· < ·) → r.Pairwise (· < ·) → (∀ x, x ∈ l ↔ x ∈ r) → l = r
  | [], [], _, _, _ => rfl
  | [], b :: r, _, _, h => by have := (h b).mpr (by simp); simp at this
  | a :: l, [], _, _, h => by have := (h a).mp (by simp); simp at this
  | a :: l, b :: r, hl, hr, h => by
    rw [List.pairwise_cons] at hl hr
    have e : a = b := by
      have h1 := (h a).mp (by simp)
      have h2 := (h b).mpr (by simp)
      rcases List.mem_cons.mp h1 with h1 | h1
      · exact h1
      · rcases List.mem_cons.mp h2 with h2 | h2
        · exact h2.symm
        · have := hl.1 b h2
          have := hr.1 a h1
          omega
    subst e
    rw [asc_ext l r hl.2 hr.2 fun x => ?_]
    constructor
    · intro hx
      rcases List.mem_cons.mp ((h x).mp (by simp [hx])) with e | e
      · subst e; have := hl.1 x hx; omega
      · exact e
    · intro hx
      rcases List.mem_cons.mp ((h x).mpr (by simp [hx])) with e | e
      · subst e; have := hr.1 x hx; omega
      · exact e
theorem sorted_nat {ks : List Nat} {ys : List Int} (hp : ys.Perm (ks.map fun (i : Nat) => (i : Int))) (hs : ys.Pairwise (· ≤ ·)) (nd : ks.Nodup) : ∃ zs : List Nat, ys = zs.map (fun (i : Nat) => (i : Int)) ∧ zs.Pairwise (· < ·) ∧ ∀ x, x ∈ zs ↔ x ∈ ks := by
  have hm : ∀ y ∈ ys, ∃ k ∈ ks, (k : Int) = y := fun y hy => by
    have := hp.mem_iff.mp hy
    exact List.mem_map.mp this
  have he : ys = (ys.map Int.toNat).map fun (i : Nat) => (i : Int) := by
    rw [List.map_map]
    have : ys.map ((fun (i : Nat) => (i : Int)) ∘ Int.toNat) = ys.map id := List.map_congr_left fun y hy => by
      obtain ⟨k, _, rfl⟩ := hm y hy
      rfl
    rw [this, List.map_id]
  have ndy : ys.Nodup := by
    rw [hp.nodup_iff, List.nodup_iff_pairwise_ne, List.pairwise_map]
    exact (List.nodup_iff_pairwise_ne.mp nd).imp fun h e => h (by omega)
  refine ⟨ys.map Int.toNat, he, ?_, fun x => ?_⟩
  · rw [List.pairwise_map]
    refine List.Pairwise.imp_of_mem ?_ (List.Pairwise.and hs (List.nodup_iff_pairwise_ne.mp ndy))
    intro a b ha hb ⟨h1, h2⟩
    obtain ⟨k, _, rfl⟩ := hm a ha
    obtain ⟨j, _, rfl⟩ := hm b hb
    simp
    omega
  · constructor
    · intro h
      obtain ⟨y, hy, rfl⟩ := List.mem_map.mp h
      obtain ⟨k, hk, rfl⟩ := hm y hy
      simpa using hk
    · intro h
      refine List.mem_map.mpr ⟨(x : Int), hp.mem_iff.mpr (List.mem_map.mpr ⟨x, h, rfl⟩), by simp⟩
theorem kept_asc (M : Mach) : (KM.kept M).Pairwise (· < ·) := by
  unfold KM.kept
  exact List.Pairwise.filter _ List.pairwise_lt_range
theorem kept_of {M : Mach} (V : KM.Valid M) {zs le : List Nat} (hz : zs.Pairwise (· < ·)) (h1 : ∀ i, i ∈ zs ↔ KM.Reach M i) (h2 : ∀ i, i ∈ le ↔ KM.Co M i) : zs.filter (fun z => decide (z ∈ le)) = KM.kept M := by
  refine asc_ext _ _ (List.Pairwise.filter _ hz) (kept_asc M) fun x => ?_
  rw [List.mem_filter, KM.mem_kept V, h1]
  simp only [decide_eq_true_eq, h2]
  rfl
theorem flat_rep {α : Type} (x : α) : ∀ n : Nat, (List.replicate n [x]).flatten = List.replicate n x
  | 0 => rfl
  | n + 1 => by rw [List.replicate_succ, List.flatten_cons, flat_rep x n]; rfl
theorem il_get {ls : List Nat} {i : Nat} {x : V} (h : (il ls)[i]? = some x) : ∃ j, ls[i]? = some j ∧ x = V.int (j : Int) := by
  unfold il at h
  rw [List.getElem?_map] at h
  cases e : ls[i]? with
  | none => rw [e] at h; cases h
  | some j => rw [e] at h; exact ⟨j, rfl, (Option.some.inj h).symm⟩
/-- the new number of a state -/
def numV (kl : List Nat) (i j : Nat) : Option V := if j ∈ kl.take i then some (.int (kl.idxOf j : Int)) else none
section
variable {P : Program} {w : World} {K : PySem.W.Frag} {mg : Str → Option Value} {base : Heap} {aN aO : Addr}
abbrev sRawTrimmed : Stmt := topS 30
abbrev nRawTrimmed : List Str := ["machine", "first", "last", "kept", "numbers", "rows", "state", "end", "steps", "later", "number", "step"]
theorem scRawTrimmed : FnScope nRawTrimmed ["machine"] (defScope sRawTrimmed) := ⟨rfl, rfl, rfl, by decide +kernel, rfl, by decide +kernel, by decide +kernel⟩
def spTrim (K : PySem.W.Frag) : Sp := fun vs H Q _ => ∃ (v : V) (M : Mach), vs = [v] ∧ MachA K H v M ∧ KM.Valid M ∧ ∀ (H' : Hp) (z : V), Same H H' → MachA K H' z (KM.trim M) → Q z H'
theorem ok_raw_trimmed (T : Txt K mg aN aO) (D : At K mg "raw_trimmed" sRawTrimmed ["machine"]) (OR : Ok P w K mg base 1 "reached" ["machine"] (spReached K)) (OE : Ok P w K mg base 1 "ending" ["machine"] (spEnding K)) :
    Ok P w K mg base 2 "raw_trimmed" ["machine"] (spTrim K) := by
  refine D.ok scRawTrimmed (fun vs H Q E h => ?_) (fun f cdv A outer s H vs Q E hr h => ?_)
  · obtain ⟨v, M, rfl, _⟩ := h; rfl
  · obtain ⟨v, M, rfl, ⟨a, u, rfl, ta, b, rs, rfl, tb, hrs⟩, ok, q⟩ := h
    have lrs := hrs.len
    have r30 := ok.rows30
    have s1 := ok.size1
    have s8 := ok.size8
    have nd := scRawTrimmed.nd
    refine ⟨_, pss_cons (ps_asg (pe_tup (pa_cons (pe_fn OR hr (pa_cons (pv 0) pa_nil)) (pa_cons (pe_fn OE hr (pa_cons (pv 0) pa_nil)) pa_nil))) (pg_tup rfl (pgs_cons (pg_name (i := 1) nd rfl (Or.inl rfl)) (pgs_cons (pg_name (i := 2) nd rfl (Or.inr rfl)) pgs_nil))))
      (pss_cons (ps_setLc (i := 3) (own := [("state", 6)]) (g := gName 6) rfl nd rfl rfl (sw_true rfl rfl rfl (by decide +kernel)) (pi_list (pe_callB (call_sortedDI rfl) (by rfl) T.sorted boot_sorted (pa_cons (pv 1) pa_nil))) (blkOk_by (N := nRawTrimmed) (sc := defScope sRawTrimmed) (by decide +kernel))
          (fun _ _ _ _ _ => pg_name (i := 6) nd rfl (Or.inl rfl)) (fun _ _ _ _ _ => pts_one (pt_cmp (pc_din (hu_of hr) (pv 6) (pv 2)))) (fun _ _ _ _ _ => pv 6))
      (pss_cons (ps_if (pt_cmp (pc_dnotin (hu_of hr) pe_int (pv 2))) (pss_one (ps_ret (pe_tup (pa_cons (pe_ix ix_tup (pv 0) (pe_g T.size) (fun _ _ => rfl)) (pa_cons (pe_tup (pa_cons (pe_tup (pa_cons pe_non (pa_cons
            (pe_op op_repA (pe_tup (pa_cons pe_non pa_nil)) (pe_ix ix_tup (pv 0) (pe_g T.size) (fun _ _ => rfl))) pa_nil))) pa_nil)) pa_nil))))) pss_nil)
      (pss_cons (ps_set (i := 4) nd rfl (Or.inr rfl) (pe_dc (own := [("number", 10), ("state", 6)]) (g := gTup K 2 (gCons (gName 10) (gCons (gName 6) gNil))) (tt := tYes) rfl nd
          (pi_enum (by rfl) T.enumerate (pa_cons (pv 3) pa_nil)) (blkOk_by (N := nRawTrimmed) (sc := defScope sRawTrimmed) (by decide +kernel))
          (fun _ _ _ _ _ => pg_tup rfl (pgs_cons (pg_name (i := 10) nd rfl (Or.inl rfl)) (pgs_cons (pg_name (i := 6) nd rfl (Or.inl rfl)) pgs_nil)))
          (fun _ _ _ _ _ => pts_nil) (fun _ _ _ _ _ => pv 6) (fun _ _ _ _ _ => pv 10)))
      (pss_cons (ps_set (i := 5) nd rfl (Or.inl rfl) (pe_lst pa_nil))
      (pss_cons (ps_for PassesOwn.never rfl (pi_list (pv 3)) (pg_name (i := 6) nd rfl (Or.inl rfl))
        (pss_cons (ps_asg (pe_ix ix_tup (pe_ix ix_tup (pv 0) (pe_g T.rows) (fun _ _ => rfl)) (pv 6) (fun _ _ => rfl)) (pg_tup rfl (pgs_cons (pg_name (i := 7) nd rfl (Or.inl rfl)) (pgs_cons (pg_name (i := 8) nd rfl (Or.inl rfl)) pgs_nil))))
        (pss_cons (ps_setLc (i := 9) (own := [("step", 11)]) (g := gName 11) (tt := tYes) rfl nd rfl rfl (sw_true rfl rfl rfl (by decide +kernel)) (pi_tup (pv 8)) (blkOk_by (N := nRawTrimmed) (sc := defScope sRawTrimmed) (by decide +kernel))
          (fun _ _ _ _ _ => pg_name (i := 11) nd rfl (Or.inl rfl)) (fun _ _ _ _ _ => pts_nil)
          (fun _ _ _ _ _ => pe_ifExp (PW.pt (pw_or (pt_cmpR op_isN (pv 11) pe_non (nomark _)) (pw_or1 (pt_cmp (pc_dnotin (hu_of hr) (pe_ix (r := rIxT K) ix_tup (pv 11) pe_int (fun _ _ => rfl)) (pv 4)))))) pe_non
            (pe_tup (pa_cons (pe_ix (r := rIxT K) ix_tup (pv 11) pe_int (fun _ _ => rfl)) (pa_cons (pe_dget (hu_of hr) (pv 4) (pe_ix (r := rIxT K) ix_tup (pv 11) pe_int (fun _ _ => rfl)) (fun _ _ => rfl)) pa_nil)))))
        (pss_one (ps_expr (pe_bm PySem.F.plainAttrs_list PySem.F.slot_list_append PySem.F.type_list_append mt_append (pv 5) (pa_cons (pe_tup (pa_cons (pv 7) (pa_cons (pe_callTy call_tuple_of (by rfl) T.tuple boot_tuple (pa_cons (pv 9) pa_nil)) pa_nil))) pa_nil)))))))
      (pss_one (ps_ret (pe_tup (pa_cons (pe_ix ix_tup (pv 0) (pe_g T.size) (fun _ _ => rfl)) (pa_cons (pe_callTy call_tuple_of (by rfl) T.tuple boot_tuple (pa_cons (pv 5) pa_nil)) pa_nil)))))))))), ?_⟩
    -- first, last = reached(machine), ending(machine)
    refine ⟨_, rfl, _, M, rfl, ⟨a, _, rfl, ta, b, rs, rfl, tb, hrs⟩, ok, fun H1 d1 fs sm1 nd1 hd1 nfs mfs => ?_⟩
    refine ⟨_, rfl, _, M, rfl, MachA.keep (same_tup sm1) ⟨a, _, rfl, ta, b, rs, rfl, tb, hrs⟩, ok, fun H2 d2 le sm2 nd2 hd2 mle => ?_⟩
    refine ⟨by show 2 ≤ sizeLine; decide, fun tp ntp => ?_⟩
    have sm3 : Same H (upd H2 tp (.tup [.ref d1, .ref d2])) := (sm1.trans sm2).trans (same_new ntp)
    have hd13 : upd H2 tp (.tup [.ref d1, .ref d2]) d1 = some (.dK (dk fs)) := same_new ntp _ _ (sm2 _ _ hd1)
    have hd23 : upd H2 tp (.tup [.ref d1, .ref d2]) d2 = some (.dK (dk le)) := same_new ntp _ _ hd2
    refine ⟨tp, _, rfl, SqT.of upd_same, rfl, _, _, rfl, _, _, rfl, rfl, ?_⟩
    generalize upd H2 tp (.tup [.ref d1, .ref d2]) = H3 at sm3 hd13 hd23
    -- kept
    have fle : fs.length ≤ M.rows.length := len_le_of nfs fun i hi => ok.reach_lt ((mfs i).mp hi)
    refine ⟨_, rfl, d1, _, fs.map fun (i : Nat) => (i : Int), rfl, .inl hd13, by unfold dk; rw [List.map_map, List.map_map]; rfl, by rw [List.length_map]; omega, fun ys l0 hp hs nl0 => ?_⟩
    obtain ⟨zs, rfl, zasc, zmem⟩ := sorted_nat hp hs nfs
    have eil : ((zs.map fun (i : Nat) => (i : Int)).map V.int) = il zs := by unfold il; rw [List.map_map]; rfl
    rw [eil]
    have zle : zs.length ≤ 30 := by
      have := hp.length_eq
      rw [List.length_map, List.length_map] at this
      omega
    refine ⟨l0, rfl, ⟨_, SqL.of upd_same⟩, fun L nL => ?_⟩
    have sm4 : Same H3 (upd H3 l0 (.lst (il zs))) := same_new nl0
    have hl04 : upd H3 l0 (.lst (il zs)) l0 = some (.lst (il zs)) := upd_same
    generalize upd H3 l0 (.lst (il zs)) = H4 at sm4 hl04 nL
    refine lc_list (K := K) (a := l0) (xs := il zs) (fun i H' => Same H4 H' ∧ H' L = some (.lst (il ((zs.take i).filter fun z => decide (z ∈ le))))) ⟨same_new nL, upd_same⟩ (fun i H' _ ⟨sm, _⟩ => SqL.of (sm _ _ hl04)) ?_ ?_
    · rintro i x H5 hi ⟨sm5, hL⟩
      obtain ⟨j, hj, rfl⟩ := il_get hi
      refine ⟨rfl, _, rfl, _, rfl, d2, _, rfl, DGet.k (k := Sum.inl (j : Int)) (sm5 _ _ (sm4 _ _ hd23)), _, rfl, ?_⟩
      rw [dk_val]
      by_cases hm : j ∈ le
      · rw [if_pos hm]
        refine iteT ⟨_, rfl, _, hL, ?_, Same.mut sm5 nL, ?_⟩
        · rw [il_len]
          have h1 := List.length_filter_le (fun z => decide (z ∈ le)) (zs.take i)
          have h2 : (zs.take i).length ≤ i := List.length_take_le _ _
          have h3 := (List.getElem?_eq_some_iff.mp hj).1
          exact small1000 (by omega)
        · rw [upd_same, take_snoc hj, List.filter_append, ← il_snoc]
          simp [hm]
      · rw [if_neg hm]
        refine iteF ⟨sm5, ?_⟩
        rw [hL, take_snoc hj, List.filter_append]
        simp [hm]
    · rintro H5 ⟨sm5, hL⟩
      rw [il_len, List.take_length, kept_of ok zasc (fun i => (zmem i).trans (mfs i)) mle] at hL
      have smA : Same H H5 := sm3.trans (sm4.trans sm5)
      have hd25 := sm5 _ _ (sm4 _ _ hd23)
      have taA := ta.keep (same_tup smA)
      have tbA := tb.keep (same_tup smA)
      -- if 0 not in last
      refine ⟨_, rfl, d2, _, rfl, DGet.k (k := Sum.inl ((0 : Nat) : Int)) hd25, _, rfl, ?_⟩
      rw [dk_val]
      by_cases h0 : 0 ∈ le
      · have hco : KM.Co M 0 := (mle 0).mp h0
        rw [if_pos h0]
        refine iteF ?_
        generalize hkl : KM.kept M = kl at *
        have klnd : kl.Nodup := by rw [← hkl]; exact KM.kept_nodup M
        have klen : kl.length ≤ 30 := by rw [← hkl]; exact Nat.le_trans (KM.kept_len M) r30
        -- numbers
        refine ⟨_, rfl, L, _, rfl, SqL.of hL, fun dn ndn => ?_⟩
        refine dc_it (walk_enum (K := K) (a := L) (xs := il kl)) (fun i H' => ∃ kvs : List (Key × V), Same H5 H' ∧ H' dn = some (.dK kvs) ∧ kvs.length ≤ i ∧ ∀ j : Nat, valV kvs (Sum.inl (j : Int)) = numV kl i j)
          ⟨[], same_new ndn, upd_same, Nat.le_refl _, fun j => by unfold numV; simp [valV]⟩ (fun i H' _ ⟨_, sm, _⟩ => SqL.of (sm _ _ hL)) ?_ ?_
        · rintro i x H6 H7 hi ⟨kvs, sm6, hdn, hlen, hval⟩ ⟨tp, x1, x2, rfl, ntp, rfl, e1, e2⟩
          cases e1
          obtain ⟨j, hj, rfl⟩ := il_get e2
          have sm7 := sm6.trans (same_new (o := .tup [.int (i : Nat), .int (j : Int)]) ntp)
          refine ⟨tp, _, rfl, SqT.of upd_same, rfl, _, _, rfl, _, _, rfl, rfl, rfl, ?_⟩
          refine ⟨_, rfl, _, rfl, _, Sum.inl (j : Int), rfl, same_new ntp _ _ hdn, ?_, _, Same.mut sm7 ndn, upd_same, ?_, fun j' => ?_⟩
          · rw [il_len] at hi
            exact small1000 (by omega)
          · have := length_putK kvs (Sum.inl (j : Int) : Key) (V.int (i : Nat))
            omega
          · rw [valV_put]
            have eix : kl.idxOf j = i := KM.idxOf_get klnd hj
            by_cases e : j' = j
            · subst e
              rw [if_pos rfl]
              unfold numV
              rw [if_pos (by rw [take_snoc hj]; simp), eix]
            · rw [if_neg (by intro z; have z : (j' : Int) = (j : Int) := Sum.inl.inj z; omega), hval]
              unfold numV
              rw [take_snoc hj]
              have : (j' ∈ kl.take i ++ [j]) = (j' ∈ kl.take i) := by
                rw [List.mem_append, List.mem_singleton]
                exact propext ⟨fun h => h.resolve_right e, Or.inl⟩
              simp only [this]
        · rintro H6 ⟨kvs, sm6, hdn, hlen, hval⟩
          have hval' : ∀ j : Nat, valV kvs (Sum.inl (j : Int)) = if j ∈ kl then some (V.int (kl.idxOf j : Int)) else none := fun j => by
            rw [hval j]
            unfold numV
            rw [il_len, List.take_length]
          -- rows = []
          refine ⟨Nat.zero_le _, fun R nR => ?_⟩
          have sm7 : Same H5 (upd H6 R (.lst [])) := sm6.trans (same_new nR)
          have hdn7 : upd H6 R (.lst []) dn = some (.dK kvs) := same_new nR _ _ hdn
          have nRH : H R = none := (smA.trans sm6).free nR
          have nRdn : R ≠ dn := fun e => by rw [e, hdn] at nR; cases nR
          have nRL : R ≠ L := fun e => by rw [e, sm6 _ _ hL] at nR; cases nR
          refine ⟨_, rfl, L, rfl, ⟨_, SqL.of (sm7 _ _ hL)⟩, for_list (K := K) (a := L) (xs := il kl) (fun i σ H' => ∃ (x6 x7 x8 x9 : Option V) (vs : List V), σ = [some (.ref a), some (.ref d1), some (.ref d2), some (.ref L), some (.ref dn), some (.ref R), x6, x7, x8, x9, none, none] ∧
              Same H H' ∧ H' L = some (.lst (il kl)) ∧ H' dn = some (.dK kvs) ∧ H' R = some (.lst vs) ∧ All2 (RowA K H') vs ((kl.take i).map fun j => KM.trimRow kl (M.rows.getD j KM.noRow)))
            ⟨none, none, none, none, [], rfl, smA.trans sm7, sm7 _ _ hL, hdn7, upd_same, .nil⟩ (fun i σ H' _ ⟨_, _, _, _, _, _, _, h, _⟩ => SqL.of h) ?_ ?_⟩
          · rintro i y σ H8 hi ⟨x6, x7, x8, x9, vs, rfl, sm8, hL8, hdn8, hR8, hvs⟩
            obtain ⟨j, hj, rfl⟩ := il_get hi
            have hjk : j ∈ KM.kept M := by rw [hkl]; exact List.mem_of_getElem? hj
            have hjr := KM.getD_row (KM.kept_lt ok hjk)
            obtain ⟨xr, hxr, ar, br, ss, rfl, tr, ts, hss⟩ := hrs.getR hjr
            obtain ⟨r, er⟩ : ∃ r, M.rows.getD j KM.noRow = r := ⟨_, rfl⟩
            rw [er] at hjr tr hss
            have g8 := same_tup sm8
            refine ⟨_, rfl, a, _, _, _, rfl, rfl, (ta.keep g8).sq, atI_nat (j := 1) rfl, _, rfl, b, rs, _, _, rfl, rfl, (tb.keep g8).sq, atI_nat hxr, ar, _, rfl, (tr.keep g8).sq, rfl, _, _, rfl, _, _, rfl, rfl, ?_⟩
            -- later
            refine ⟨_, rfl, br, rfl, ⟨_, (ts.keep g8).sq⟩, fun LL nLL => ?_⟩
            refine lc_tup (K := K) (a := br) (xs := ss) (fun t H' => ∃ ws : List V, Same H8 H' ∧ H' LL = some (.lst ws) ∧ All2 (StepA K H') ws ((r.steps.take t).map (KM.renum kl))) ⟨[], same_new nLL, upd_same, .nil⟩ (fun t H' _ ⟨_, sm, _⟩ => ((ts.keep g8).keep (same_tup sm)).sq) ?_ ?_
            · rintro t x H9 ht ⟨ws, sm9, hLL, hws⟩
              obtain ⟨st, hst, hx⟩ := hss.get ht
              have hx9 := (hx.keep g8).keep (same_tup sm9)
              have l8 := ok.len r (List.mem_of_getElem? hjr)
              have hts : t < r.steps.length := (List.getElem?_eq_some_iff.mp hst).1
              have lws := hws.len
              rw [List.length_map, List.length_take] at lws
              have done : ∀ (z : V) (H10 : Hp), Same H9 H10 → StepA K H10 z (KM.renum kl st) → ∃ acc, H10 LL = some (.lst acc) ∧ acc.length < sizeLine ∧ ∃ ws' : List V, Same H8 (upd H10 LL (.lst (acc ++ [z]))) ∧ upd H10 LL (.lst (acc ++ [z])) LL = some (.lst ws') ∧ All2 (StepA K (upd H10 LL (.lst (acc ++ [z])))) ws' ((r.steps.take (t + 1)).map (KM.renum kl)) := by
                intro z H10 sm10 hz
                refine ⟨ws, sm10 _ _ hLL, small1000 (by omega), ws ++ [z], Same.mut (sm9.trans sm10) nLL, upd_same, ?_⟩
                rw [take_snoc hst, List.map_append]
                have gl : Tup H10 (upd H10 LL (.lst (ws ++ [z]))) := tup_lst (sm10 _ _ hLL)
                exact ((hws.mono fun _ _ h => (h.keep (same_tup sm10)).keep gl)).snoc (hz.keep gl)
              refine ⟨rfl, ?_⟩
              cases st with
              | none =>
                obtain rfl : x = .non := hx9
                exact ⟨_, rfl, rfl, _, rfl, iteT (done _ _ (Same.refl _) rfl)⟩
              | some p =>
                obtain ⟨ax, rfl, tx⟩ := hx9
                refine ⟨_, rfl, rfl, _, rfl, iteF ?_⟩
                refine ⟨_, rfl, ax, _, _, _, rfl, rfl, tx.sq, atI_nat (j := 1) rfl, _, rfl, dn, _, rfl, DGet.k (k := Sum.inl (p.2 : Int)) (sm9 _ _ hdn8), _, rfl, ?_⟩
                rw [hval']
                by_cases hp : p.2 ∈ kl
                · rw [if_pos hp]
                  refine iteF ?_
                  refine ⟨_, rfl, ax, _, _, _, rfl, rfl, tx.sq, atI_nat (j := 0) rfl, _, rfl, _, rfl, ax, _, _, _, rfl, rfl, tx.sq, atI_nat (j := 1) rfl, dn, V.int (kl.idxOf p.2 : Int), rfl, ?_, by show 2 ≤ sizeLine; decide, fun tq ntq => ?_⟩
                  · have e : valV kvs (Sum.inl (p.2 : Int)) = some (V.int (kl.idxOf p.2 : Int)) := by rw [hval', if_pos hp]
                    rw [← e]
                    exact DGet.k (k := Sum.inl (p.2 : Int)) (sm9 _ _ hdn8)
                  · refine done _ _ (same_new ntq) ?_
                    have e : KM.renum kl (some p) = some (p.1, kl.idxOf p.2) := if_pos hp
                    rw [e]
                    exact ⟨tq, rfl, .inl upd_same⟩
                · rw [if_neg hp]
                  refine iteT ?_
                  refine done _ _ (Same.refl _) ?_
                  have e : KM.renum kl (some p) = none := if_neg hp
                  rw [e]
                  rfl
            · rintro H9 ⟨ws, sm9, hLL, hws⟩
              rw [List.take_of_length_le (by rw [hss.len]; exact Nat.le_refl _)] at hws
              have lws := hws.len
              have l8 := ok.len r (List.mem_of_getElem? hjr)
              rw [List.length_map] at lws
              -- rows.append((end, tuple(later)))
              have hR9 := sm9 _ _ hR8
              refine ⟨_, rfl, .inl ⟨rfl, _, SqL.of hR9⟩, _, rfl, _, rfl, LL, _, rfl, .inl ⟨SqL.of hLL, fun tt ntt => ?_⟩⟩
              refine ⟨by show 2 ≤ sizeLine; decide, fun tq ntq => ?_⟩
              have g1 : Tup H9 (upd H9 tt (.tup ws)) := tup_new ntt
              have g2 : Tup (upd H9 tt (.tup ws)) (upd (upd H9 tt (.tup ws)) tq (.tup [optV r.fin, .ref tt])) := tup_new ntq
              have hR10 : upd (upd H9 tt (.tup ws)) tq (.tup [optV r.fin, .ref tt]) R = some (.lst vs) := same_new ntq _ _ (same_new ntt _ _ hR9)
              have g3 : Tup (upd (upd H9 tt (.tup ws)) tq (.tup [optV r.fin, .ref tt])) (upd (upd (upd H9 tt (.tup ws)) tq (.tup [optV r.fin, .ref tt])) R (.lst (vs ++ [.ref tq]))) := tup_lst hR10
              have lvs := hvs.len
              rw [List.length_map, List.length_take] at lvs
              refine ⟨R, _, _, rfl, rfl, hR10, small1000 (by omega), _, _, _, _, vs ++ [.ref tq], rfl, Same.mut (((sm8.trans sm9).trans (same_new ntt)).trans (same_new ntq)) nRH, ?_, ?_, upd_same, ?_⟩
              · rw [upd_ne nRL.symm]
                exact same_new ntq _ _ (same_new ntt _ _ (sm9 _ _ hL8))
              · rw [upd_ne nRdn.symm]
                exact same_new ntq _ _ (same_new ntt _ _ (sm9 _ _ hdn8))
              · rw [take_snoc hj, List.map_append]
                refine ((hvs.mono fun _ _ h => (((h.keep (same_tup sm9)).keep g1).keep g2).keep g3)).snoc ?_
                show RowA K _ (.ref tq) (KM.trimRow kl (M.rows.getD j KM.noRow))
                rw [er]
                refine ⟨tq, tt, ws, rfl, .inl (g3 _ _ upd_same), .inl (g3 _ _ (g2 _ _ upd_same)), (((hws.mono fun _ _ h => h.keep g1).mono fun _ _ h => h.keep g2).mono fun _ _ h => h.keep g3)⟩
          · rintro σ H8 ⟨x6, x7, x8, x9, vs, rfl, sm8, hL8, hdn8, hR8, hvs⟩
            rw [il_len, List.take_length] at hvs
            have g8 := same_tup sm8
            -- return (machine[SIZE], tuple(rows))
            refine ⟨_, rfl, a, _, _, _, rfl, rfl, (ta.keep g8).sq, atI_nat (j := 0) rfl, _, rfl, R, _, rfl, .inl ⟨SqL.of hR8, fun tt ntt => ?_⟩⟩
            refine ⟨by show 2 ≤ sizeLine; decide, fun tq ntq => ?_⟩
            have g1 : Tup H8 (upd H8 tt (.tup vs)) := tup_new ntt
            have g2 : Tup (upd H8 tt (.tup vs)) (upd (upd H8 tt (.tup vs)) tq (.tup [.int (M.size : Int), .ref tt])) := tup_new ntq
            refine q _ _ ((sm8.trans (same_new ntt)).trans (same_new ntq)) ?_
            rw [KM.trim_co hco, hkl]
            exact ⟨tq, .ref tt, rfl, .inl upd_same, tt, vs, rfl, .inl (g2 _ _ upd_same), (hvs.mono fun _ _ h => (h.keep g1).keep g2)⟩
      · have hco : ¬ KM.Co M 0 := fun h => h0 ((mle 0).mpr h)
        rw [if_neg h0]
        refine iteT ?_
        refine ⟨_, rfl, a, _, _, _, rfl, rfl, taA.sq, atI_nat (j := 0) rfl, by show 1 ≤ sizeLine; decide, fun t1 nt1 => ?_⟩
        have g1 : Tup H5 (upd H5 t1 (.tup [.non])) := tup_new nt1
        have fin : ∀ (H6 : Hp) (t2 : Addr), Same H5 H6 → TpA K H6 t2 (List.replicate M.size .non) → (2 ≤ sizeLine ∧ ∀ p, H6 p = none → (1 ≤ sizeLine ∧ ∀ p2, upd H6 p (.tup [.non, .ref t2]) p2 = none →
            (2 ≤ sizeLine ∧ ∀ p3, upd (upd H6 p (.tup [.non, .ref t2])) p2 (.tup [.ref p]) p3 = none → Q (.ref p3) (upd (upd (upd H6 p (.tup [.non, .ref t2])) p2 (.tup [.ref p])) p3 (.tup [.int (M.size : Int), .ref p2]))))) := by
          intro H6 t2 sm6 ht2
          refine ⟨by decide, fun p np => ⟨by decide, fun p2 np2 => ⟨by decide, fun p3 np3 => ?_⟩⟩⟩
          have k1 := same_new (o := .tup [.non, .ref t2]) np
          have k2 := same_new (o := .tup [.ref p]) np2
          have k3 := same_new (o := .tup [.int (M.size : Int), .ref p2]) np3
          refine q _ _ ((((smA.trans sm6).trans k1).trans k2).trans k3) ?_
          rw [KM.trim_no hco]
          refine ⟨p3, .ref p2, rfl, .inl upd_same, p2, [.ref p], rfl, .inl (k3 _ _ upd_same), All2.one ⟨p, t2, _, rfl, .inl (k3 _ _ (k2 _ _ upd_same)), ((ht2.keep (same_tup k1)).keep (same_tup k2)).keep (same_tup k3), KM.All2.rep (F := StepA K _) (a := V.non) (b := none) rfl M.size⟩⟩
        refine ⟨_, rfl, a, _, _, _, rfl, rfl, (taA.keep g1).sq, atI_nat (j := 0) rfl, t1, _, _, rfl, rfl, SqT.of upd_same, (by intro z; cases z), by omega, by omega, by show 1 ≤ 1000; decide, fun hk => ?_, fun hk t2 nt2 => ?_⟩
        · refine fin _ t1 (same_new nt1) ?_
          have e : M.size = 1 := by omega
          rw [e]
          exact .inl upd_same
        · refine fin _ t2 ((same_new nt1).trans (same_new nt2)) ?_
          exact .inl (by rw [upd_same, Int.toNat_natCast, flat_rep])
end
end KW

set_option Elab.async false
set_option linter.all false
set_option maxRecDepth 100000
set_option maxHeartbeats 4000000
/-! less_times, first_with, solved. -/
namespace KW
open PySem PySem.Spec PyProof.Rows L2 KR KP
open KM (Mach All2)
/-! ### rows and matrices of fractions -/
def RowF (K : PySem.W.Frag) (H : Hp) (v : V) (wd : Nat) (f : Nat → Rat) : Prop := ∃ (l : Addr) (fs : List V), v = .ref l ∧ H l = some (.lst fs) ∧ fs.length = wd ∧ ∀ (j : Nat) (x : V), fs[j]? = some x → FrA K H x (f j)
def MatL (K : PySem.W.Frag) (H : Hp) (R : Addr) (rs : List V) (wd : Nat) (m : Nat → Nat → Rat) : Prop := H R = some (.lst rs) ∧ ∀ (i : Nat) (v : V), rs[i]? = some v → v ≠ .ref R ∧ RowF K H v wd (m i)
section
variable {K : PySem.W.Frag} {H H' : Hp} {v : V} {wd : Nat} {f : Nat → Rat} {m : Nat → Nat → Rat} {R : Addr} {rs : List V}
theorem RowF.same (s : Same H H') (h : RowF K H v wd f) : RowF K H' v wd f := by
  obtain ⟨l, fs, e, hl, len, hx⟩ := h
  exact ⟨l, fs, e, s _ _ hl, len, fun j x hj => (hx j x hj).keep (same_tup s)⟩
theorem RowF.congr {g : Nat → Rat} (h : RowF K H v wd f) (e : ∀ j, j < wd → f j = g j) : RowF K H v wd g := by
  obtain ⟨l, fs, ev, hl, len, hx⟩ := h
  refine ⟨l, fs, ev, hl, len, fun j x hj => ?_⟩
  have := (List.getElem?_eq_some_iff.mp hj).1
  rw [← e j (by omega)]
  exact hx j x hj
theorem RowF.upd {rs' : List V} (hR : H R = some (.lst rs)) (n : v ≠ .ref R) (h : RowF K H v wd f) : RowF K (upd H R (.lst rs')) v wd f := by
  obtain ⟨l, fs, e, hl, len, hx⟩ := h
  refine ⟨l, fs, e, ?_, len, fun j x hj => (hx j x hj).keep (tup_lst hR)⟩
  rw [upd_ne (fun z => n (by rw [e, z]))]
  exact hl
theorem MatL.same (s : Same H H') (h : MatL K H R rs wd m) : MatL K H' R rs wd m :=
  ⟨s _ _ h.1, fun i v hi => ⟨(h.2 i v hi).1, (h.2 i v hi).2.same s⟩⟩
theorem MatL.set {k : Nat} (h : MatL K H R rs wd m) (n : v ≠ .ref R) (hv : RowF K H v wd f) : MatL K (L2.upd H R (.lst (rs.set k v))) R (rs.set k v) wd (fun i => if i = k then f else m i) := by
  refine ⟨upd_same, fun i u hi => ?_⟩
  by_cases e : i = k
  · subst e
    have hlt : i < rs.length := by
      have := (List.getElem?_eq_some_iff.mp hi).1
      rwa [List.length_set] at this
    rw [List.getElem?_set_self hlt] at hi
    cases hi
    refine ⟨n, ?_⟩
    dsimp only
    rw [if_pos rfl]
    exact hv.upd h.1 n
  · rw [List.getElem?_set_ne (fun z => e z.symm)] at hi
    obtain ⟨a, b⟩ := h.2 i u hi
    refine ⟨a, ?_⟩
    dsimp only
    rw [if_neg e]
    exact b.upd h.1 a
end
def frD (r : Rat) : PyData := .tuple [.int r.num, .int (r.den : Int)]
theorem frD_shaped (r : Rat) : SeqAt.shaped (frD r) = true := rfl
theorem rat_eq {x y : Rat} : (x.num = y.num ∧ (x.den : Int) = (y.den : Int)) ↔ x = y := by
  constructor
  · rintro ⟨h1, h2⟩
    exact Rat.ext h1 (by omega)
  · rintro rfl; exact ⟨rfl, rfl⟩
theorem frD_eqv (x y : Rat) : PyData.eqv (frD x) (frD y) = decide (x = y) := by
  show ((x.num == y.num) && (((x.den : Int) == (y.den : Int)) && true)) = _
  rw [Bool.and_true, Bool.eq_iff_iff, Bool.and_eq_true, beq_iff_eq, beq_iff_eq, decide_eq_true_iff]
  exact rat_eq
theorem FrA.dp {K : PySem.W.Frag} {H : Hp} {v : V} {r : Rat} (h : FrA K H v r) : Dp K H v (frD r) := by
  obtain ⟨a, rfl, t⟩ := h
  exact .tup t.sq (.cons (.int _) (.cons (.int _) .nil))
theorem small_mul {n m : Nat} {x y : Rat} (hx : KM.Small n x) (hy : KM.Small m y) : KM.Small (n + m) (x * y) := by
  have e : x * y = Rat.divInt (x.num * y.num) ((x.den : Int) * (y.den : Int)) := by
    rw [Rat.mul_def', ← Int.natCast_mul, Rat.divInt_ofNat]
  rw [e]
  refine ⟨Nat.lt_of_le_of_lt (KM.divInt_num_le _ _) (wide_lt (small_bits hx).1 (small_bits hy).1), Nat.lt_of_le_of_lt (KM.divInt_den_le (Int.mul_ne_zero (den_ne x) (den_ne y))) (wide_lt (small_bits hx).2 (small_bits hy).2)⟩
theorem small_mono {n m : Nat} {x : Rat} (h : KM.Small n x) (hnm : n ≤ m) : KM.Small m x :=
  ⟨Nat.lt_of_lt_of_le h.1 (Nat.pow_le_pow_right (by decide) hnm), Nat.lt_of_lt_of_le h.2 (Nat.pow_le_pow_right (by decide) hnm)⟩
section
variable {P : Program} {w : World} {K : PySem.W.Frag} {mg : Str → Option Value} {base : Heap} {aN aO : Addr}
/-! ### less_times -/
abbrev sLessTimes : Stmt := topS 32
abbrev nLessTimes : List Str := ["row", "other", "factor", "one", "two"]
theorem scLessTimes : FnScope nLessTimes ["row", "other", "factor"] (defScope sLessTimes) := ⟨rfl, rfl, rfl, by decide +kernel, rfl, by decide +kernel, by decide +kernel⟩
def spLessTimes (K : PySem.W.Frag) : Sp := fun vs H Q _ => ∃ (v u c : V) (wd : Nat) (f g : Nat → Rat) (y : Rat), vs = [v, u, c] ∧ RowF K H v wd f ∧ RowF K H u wd g ∧ FrA K H c y ∧ wd ≤ 1000 ∧
  (∀ j, j < wd → KM.Small 2200 (f j)) ∧ (∀ j, j < wd → KM.Small 2200 (g j)) ∧ KM.Small 2200 y ∧ ∀ (H' : Hp) (p : Addr), Same H H' → H p = none → RowF K H' (.ref p) wd (fun j => f j - y * g j) → Q (.ref p) H'
theorem ok_less_times (T : Txt K mg aN aO) (D : At K mg "less_times" sLessTimes ["row", "other", "factor"]) (OM : Ok P w K mg base 2 "minus" ["one", "other"] (spFr2 K (fun _ _ => True) fun x y => x - y))
    (OT : Ok P w K mg base 2 "times" ["one", "other"] (spFr2 K (fun _ _ => True) fun x y => x * y)) : Ok P w K mg base 3 "less_times" ["row", "other", "factor"] (spLessTimes K) := by
  refine D.ok scLessTimes (fun vs H Q E h => ?_) (fun f cdv A outer s H vs Q E hr h => ?_)
  · obtain ⟨v, u, c, wd, f, g, y, rfl, _⟩ := h; rfl
  · obtain ⟨v, u, c, wd, f, g, y, rfl, ⟨l1, fs, rfl, hl1, len1, hx1⟩, ⟨l2, gs, rfl, hl2, len2, hx2⟩, hc, w1000, sf, sg, sy, q⟩ := h
    have nd := scLessTimes.nd
    refine ⟨_, pss_one (ps_ret (pe_lc (own := [("one", 3), ("two", 4)]) (g := gTup K 2 (gCons (gName 3) (gCons (gName 4) gNil))) (tt := tYes) rfl nd (pi_zip (by rfl) T.zip (pa_cons (pv 0) (pa_cons (pv 1) pa_nil))) (blkOk_by (N := nLessTimes) (sc := defScope sLessTimes) (by decide +kernel))
        (fun _ _ _ _ _ => pg_tup rfl (pgs_cons (pg_name (i := 3) nd rfl (Or.inl rfl)) (pgs_cons (pg_name (i := 4) nd rfl (Or.inl rfl)) pgs_nil))) (fun _ _ _ _ _ => pts_nil)
        (fun _ _ _ _ _ => pe_fn OM hr (pa_cons (pv 3) (pa_cons (pe_fn OT hr (pa_cons (pv 2) (pa_cons (pv 4) pa_nil))) pa_nil))))), ?_⟩
    refine ⟨_, rfl, _, rfl, l1, l2, fs, gs, rfl, SqL.of hl1, SqL.of hl2, fun L nL => ?_⟩
    refine lc_it (walk_zip (K := K) (a := l1) (b := l2) (xs := fs) (ys := gs) (n := wd) (by omega)) (fun i H' => ∃ ws : List V, Same H H' ∧ H' L = some (.lst ws) ∧ ws.length = i ∧ ∀ (j : Nat) (x : V), ws[j]? = some x → FrA K H' x (f j - y * g j))
      ⟨[], same_new nL, upd_same, rfl, fun j x h => by simp at h⟩ (fun i H' _ ⟨_, sm, _⟩ => ⟨SqL.of (sm _ _ hl1), SqL.of (sm _ _ hl2)⟩) ?_ ?_
    · rintro i x H1 H2 hi ⟨ws, sm, hL, lws, hws⟩ ⟨tp, x1, x2, rfl, ntp, rfl, e1, e2⟩
      have sm2 := sm.trans (same_new (o := .tup [x1, x2]) ntp)
      have g2 := same_tup sm2
      have a1 := (hx1 i x1 e1).keep g2
      have a2 := (hx2 i x2 e2).keep g2
      refine ⟨tp, _, rfl, SqT.of upd_same, rfl, _, _, rfl, _, _, rfl, rfl, rfl, ?_⟩
      refine ⟨_, rfl, _, rfl, _, rfl, _, _, y, g i, rfl, hc.keep g2, a2, small_mono sy (by decide), small_mono (sg i hi) (by decide), trivial, fun H3 z sm3 hz => ?_⟩
      refine ⟨_, _, f i, y * g i, rfl, a1.keep (same_tup sm3), hz, small_mono (sf i hi) (by decide), small_mono (small_mul sy (sg i hi)) (by decide), trivial, fun H4 z2 sm4 hz2 => ?_⟩
      have hL4 := sm4 _ _ (sm3 _ _ (same_new (o := .tup [x1, x2]) ntp _ _ hL))
      have gl : Tup H4 (upd H4 L (.lst (ws ++ [z2]))) := tup_lst hL4
      refine ⟨ws, hL4, small1000 (by omega), ws ++ [z2], Same.mut ((sm2.trans sm3).trans sm4) nL, upd_same, by simp [lws], fun j x hj => ?_⟩
      by_cases hjl : j < ws.length
      · rw [List.getElem?_append_left hjl] at hj
        exact ((((hws j x hj).keep (same_tup (same_new ntp))).keep (same_tup sm3)).keep (same_tup sm4)).keep gl
      · rw [List.getElem?_append_right (by omega)] at hj
        have e : j = ws.length := by
          have := (List.getElem?_eq_some_iff.mp hj).1
          simp at this
          omega
        subst e
        simp at hj
        subst hj
        rw [lws]
        exact hz2.keep gl
    · rintro H1 ⟨ws, sm, hL, lws, hws⟩
      exact q H1 L sm nL ⟨L, ws, rfl, hL, lws, hws⟩
/-! ### first_with -/
abbrev sFirstWith : Stmt := topS 33
abbrev nFirstWith : List Str := ["rows", "column", "begin", "at"]
theorem scFirstWith : FnScope nFirstWith ["rows", "column", "begin"] (defScope sFirstWith) := ⟨rfl, rfl, rfl, by decide +kernel, rfl, by decide +kernel, by decide +kernel⟩
def spFirstWith (K : PySem.W.Frag) : Sp := fun vs H Q _ => ∃ (R : Addr) (rs : List V) (c b wd : Nat) (m : Nat → Nat → Rat), vs = [.ref R, .int (c : Int), .int (b : Int)] ∧ MatL K H R rs wd m ∧ c < wd ∧ rs.length ≤ 1000 ∧ b ≤ rs.length ∧
  (∀ d, b ≤ d → d < rs.length → m d c ≠ 0 → Q (.int (d : Int)) H) ∧ ((∀ i, b ≤ i → i < rs.length → m i c = 0) → Q .non H)
theorem ok_first_with (T : Txt K mg aN aO) (D : At K mg "first_with" sFirstWith ["rows", "column", "begin"]) : Ok P w K mg base 1 "first_with" ["rows", "column", "begin"] (spFirstWith K) := by
  refine D.ok scFirstWith (fun vs H Q E h => ?_) (fun f cdv A outer s H vs Q E hr h => ?_)
  · obtain ⟨R, rs, c, b, wd, m, rfl, _⟩ := h; rfl
  · obtain ⟨R, rs, c, b, wd, m, rfl, hM, hc, r1000, hb, q1, q2⟩ := h
    have nd := scFirstWith.nd
    refine ⟨_, pss_cons (ps_for PassesOwn.never rfl (pi_range2 (by rfl) T.range (pa_cons (pv 2) (pa_cons (pe_callB call_len_seq (by rfl) T.len boot_len (pa_cons (pv 0) pa_nil)) pa_nil))) (pg_name (i := 3) nd rfl (Or.inl rfl))
        (pss_one (ps_if (pt_cmpR (op_neD hr.units) (pe_ix ix_list (pe_ix ix_list (pv 0) (pv 3) (fun _ _ => rfl)) (pv 1) (fun _ _ => rfl)) (pe_g T.nought) (nomark _)) (pss_one (ps_ret (pv 3))) pss_nil)))
      (pss_one (ps_ret pe_non)), ?_⟩
    refine ⟨_, rfl, _, rfl, R, _, rfl, .inl (SqL.of hM.1), _, _, rfl, ⟨by omega, by omega, by omega, by omega⟩, ?_⟩
    have en : ((rs.length : Int) - (b : Int)).toNat = rs.length - b := by omega
    rw [en]
    refine for_range (lo := (b : Int)) (n := rs.length - b) (fun i σ H' => ∃ x : Option V, σ = [some (.ref R), some (.int (c : Int)), some (.int (b : Int)), x] ∧ H' = H ∧ ∀ k, b ≤ k → k < b + i → m k c = 0) ⟨none, rfl, rfl, fun k h1 h2 => by omega⟩ ?_ ?_
    · rintro i σ H' hi ⟨x, rfl, rfl, hz⟩
      obtain ⟨v, hv⟩ : ∃ v, rs[b + i]? = some v := ⟨_, List.getElem?_eq_getElem (by omega)⟩
      obtain ⟨_, l, fs, rfl, hl, len, hx⟩ := hM.2 _ _ hv
      obtain ⟨y, hy⟩ : ∃ y, fs[c]? = some y := ⟨_, List.getElem?_eq_getElem (by omega)⟩
      have hf := hx c y hy
      refine ⟨_, rfl, _, rfl, R, _, _, _, rfl, rfl, SqL.of hM.1, at_of (j := b + i) (by omega) hv, _, rfl, l, _, _, _, rfl, rfl, SqL.of hl, atI_nat hy, ?_⟩
      refine ⟨frD (m (b + i) c), frD 0, FrA.dp hf, FrA.dp ⟨aN, rfl, .inr T.noughtT⟩, frD_shaped _, frD_shaped _, _, rfl, ?_⟩
      rw [frD_eqv]
      by_cases h0 : m (b + i) c = 0
      · rw [decide_eq_true h0]
        refine iteF ⟨_, rfl, rfl, fun k h1 h2 => ?_⟩
        by_cases e : k = b + i
        · rw [e]; exact h0
        · exact hz k h1 (by omega)
      · rw [decide_eq_false h0]
        refine iteT ⟨_, rfl, ?_⟩
        have e : ((b : Int) + (i : Int)) = ((b + i : Nat) : Int) := by omega
        show Q (.int ((b : Int) + (i : Int))) H'
        rw [e]
        exact q1 (b + i) (by omega) (by omega) h0
    · rintro σ H' ⟨x, rfl, rfl, hz⟩
      exact q2 fun i h1 h2 => hz i h1 (by omega)
end
end KW

set_option Elab.async false
set_option linter.all false
set_option maxRecDepth 100000
set_option maxHeartbeats 4000000
/-! solved. -/
namespace KW
open PySem PySem.Spec PyProof.Rows L2 KR KP
open KM (Mach All2)
section
variable {K : PySem.W.Frag} {H H' : Hp} {v : V} {wd : Nat} {m m' : Nat → Nat → Rat} {R : Addr} {rs : List V}
theorem MatL.congr (h : MatL K H R rs wd m) (e : ∀ i j, i < rs.length → j < wd → m i j = m' i j) : MatL K H R rs wd m' :=
  ⟨h.1, fun i v hi => ⟨(h.2 i v hi).1, (h.2 i v hi).2.congr fun j hj => e i j (List.getElem?_eq_some_iff.mp hi).1 hj⟩⟩
theorem MatL.row (h : MatL K H R rs wd m) {i : Nat} (hi : i < rs.length) : ∃ v, rs[i]? = some v ∧ v ≠ .ref R ∧ RowF K H v wd (m i) := ⟨_, List.getElem?_eq_getElem hi, h.2 i _ (List.getElem?_eq_getElem hi)⟩
end
def rTupOf (K : PySem.W.Frag) : List V → Hp → VK → Prop := fun xs H Q => ∃ p ys, xs = [.ref p] ∧ ((SqL K H p ys ∧ ∀ l, H l = none → Q (.ref l) (upd H l (.tup ys))) ∨ (SqT K H p ys ∧ Q (.ref p) H))
theorem call_tupK {X : Cx} : CallR X (.type "tuple") (rTupOf X.K) := call_tuple_of
def rListOf (K : PySem.W.Frag) : List V → Hp → VK → Prop := fun xs H Q => ∃ p ys, xs = [.ref p] ∧ (SqL K H p ys ∨ SqT K H p ys) ∧ ∀ l, H l = none → Q (.ref l) (upd H l (.lst ys))
theorem call_listK {X : Cx} : CallR X (.type "list") (rListOf X.K) := call_list_of
theorem cut_all (xs : List V) (n : Nat) (h : xs.length = n) : cutV xs none (some (n : Int)) = xs := by
  unfold cutV
  rw [HT.sIx_none, HT.sIx_nat, h]
  simp [← h]
theorem cut_from (xs : List V) (n : Nat) (h : n ≤ xs.length) : cutV xs (some (n : Int)) none = xs.drop n := by
  unfold cutV
  rw [HT.sIx_none, HT.sIx_nat, Nat.min_eq_left h, ← List.length_drop, List.take_length]
section
variable {P : Program} {w : World} {K : PySem.W.Frag} {mg : Str → Option Value} {base : Heap} {aN aO : Addr}
abbrev sSolved : Stmt := topS 34
abbrev nSolved : List Str := ["rows", "many", "column", "at", "pivot", "other", "row", "one"]
theorem scSolved : FnScope nSolved ["rows", "many"] (defScope sSolved) := ⟨rfl, rfl, rfl, by decide +kernel, rfl, by decide +kernel, by decide +kernel⟩
def spSolved (K : PySem.W.Frag) : Sp := fun vs H Q _ => ∃ (R : Addr) (rs : List V) (n : Nat) (N : Nat → Nat → Rat), vs = [.ref R, .int (n : Int)] ∧ MatL K H R rs (n + 1) N ∧ rs.length = n ∧ n ≤ 30 ∧ KM.Scaled n N ∧
  (∀ (H' : Hp) (p : Addr) (ts : List V) (m : Nat → Nat → Rat), Same H H' → KM.GJ n n N m → (∀ i, i < n → m i i = 1) → (∀ i j, i < n → j < n + 1 → KM.Small 2200 (m i j)) → H' p = some (.lst ts) → ts.length = n →
    (∀ (i : Nat) (v : V), ts[i]? = some v → ∃ (t : Addr) (x : V), v = .ref t ∧ TpA K H' t [x] ∧ FrA K H' x (m i n)) → Q (.ref p) H') ∧
  (∀ (H' : Hp) (k : Nat) (m : Nat → Nat → Rat), Same H H' → KM.GJ n k N m → k < n → (∀ i, k ≤ i → i < n → m i k = 0) → Q .non H')
theorem ok_solved (T : Txt K mg aN aO) (D : At K mg "solved" sSolved ["rows", "many"]) (OF : Ok P w K mg base 1 "first_with" ["rows", "column", "begin"] (spFirstWith K)) (OD : Ok P w K mg base 2 "divided" ["one", "other"] (spFr2 K (fun _ y => y ≠ 0) fun x y => x / y))
    (OL : Ok P w K mg base 3 "less_times" ["row", "other", "factor"] (spLessTimes K)) : Ok P w K mg base 4 "solved" ["rows", "many"] (spSolved K) := by
  refine D.ok scSolved (fun vs H Q E h => ?_) (fun f cdv A outer s H vs Q E hr h => ?_)
  · obtain ⟨R, rs, n, N, rfl, _⟩ := h; rfl
  · obtain ⟨R0, rs0, n, N, rfl, hM0, hlen, hn, hsc, q1, q2⟩ := h
    have nd := scSolved.nd
    refine ⟨_, pss_cons (ps_setLc (i := 0) (own := [("row", 6)]) (g := gName 6) (tt := tYes) rfl nd rfl rfl (sw_true rfl rfl rfl (by decide +kernel)) (pi_list (pv 0)) (blkOk_by (N := nSolved) (sc := defScope sSolved) (by decide +kernel))
          (fun _ _ _ _ _ => pg_name (i := 6) nd rfl (Or.inl rfl)) (fun _ _ _ _ _ => pts_nil) (fun _ _ _ _ _ => pe_callTy (r := rListOf K) call_listK (by rfl) T.list boot_list (pa_cons (pv 6) pa_nil)))
      (pss_cons (ps_for PassesOwn.never rfl (pi_range1 (by rfl) T.range (pa_cons (pv 1) pa_nil)) (pg_name (i := 2) nd rfl (Or.inl rfl))
        (pss_cons (ps_set (i := 3) nd rfl (Or.inl rfl) (pe_fn OF (hr.mono (by decide)) (pa_cons (pv 0) (pa_cons (pv 2) (pa_cons (pv 2) pa_nil)))))
        (pss_cons (ps_if (pt_cmpR op_isN (pv 3) pe_non (nomark _)) (pss_one (ps_ret pe_non)) pss_nil)
        (pss_cons (ps_asg (pe_tup (pa_cons (pe_ix ix_list (pv 0) (pv 3) (fun _ _ => rfl)) (pa_cons (pe_ix ix_list (pv 0) (pv 2) (fun _ _ => rfl)) pa_nil))) (pg_tup rfl (pgs_cons (pg_sub (pv 0) (pv 2) set_list) (pgs_cons (pg_sub (pv 0) (pv 3) set_list) pgs_nil))))
        (pss_cons (ps_set (i := 4) nd rfl (Or.inr rfl) (pe_ix ix_list (pe_ix ix_list (pv 0) (pv 2) (fun _ _ => rfl)) (pv 2) (fun _ _ => rfl)))
        (pss_cons (ps_asg (pe_lc (own := [("one", 7)]) (g := gName 7) (tt := tYes) rfl nd (pi_list (pe_ix ix_list (pv 0) (pv 2) (fun _ _ => rfl))) (blkOk_by (N := nSolved) (sc := defScope sSolved) (by decide +kernel))
            (fun _ _ _ _ _ => pg_name (i := 7) nd rfl (Or.inl rfl)) (fun _ _ _ _ _ => pts_nil) (fun _ _ _ _ _ => pe_fn OD (hr.mono (by decide)) (pa_cons (pv 7) (pa_cons (pv 4) pa_nil)))) (pg_sub (pv 0) (pv 2) set_list))
        (pss_one (ps_for PassesOwn.never rfl (pi_range1 (by rfl) T.range (pa_cons (pe_callB call_len_seq (by rfl) T.len boot_len (pa_cons (pv 0) pa_nil)) pa_nil)) (pg_name (i := 5) nd rfl (Or.inl rfl))
          (pss_one (ps_if (PW.pt (pw_and (pt_cmpR op_ne (pv 5) (pv 2) (nomark _)) (pw_and1 (pt_cmpR (op_neD hr.units) (pe_ix ix_list (pe_ix ix_list (pv 0) (pv 5) (fun _ _ => rfl)) (pv 2) (fun _ _ => rfl)) (pe_g T.nought) (nomark _)))))
            (pss_one (ps_asg (pe_fn OL hr (pa_cons (pe_ix ix_list (pv 0) (pv 5) (fun _ _ => rfl)) (pa_cons (pe_ix ix_list (pv 0) (pv 2) (fun _ _ => rfl)) (pa_cons (pe_ix ix_list (pe_ix ix_list (pv 0) (pv 5) (fun _ _ => rfl)) (pv 2) (fun _ _ => rfl)) pa_nil)))) (pg_sub (pv 0) (pv 5) set_list))) pss_nil))))))))))
      (pss_one (ps_ret (pe_lc (own := [("row", 6)]) (g := gName 6) (tt := tYes) rfl nd (pi_list (pe_slice sl_list (pv 0) po_none (po_some (pv 1)))) (blkOk_by (N := nSolved) (sc := defScope sSolved) (by decide +kernel))
          (fun _ _ _ _ _ => pg_name (i := 6) nd rfl (Or.inl rfl)) (fun _ _ _ _ _ => pts_nil) (fun _ _ _ _ _ => pe_callTy (r := rTupOf K) call_tupK (by rfl) T.tuple boot_tuple (pa_cons (pe_slice (r := rSlL K) sl_list (pv 6) (po_some (pv 1)) po_none) pa_nil)))))), ?_⟩
    -- rows = [list(row) for row in rows]
    refine ⟨_, rfl, R0, rfl, ⟨_, SqL.of hM0.1⟩, fun R nR => ?_⟩
    refine lc_list (K := K) (a := R0) (xs := rs0) (fun i H' => ∃ ws : List V, Same H H' ∧ ws.length = i ∧ MatL K H' R ws (n + 1) N) ⟨[], same_new nR, rfl, upd_same, fun i v h => by simp at h⟩ (fun i H' _ ⟨_, sm, _⟩ => SqL.of (sm _ _ hM0.1)) ?_ ?_
    · rintro i x H1 hi ⟨ws, sm, lws, hW⟩
      obtain ⟨_, hx⟩ := hM0.2 i x hi
      obtain ⟨l, fs, rfl, hl, lf, hf⟩ := hx.same sm
      have hi30 := (List.getElem?_eq_some_iff.mp hi).1
      refine ⟨rfl, _, rfl, l, fs, rfl, .inl (SqL.of hl), fun l2 nl2 => ?_⟩
      have hW2 := hW.same (same_new (o := .lst fs) nl2)
      have n2R : l2 ≠ R := fun e => by rw [e, hW.1] at nl2; cases nl2
      refine ⟨ws, hW2.1, small1000 (by omega), ws ++ [.ref l2], Same.mut (sm.trans (same_new nl2)) nR, by simp [lws], upd_same, fun j v hj => ?_⟩
      by_cases hjl : j < ws.length
      · rw [List.getElem?_append_left hjl] at hj
        obtain ⟨a, b⟩ := hW2.2 j v hj
        exact ⟨a, b.upd hW2.1 a⟩
      · rw [List.getElem?_append_right (by omega)] at hj
        have e : j = i := by
          have := (List.getElem?_eq_some_iff.mp hj).1
          simp at this
          omega
        subst e
        rw [lws] at hj
        simp at hj
        subst hj
        refine ⟨fun z => n2R (V.ref.inj z), ?_⟩
        have : RowF K (upd H1 l2 (.lst fs)) (.ref l2) (n + 1) (N j) := ⟨l2, fs, rfl, upd_same, lf, fun k x hk => (hf k x hk).keep (tup_new nl2)⟩
        exact this.upd hW2.1 (fun z => n2R (V.ref.inj z))
    · rintro H1 ⟨ws0, sm0, lws0, hW0⟩
      rw [hlen] at lws0
      -- for column in range(many)
      refine ⟨_, rfl, _, rfl, by omega, by omega, ?_⟩
      have ei : (n : Int).toNat = n := Int.toNat_natCast n
      rw [ei]
      refine for_range (lo := 0) (n := n) (fun c σ H' => ∃ (x2 x3 x4 x5 : Option V) (rs : List V) (m : Nat → Nat → Rat) (wf : Nat → Nat), σ = [some (.ref R), some (.int (n : Int)), x2, x3, x4, x5, none, none] ∧ Same H H' ∧ rs.length = n ∧ MatL K H' R rs (n + 1) m ∧ KM.GJ n c N m ∧ KM.GS n c N m wf)
        ⟨none, none, none, none, ws0, N, id, rfl, sm0, lws0, hW0, .start n N, .start n N⟩ ?_ ?_
      · rintro c σ H2 hc ⟨x2, x3, x4, x5, rs, m, wf, rfl, sm, lrs, hM, g, gs⟩
        have ec : ((0 : Int) + (c : Int)) = (c : Int) := Int.zero_add _
        show gName 2 (.int ((0 : Int) + (c : Int))) _ H2 _
        rw [ec]
        have sml : ∀ i j, i < n → j < n + 1 → KM.Small 2200 (m i j) := fun i j hi hj => gs.small g (by omega) hn hsc hi hj
        -- at = first_with(rows, column, column)
        refine ⟨_, rfl, _, rfl, _, rfl, R, rs, c, c, n + 1, m, rfl, hM, by omega, by omega, by omega, fun d hd hdl hp => ?_, fun hz => ?_⟩
        · have hdn : d < n := by omega
          refine ⟨_, rfl, rfl, _, rfl, iteDN (by intro z; cases z) ?_⟩
          obtain ⟨vd, hvd, nvd, rd⟩ := hM.row (i := d) (by omega)
          obtain ⟨vc, hvc, nvc, rc⟩ := hM.row (i := c) (by omega)
          -- the exchange
          refine ⟨_, rfl, _, rfl, R, _, _, _, rfl, rfl, SqL.of hM.1, atI_nat hvd, _, rfl, _, rfl, R, _, _, _, rfl, rfl, SqL.of hM.1, atI_nat hvc, by show 2 ≤ sizeLine; decide, fun tp ntp => ?_⟩
          have k1 := same_new (o := .tup [vd, vc]) ntp
          have hM1 := hM.same k1
          have sm1 := sm.trans k1
          have nRH : H R = none := nR
          have hT1 : upd H2 tp (.tup [vd, vc]) tp = some (.tup [vd, vc]) := upd_same
          have rd1 := rd.same k1
          have rc1 := rc.same k1
          generalize upd H2 tp (.tup [vd, vc]) = H3 at k1 hM1 sm1 hT1 rd1 rc1
          have ixc : ixN rs.length (c : Int) = some c := by unfold ixN; rw [if_pos (by omega), if_pos (by omega)]; simp
          have hM2 := hM1.set (k := c) nvd rd1
          have ixd : ixN (rs.set c vd).length (d : Int) = some d := by unfold ixN; rw [if_pos (by omega), if_pos (by rw [List.length_set]; omega)]; simp
          have hM3 := hM2.set (k := d) nvc (rc1.upd hM1.1 nvc)
          refine ⟨tp, _, rfl, SqT.of hT1, rfl, _, _, rfl, _, rfl, _, rfl, R, rs, _, c, rfl, rfl, hM1.1, ixc, _, _, rfl, _, rfl, _, rfl, R, _, _, d, rfl, rfl, hM2.1, ixd, rfl, ?_⟩
          have sm3 : Same H (upd (upd H3 R (.lst (rs.set c vd))) R (.lst ((rs.set c vd).set d vc))) := Same.mut (Same.mut sm1 nRH) nRH
          have l3 : ((rs.set c vd).set d vc).length = n := by rw [List.length_set, List.length_set, lrs]
          have hM4 : MatL K (upd (upd H3 R (.lst (rs.set c vd))) R (.lst ((rs.set c vd).set d vc))) R ((rs.set c vd).set d vc) (n + 1) (fun i j => m (KM.sw c d i) j) := by
            refine hM3.congr fun i j hi hj => ?_
            unfold KM.sw
            by_cases e1 : i = d
            · rw [if_pos e1]
              by_cases e2 : i = c
              · rw [if_pos e2, ← e1, e2]
              · rw [if_neg e2, if_pos e1]
            · rw [if_neg e1]
              by_cases e2 : i = c
              · rw [if_pos e2, if_pos e2]
              · rw [if_neg e2, if_neg e2, if_neg e1]
          generalize upd (upd H3 R (.lst (rs.set c vd))) R (.lst ((rs.set c vd).set d vc)) = H4 at sm3 hM4
          generalize (rs.set c vd).set d vc = rs4 at l3 hM4
          clear hM3 hM2 hM1 rd1 rc1 hT1 k1
          -- pivot
          obtain ⟨v4, hv4, nv4, r4⟩ := hM4.row (i := c) (by omega)
          have r4 : RowF K H4 v4 (n + 1) (m d) := r4.congr fun j _ => by rw [KM.sw_left]
          obtain ⟨l4, fs4, rfl, hl4, lf4, hf4⟩ := r4
          obtain ⟨pv_, hpv⟩ : ∃ pv_, fs4[c]? = some pv_ := ⟨_, List.getElem?_eq_getElem (by omega)⟩
          have hpf := hf4 c pv_ hpv
          refine ⟨_, rfl, _, rfl, R, _, _, _, rfl, rfl, SqL.of hM4.1, atI_nat hv4, _, rfl, l4, _, _, _, rfl, rfl, SqL.of hl4, atI_nat hpv, ?_⟩
          -- the row by its pivot
          refine ⟨_, rfl, _, rfl, R, _, _, _, rfl, rfl, SqL.of hM4.1, atI_nat hv4, l4, rfl, ⟨_, SqL.of hl4⟩, fun L nL => ?_⟩
          refine lc_list (K := K) (a := l4) (xs := fs4) (fun i H' => ∃ ws : List V, Same H4 H' ∧ H' L = some (.lst ws) ∧ ws.length = i ∧ ∀ (j : Nat) (x : V), ws[j]? = some x → FrA K H' x (m d j / m d c)) ⟨[], same_new nL, upd_same, rfl, fun j x h => by simp at h⟩ (fun i H' _ ⟨_, s5, _⟩ => SqL.of (s5 _ _ hl4)) ?_ ?_
          · rintro i x H5 hi ⟨ws, s5, hL, lws, hws⟩
            have hi2 := (List.getElem?_eq_some_iff.mp hi).1
            have hx := (hf4 i x hi).keep (same_tup s5)
            refine ⟨rfl, _, rfl, _, rfl, _, _, m d i, m d c, rfl, hx, hpf.keep (same_tup s5), small_mono (sml d i hdn (by omega)) (by decide), small_mono (sml d c hdn (by omega)) (by decide), hp, fun H6 z s6 hz => ?_⟩
            have hL6 := s6 _ _ hL
            have gl : Tup H6 (upd H6 L (.lst (ws ++ [z]))) := tup_lst hL6
            refine ⟨ws, hL6, small1000 (by omega), ws ++ [z], Same.mut (s5.trans s6) nL, upd_same, by simp [lws], fun j y hj => ?_⟩
            by_cases hjl : j < ws.length
            · rw [List.getElem?_append_left hjl] at hj
              exact ((hws j y hj).keep (same_tup s6)).keep gl
            · rw [List.getElem?_append_right (by omega)] at hj
              have e : j = i := by
                have := (List.getElem?_eq_some_iff.mp hj).1
                simp at this
                omega
              subst e
              rw [lws] at hj
              simp at hj
              subst hj
              exact hz.keep gl
          · rintro H5 ⟨ws, s5, hL, lws, hws⟩
            have hM5 := hM4.same s5
            have nLR : V.ref L ≠ .ref R := fun z => by
              have z := V.ref.inj z
              rw [z, hM4.1] at nL
              cases nL
            have rL : RowF K H5 (.ref L) (n + 1) (fun j => m d j / m d c) := ⟨L, ws, rfl, hL, by omega, hws⟩
            have hM6 := hM5.set (k := c) nLR rL
            have ix5 : ixN rs4.length (c : Int) = some c := by unfold ixN; rw [if_pos (by omega), if_pos (by omega)]; simp
            refine ⟨_, rfl, _, rfl, R, rs4, _, c, rfl, rfl, hM5.1, ix5, ?_⟩
            have sm6 : Same H (upd H5 R (.lst (rs4.set c (.ref L)))) := Same.mut (sm3.trans s5) nRH
            have l6 : (rs4.set c (.ref L)).length = n := by rw [List.length_set, l3]
            generalize upd H5 R (.lst (rs4.set c (.ref L))) = H6 at sm6 hM6
            generalize rs4.set c (.ref L) = rs6 at l6 hM6
            -- the next matrix
            have g' := KM.next_gj g hc hd hdn hp
            have gs' := KM.next_gs gs g hc hd hdn hp
            have sml' : ∀ i j, i < n → j < n + 1 → KM.Small 2200 (KM.next c d m i j) := fun i j hi hj => gs'.small g' (by omega) hn hsc hi hj
            -- for other in range(len(rows))
            refine ⟨_, rfl, R, _, rfl, .inl (SqL.of hM6.1), _, rfl, by omega, by omega, ?_⟩
            rw [Int.toNat_natCast, l6]
            refine for_range (lo := 0) (n := n) (fun t σ H' => ∃ (x5 : Option V) (rs : List V), σ = [some (.ref R), some (.int (n : Int)), some (.int (c : Int)), some (.int (d : Int)), some pv_, x5, none, none] ∧ Same H H' ∧ rs.length = n ∧
                MatL K H' R rs (n + 1) (fun i j => if i < t ∨ i = c then KM.next c d m i j else m (KM.sw c d i) j))
              ⟨x5, rs6, rfl, sm6, l6, hM6.congr fun i j hi hj => ?_⟩ ?_ ?_
            · skip
              by_cases e : i = c
              · rw [if_pos e, if_pos (.inr e)]
                unfold KM.next
                rw [if_pos e]
              · rw [if_neg e, if_neg (by omega)]
            · rintro t σ H7 ht ⟨x5, rs7, rfl, sm7, l7, hM7⟩
              have et : ((0 : Int) + (t : Int)) = (t : Int) := Int.zero_add _
              show gName 5 (.int ((0 : Int) + (t : Int))) _ H7 _
              rw [et]
              refine ⟨_, rfl, _, rfl, rfl, _, rfl, ?_⟩
              have skip : (∀ j, j < n + 1 → KM.next c d m t j = (if t < t ∨ t = c then KM.next c d m t j else m (KM.sw c d t) j)) → ∃ (x5 : Option V) (rs : List V), [some (V.ref R), some (.int (n : Int)), some (.int (c : Int)), some (.int (d : Int)), some pv_, some (.int (t : Int)), none, none] =
                  [some (.ref R), some (.int (n : Int)), some (.int (c : Int)), some (.int (d : Int)), some pv_, x5, none, none] ∧ Same H H7 ∧ rs.length = n ∧ MatL K H7 R rs (n + 1) (fun i j => if i < t + 1 ∨ i = c then KM.next c d m i j else m (KM.sw c d i) j) := by
                intro hsk
                refine ⟨_, rs7, rfl, sm7, l7, hM7.congr fun i j hi hj => ?_⟩
                by_cases e : i = t
                · subst e
                  rw [← hsk j hj, if_pos (.inl (Nat.lt_succ_self i))]
                · by_cases e2 : i < t ∨ i = c
                  · rw [if_pos e2, if_pos (by omega)]
                  · rw [if_neg e2, if_neg (by omega)]
              by_cases htc : t = c
              · subst htc
                refine iteBF (by simp) (iteF (skip fun j _ => by rw [if_pos (.inr rfl)]))
              · refine iteBT (by simp; omega) ?_
                obtain ⟨vt, hvt, nvt, rt⟩ := hM7.row (i := t) (by omega)
                have rt : RowF K H7 vt (n + 1) (m (KM.sw c d t)) := rt.congr fun j _ => by rw [if_neg (by omega)]
                obtain ⟨lt, ft, rfl, hlt, lft, hft⟩ := id rt
                obtain ⟨y, hy⟩ : ∃ y, ft[c]? = some y := ⟨_, List.getElem?_eq_getElem (by omega)⟩
                have hyf := hft c y hy
                refine ⟨_, rfl, _, rfl, R, _, _, _, rfl, rfl, SqL.of hM7.1, atI_nat hvt, _, rfl, lt, _, _, _, rfl, rfl, SqL.of hlt, atI_nat hy, ?_⟩
                refine ⟨frD _, frD 0, FrA.dp hyf, FrA.dp ⟨aN, rfl, .inr T.noughtT⟩, frD_shaped _, frD_shaped _, _, rfl, ?_⟩
                rw [frD_eqv]
                have swl : KM.sw c d t < n := KM.sw_lt hc hdn ht
                by_cases h0 : m (KM.sw c d t) c = 0
                · rw [decide_eq_true h0]
                  refine iteF (skip fun j _ => ?_)
                  rw [if_neg (by omega)]
                  unfold KM.next
                  rw [if_neg htc, h0]
                  grind
                · rw [decide_eq_false h0]
                  refine iteT ?_
                  obtain ⟨vk, hvk, nvk, rk⟩ := hM7.row (i := c) (by omega)
                  have rk : RowF K H7 vk (n + 1) (KM.next c d m c) := rk.congr fun j _ => by rw [if_pos (.inr rfl)]
                  refine ⟨_, rfl, _, rfl, R, _, _, _, rfl, rfl, SqL.of hM7.1, atI_nat hvt, _, rfl, _, rfl, R, _, _, _, rfl, rfl, SqL.of hM7.1, atI_nat hvk, _, rfl, _, rfl, R, _, _, _, rfl, rfl, SqL.of hM7.1, atI_nat hvt, _, rfl, lt, _, _, _, rfl, rfl, SqL.of hlt, atI_nat hy, ?_⟩
                  refine ⟨_, _, _, n + 1, _, _, _, rfl, rt, rk, hyf, by omega, fun j hj => sml _ j swl hj, fun j hj => sml' c j hc hj, sml _ c swl (by omega), fun H8 p s8 np hp8 => ?_⟩
                  have hM8 := hM7.same s8
                  have npR : V.ref p ≠ .ref R := fun z => by
                    have z := V.ref.inj z
                    rw [z, hM7.1] at np
                    cases np
                  have ix8 : ixN rs7.length (t : Int) = some t := by unfold ixN; rw [if_pos (by omega), if_pos (by omega)]; simp
                  refine ⟨_, rfl, _, rfl, R, rs7, _, t, rfl, rfl, hM8.1, ix8, _, rs7.set t (.ref p), rfl, Same.mut (sm7.trans s8) nRH, by rw [List.length_set, l7], (hM8.set (k := t) npR hp8).congr fun i j hi hj => ?_⟩
                  by_cases e : i = t
                  · rw [if_pos e, if_pos (by omega), e]
                    unfold KM.next
                    rw [if_neg htc, if_pos rfl]
                  · rw [if_neg e]
                    by_cases e2 : i < t ∨ i = c
                    · rw [if_pos e2, if_pos (by omega)]
                    · rw [if_neg e2, if_neg (by omega)]
            · rintro σ H7 ⟨x5, rs7, rfl, sm7, l7, hM7⟩
              exact ⟨_, _, _, x5, rs7, KM.next c d m, _, rfl, sm7, l7, hM7.congr fun i j hi hj => by rw [if_pos (.inl (by omega))], g', gs'⟩
        · refine ⟨_, rfl, rfl, _, rfl, iteD rfl ?_⟩
          exact q2 H2 c m sm g hc fun i h1 h2 => hz i h1 (by omega)
      · rintro σ H2 ⟨x2, x3, x4, x5, rs, m, wf, rfl, sm, lrs, hM, g, gs⟩
        -- [tuple(row[many:]) for row in rows[:many]]
        refine ⟨_, rfl, ?_⟩
        refine ⟨_, rfl, n, rfl, R, rs, rfl, SqL.of hM.1, fun C nC => ?_⟩
        rw [cut_all rs n lrs]
        have k1 := same_new (o := .lst rs) nC
        have hC : upd H2 C (.lst rs) C = some (.lst rs) := upd_same
        have hM1 := hM.same k1
        generalize upd H2 C (.lst rs) = H3 at k1 hC hM1
        refine ⟨C, rfl, ⟨_, SqL.of hC⟩, fun L nL => ?_⟩
        refine lc_list (K := K) (a := C) (xs := rs) (fun i H' => ∃ ts : List V, Same H3 H' ∧ H' L = some (.lst ts) ∧ ts.length = i ∧ ∀ (i : Nat) (v : V), ts[i]? = some v → ∃ (t : Addr) (x : V), v = .ref t ∧ TpA K H' t [x] ∧ FrA K H' x (m i n))
          ⟨[], same_new nL, upd_same, rfl, fun j x h => by simp at h⟩ (fun i H' _ ⟨_, s5, _⟩ => SqL.of (s5 _ _ hC)) ?_ ?_
        · rintro i x H4 hi ⟨ts, s4, hL, lts, hts⟩
          obtain ⟨_, hx⟩ := hM1.2 i x hi
          obtain ⟨l, fs, rfl, hl, lf, hf⟩ := hx.same s4
          have hin := (List.getElem?_eq_some_iff.mp hi).1
          obtain ⟨y, hy⟩ : ∃ y, fs[n]? = some y := ⟨_, List.getElem?_eq_getElem (by omega)⟩
          have edrop : fs.drop n = [y] := by
            rw [List.drop_eq_getElem_cons (by omega), List.drop_of_length_le (by omega)]
            obtain ⟨h1, h2⟩ := List.getElem?_eq_some_iff.mp hy
            rw [h2]
          refine ⟨rfl, _, rfl, _, rfl, n, rfl, l, fs, rfl, SqL.of hl, fun C2 nC2 => ?_⟩
          rw [cut_from fs n (by omega), edrop]
          refine ⟨C2, _, rfl, .inl ⟨SqL.of upd_same, fun t nt => ?_⟩⟩
          have k2 := same_new (o := .lst [y]) nC2
          have k3 := same_new (o := .tup [y]) nt
          have hL5 := k3 _ _ (k2 _ _ hL)
          have gl : Tup _ (upd (upd (upd H4 C2 (.lst [y])) t (.tup [y])) L (.lst (ts ++ [.ref t]))) := tup_lst hL5
          refine ⟨ts, hL5, small1000 (by omega), ts ++ [.ref t], Same.mut ((s4.trans k2).trans k3) nL, upd_same, by simp [lts], fun j v hj => ?_⟩
          by_cases hjl : j < ts.length
          · rw [List.getElem?_append_left hjl] at hj
            obtain ⟨t', x', e, h1, h2⟩ := hts j v hj
            exact ⟨t', x', e, ((h1.keep (same_tup k2)).keep (same_tup k3)).keep gl, ((h2.keep (same_tup k2)).keep (same_tup k3)).keep gl⟩
          · rw [List.getElem?_append_right (by omega)] at hj
            have e : j = i := by
              have := (List.getElem?_eq_some_iff.mp hj).1
              simp at this
              omega
            subst e
            rw [lts] at hj
            simp at hj
            subst hj
            exact ⟨t, y, rfl, .inl (gl _ _ upd_same), (((hf n y hy).keep (same_tup k2)).keep (same_tup k3)).keep gl⟩
        · rintro H4 ⟨ts, s4, hL, lts, hts⟩
          exact q1 H4 L ts m ((sm.trans k1).trans s4) g gs.one (fun i j hi hj => gs.small g (Nat.le_refl _) hn hsc hi hj) hL (by rw [lts, lrs]) hts
end
end KW

set_option Elab.async false
set_option linter.all false
set_option maxRecDepth 100000
set_option maxHeartbeats 4000000
/-! rests, raw_worths, worths, raw_total, total. -/
namespace KW
open PySem PySem.Spec PyProof.Rows L2 KR KP
open KM (Mach All2)
theorem valid_moreIx {M : Mach} (V : KM.Valid M) {i : Nat} {r : KM.Row} (h : M.rows[i]? = some r) {m s : Nat} (hm : some (m, s) ∈ r.steps) : m ≤ 60 ∧ s < M.rows.length := V.mores r (List.mem_of_getElem? h) m s hm
theorem ixN_nat {n j : Nat} (h : j < n) : ixN n (j : Int) = some j := by
  unfold ixN; rw [if_pos (by omega), if_pos (by omega)]; simp
theorem small_zero : KM.Small 4500 0 := ⟨Nat.two_pow_pos 4500, Nat.one_lt_two_pow (by decide)⟩
theorem filter_snoc (l : List KM.Step) (st : KM.Step) : (l ++ [st]).filterMap id = l.filterMap id ++ (match st with | none => [] | some p => [p]) := by
  rw [List.filterMap_append]
  cases st <;> rfl
section
variable {P : Program} {w : World} {K : PySem.W.Frag} {mg : Str → Option Value} {base : Heap} {aN aO : Addr}
theorem FrA.nought (T : Txt K mg aN aO) (H : Hp) : FrA K H (.ref aN) 0 := ⟨aN, rfl, .inr T.noughtT⟩
theorem FrA.one (T : Txt K mg aN aO) (H : Hp) : FrA K H (.ref aO) 1 := ⟨aO, rfl, .inr T.oneT⟩
abbrev sRests : Stmt := topS 37
abbrev nRests : List Str := ["machine", "states", "rows", "state", "end", "steps", "row", "step"]
theorem scRests : FnScope nRests ["machine"] (defScope sRests) := ⟨rfl, rfl, rfl, by decide +kernel, rfl, by decide +kernel, by decide +kernel⟩
def spRests (K : PySem.W.Frag) : Sp := fun vs H Q _ => ∃ (v : V) (M : Mach), vs = [v] ∧ MachA K H v M ∧ KM.Valid M ∧
  ∀ (H' : Hp) (R : Addr) (rs : List V), Same H H' → MatL K H' R rs (M.rows.length + 1) (KM.eqMat M) → rs.length = M.rows.length → Q (.ref R) H'
theorem ok_rests (T : Txt K mg aN aO) (D : At K mg "rests" sRests ["machine"]) (OM : Ok P w K mg base 2 "minus" ["one", "other"] (spFr2 K (fun _ _ => True) fun x y => x - y)) (OH : Ok P w K mg base 1 "half_to" ["many"] (spHalfTo K)) :
    Ok P w K mg base 3 "rests" ["machine"] (spRests K) := by
  refine D.ok scRests (fun vs H Q E h => ?_) (fun f cdv A outer s H vs Q E hr h => ?_)
  · obtain ⟨v, M, rfl, _⟩ := h; rfl
  · obtain ⟨v, M, rfl, ⟨a, u, rfl, ta, b, rs, rfl, tb, hrs⟩, ok, q⟩ := h
    have lrs := hrs.len
    have r30 := ok.rows30
    have nd := scRests.nd
    refine ⟨_, pss_cons (ps_set (i := 1) nd rfl (Or.inl rfl) (pe_callB call_len_seq (by rfl) T.len boot_len (pa_cons (pe_ix ix_tup (pv 0) (pe_g T.rows) (fun _ _ => rfl)) pa_nil)))
      (pss_cons (ps_set (i := 2) nd rfl (Or.inl rfl) (pe_lst pa_nil))
      (pss_cons (ps_for PassesOwn.never rfl (pi_enumT (by rfl) T.enumerate (pa_cons (pe_ix ix_tup (pv 0) (pe_g T.rows) (fun _ _ => rfl)) pa_nil))
          (pg_tup rfl (pgs_cons (pg_name (i := 3) nd rfl (Or.inl rfl)) (pgs_cons (pg_tup rfl (pgs_cons (pg_name (i := 4) nd rfl (Or.inl rfl)) (pgs_cons (pg_name (i := 5) nd rfl (Or.inl rfl)) pgs_nil))) pgs_nil)))
        (pss_cons (ps_set (i := 6) nd rfl (Or.inl rfl) (pe_op op_rep (pe_lst (pa_cons (pe_g T.nought) pa_nil)) (pv 1)))
        (pss_cons (ps_asg (pe_g T.one) (pg_sub (pv 6) (pv 3) set_list))
        (pss_cons (ps_for PassesOwn.never rfl (pi_tup (pv 5)) (pg_name (i := 7) nd rfl (Or.inl rfl))
          (pss_one (ps_if (pt_cmpR op_notN (pv 7) pe_non (nomark _))
            (pss_one (ps_asg (pe_fn OM hr (pa_cons (pe_ix ix_list (pv 6) (pe_ix ix_tup (pv 7) pe_int (fun _ _ => rfl)) (fun _ _ => rfl)) (pa_cons (pe_fn OH (hr.mono (by decide)) (pa_cons (pe_ix ix_tup (pv 7) pe_int (fun _ _ => rfl)) pa_nil)) pa_nil)))
              (pg_sub (pv 6) (pe_ix ix_tup (pv 7) pe_int (fun _ _ => rfl)) set_list))) pss_nil)))
        (pss_one (ps_expr (pe_bm PySem.F.plainAttrs_list PySem.F.slot_list_append PySem.F.type_list_append mt_append (pv 2) (pa_cons (pe_op op_cat (pv 6)
          (pe_lst (pa_cons (pe_ifExp (pt_cmpR op_isN (pv 4) pe_non (nomark _)) (pe_g T.nought) (pe_fn OH (hr.mono (by decide)) (pa_cons (pv 4) pa_nil))) pa_nil))) pa_nil))))))))
      (pss_one (ps_ret (pv 2))))), ?_⟩
    refine ⟨_, rfl, a, _, _, _, rfl, rfl, ta.sq, atI_nat (j := 1) rfl, b, rs, rfl, .inr tb.sq, ?_⟩
    refine ⟨Nat.zero_le _, fun R nR => ?_⟩
    have k0 := same_new (o := .lst []) nR
    refine ⟨_, rfl, a, _, _, _, rfl, rfl, (ta.keep (same_tup k0)).sq, atI_nat (j := 1) rfl, b, rs, rfl, (tb.keep (same_tup k0)).sq, ?_⟩
    rw [lrs]
    refine for_it (walk_enumT (K := K) (a := b) (xs := rs)) (fun i σ H' => ∃ (x3 x4 x5 x6 x7 : Option V) (ws : List V), σ = [some (.ref a), some (.int (M.rows.length : Int)), some (.ref R), x3, x4, x5, x6, x7] ∧ Same H H' ∧ ws.length = i ∧ MatL K H' R ws (M.rows.length + 1) (KM.eqMat M))
      ⟨none, none, none, none, none, [], rfl, k0, rfl, upd_same, fun i v h => by simp at h⟩ (fun i σ H' _ ⟨_, _, _, _, _, _, _, sm, _⟩ => (tb.keep (same_tup sm)).sq) ?_ ?_
    · rintro i y σ H1 H2 hi ⟨x3, x4, x5, x6, x7, ws, rfl, sm, lws, hW⟩ ⟨tp, x1, x2, rfl, ntp, rfl, e1, e2⟩
      cases e1
      obtain ⟨r, hr_, ar, br, ss, rfl, tr, ts, hss⟩ := hrs.get e2
      have k1 := same_new (o := .tup [.int (i : Nat), .ref ar]) ntp
      have sm1 := sm.trans k1
      have hW1 := hW.same k1
      have hT : upd H1 tp (.tup [.int (i : Nat), .ref ar]) tp = some (.tup [.int (i : Nat), .ref ar]) := upd_same
      generalize upd H1 tp (.tup [.int (i : Nat), .ref ar]) = H2 at sm1 hW1 hT
      have g1 := same_tup sm1
      have iM : i < M.rows.length := by omega
      obtain ⟨hst60, hst8⟩ := ok.row_stp hr_
      have hlen8 := ok.len r (List.mem_of_getElem? hr_)
      have s8 := ok.size8
      refine ⟨tp, _, rfl, SqT.of hT, rfl, _, _, rfl, _, _, rfl, ⟨ar, _, rfl, (tr.keep g1).sq, rfl, _, _, rfl, _, _, rfl, rfl, rfl, ?_⟩⟩
      -- row = [NOUGHT] * states
      refine ⟨by show 1 ≤ sizeLine; decide, fun l1 nl1 => ?_⟩
      refine ⟨_, rfl, l1, _, _, rfl, rfl, upd_same, by omega, by omega, by rw [Int.toNat_natCast]; show 1 * M.rows.length ≤ sizeLine; exact Nat.le_of_lt (small1000 (by omega)), fun rw_ nrw => ?_⟩
      rw [Int.toNat_natCast, flat_rep]
      have k2 := same_new (o := .lst [.ref aN]) nl1
      have k3 := same_new (o := .lst (List.replicate M.rows.length (.ref aN))) nrw
      have sm3 := (sm1.trans k2).trans k3
      have hW3 := (hW1.same k2).same k3
      have nrwH : H rw_ = none := (sm1.trans k2).free nrw
      have nrwR : rw_ ≠ R := fun e => by rw [e, k2 _ _ hW1.1] at nrw; cases nrw
      have hrw : upd (upd H2 l1 (.lst [.ref aN])) rw_ (.lst (List.replicate M.rows.length (.ref aN))) rw_ = some (.lst (List.replicate M.rows.length (.ref aN))) := upd_same
      generalize upd (upd H2 l1 (.lst [.ref aN])) rw_ (.lst (List.replicate M.rows.length (.ref aN))) = H3 at sm3 hW3 hrw
      -- row[state] = ONE
      refine ⟨_, rfl, _, rfl, rw_, _, _, i, rfl, rfl, hrw, ixN_nat (by rw [List.length_replicate]; exact iM), ?_⟩
      have hWm : ∀ {H' : Hp} {fs fs' : List V}, H' rw_ = some (.lst fs) → MatL K H' R ws (M.rows.length + 1) (KM.eqMat M) → (∀ (j : Nat) (v : V), ws[j]? = some v → v ≠ .ref rw_) → MatL K (upd H' rw_ (.lst fs')) R ws (M.rows.length + 1) (KM.eqMat M) := by
        intro H' fs fs' h1 h2 h3
        refine ⟨by rw [upd_ne nrwR.symm]; exact h2.1, fun j v hj => ⟨(h2.2 j v hj).1, ?_⟩⟩
        exact (h2.2 j v hj).2.upd h1 (h3 j v hj)
      have wsn : ∀ (j : Nat) (v : V), ws[j]? = some v → v ≠ .ref rw_ := by
        intro j v hj e
        obtain ⟨_, l, fs, e2, hl, _⟩ := hW1.2 j v hj
        rw [e2] at e
        have e := V.ref.inj e
        have := k2 _ _ hl
        rw [e, nrw] at this
        cases this
      have hW4 := hWm (fs' := (List.replicate M.rows.length (.ref aN)).set i (.ref aO)) hrw hW3 wsn
      have sm4 : Same H (upd H3 rw_ (.lst ((List.replicate M.rows.length (.ref aN)).set i (.ref aO)))) := Same.mut sm3 nrwH
      have hrw4 : upd H3 rw_ (.lst ((List.replicate M.rows.length (.ref aN)).set i (.ref aO))) rw_ = some (.lst ((List.replicate M.rows.length (.ref aN)).set i (.ref aO))) := upd_same
      generalize upd H3 rw_ (.lst ((List.replicate M.rows.length (.ref aN)).set i (.ref aO))) = H4 at sm4 hW4 hrw4
      -- for step in steps
      refine ⟨_, rfl, br, rfl, ⟨_, (ts.keep (same_tup sm4)).sq⟩, for_tup (K := K) (a := br) (xs := ss) (fun t σ H' => ∃ (x7 : Option V) (fs : List V), σ = [some (.ref a), some (.int (M.rows.length : Int)), some (.ref R), some (.int (i : Nat)), some (optV r.fin), some (.ref br), some (.ref rw_), x7] ∧ Same H H' ∧
          MatL K H' R ws (M.rows.length + 1) (KM.eqMat M) ∧ H' rw_ = some (.lst fs) ∧ fs.length = M.rows.length ∧ ∀ (j : Nat) (x : V), fs[j]? = some x → FrA K H' x (KM.ent i ((r.steps.take t).filterMap id) j))
        ⟨x7, _, rfl, sm4, hW4, hrw4, by rw [List.length_set, List.length_replicate], fun j x hj => ?_⟩ (fun t σ H' _ ⟨_, _, _, sm, _⟩ => (ts.keep (same_tup sm)).sq) ?_ ?_⟩
      · have e0 : KM.ent i ((r.steps.take 0).filterMap id) j = if j = i then 1 else 0 := by
          show (if j = i then 1 else 0) - KM.cof [] j = _
          rw [KM.cof_nil]
          grind
        rw [e0]
        by_cases e : j = i
        · subst e
          rw [List.getElem?_set_self (by rw [List.length_replicate]; exact iM)] at hj
          cases hj
          rw [if_pos rfl]
          exact FrA.one T _
        · rw [List.getElem?_set_ne (fun z => e z.symm)] at hj
          rw [if_neg e]
          have := List.mem_of_getElem? hj
          rw [List.mem_replicate] at this
          rw [this.2]
          exact FrA.nought T _
      · rintro t y σ H5 hy ⟨x7', fs, rfl, sm5, hW5, hrw5, lfs, hfs⟩
        obtain ⟨st, hst, hyst⟩ := hss.get hy
        have hyst := hyst.keep (same_tup sm5)
        refine ⟨_, rfl, rfl, _, rfl, ?_⟩
        cases st with
        | none =>
          obtain rfl : y = .non := hyst
          refine iteF ⟨_, fs, rfl, sm5, hW5, hrw5, lfs, fun j x hj => ?_⟩
          rw [take_snoc hst, filter_snoc]
          simp only [List.append_nil]
          exact hfs j x hj
        | some p =>
          obtain ⟨ay, rfl, tay⟩ := hyst
          obtain ⟨p60, plt⟩ := valid_moreIx ok hr_ (m := p.1) (s := p.2) (List.mem_of_getElem? hst)
          refine iteT ?_
          obtain ⟨z, hz⟩ : ∃ z, fs[p.2]? = some z := ⟨_, List.getElem?_eq_getElem (by omega)⟩
          have hzf := hfs _ _ hz
          have hsub : ∀ p ∈ (r.steps.take t).filterMap id, p.1 ≤ 60 := fun p hp => by
            obtain ⟨s, h1, h2⟩ := List.mem_filterMap.mp hp
            have h2 : s = some p := h2
            subst h2
            exact hst60 p (KM.mem_rstp.mpr (List.mem_of_mem_take h1))
          have hsl : ((r.steps.take t).filterMap id).length ≤ 8 := by
            have h1 := List.length_filterMap_le id (r.steps.take t)
            have h2 := List.length_take_le t r.steps
            have h3 : (r.steps.take t).length ≤ r.steps.length := by rw [List.length_take]; omega
            omega
          refine ⟨_, rfl, _, rfl, ay, _, _, _, rfl, rfl, tay.sq, atI_nat (j := 1) rfl, rw_, _, _, _, rfl, rfl, SqL.of hrw5, atI_nat hz, _, rfl, ay, _, _, _, rfl, rfl, tay.sq, atI_nat (j := 0) rfl, p.1, rfl, by omega, fun H6 hv sm6 hh => ?_⟩
          refine ⟨_, _, _, KM.half p.1, rfl, hzf.keep (same_tup sm6), hh, small_mono (KM.ent_small i p.2 hsub hsl) (by decide), small_mono (KM.half_small p60) (by decide), trivial, fun H7 nv sm7 hn => ?_⟩
          have hrw7 := sm7 _ _ (sm6 _ _ hrw5)
          have hW7 := (hW5.same sm6).same sm7
          have sm57 := (sm5.trans sm6).trans sm7
          refine ⟨_, rfl, _, rfl, ay, _, _, _, rfl, rfl, ((tay.keep (same_tup sm6)).keep (same_tup sm7)).sq, atI_nat (j := 1) rfl, rw_, _, _, p.2, rfl, rfl, hrw7, ixN_nat (by omega), ?_⟩
          have gl : Tup H7 (upd H7 rw_ (.lst (fs.set p.2 nv))) := tup_lst hrw7
          refine ⟨_, fs.set p.2 nv, rfl, Same.mut sm57 nrwH, hWm hrw7 hW7 wsn, upd_same, by rw [List.length_set, lfs], fun j x hj => ?_⟩
          rw [take_snoc hst, filter_snoc]
          have ee : KM.ent i ((r.steps.take t).filterMap id ++ [p]) j = KM.ent i ((r.steps.take t).filterMap id) j - (if p.2 = j then KM.half p.1 else 0) := by
            unfold KM.ent
            rw [KM.cof_snoc]
            grind
          show FrA K _ x (KM.ent i ((r.steps.take t).filterMap id ++ [p]) j)
          rw [ee]
          by_cases e : j = p.2
          · subst e
            rw [List.getElem?_set_self (by omega)] at hj
            cases hj
            rw [if_pos rfl]
            exact hn.keep gl
          · rw [List.getElem?_set_ne (fun z => e z.symm)] at hj
            rw [if_neg (fun z => e z.symm)]
            have e0 : ∀ x : Rat, x - 0 = x := fun x => by grind
            rw [e0]
            exact (((hfs j x hj).keep (same_tup sm6)).keep (same_tup sm7)).keep gl
      · rintro σ H5 ⟨x7', fs, rfl, sm5, hW5, hrw5, lfs, hfs⟩
        have efull : r.steps.take ss.length = r.steps := List.take_of_length_le (by rw [hss.len]; exact Nat.le_refl _)
        rw [efull] at hfs
        -- rows.append(row + [..])
        have tail : ∀ (H6 : Hp) (bv : V) (p p2 : Addr), Same H5 H6 → FrA K H6 bv (KM.bval M i) → H6 p = none → upd H6 p (.lst [bv]) p2 = none →
            upd H6 p (.lst [bv]) rw_ = some (.lst fs) ∧ upd (upd H6 p (.lst [bv])) p2 (.lst (fs ++ [bv])) R = some (.lst ws) ∧
            ∃ (x3 x4 x5 x6 x7 : Option V) (ws' : List V), [some (V.ref a), some (.int (M.rows.length : Int)), some (.ref R), some (.int (i : Nat)), some (optV r.fin), some (.ref br), some (.ref rw_), x7'] = [some (V.ref a), some (.int (M.rows.length : Int)), some (.ref R), x3, x4, x5, x6, x7] ∧
              Same H (upd (upd (upd H6 p (.lst [bv])) p2 (.lst (fs ++ [bv]))) R (.lst (ws ++ [.ref p2]))) ∧ ws'.length = i + 1 ∧ MatL K (upd (upd (upd H6 p (.lst [bv])) p2 (.lst (fs ++ [bv]))) R (.lst (ws ++ [.ref p2]))) R ws' (M.rows.length + 1) (KM.eqMat M) := by
          intro H6 bv p p2 s6 hb np np2
          have kk1 := same_new (o := .lst [bv]) np
          have kk2 := same_new (o := .lst (fs ++ [bv])) np2
          have hW6 := ((hW5.same s6).same kk1).same kk2
          refine ⟨kk1 _ _ (s6 _ _ hrw5), hW6.1, _, _, _, _, _, ws ++ [.ref p2], rfl, Same.mut (((sm5.trans s6).trans kk1).trans kk2) nR, by simp [lws], upd_same, fun j v hj => ?_⟩
          by_cases hjl : j < ws.length
          · rw [List.getElem?_append_left hjl] at hj
            obtain ⟨h1, h2⟩ := hW6.2 j v hj
            exact ⟨h1, h2.upd hW6.1 h1⟩
          · rw [List.getElem?_append_right (by omega)] at hj
            have e : j = i := by
              have := (List.getElem?_eq_some_iff.mp hj).1
              simp at this
              omega
            subst e
            rw [lws] at hj
            simp at hj
            subst hj
            have n2R : V.ref p2 ≠ .ref R := fun z => by
              have z := V.ref.inj z
              rw [z, kk1 _ _ (s6 _ _ hW5.1)] at np2
              cases np2
            refine ⟨n2R, RowF.upd hW6.1 n2R ⟨p2, fs ++ [bv], rfl, upd_same, by simp [lfs], fun k x hk => ?_⟩⟩
            by_cases hkl : k < fs.length
            · rw [List.getElem?_append_left hkl] at hk
              have e : KM.eqMat M j k = KM.ent j (r.steps.filterMap id) k := by
                unfold KM.eqMat
                rw [if_neg (by omega), KM.stp_of hr_]
                rfl
              rw [e]
              exact (((hfs k x hk).keep (same_tup s6)).keep (same_tup kk1)).keep (same_tup kk2)
            · rw [List.getElem?_append_right (by omega)] at hk
              have e : k = M.rows.length := by
                have := (List.getElem?_eq_some_iff.mp hk).1
                simp at this
                omega
              subst e
              rw [lfs] at hk
              simp at hk
              subst hk
              have e : KM.eqMat M j M.rows.length = KM.bval M j := by
                unfold KM.eqMat
                rw [if_pos rfl]
              rw [e]
              exact (hb.keep (same_tup kk1)).keep (same_tup kk2)
        have hsz : fs.length + 1 ≤ sizeLine := Nat.le_of_lt (small1000 (by omega))
        have hwz : ws.length < sizeLine := small1000 (by omega)
        cases hf : r.fin with
        | none =>
          rw [hf] at tail
          refine ⟨_, rfl, .inl ⟨rfl, _, SqL.of hW5.1⟩, _, rfl, _, rfl, rfl, _, rfl, iteT ?_⟩
          refine ⟨by show 1 ≤ sizeLine; decide, fun p np => ?_⟩
          have hb : FrA K H5 (.ref aN) (KM.bval M i) := by
            have e : KM.bval M i = 0 := by unfold KM.bval; rw [KM.fin_of hr_, hf]
            rw [e]; exact FrA.nought T _
          have t1 := fun p2 => tail H5 (.ref aN) p p2 (Same.refl _) hb np
          refine ⟨rw_, p, fs, [.ref aN], rfl, rfl, same_new np _ _ hrw5, upd_same, hsz, fun p2 np2 => ?_⟩
          obtain ⟨_, h2, h3⟩ := t1 p2 np2
          exact ⟨R, _, _, rfl, rfl, h2, hwz, h3⟩
        | some e0 =>
          have e60 := (ok.fins r (List.mem_of_getElem? hr_) e0 hf).2
          rw [hf] at tail
          refine ⟨_, rfl, .inl ⟨rfl, _, SqL.of hW5.1⟩, _, rfl, _, rfl, rfl, _, rfl, iteDN (by intro z; cases z) ?_⟩
          refine ⟨_, rfl, e0, rfl, by omega, fun H6 bv s6 hb => ?_⟩
          refine ⟨by show 1 ≤ sizeLine; decide, fun p np => ?_⟩
          have hb : FrA K H6 bv (KM.bval M i) := by
            have e : KM.bval M i = KM.half e0 := KM.bval_some (by rw [KM.fin_of hr_, hf])
            rw [e]; exact hb
          have t1 := fun p2 => tail H6 bv p p2 s6 hb np
          refine ⟨rw_, p, fs, [bv], rfl, rfl, same_new np _ _ (s6 _ _ hrw5), upd_same, hsz, fun p2 np2 => ?_⟩
          obtain ⟨_, h2, h3⟩ := t1 p2 np2
          exact ⟨R, _, _, rfl, rfl, h2, hwz, h3⟩
    · rintro σ H1 ⟨x3, x4, x5, x6, x7, ws, rfl, sm, lws, hW⟩
      exact ⟨_, rfl, q H1 R ws sm hW (by omega)⟩
/-! ### raw_worths -/
abbrev sRawWorths : Stmt := topS 38
abbrev nRawWorths : List Str := ["machine", "told", "found", "row", "worth"]
theorem scRawWorths : FnScope nRawWorths ["machine"] (defScope sRawWorths) := ⟨rfl, rfl, rfl, by decide +kernel, rfl, by decide +kernel, by decide +kernel⟩
/-- a tuple of so many fractions -/
def FrsA (K : PySem.W.Frag) (H : Hp) (v : V) (n : Nat) (x : Nat → Rat) : Prop := ∃ (a : Addr) (xs : List V), v = .ref a ∧ TpA K H a xs ∧ xs.length = n ∧ ∀ (i : Nat) (y : V), xs[i]? = some y → FrA K H y (x i)
def spRawWorths (K : PySem.W.Frag) : Sp := fun vs H Q _ => ∃ (v : V) (M : Mach), vs = [v] ∧ MachA K H v (KM.trim M) ∧ KM.Valid M ∧
  (∀ (H' : Hp) (z : V) (x : Nat → Rat), Same H H' → KM.IsTot M (some (x 0)) → FrsA K H' z (KM.trim M).rows.length x → Q z H') ∧ (∀ H' : Hp, Same H H' → KM.IsTot M none → Q .non H')
theorem ok_raw_worths (T : Txt K mg aN aO) (D : At K mg "raw_worths" sRawWorths ["machine"]) (OS : Ok P w K mg base 4 "solved" ["rows", "many"] (spSolved K)) (OR : Ok P w K mg base 3 "rests" ["machine"] (spRests K)) (OL : Ok P w K mg base 1 "is_less" ["one", "other"] (spIsLess K)) :
    Ok P w K mg base 5 "raw_worths" ["machine"] (spRawWorths K) := by
  refine D.ok scRawWorths (fun vs H Q E h => ?_) (fun f cdv A outer s H vs Q E hr h => ?_)
  · obtain ⟨v, M, rfl, _⟩ := h; rfl
  · obtain ⟨v, M, rfl, hTM, okM, q1, q2⟩ := h
    obtain ⟨a, u, rfl, ta, b, rs, rfl, tb, hrs⟩ := id hTM
    have ok := KM.trim_valid okM
    have r30 := ok.rows30
    have r1 := ok.rows1
    have lrs := hrs.len
    have nd := scRawWorths.nd
    generalize hn : (KM.trim M).rows.length = n at *
    refine ⟨_, pss_cons (ps_set (i := 1) nd rfl (Or.inl rfl) (pe_fn OS hr (pa_cons (pe_fn OR (hr.mono (by decide)) (pa_cons (pv 0) pa_nil)) (pa_cons (pe_callB call_len_seq (by rfl) T.len boot_len (pa_cons (pe_ix ix_tup (pv 0) (pe_g T.rows) (fun _ _ => rfl)) pa_nil)) pa_nil))))
      (pss_cons (ps_if (pt_cmpR op_isN (pv 1) pe_non (nomark _)) (pss_one (ps_ret pe_non)) pss_nil)
      (pss_cons (ps_set (i := 2) nd rfl (Or.inl rfl) (pe_callTy call_tuple_of (by rfl) T.tuple boot_tuple (pa_cons
          (pe_lc (own := [("row", 3)]) (g := gName 3) (tt := tYes) rfl nd (pi_list (pv 1)) (blkOk_by (N := nRawWorths) (sc := defScope sRawWorths) (by decide +kernel)) (fun _ _ _ _ _ => pg_name (i := 3) nd rfl (Or.inl rfl)) (fun _ _ _ _ _ => pts_nil)
            (fun _ _ _ _ _ => pe_ix (r := rIxT K) ix_tup (pv 3) pe_int (fun _ _ => rfl))) pa_nil)))
      (pss_one (ps_ret (pe_ifExp (pt_val (pe_callB (cr_any rfl) (by rfl) T.any_ boot_any (pa_cons
          (pe_lc (own := [("worth", 4)]) (g := gName 4) (tt := tYes) rfl nd (pi_tup (pv 2)) (blkOk_by (N := nRawWorths) (sc := defScope sRawWorths) (by decide +kernel)) (fun _ _ _ _ _ => pg_name (i := 4) nd rfl (Or.inl rfl)) (fun _ _ _ _ _ => pts_nil)
            (fun _ _ _ _ _ => pe_fn OL (hr.mono (by decide)) (pa_cons (pv 4) (pa_cons (pe_g T.nought) pa_nil)))) pa_nil))) pe_non (pv 2)))))), ?_⟩
    refine ⟨_, rfl, _, KM.trim M, rfl, hTM, ok, fun H1 R ms sm1 hM lms => ?_⟩
    have tb1 := tb.keep (same_tup sm1)
    have ta1 := ta.keep (same_tup sm1)
    refine ⟨_, rfl, a, _, _, _, rfl, rfl, ta1.sq, atI_nat (j := 1) rfl, b, rs, rfl, .inr tb1.sq, ?_⟩
    refine ⟨R, ms, n, KM.eqMat (KM.trim M), by rw [lrs], by rw [← hn]; exact hM, by rw [lms, hn], r30, by rw [← hn]; exact KM.eqMat_scaled ok, ?_, ?_⟩
    · intro H2 p ts m sm2 g one sml hp lts hts
      refine ⟨_, rfl, rfl, _, rfl, iteDN (by intro z; cases z) ?_⟩
      -- found
      refine ⟨_, rfl, p, rfl, ⟨_, SqL.of hp⟩, fun L nL => ?_⟩
      refine lc_list (K := K) (a := p) (xs := ts) (fun i H' => ∃ ws : List V, Same H2 H' ∧ H' L = some (.lst ws) ∧ ws.length = i ∧ ∀ (i : Nat) (y : V), ws[i]? = some y → FrA K H' y (m i n)) ⟨[], same_new nL, upd_same, rfl, fun i y h => by simp at h⟩ (fun i H' _ ⟨_, s3, _⟩ => SqL.of (s3 _ _ hp)) ?_ ?_
      · rintro i x H3 hi ⟨ws, s3, hL, lws, hws⟩
        obtain ⟨t, y, rfl, ht, hy⟩ := hts i x hi
        have hin := (List.getElem?_eq_some_iff.mp hi).1
        have gl : Tup H3 (upd H3 L (.lst (ws ++ [y]))) := tup_lst hL
        refine ⟨rfl, _, rfl, t, _, _, _, rfl, rfl, (ht.keep (same_tup s3)).sq, atI_nat (j := 0) rfl, ws, hL, small1000 (by omega), ws ++ [y], Same.mut s3 nL, upd_same, by simp [lws], fun j z hj => ?_⟩
        by_cases hjl : j < ws.length
        · rw [List.getElem?_append_left hjl] at hj
          exact (hws j z hj).keep gl
        · rw [List.getElem?_append_right (by omega)] at hj
          have e : j = i := by
            have := (List.getElem?_eq_some_iff.mp hj).1
            simp at this
            omega
          subst e
          rw [lws] at hj
          simp at hj
          subst hj
          exact (hy.keep (same_tup s3)).keep gl
      · rintro H3 ⟨ws, s3, hL, lws, hws⟩
        refine ⟨L, ws, rfl, .inl ⟨SqL.of hL, fun tt ntt => ?_⟩⟩
        have k4 := same_new (o := .tup ws) ntt
        have sm4 := ((sm1.trans sm2).trans s3).trans k4
        have hws4 : ∀ (i : Nat) (y : V), ws[i]? = some y → FrA K (upd H3 tt (.tup ws)) y (m i n) := fun i y h => (hws i y h).keep (same_tup k4)
        have hT4 : upd H3 tt (.tup ws) tt = some (.tup ws) := upd_same
        generalize upd H3 tt (.tup ws) = H4 at sm4 hws4 hT4
        -- any below 0
        refine ⟨_, rfl, tt, rfl, ⟨_, SqT.of hT4⟩, fun L2 nL2 => ?_⟩
        refine lc_tup (K := K) (a := tt) (xs := ws) (fun i H' => Same H4 H' ∧ H' L2 = some (.lst (((List.range i).map fun j => decide (m j n < 0)).map V.bl))) ⟨same_new nL2, upd_same⟩ (fun i H' _ ⟨s5, _⟩ => SqT.of (s5 _ _ hT4)) ?_ ?_
        · rintro i x H5 hi ⟨s5, hL2⟩
          have hin := (List.getElem?_eq_some_iff.mp hi).1
          refine ⟨rfl, _, rfl, _, _, m i n, 0, rfl, (hws4 i x hi).keep (same_tup s5), FrA.nought T _, small_mono (sml i n (by omega) (by omega)) (by decide), small_zero, _, hL2, ?_, Same.mut s5 nL2, ?_⟩
          · rw [List.length_map, List.length_map, List.length_range]
            exact small1000 (by omega)
          · rw [upd_same, List.range_succ, List.map_append, List.map_append]
            rfl
        · rintro H5 ⟨s5, hL2⟩
          refine ⟨L2, _, rfl, SqL.of hL2, _, rfl, ?_⟩
          have sm5 := sm4.trans s5
          have lwn : ws.length = n := by omega
          have hval : ∀ i, i < n → m i n / m i i = m i n := fun i hi => by
            rw [one i hi]
            grind
          refine ite2 (fun hc => ?_) (fun hc => ?_)
          · obtain ⟨bb, hb1, hb2⟩ := List.any_eq_true.mp hc
            obtain ⟨j, hj, rfl⟩ := List.mem_map.mp hb1
            have hj := List.mem_range.mp hj
            have hneg : m j n < 0 := of_decide_eq_true hb2
            refine q2 H5 sm5 ?_
            refine KM.gj_neg okM (KM.eqMat_of _) (m := m) (by rw [hn]; exact g) ⟨j, by rw [hn]; omega, ?_⟩
            rw [hn, hval j (by omega)]
            exact hneg
          · refine ⟨_, rfl, q1 H5 (.ref tt) (fun i => m i n) sm5 ?_ ⟨tt, ws, rfl, .inl (s5 _ _ hT4), lwn, fun i y h => (hws4 i y h).keep (same_tup s5)⟩⟩
            have nn : ∀ j, j < n → 0 ≤ m j n := by
              intro j hj
              apply Classical.byContradiction
              intro hlt
              refine hc (List.any_eq_true.mpr ⟨true, List.mem_map.mpr ⟨j, List.mem_range.mpr (by omega), decide_eq_true (by grind)⟩, rfl⟩)
            have := KM.gj_some okM (KM.eqMat_of _) (m := m) (by rw [hn]; exact g) (fun j hj => by
              rw [hn] at hj ⊢
              rw [hval j hj]
              exact nn j hj)
            rw [hn, hval 0 (by omega)] at this
            exact this
    · intro H2 k m sm2 g hk hz
      refine ⟨_, rfl, rfl, _, rfl, iteD rfl ?_⟩
      exact q2 H2 (sm1.trans sm2) (KM.gj_null okM (KM.eqMat_of _) (m := m) (k := k) (by rw [hn]; exact g) (by rw [hn]; exact hk) (by rw [hn]; exact hz))
/-! ### worths, raw_total, total -/
abbrev sWorths : Stmt := topS 39
theorem scWorths : FnScope ["machine"] ["machine"] (defScope sWorths) := ⟨rfl, rfl, rfl, by decide +kernel, rfl, by decide +kernel, by decide +kernel⟩
def spWorths (K : PySem.W.Frag) : Sp := fun vs H Q _ => ∃ (v : V) (M : Mach), vs = [v] ∧ MachA K H v M ∧ KM.Valid M ∧
  (∀ (H' : Hp) (z : V) (x : Nat → Rat), Same H H' → KM.IsTot M (some (x 0)) → FrsA K H' z (KM.trim M).rows.length x → Q z H') ∧ (∀ H' : Hp, Same H H' → KM.IsTot M none → Q .non H')
theorem ok_worths (D : At K mg "worths" sWorths ["machine"]) (OC : Ok P w K mg base 7 "check_machine" ["thing"] (spCheckMachine K)) (OT : Ok P w K mg base 2 "raw_trimmed" ["machine"] (spTrim K)) (OW : Ok P w K mg base 5 "raw_worths" ["machine"] (spRawWorths K)) :
    Ok P w K mg base 8 "worths" ["machine"] (spWorths K) := by
  refine D.ok scWorths (fun vs H Q E h => ?_) (fun f cdv A outer s H vs Q E hr h => ?_)
  · obtain ⟨v, M, rfl, _⟩ := h; rfl
  · obtain ⟨v, M, rfl, hM, ok, q1, q2⟩ := h
    refine ⟨_, pss_cons (ps_expr (pe_fn OC hr (pa_cons (pv 0) pa_nil))) (pss_one (ps_ret (pe_fn OW (hr.mono (by decide)) (pa_cons (pe_fn OT (hr.mono (by decide)) (pa_cons (pv 0) pa_nil)) pa_nil)))), ?_⟩
    refine ⟨_, rfl, v, M, rfl, hM, ok, fun H1 s1 => ?_⟩
    refine ⟨_, rfl, v, M, rfl, hM.keep (same_tup s1), ok, fun H2 z s2 hz => ?_⟩
    exact ⟨z, M, rfl, hz, ok, fun H3 y x s3 h1 h2 => q1 H3 y x ((s1.trans s2).trans s3) h1 h2, fun H3 s3 h1 => q2 H3 ((s1.trans s2).trans s3) h1⟩
abbrev sRawTotal : Stmt := topS 40
theorem scRawTotal : FnScope ["machine", "found"] ["machine"] (defScope sRawTotal) := ⟨rfl, rfl, rfl, by decide +kernel, rfl, by decide +kernel, by decide +kernel⟩
def spTotal (K : PySem.W.Frag) : Sp := fun vs H Q _ => ∃ (v : V) (M : Mach), vs = [v] ∧ MachA K H v M ∧ KM.Valid M ∧ ∀ (H' : Hp) (z : V) (r : Option Rat), Same H H' → KM.IsTot M r → OFrA K H' z r → Q z H'
theorem ok_raw_total (D : At K mg "raw_total" sRawTotal ["machine"]) (OT : Ok P w K mg base 2 "raw_trimmed" ["machine"] (spTrim K)) (OW : Ok P w K mg base 5 "raw_worths" ["machine"] (spRawWorths K)) :
    Ok P w K mg base 6 "raw_total" ["machine"] (spTotal K) := by
  refine D.ok scRawTotal (fun vs H Q E h => ?_) (fun f cdv A outer s H vs Q E hr h => ?_)
  · obtain ⟨v, M, rfl, _⟩ := h; rfl
  · obtain ⟨v, M, rfl, hM, ok, q⟩ := h
    refine ⟨_, pss_cons (ps_set (i := 1) scRawTotal.nd rfl (Or.inl rfl) (pe_fn OW hr (pa_cons (pe_fn OT (hr.mono (by decide)) (pa_cons (pv 0) pa_nil)) pa_nil)))
      (pss_one (ps_ret (pe_ifExp (pt_cmpR op_isN (pv 1) pe_non (nomark _)) pe_non (pe_ix ix_tup (pv 1) pe_int (fun _ _ => rfl))))), ?_⟩
    refine ⟨_, rfl, v, M, rfl, hM, ok, fun H2 z s2 hz => ?_⟩
    refine ⟨z, M, rfl, hz, ok, fun H3 y x s3 h1 h2 => ?_, fun H3 s3 h1 => ?_⟩
    · obtain ⟨t, xs, rfl, ht, lx, hx⟩ := h2
      have r1 := (KM.trim_valid ok).rows1
      obtain ⟨y0, hy0⟩ : ∃ y0, xs[0]? = some y0 := ⟨_, List.getElem?_eq_getElem (by omega)⟩
      refine ⟨_, rfl, rfl, _, rfl, iteDN (by intro z; cases z) ?_⟩
      exact ⟨_, rfl, t, _, _, _, rfl, rfl, ht.sq, atI_nat (j := 0) hy0, q H3 y0 (some (x 0)) (s2.trans s3) h1 (hx 0 y0 hy0)⟩
    · exact ⟨_, rfl, rfl, _, rfl, iteD rfl (q H3 .non none (s2.trans s3) h1 rfl)⟩
abbrev sTotal : Stmt := topS 41
theorem scTotal : FnScope ["machine"] ["machine"] (defScope sTotal) := ⟨rfl, rfl, rfl, by decide +kernel, rfl, by decide +kernel, by decide +kernel⟩
theorem ok_total (D : At K mg "total" sTotal ["machine"]) (OC : Ok P w K mg base 7 "check_machine" ["thing"] (spCheckMachine K)) (OR : Ok P w K mg base 6 "raw_total" ["machine"] (spTotal K)) : Ok P w K mg base 8 "total" ["machine"] (spTotal K) := by
  refine D.ok scTotal (fun vs H Q E h => ?_) (fun f cdv A outer s H vs Q E hr h => ?_)
  · obtain ⟨v, M, rfl, _⟩ := h; rfl
  · obtain ⟨v, M, rfl, hM, ok, q⟩ := h
    refine ⟨_, pss_cons (ps_expr (pe_fn OC hr (pa_cons (pv 0) pa_nil))) (pss_one (ps_ret (pe_fn OR (hr.mono (by decide)) (pa_cons (pv 0) pa_nil)))), ?_⟩
    refine ⟨_, rfl, v, M, rfl, hM, ok, fun H1 s1 => ?_⟩
    exact ⟨_, rfl, v, M, rfl, hM.keep (same_tup s1), ok, fun H3 y r s3 h1 h2 => q H3 y r (s1.trans s3) h1 h2⟩
end
end KW

set_option Elab.async false
set_option linter.all false
set_option maxRecDepth 100000
set_option maxHeartbeats 4000000
/-! the law's pot: _law_pot, _law_draw, _law_any. -/
namespace KW
open PySem PySem.Spec PyProof.Rows L2 KR KP
open KM (Mach All2)
theorem seqI0 {n : Nat} (h : 0 < n) : seqIndex? 0 n = some 0 := by
  unfold seqIndex?
  simp
  omega
structure Pot (H : Hp) (p g s : Addr) : Prop where
  ex : ∃ (gs ss : List Int) (t sm : Int), H p = some (.lst [.ref g, .ref s, .int t, .int sm]) ∧ H g = some (.lst (gs.map V.int)) ∧ H s = some (.lst (ss.map V.int)) ∧ 0 < ss.length ∧ ss.length ≤ 64 ∧ gs.length ≤ 63
  pg : p ≠ g
  ps : p ≠ s
  gs : g ≠ s
/-- all but p and g stays -/
def Fr (p g : Addr) (H H' : Hp) : Prop := ∀ b o, H b = some o → b ≠ p → b ≠ g → H' b = some o
section
variable {p g s b : Addr} {H H' H2 : Hp} {o : HO}
theorem Fr.refl (H : Hp) : Fr p g H H := fun _ _ h _ _ => h
theorem Fr.trans (a : Fr p g H H') (c : Fr p g H' H2) : Fr p g H H2 := fun b o h n1 n2 => c b o (a b o h n1 n2) n1 n2
theorem same_fr (a : Same H H') : Fr p g H H' := fun b o h _ _ => a b o h
theorem Fr.mut (a : Fr p g H H') (h : H b = none) : Fr p g H (upd H' b o) := fun c x e n1 n2 => by
  rw [upd_ne (ne_of_none e h)]
  exact a c x e n1 n2
theorem Pot.ne (P : Pot H p g s) (h : H b = none) : b ≠ p ∧ b ≠ g ∧ b ≠ s := by
  obtain ⟨gs, ss, t, sm, h1, h2, h3, _⟩ := P.ex
  exact ⟨fun e => (by rw [e, h1] at h; cases h), fun e => (by rw [e, h2] at h; cases h), fun e => (by rw [e, h3] at h; cases h)⟩
theorem Pot.same (a : Same H H') (P : Pot H p g s) : Pot H' p g s := by
  obtain ⟨⟨gs, ss, t, sm, h1, h2, h3, h4⟩, a1, a2, a3⟩ := P
  exact ⟨⟨gs, ss, t, sm, a _ _ h1, a _ _ h2, a _ _ h3, h4⟩, a1, a2, a3⟩
theorem Pot.mut (P : Pot H p g s) (n1 : b ≠ p) (n2 : b ≠ g) (n3 : b ≠ s) : Pot (upd H b o) p g s := by
  obtain ⟨⟨gs, ss, t, sm, h1, h2, h3, h4⟩, a1, a2, a3⟩ := P
  exact ⟨⟨gs, ss, t, sm, by rw [upd_ne n1.symm]; exact h1, by rw [upd_ne n2.symm]; exact h2, by rw [upd_ne n3.symm]; exact h3, h4⟩, a1, a2, a3⟩
theorem Pot.new (P : Pot H p g s) (h : H b = none) : Pot (upd H b o) p g s := P.same (same_new h)
theorem Fr.tup (P : Pot H p g s) (a : Fr p g H H') : Tup H H' := fun b xs h => by
  obtain ⟨gs, ss, t, sm, h1, h2, h3, _⟩ := P.ex
  exact a b _ h (ne_of h h1 (by intro q; cases q)) (ne_of h h2 (by intro q; cases q))
end
section
variable {P : Program} {w : World} {K : PySem.W.Frag} {mg : Str → Option Value} {base : Heap} {aN aO : Addr}
theorem cut_ints (ns : List Int) (n : Nat) (z : Int) (hz : z = (n : Int)) : ∃ ms : List Int, cutV (ns.map V.int) none (some z) = ms.map V.int ∧ ms.length ≤ n := by
  subst hz
  unfold cutV
  rw [HT.sIx_none, HT.sIx_nat]
  refine ⟨((ns.drop 0).take (min n (ns.map V.int).length - 0)), ?_, ?_⟩
  · rw [List.map_take, List.map_drop]
  · rw [List.length_take]; omega
/-! ### _law_pot -/
abbrev sLPot : Stmt := topS 43
abbrev nLPot : List Str := ["_law_script", "_law_cells", "_law_greats", "_law_smalls", "_law_item"]
theorem scLPot : FnScope nLPot ["_law_script"] (defScope sLPot) := ⟨rfl, rfl, rfl, by decide +kernel, rfl, by decide +kernel, by decide +kernel⟩
def spLPot (K : PySem.W.Frag) : Sp := fun vs H Q _ => ∃ (a : Addr) (ns : List Int), vs = [.ref a] ∧ SqL K H a (ns.map V.int) ∧ ∀ (H' : Hp) (p g s : Addr), Pot H' p g s → Q (.ref p) H'
theorem il_int {ns : List Int} {i : Nat} {x : V} (h : (ns.map V.int)[i]? = some x) : ∃ j, ns[i]? = some j ∧ x = .int j := by
  rw [List.getElem?_map] at h
  cases e : ns[i]? with
  | none => rw [e] at h; cases h
  | some j => rw [e] at h; exact ⟨j, rfl, (Option.some.inj h).symm⟩
theorem ok_lpot (T : Txt K mg aN aO) (D : At K mg "_law_pot" sLPot ["_law_script"]) : Ok P w K mg base 1 "_law_pot" ["_law_script"] (spLPot K) := by
  refine D.ok scLPot (fun vs H Q E h => ?_) (fun f cdv A outer s H vs Q E hr h => ?_)
  · obtain ⟨a, ns, rfl, _⟩ := h; rfl
  · obtain ⟨a, ns, rfl, ha, q⟩ := h
    have nd := scLPot.nd
    refine ⟨_, pss_cons (ps_setLc (i := 1) (own := [("_law_item", 4)]) (g := gName 4) (tt := tYes) rfl nd rfl rfl (sw_true rfl rfl rfl (by decide +kernel)) (pi_list (pe_slice (r := rSlL K) sl_list (pv 0) po_none (po_some pe_int))) (blkOk_by (N := nLPot) (sc := defScope sLPot) (by decide +kernel))
          (fun _ _ _ _ _ => pg_name (i := 4) nd rfl (Or.inl rfl)) (fun _ _ _ _ _ => pts_nil) (fun _ _ _ _ _ => pe_callTy call_int1 (by rfl) T.int_ boot_int (pa_cons (pv 4) pa_nil)))
      (pss_cons (ps_setLc (i := 2) (own := [("_law_item", 4)]) (g := gName 4) rfl nd rfl rfl (sw_true rfl rfl rfl (by decide +kernel)) (pi_list (pv 1)) (blkOk_by (N := nLPot) (sc := defScope sLPot) (by decide +kernel))
          (fun _ _ _ _ _ => pg_name (i := 4) nd rfl (Or.inl rfl)) (fun _ _ _ _ _ => pts_one (pt_cmpR op_ge (pe_callB call_abs (by rfl) T.abs_ boot_abs (pa_cons (pv 4) pa_nil)) (pe_op op_pow pe_int pe_int) (nomark _)))
          (fun _ _ _ _ _ => pe_callB call_abs (by rfl) T.abs_ boot_abs (pa_cons (pv 4) pa_nil)))
      (pss_cons (ps_set (i := 3) nd rfl (Or.inl rfl) (pe_op op_cat (pe_lc (own := [("_law_item", 4)]) (g := gName 4) rfl nd (pi_list (pv 1)) (blkOk_by (N := nLPot) (sc := defScope sLPot) (by decide +kernel))
          (fun _ _ _ _ _ => pg_name (i := 4) nd rfl (Or.inl rfl)) (fun _ _ _ _ _ => pts_one (pt_cmpR op_lt (pe_callB call_abs (by rfl) T.abs_ boot_abs (pa_cons (pv 4) pa_nil)) (pe_op op_pow pe_int pe_int) (nomark _)))
          (fun _ _ _ _ _ => pe_op op_mod (pe_callTy call_int1 (by rfl) T.int_ boot_int (pa_cons (pv 4) pa_nil)) pe_int))
          (pe_lst (pa_cons (pe_op op_add (pe_callB call_len_seq (by rfl) T.len boot_len (pa_cons (pv 1) pa_nil)) pe_int) pa_nil))))
      (pss_one (ps_ret (pe_lst (pa_cons (pv 2) (pa_cons (pv 3) (pa_cons pe_int (pa_cons (pe_op op_mod (pe_callTy call_int1 (by rfl) T.int_ boot_int (pa_cons (pe_callB (cr_sum rfl) (by rfl) T.sum_ boot_sum (pa_cons (pv 3) pa_nil)) pa_nil)) pe_int) pa_nil))))))))), ?_⟩
    refine ⟨_, rfl, 63, rfl, a, _, rfl, ha, fun C nC => ?_⟩
    obtain ⟨ms, ems, lms⟩ := cut_ints ns 63 63 rfl
    rw [ems]
    have hC : upd H C (.lst (ms.map V.int)) C = some (.lst (ms.map V.int)) := upd_same
    generalize upd H C (.lst (ms.map V.int)) = H1 at hC
    refine ⟨C, rfl, ⟨_, SqL.of hC⟩, fun L nL => ?_⟩
    refine lc_list (K := K) (a := C) (xs := ms.map V.int) (fun i H' => Same H1 H' ∧ H' L = some (.lst ((ms.take i).map V.int))) ⟨same_new nL, upd_same⟩ (fun i H' _ ⟨sm, _⟩ => SqL.of (sm _ _ hC)) ?_ ?_
    · rintro i x H2 hi ⟨sm, hL⟩
      obtain ⟨j, hj, rfl⟩ := il_int hi
      refine ⟨rfl, _, rfl, .inl ⟨j, rfl, _, hL, ?_, Same.mut sm nL, ?_⟩⟩
      · rw [List.length_map, List.length_take]; exact small1000 (by omega)
      · rw [upd_same, KW.take_snoc hj, List.map_append]; rfl
    rintro H2 ⟨sm, hL⟩
    rw [List.length_map, List.take_length] at hL
    generalize H2 = H2 at hL
    -- greats
    refine ⟨_, rfl, L, rfl, ⟨_, SqL.of hL⟩, fun G nG => ?_⟩
    refine lc_list (K := K) (a := L) (xs := ms.map V.int) (fun i H' => ∃ gs : List Int, Same H2 H' ∧ H' G = some (.lst (gs.map V.int)) ∧ gs.length ≤ i) ⟨[], same_new nG, upd_same, Nat.le_refl _⟩ (fun i H' _ ⟨_, sm, _⟩ => SqL.of (sm _ _ hL)) ?_ ?_
    · rintro i x H3 hi ⟨gs, sm3, hG, lg⟩
      have hi' := (List.getElem?_eq_some_iff.mp hi).1
      rw [List.length_map] at hi'
      obtain ⟨j, hj, rfl⟩ := il_int hi
      refine ⟨rfl, _, rfl, j, rfl, 10, 18, rfl, rfl, ⟨by decide, by decide, by decide⟩, _, _, rfl, rfl, _, rfl, ?_⟩
      refine ite2 (fun _ => ?_) (fun _ => ⟨gs, sm3, hG, by omega⟩)
      refine ⟨_, rfl, j, rfl, _, hG, ?_, gs ++ [if j < 0 then -j else j], Same.mut sm3 nG, ?_, ?_⟩
      · rw [List.length_map]; exact small1000 (by omega)
      · rw [upd_same, List.map_append]; rfl
      · rw [List.length_append]; simp; omega
    rintro H3 ⟨gs, sm3, hG, lg⟩
    rw [List.length_map] at lg
    have hL3 := sm3 _ _ hL
    -- smalls
    refine ⟨_, rfl, L, rfl, ⟨_, SqL.of hL3⟩, fun S nS => ?_⟩
    refine lc_list (K := K) (a := L) (xs := ms.map V.int) (fun i H' => ∃ ss : List Int, Same H3 H' ∧ H' S = some (.lst (ss.map V.int)) ∧ ss.length ≤ i) ⟨[], same_new nS, upd_same, Nat.le_refl _⟩ (fun i H' _ ⟨_, sm, _⟩ => SqL.of (sm _ _ hL3)) ?_ ?_
    · rintro i x H4 hi ⟨ss, sm4, hS, lg⟩
      have hi' := (List.getElem?_eq_some_iff.mp hi).1
      rw [List.length_map] at hi'
      obtain ⟨j, hj, rfl⟩ := il_int hi
      refine ⟨rfl, _, rfl, j, rfl, 10, 18, rfl, rfl, ⟨by decide, by decide, by decide⟩, _, _, rfl, rfl, _, rfl, ?_⟩
      refine ite2 (fun _ => ?_) (fun _ => ⟨ss, sm4, hS, by omega⟩)
      refine ⟨_, rfl, .inl ⟨j, rfl, _, _, rfl, rfl, (by show (0 : Int) < 1000000007; decide), _, hS, ?_, ss ++ [j % 1000000007], Same.mut sm4 nS, ?_, ?_⟩⟩
      · rw [List.length_map]; exact small1000 (by omega)
      · rw [upd_same, List.map_append]; rfl
      · rw [List.length_append]; simp; omega
    rintro H4 ⟨ss, sm4, hS, ls⟩
    rw [List.length_map] at ls
    have hL4 := sm4 _ _ hL3
    have hG4 := sm4 _ _ hG
    have nGS : G ≠ S := fun e => by rw [e, nS] at hG; cases hG
    refine ⟨_, rfl, L, _, rfl, .inl (SqL.of hL4), _, _, rfl, rfl, by show 1 ≤ sizeLine; decide, fun O nO => ?_⟩
    have k1 := same_new (o := .lst [V.int (((ms.map V.int).length : Int) + 1)]) nO
    refine ⟨S, O, _, _, rfl, rfl, k1 _ _ hS, upd_same, ?_, fun Z nZ => ?_⟩
    · rw [List.length_map]; exact Nat.le_of_lt (small1000 (by simp; omega))
    have k2 := same_new (o := .lst (ss.map V.int ++ [V.int (((ms.map V.int).length : Int) + 1)])) nZ
    have hG5 := k2 _ _ (k1 _ _ hG4)
    have hZ : upd (upd H4 O (.lst [V.int (((ms.map V.int).length : Int) + 1)])) Z (.lst (ss.map V.int ++ [V.int (((ms.map V.int).length : Int) + 1)])) Z = some (.lst ((ss ++ [((ms.map V.int).length : Int) + 1]).map V.int)) := by
      rw [upd_same, List.map_append]; rfl
    have nGZ : G ≠ Z := fun e => by rw [← e, k1 _ _ hG4] at nZ; cases nZ
    generalize upd (upd H4 O (.lst [V.int (((ms.map V.int).length : Int) + 1)])) Z (.lst (ss.map V.int ++ [V.int (((ms.map V.int).length : Int) + 1)])) = H5 at hG5 hZ
    refine ⟨_, rfl, _, rfl, _, rfl, Z, _, rfl, SqL.of hZ, .inl ⟨_, rfl, _, _, rfl, rfl, (by show (0 : Int) < 999983; decide), by show 4 ≤ sizeLine; decide, fun p np => ?_⟩⟩
    have k3 := same_new (o := .lst [V.ref G, V.ref Z, V.int 0, V.int ((ss ++ [((ms.map V.int).length : Int) + 1]).sum % 999983)]) np
    refine q _ p G Z ⟨⟨gs, _, _, _, upd_same, k3 _ _ hG5, k3 _ _ hZ, by simp, by simp; omega, by omega⟩, fun e => ?_, fun e => ?_, nGZ⟩
    · rw [e, hG5] at np; cases np
    · rw [e, hZ] at np; cases np
/-! ### _law_draw -/
abbrev sLDraw : Stmt := topS 44
abbrev nLDraw : List Str := ["_law_pot_here", "_law_many", "_law_turn", "_law_number", "_law_seed"]
theorem scLDraw : FnScope nLDraw ["_law_pot_here", "_law_many"] (defScope sLDraw) := ⟨rfl, rfl, rfl, by decide +kernel, rfl, by decide +kernel, by decide +kernel⟩
def spLDraw : Sp := fun vs H Q _ => ∃ (p g s : Addr) (n : Nat), vs = [.ref p, .int (n : Int)] ∧ Pot H p g s ∧ 0 < n ∧ n < 1073741824 ∧ ∀ (H' : Hp) (d : Nat), Fr p g H H' → Pot H' p g s → d < n → Q (.int (d : Int)) H'
theorem ok_ldraw (T : Txt K mg aN aO) (D : At K mg "_law_draw" sLDraw ["_law_pot_here", "_law_many"]) : Ok P w K mg base 1 "_law_draw" ["_law_pot_here", "_law_many"] spLDraw := by
  refine D.ok scLDraw (fun vs H Q E h => ?_) (fun f cdv A outer s H vs Q E hr h => ?_)
  · obtain ⟨p, g, s, n, rfl, _⟩ := h; rfl
  · obtain ⟨p, g, s0, n, rfl, hP, n0, n30, q⟩ := h
    have nd := scLDraw.nd
    obtain ⟨⟨gs, ss, t, sm, hp, hg, hs, s1, s64, g63⟩, npg, nps, ngs⟩ := id hP
    refine ⟨_, pss_cons (ps_set (i := 2) nd rfl (Or.inl rfl) (pe_ix ix_list (pv 0) pe_int (fun _ _ => rfl)))
      (pss_cons (ps_asg (pe_op op_add (pv 2) pe_int) (pg_sub (pv 0) pe_int set_list))
      (pss_cons (ps_if (pt_cmpR op_gt (pe_callB call_len_seq (by rfl) T.len boot_len (pa_cons (pe_ix ix_list (pv 0) pe_int (fun _ _ => rfl)) pa_nil)) pe_int (nomark _))
        (pss_cons (ps_set (i := 3) nd rfl (Or.inl rfl) (pe_ix ix_list (pe_ix ix_list (pv 0) pe_int (fun _ _ => rfl)) pe_int (fun _ _ => rfl)))
        (pss_cons (ps_asg (pe_op op_fdiv (pv 3) (pv 1)) (pg_sub (pe_ix ix_list (pv 0) pe_int (fun _ _ => rfl)) pe_int set_list))
        (pss_cons (ps_if (pt_cmpR op_lt (pv 3) (pv 1) (nomark _))
          (pss_one (ps_expr (pe_bm PySem.F.plainAttrs_list PySem.F.slot_list_pop PySem.F.type_list_pop mt_popAt (pe_ix ix_list (pv 0) pe_int (fun _ _ => rfl)) (pa_cons pe_int pa_nil)))) pss_nil)
        (pss_one (ps_ret (pe_op op_mod (pe_callTy call_int1 (by rfl) T.int_ boot_int (pa_cons (pv 3) pa_nil)) (pv 1))))))) pss_nil)
      (pss_cons (ps_set (i := 4) nd rfl (Or.inl rfl) (pe_op op_add (pe_op op_add (pe_op op_mul (pe_ix ix_list (pe_ix ix_list (pv 0) pe_int (fun _ _ => rfl)) (pe_op op_mod (pe_callTy call_int1 (by rfl) T.int_ boot_int (pa_cons (pv 2) pa_nil))
          (pe_callB call_len_seq (by rfl) T.len boot_len (pa_cons (pe_ix ix_list (pv 0) pe_int (fun _ _ => rfl)) pa_nil))) (fun _ _ => rfl)) pe_int) (pe_op op_mul pe_int (pv 2))) (pe_op op_mul (pe_ix ix_list (pv 0) pe_int (fun _ _ => rfl)) pe_int)))
      (pss_cons (ps_set (i := 3) nd rfl (Or.inl rfl) (pe_op op_mod (pe_callTy call_int1 (by rfl) T.int_ boot_int (pa_cons (pe_op op_add (pe_op op_mul (pv 4) pe_int) pe_int) pa_nil)) pe_int))
      (pss_cons (ps_set (i := 3) nd rfl (Or.inl rfl) (pe_op op_mod (pe_callTy call_int1 (by rfl) T.int_ boot_int (pa_cons (pe_op op_mul (pv 3) (pe_op op_add (pe_op op_fdiv (pv 3) pe_int) pe_int)) pa_nil)) pe_int))
      (pss_cons (ps_set (i := 3) nd rfl (Or.inl rfl) (pe_op op_mod (pe_callTy call_int1 (by rfl) T.int_ boot_int (pa_cons (pe_op op_add (pe_op op_mul (pv 3) (pe_op op_add (pe_op op_fdiv (pv 3) pe_int) pe_int)) (pv 2)) pa_nil)) pe_int))
      (pss_one (ps_ret (pe_op op_mod (pe_callTy call_int1 (by rfl) T.int_ boot_int (pa_cons (pe_op op_fdiv (pv 3) pe_int) pa_nil)) (pv 1)))))))))), ?_⟩
    refine ⟨_, rfl, p, _, _, _, rfl, rfl, SqL.of hp, atI_nat (j := 2) rfl, ?_⟩
    refine ⟨_, rfl, t, 1, rfl, rfl, _, rfl, p, _, _, 2, rfl, rfl, hp, rfl, ?_⟩
    have hp1 : upd H p (.lst ([.ref g, .ref s0, .int t, .int sm].set 2 (.int (t + 1)))) p = some (.lst [.ref g, .ref s0, .int (t + 1), .int sm]) := upd_same
    have hg1 : upd H p (.lst ([.ref g, .ref s0, .int t, .int sm].set 2 (.int (t + 1)))) g = some (.lst (gs.map V.int)) := by rw [upd_ne npg.symm]; exact hg
    have hs1 : upd H p (.lst ([.ref g, .ref s0, .int t, .int sm].set 2 (.int (t + 1)))) s0 = some (.lst (ss.map V.int)) := by rw [upd_ne nps.symm]; exact hs
    have fr1 : Fr p g H (upd H p (.lst ([.ref g, .ref s0, .int t, .int sm].set 2 (.int (t + 1))))) := fun b o h n1 n2 => by rw [upd_ne n1]; exact h
    generalize upd H p (.lst ([.ref g, .ref s0, .int t, .int sm].set 2 (.int (t + 1)))) = H1 at hp1 hg1 hs1 fr1
    have fin : ∀ (x : Int) (H' : Hp), Fr p g H H' → Pot H' p g s0 → Q (.int (x % (n : Int))) H' := fun x H' h1 h2 => by
      have a1 : 0 ≤ x % (n : Int) := Int.emod_nonneg x (by omega)
      have a2 : x % (n : Int) < (n : Int) := Int.emod_lt_of_pos x (by omega)
      have := q H' (x % (n : Int)).toNat h1 h2 (by omega)
      rwa [Int.toNat_of_nonneg a1] at this
    refine ⟨_, rfl, p, _, _, _, rfl, rfl, SqL.of hp1, atI_nat (j := 0) rfl, g, _, rfl, .inl (SqL.of hg1), _, _, rfl, rfl, _, rfl, ?_⟩
    refine ite2 (fun hc => ?_) (fun hc => ?_)
    · cases gs with
      | nil => exact absurd hc (by decide)
      | cons x gs =>
        refine ⟨_, rfl, p, _, _, _, rfl, rfl, SqL.of hp1, atI_nat (j := 0) rfl, g, _, _, _, rfl, rfl, SqL.of hg1, atI_nat (j := 0) rfl, ?_⟩
        refine ⟨_, rfl, _, rfl, x, (n : Int), rfl, rfl, ⟨by omega, by omega⟩, _, rfl, p, _, _, _, rfl, rfl, SqL.of hp1, atI_nat (j := 0) rfl, g, _, _, 0, rfl, rfl, hg1, ixN_nat (j := 0) (by simp), ?_⟩
        have hp2 : upd H1 g (.lst (((x :: gs).map V.int).set 0 (.int (x / (n : Int))))) p = some (.lst [.ref g, .ref s0, .int (t + 1), .int sm]) := by rw [upd_ne npg]; exact hp1
        have hg2 : upd H1 g (.lst (((x :: gs).map V.int).set 0 (.int (x / (n : Int))))) g = some (.lst (((x / (n : Int)) :: gs).map V.int)) := upd_same
        have hs2 : upd H1 g (.lst (((x :: gs).map V.int).set 0 (.int (x / (n : Int))))) s0 = some (.lst (ss.map V.int)) := by rw [upd_ne ngs.symm]; exact hs1
        have fr2 : Fr p g H (upd H1 g (.lst (((x :: gs).map V.int).set 0 (.int (x / (n : Int)))))) := fun b o h n1 n2 => by rw [upd_ne n2]; exact fr1 b o h n1 n2
        generalize upd H1 g (.lst (((x :: gs).map V.int).set 0 (.int (x / (n : Int))))) = H2 at hp2 hg2 hs2 fr2
        have lg : gs.length + 1 ≤ 63 := g63
        refine ⟨_, rfl, _, rfl, x, (n : Int), rfl, rfl, _, rfl, ?_⟩
        refine ite2 (fun _ => ?_) (fun _ => ?_)
        · refine ⟨_, rfl, p, _, _, _, rfl, rfl, SqL.of hp2, atI_nat (j := 0) rfl, .inl ⟨rfl, _, SqL.of hg2⟩, g, _, 0, 0, _, rfl, rfl, hg2, by decide, by decide, seqI0 (by simp), rfl, ?_⟩
          refine ⟨_, rfl, .inl ⟨x, rfl, _, rfl, x, (n : Int), rfl, rfl, by show (0 : Int) < n; omega, ?_⟩⟩
          refine fin x _ (fun b o h n1 n2 => by rw [upd_ne n2]; exact fr2 b o h n1 n2) ⟨⟨gs, ss, _, _, by rw [upd_ne npg]; exact hp2, upd_same, by rw [upd_ne ngs.symm]; exact hs2, s1, s64, by omega⟩, npg, nps, ngs⟩
        · refine ⟨_, rfl, .inl ⟨x, rfl, _, rfl, x, (n : Int), rfl, rfl, by show (0 : Int) < n; omega, ?_⟩⟩
          exact fin x _ fr2 ⟨⟨_ :: gs, ss, _, _, hp2, hg2, hs2, s1, s64, lg⟩, npg, nps, ngs⟩
    · have P1 : Pot H1 p g s0 := ⟨⟨gs, ss, _, _, hp1, hg1, hs1, s1, s64, g63⟩, npg, nps, ngs⟩
      obtain ⟨j, hj, ej⟩ : ∃ j : Nat, j < ss.length ∧ t % (ss.length : Int) = (j : Int) := by
        have a1 : 0 ≤ t % (ss.length : Int) := Int.emod_nonneg t (by omega)
        have a2 : t % (ss.length : Int) < (ss.length : Int) := Int.emod_lt_of_pos t (by omega)
        exact ⟨(t % (ss.length : Int)).toNat, by omega, by omega⟩
      have hjs : (ss.map V.int)[j]? = some (.int ss[j]) := by rw [List.getElem?_map, List.getElem?_eq_getElem hj]; rfl
      refine ⟨_, rfl, p, _, _, _, rfl, rfl, SqL.of hp1, atI_nat (j := 1) rfl, _, rfl, .inl ⟨t, rfl, _, rfl, p, _, _, _, rfl, rfl, SqL.of hp1, atI_nat (j := 1) rfl, s0, _, rfl, .inl (SqL.of hs1), t, _, rfl, rfl, ?_, s0, ss.map V.int, _, .int ss[j], rfl, rfl, SqL.of hs1, ?_, ?_⟩⟩
      · show (0 : Int) < ((ss.map V.int).length : Int)
        rw [List.length_map]; omega
      · rw [List.length_map, ej]; exact atI_nat hjs
      refine ⟨ss[j], 7919, rfl, rfl, .inr ⟨by decide, by decide⟩, _, rfl, 104729, t, rfl, rfl, .inl ⟨by decide, by decide⟩, _, _, rfl, rfl, _, rfl, p, _, _, _, rfl, rfl, SqL.of hp1, atI_nat (j := 3) rfl, sm, 31, rfl, rfl, .inr ⟨by decide, by decide⟩, _, _, rfl, rfl, ?_⟩
      show gName 4 (.int (ss[j] * 7919 + 104729 * t + sm * 31)) _ H1 _
      generalize ss[j] * 7919 + 104729 * t + sm * 31 = sd
      refine ⟨_, rfl, sd, 48271, rfl, rfl, .inr ⟨by decide, by decide⟩, _, _, rfl, rfl, .inl ⟨_, rfl, sd * 48271 + 11, 2147483647, rfl, rfl, by show (0 : Int) < 2147483647; decide, ?_⟩⟩
      have a1 : 0 ≤ (sd * 48271 + 11) % 2147483647 := Int.emod_nonneg _ (by decide)
      have a2 : (sd * 48271 + 11) % 2147483647 < 2147483647 := Int.emod_lt_of_pos _ (by decide)
      show gName 3 (.int ((sd * 48271 + 11) % 2147483647)) _ H1 _
      generalize (sd * 48271 + 11) % 2147483647 = n1 at a1 a2
      refine ⟨_, rfl, _, rfl, n1, 1009, rfl, rfl, ⟨by decide, by decide⟩, _, _, rfl, rfl, n1, _, rfl, rfl, .inl ⟨by omega, by omega⟩, .inl ⟨_, rfl, n1 * (n1 / 1009 + 69621), 2147483629, rfl, rfl, by show (0 : Int) < 2147483629; decide, ?_⟩⟩
      have c1 : 0 ≤ (n1 * (n1 / 1009 + 69621)) % 2147483629 := Int.emod_nonneg _ (by decide)
      have c2 : (n1 * (n1 / 1009 + 69621)) % 2147483629 < 2147483629 := Int.emod_lt_of_pos _ (by decide)
      show gName 3 (.int ((n1 * (n1 / 1009 + 69621)) % 2147483629)) _ H1 _
      generalize (n1 * (n1 / 1009 + 69621)) % 2147483629 = n2 at c1 c2
      refine ⟨_, rfl, _, rfl, n2, 2003, rfl, rfl, ⟨by decide, by decide⟩, _, _, rfl, rfl, n2, _, rfl, rfl, .inl ⟨by omega, by omega⟩, _, rfl, _, t, rfl, rfl, .inl ⟨_, rfl, n2 * (n2 / 2003 + 40692) + t, 2147483399, rfl, rfl, by show (0 : Int) < 2147483399; decide, ?_⟩⟩
      refine ⟨_, rfl, _, 64, rfl, rfl, ⟨by decide, by decide⟩, .inl ⟨_, rfl, _, rfl, _, (n : Int), rfl, rfl, by show (0 : Int) < n; omega, ?_⟩⟩
      exact fin _ _ fr1 P1
/-! ### _law_any -/
abbrev sLAny : Stmt := topS 45
abbrev nLAny : List Str := ["_law_pot_here", "_law_items"]
theorem scLAny : FnScope nLAny ["_law_pot_here", "_law_items"] (defScope sLAny) := ⟨rfl, rfl, rfl, by decide +kernel, rfl, by decide +kernel, by decide +kernel⟩
def spLAny : Sp := fun vs H Q _ => ∃ (p g s l : Addr) (xs : List V), vs = [.ref p, .ref l] ∧ Pot H p g s ∧ H l = some (.lst xs) ∧ l ≠ p ∧ l ≠ g ∧ 0 < xs.length ∧ xs.length < 1000 ∧ ∀ (H' : Hp) (x : V), Fr p g H H' → Pot H' p g s → x ∈ xs → Q x H'
theorem ok_lany (T : Txt K mg aN aO) (D : At K mg "_law_any" sLAny ["_law_pot_here", "_law_items"]) (OD : Ok P w K mg base 1 "_law_draw" ["_law_pot_here", "_law_many"] spLDraw) : Ok P w K mg base 2 "_law_any" ["_law_pot_here", "_law_items"] spLAny := by
  refine D.ok scLAny (fun vs H Q E h => ?_) (fun f cdv A outer s H vs Q E hr h => ?_)
  · obtain ⟨p, g, s, l, xs, rfl, _⟩ := h; rfl
  · obtain ⟨p, g, s0, l, xs, rfl, hP, hl, np, ng, n0, n30, q⟩ := h
    refine ⟨_, pss_one (ps_ret (pe_ix ix_list (pv 1) (pe_fn OD hr (pa_cons (pv 0) (pa_cons (pe_callB call_len_seq (by rfl) T.len boot_len (pa_cons (pv 1) pa_nil)) pa_nil))) (fun _ _ => rfl))), ?_⟩
    refine ⟨_, rfl, _, rfl, _, rfl, l, _, rfl, .inl (SqL.of hl), p, g, s0, xs.length, rfl, hP, n0, by omega, fun H1 d f1 P1 hd => ?_⟩
    obtain ⟨x, hx⟩ : ∃ x, xs[d]? = some x := ⟨_, List.getElem?_eq_getElem hd⟩
    exact ⟨l, xs, _, x, rfl, rfl, SqL.of (f1 _ _ hl np ng), atI_nat hx, q H1 x f1 P1 (List.mem_of_getElem? hx)⟩
end
end KW

set_option Elab.async false
set_option linter.all false
set_option maxRecDepth 100000
set_option maxHeartbeats 4000000
/-! _law_power, _law_menu, _law_machine. -/
namespace KW
open PySem PySem.Spec PyProof.Rows L2 KR KP
open KM (Mach All2)
section
variable {P : Program} {w : World} {K : PySem.W.Frag} {mg : Str → Option Value} {base : Heap} {aN aO : Addr}
/-! ### _law_power -/
abbrev sLPower : Stmt := topS 46
abbrev nLPower : List Str := ["_law_many", "_law_found", "_law_turn"]
theorem scLPower : FnScope nLPower ["_law_many"] (defScope sLPower) := ⟨rfl, rfl, rfl, by decide +kernel, rfl, by decide +kernel, by decide +kernel⟩
def spLPower : Sp := fun vs H Q _ => ∃ (n : Nat), vs = [.int (n : Int)] ∧ n ≤ 1000 ∧ Q (.int ((2 ^ n : Nat) : Int)) H
theorem ok_lpower (T : Txt K mg aN aO) (D : At K mg "_law_power" sLPower ["_law_many"]) : Ok P w K mg base 1 "_law_power" ["_law_many"] spLPower := by
  refine D.ok scLPower (fun vs H Q E h => ?_) (fun f cdv A outer s H vs Q E hr h => ?_)
  · obtain ⟨n, rfl, _⟩ := h; rfl
  · obtain ⟨n, rfl, hn, q⟩ := h
    have nd := scLPower.nd
    refine ⟨_, pss_cons (ps_set (i := 1) nd rfl (Or.inl rfl) pe_int)
      (pss_cons (ps_for PassesOwn.never rfl (pi_range1 (by rfl) T.range (pa_cons (pv 0) pa_nil)) (pg_name (i := 2) nd rfl (Or.inl rfl))
        (pss_one (ps_set (i := 1) nd rfl (Or.inl rfl) (pe_op op_mul (pv 1) pe_int))))
      (pss_one (ps_ret (pv 1)))), ?_⟩
    refine ⟨_, rfl, (n : Int), rfl, by omega, by omega, ?_⟩
    refine for_range (lo := 0) (n := n) (fun i σ H' => ∃ x2 : Option V, σ = [some (.int (n : Int)), some (.int ((2 ^ i : Nat) : Int)), x2] ∧ H' = H) ⟨none, rfl, rfl⟩ ?_ ?_
    · rintro i σ H' hi ⟨x2, rfl, rfl⟩
      refine ⟨_, rfl, _, 2, rfl, rfl, .inr ⟨by decide, by decide⟩, some (.int ((0 : Int) + (i : Int))), ?_, rfl⟩
      show [_, some (V.int (((2 ^ i : Nat) : Int) * 2)), _] = _
      rw [Nat.pow_succ, Int.natCast_mul]
      rfl
    · rintro σ H' ⟨x2, rfl, rfl⟩
      exact ⟨_, rfl, q⟩
/-! ### _law_menu -/
abbrev sLMenu : Stmt := topS 48
theorem scLMenu : FnScope ["_law_pot_here"] ["_law_pot_here"] (defScope sLMenu) := ⟨rfl, rfl, rfl, by decide +kernel, rfl, by decide +kernel, by decide +kernel⟩
def spLMenu : Sp := fun vs H Q _ => ∃ (p g s : Addr), vs = [.ref p] ∧ Pot H p g s ∧ ∀ (H' : Hp) (b : Addr) (ms : List Nat), Fr p g H H' → Pot H' p g s → H' b = some (.lst (il ms)) → b ≠ p → b ≠ g → b ≠ s → 0 < ms.length → ms.length < 1000 → (∀ m ∈ ms, m ≤ 60) → Q (.ref b) H'
theorem ok_lmenu (T : Txt K mg aN aO) (D : At K mg "_law_menu" sLMenu ["_law_pot_here"]) (OA : Ok P w K mg base 2 "_law_any" ["_law_pot_here", "_law_items"] spLAny) : Ok P w K mg base 3 "_law_menu" ["_law_pot_here"] spLMenu := by
  refine D.ok scLMenu (fun vs H Q E h => ?_) (fun f cdv A outer s H vs Q E hr h => ?_)
  · obtain ⟨p, g, s, rfl, _⟩ := h; rfl
  · obtain ⟨p, g, s0, rfl, hP, q⟩ := h
    refine ⟨_, pss_one (ps_ret (pe_fn OA hr (pa_cons (pv 0) (pa_cons (pe_lst
      (pa_cons (pe_lst (pa_cons pe_int (pa_cons pe_int (pa_cons pe_int (pa_cons pe_int pa_nil)))))
      (pa_cons (pe_lst (pa_cons pe_int (pa_cons pe_int (pa_cons pe_int (pa_cons pe_int pa_nil)))))
      (pa_cons (pe_lst (pa_cons pe_int (pa_cons pe_int (pa_cons pe_int (pa_cons pe_int pa_nil)))))
      (pa_cons (pe_lst (pa_cons pe_int (pa_cons pe_int (pa_cons pe_int (pa_cons pe_int pa_nil)))))
      (pa_cons (pe_lst (pa_cons pe_int (pa_cons pe_int (pa_cons pe_int (pa_cons pe_int pa_nil)))))
      (pa_cons (pe_lst (pa_cons pe_int (pa_cons pe_int (pa_cons pe_int (pa_cons pe_int pa_nil))))) pa_nil))))))) pa_nil)))), ?_⟩
    refine ⟨_, rfl, by show 4 ≤ sizeLine; decide, fun a1 n1 => ⟨by show 4 ≤ sizeLine; decide, fun a2 n2 => ⟨by show 4 ≤ sizeLine; decide, fun a3 n3 => ⟨by show 4 ≤ sizeLine; decide, fun a4 n4 => ⟨by show 4 ≤ sizeLine; decide, fun a5 n5 => ⟨by show 4 ≤ sizeLine; decide, fun a6 n6 => ⟨by show 6 ≤ sizeLine; decide, fun L nL => ?_⟩⟩⟩⟩⟩⟩⟩
    have k1 := same_new (o := .lst [.int 0, .int 1, .int 1, .int 2]) n1
    have k2 := same_new (o := .lst [.int 1, .int 1, .int 2, .int 3]) n2
    have k3 := same_new (o := .lst [.int 2, .int 2, .int 3, .int 4]) n3
    have k4 := same_new (o := .lst [.int 3, .int 4, .int 5, .int 9]) n4
    have k5 := same_new (o := .lst [.int 0, .int 2, .int 5, .int 60]) n5
    have k6 := same_new (o := .lst [.int 1, .int 2, .int 3, .int 3]) n6
    have k7 := same_new (o := .lst [.ref a1, .ref a2, .ref a3, .ref a4, .ref a5, .ref a6]) nL
    have sm := (((((k1.trans k2).trans k3).trans k4).trans k5).trans k6).trans k7
    have b1 := k7 _ _ (k6 _ _ (k5 _ _ (k4 _ _ (k3 _ _ (k2 _ _ (upd_same (H := H) (a := a1)))))))
    have b2 := k7 _ _ (k6 _ _ (k5 _ _ (k4 _ _ (k3 _ _ (upd_same (a := a2))))))
    have b3 := k7 _ _ (k6 _ _ (k5 _ _ (k4 _ _ (upd_same (a := a3)))))
    have b4 := k7 _ _ (k6 _ _ (k5 _ _ (upd_same (a := a4))))
    have b5 := k7 _ _ (k6 _ _ (upd_same (a := a5)))
    have b6 := k7 _ _ (upd_same (a := a6))
    have bL := upd_same (a := L) (o := HO.lst [.ref a1, .ref a2, .ref a3, .ref a4, .ref a5, .ref a6]) (H := upd (upd (upd (upd (upd (upd H a1 (.lst [.int 0, .int 1, .int 1, .int 2])) a2 (.lst [.int 1, .int 1, .int 2, .int 3])) a3 (.lst [.int 2, .int 2, .int 3, .int 4])) a4 (.lst [.int 3, .int 4, .int 5, .int 9])) a5 (.lst [.int 0, .int 2, .int 5, .int 60])) a6 (.lst [.int 1, .int 2, .int 3, .int 3]))
    have hn : ∀ (a : Addr) (H1 : Hp), Same H H1 → H1 a = none → a ≠ p ∧ a ≠ g ∧ a ≠ s0 := fun a H1 h1 h2 => hP.ne (h1.free h2)
    have c1 := hn a1 _ (Same.refl H) n1
    have c2 := hn a2 _ k1 n2
    have c3 := hn a3 _ (k1.trans k2) n3
    have c4 := hn a4 _ ((k1.trans k2).trans k3) n4
    have c5 := hn a5 _ (((k1.trans k2).trans k3).trans k4) n5
    have c6 := hn a6 _ ((((k1.trans k2).trans k3).trans k4).trans k5) n6
    have cL := hn L _ (((((k1.trans k2).trans k3).trans k4).trans k5).trans k6) nL
    refine ⟨p, g, s0, L, _, rfl, hP.same sm, bL, cL.1, cL.2.1, by simp, by simp, fun H1 x f1 P1 hx => ?_⟩
    have pk : ∀ (a : Addr) (ms : List Nat), (a ≠ p ∧ a ≠ g ∧ a ≠ s0) → H1 a = some (.lst (il ms)) → 0 < ms.length → ms.length < 1000 → (∀ m ∈ ms, m ≤ 60) → Q (.ref a) H1 := fun a ms h1 h2 h3 h4 h5 =>
      q H1 a ms ((same_fr sm).trans f1) P1 h2 h1.1 h1.2.1 h1.2.2 h3 h4 h5
    simp only [List.mem_cons, List.not_mem_nil, or_false] at hx
    rcases hx with rfl | rfl | rfl | rfl | rfl | rfl
    · exact pk a1 [0, 1, 1, 2] c1 (f1 _ _ b1 c1.1 c1.2.1) (by decide) (by decide) (by decide)
    · exact pk a2 [1, 1, 2, 3] c2 (f1 _ _ b2 c2.1 c2.2.1) (by decide) (by decide) (by decide)
    · exact pk a3 [2, 2, 3, 4] c3 (f1 _ _ b3 c3.1 c3.2.1) (by decide) (by decide) (by decide)
    · exact pk a4 [3, 4, 5, 9] c4 (f1 _ _ b4 c4.1 c4.2.1) (by decide) (by decide) (by decide)
    · exact pk a5 [0, 2, 5, 60] c5 (f1 _ _ b5 c5.1 c5.2.1) (by decide) (by decide) (by decide)
    · exact pk a6 [1, 2, 3, 3] c6 (f1 _ _ b6 c6.1 c6.2.1) (by decide) (by decide) (by decide)
/-! ### _law_machine -/
abbrev sLMachine : Stmt := topS 47
abbrev nLMachine : List Str := ["_law_pot_here", "_law_most", "_law_mores", "_law_size", "_law_states", "_law_rows", "_law_state", "_law_steps", "_law_letter", "_law_step", "_law_end"]
theorem scLMachine : FnScope nLMachine ["_law_pot_here", "_law_most", "_law_mores"] (defScope sLMachine) := ⟨rfl, rfl, rfl, by decide +kernel, rfl, by decide +kernel, by decide +kernel⟩
/-- drawn: few states, short ends -/
structure Drawn (M : Mach) : Prop where
  ok : KM.Valid M
  few : M.rows.length ≤ 6
  ends : ∀ r ∈ M.rows, ∀ e, r.fin = some e → e ≤ 9
theorem Fr.free {p g s b : Addr} {H H' : Hp} (a : Fr p g H H') (P : Pot H' p g s) (h : H' b = none) : H b = none := by
  have n := P.ne h
  cases e : H b with
  | none => rfl
  | some o => rw [a b o e n.1 n.2.1] at h; cases h
structure DRow (size states : Nat) (r : KM.Row) : Prop where
  len : r.steps.length = size
  ends : ∀ e, r.fin = some e → 1 ≤ e ∧ e ≤ 9
  mores : ∀ m j, some (m, j) ∈ r.steps → m ≤ 60 ∧ j < states
def spLMachine (K : PySem.W.Frag) : Sp := fun vs H Q _ => ∃ (p g s b : Addr) (ms : List Nat), vs = [.ref p, .int 6, .ref b] ∧ Pot H p g s ∧ H b = some (.lst (il ms)) ∧ b ≠ p ∧ b ≠ g ∧ b ≠ s ∧ 0 < ms.length ∧ ms.length < 1000 ∧ (∀ m ∈ ms, m ≤ 60) ∧
  ∀ (H' : Hp) (z : V) (M : Mach), Fr p g H H' → Pot H' p g s → MachA K H' z M → Drawn M → Q z H'
theorem ok_lmachine (T : Txt K mg aN aO) (D : At K mg "_law_machine" sLMachine ["_law_pot_here", "_law_most", "_law_mores"]) (OA : Ok P w K mg base 2 "_law_any" ["_law_pot_here", "_law_items"] spLAny)
    (OD : Ok P w K mg base 1 "_law_draw" ["_law_pot_here", "_law_many"] spLDraw) : Ok P w K mg base 3 "_law_machine" ["_law_pot_here", "_law_most", "_law_mores"] (spLMachine K) := by
  refine D.ok scLMachine (fun vs H Q E h => ?_) (fun f cdv A outer s H vs Q E hr h => ?_)
  · obtain ⟨p, g, s, b, ms, rfl, _⟩ := h; rfl
  · obtain ⟨p, g, s0, b, ms, rfl, hP, hb, nbp, nbg, nbs, m0, m1000, m60, q⟩ := h
    have nd := scLMachine.nd
    refine ⟨_, pss_cons (ps_par (i := 3) (j := 4) rfl nd rfl rfl (by decide) rfl rfl (pa_cons (pe_fn OA hr (pa_cons (pv 0) (pa_cons (pe_lst (pa_cons pe_int (pa_cons pe_int (pa_cons pe_int (pa_cons pe_int (pa_cons pe_int (pa_cons pe_int (pa_cons pe_int pa_nil)))))))) pa_nil)))
          (pa_cons (pe_op op_add pe_int (pe_fn OD (hr.mono (by decide)) (pa_cons (pv 0) (pa_cons (pv 1) pa_nil)))) pa_nil)) rfl)
      (pss_cons (ps_set (i := 5) nd rfl (Or.inl rfl) (pe_lst pa_nil))
      (pss_cons (ps_for PassesOwn.never rfl (pi_range1 (by rfl) T.range (pa_cons (pv 4) pa_nil)) (pg_name (i := 6) nd rfl (Or.inl rfl))
        (pss_cons (ps_set (i := 7) nd rfl (Or.inl rfl) (pe_lst pa_nil))
        (pss_cons (ps_for PassesOwn.never rfl (pi_range1 (by rfl) T.range (pa_cons (pv 3) pa_nil)) (pg_name (i := 8) nd rfl (Or.inl rfl))
          (pss_cons (ps_set (i := 9) nd rfl (Or.inl rfl) (pe_tup (pa_cons (pe_fn OA hr (pa_cons (pv 0) (pa_cons (pv 2) pa_nil))) (pa_cons (pe_fn OD (hr.mono (by decide)) (pa_cons (pv 0) (pa_cons (pv 4) pa_nil))) pa_nil))))
          (pss_one (ps_expr (pe_bm PySem.F.plainAttrs_list PySem.F.slot_list_append PySem.F.type_list_append mt_append (pv 7) (pa_cons (pe_ifExp (pt_cmpR op_eq (pe_fn OD (hr.mono (by decide)) (pa_cons (pv 0) (pa_cons pe_int pa_nil))) pe_int (nomark _)) pe_non (pv 9)) pa_nil))))))
        (pss_cons (ps_set (i := 10) nd rfl (Or.inl rfl) (pe_fn OA hr (pa_cons (pv 0) (pa_cons (pe_lst (pa_cons pe_non (pa_cons pe_int (pa_cons pe_int (pa_cons pe_int (pa_cons pe_int (pa_cons pe_int (pa_cons pe_int pa_nil)))))))) pa_nil))))
        (pss_one (ps_expr (pe_bm PySem.F.plainAttrs_list PySem.F.slot_list_append PySem.F.type_list_append mt_append (pv 5) (pa_cons (pe_tup (pa_cons (pv 10) (pa_cons (pe_callTy call_tuple_of (by rfl) T.tuple boot_tuple (pa_cons (pv 7) pa_nil)) pa_nil))) pa_nil))))))))
      (pss_one (ps_ret (pe_tup (pa_cons (pv 3) (pa_cons (pe_callTy call_tuple_of (by rfl) T.tuple boot_tuple (pa_cons (pv 5) pa_nil)) pa_nil))))))), ?_⟩
    refine ⟨_, rfl, by show 7 ≤ sizeLine; decide, fun l1 nl1 => ?_⟩
    have c1 := hP.ne nl1
    refine ⟨p, g, s0, l1, _, rfl, hP.new nl1, upd_same, c1.1, c1.2.1, by simp, by simp, fun H1 x f1 P1 hx => ?_⟩
    have f1 : Fr p g H H1 := (same_fr (same_new nl1)).trans f1
    obtain ⟨sz, rfl, sz1, sz8⟩ : ∃ sz : Nat, x = .int (sz : Int) ∧ 1 ≤ sz ∧ sz ≤ 8 := by
      simp only [List.mem_cons, List.not_mem_nil, or_false] at hx
      rcases hx with rfl | rfl | rfl | rfl | rfl | rfl | rfl
      · exact ⟨1, rfl, by decide, by decide⟩
      · exact ⟨2, rfl, by decide, by decide⟩
      · exact ⟨2, rfl, by decide, by decide⟩
      · exact ⟨2, rfl, by decide, by decide⟩
      · exact ⟨3, rfl, by decide, by decide⟩
      · exact ⟨4, rfl, by decide, by decide⟩
      · exact ⟨8, rfl, by decide, by decide⟩
    refine ⟨_, rfl, _, rfl, p, g, s0, 6, rfl, P1, by decide, by decide, fun H2 d f2 P2 hd => ?_⟩
    have f2 := f1.trans f2
    obtain ⟨st, est, st1, st6⟩ : ∃ st : Nat, (1 : Int) + (d : Int) = (st : Int) ∧ 1 ≤ st ∧ st ≤ 6 := ⟨1 + d, by omega, by omega, by omega⟩
    refine ⟨1, (d : Int), rfl, rfl, .int (sz : Int), .int (st : Int), by rw [← est], ?_⟩
    -- rows = []
    refine ⟨Nat.zero_le _, fun R nR => ?_⟩
    have nRH := f2.free P2 nR
    have cR := P2.ne nR
    refine ⟨_, rfl, _, rfl, by omega, by omega, ?_⟩
    rw [Int.toNat_natCast]
    refine for_range (lo := 0) (n := st) (fun i σ H' => ∃ (x6 x7 x8 x9 x10 : Option V) (rs : List V) (rows : List KM.Row), σ = [some (.ref p), some (.int 6), some (.ref b), some (.int (sz : Int)), some (.int (st : Int)), some (.ref R), x6, x7, x8, x9, x10] ∧
        Fr p g H H' ∧ Pot H' p g s0 ∧ H' R = some (.lst rs) ∧ All2 (RowA K H') rs rows ∧ rows.length = i ∧ ∀ r ∈ rows, DRow sz st r)
      ⟨none, none, none, none, none, [], [], rfl, f2.mut nRH, P2.new nR, upd_same, .nil, rfl, fun r h => by simp at h⟩ ?_ ?_
    · rintro i σ H3 hi ⟨x6, x7, x8, x9, x10, rs, rows, rfl, f3, P3, hR, hrs, lrows, hrows⟩
      -- steps = []
      refine ⟨Nat.zero_le _, fun S nS => ?_⟩
      have nSH := f3.free P3 nS
      have cS := P3.ne nS
      have nSR : S ≠ R := fun e => by rw [e, hR] at nS; cases nS
      refine ⟨_, rfl, _, rfl, by omega, by omega, ?_⟩
      rw [Int.toNat_natCast]
      refine for_range (lo := 0) (n := sz) (fun t σ H' => ∃ (x8 x9 : Option V) (ss : List V) (steps : List KM.Step), σ = [some (.ref p), some (.int 6), some (.ref b), some (.int (sz : Int)), some (.int (st : Int)), some (.ref R), some (.int ((0 : Int) + (i : Int))), some (.ref S), x8, x9, x10] ∧
          Fr p g H3 H' ∧ Pot H' p g s0 ∧ H' S = some (.lst ss) ∧ All2 (StepA K H') ss steps ∧ steps.length = t ∧ ∀ m j, some (m, j) ∈ steps → m ≤ 60 ∧ j < st)
        ⟨x8, x9, [], [], rfl, same_fr (same_new nS), P3.new nS, upd_same, .nil, rfl, fun m j h => by simp at h⟩ ?_ ?_
      · rintro t σ H4 ht ⟨x8', x9', ss, steps, rfl, f4, P4, hS, hss, lsteps, hsteps⟩
        have hb4 := f4 _ _ (f3 _ _ hb nbp nbg) nbp nbg
        refine ⟨_, rfl, _, rfl, p, g, s0, b, _, rfl, P4, hb4, nbp, nbg, by rw [il_len]; exact m0, by rw [il_len]; exact m1000, fun H5 y f5 P5 hy => ?_⟩
        obtain ⟨m, hm, rfl⟩ : ∃ m ∈ ms, y = .int (m : Int) := by
          obtain ⟨m, h1, h2⟩ := List.mem_map.mp hy
          exact ⟨m, h1, h2.symm⟩
        refine ⟨_, rfl, _, rfl, p, g, s0, st, rfl, P5, by omega, by omega, fun H6 j f6 P6 hj => ?_⟩
        refine ⟨by show 2 ≤ sizeLine; decide, fun tp ntp => ?_⟩
        have k7 := same_new (o := .tup [.int (m : Int), .int (j : Int)]) ntp
        have f47 : Fr p g H4 (upd H6 tp (.tup [.int (m : Int), .int (j : Int)])) := (f5.trans f6).trans (same_fr k7)
        have P7 : Pot (upd H6 tp (.tup [.int (m : Int), .int (j : Int)])) p g s0 := P6.new ntp
        have hT7 : upd H6 tp (.tup [.int (m : Int), .int (j : Int)]) tp = some (.tup [.int (m : Int), .int (j : Int)]) := upd_same
        generalize upd H6 tp (.tup [.int (m : Int), .int (j : Int)]) = H7 at f47 P7 hT7
        have hS7 := f47 _ _ hS cS.1 cS.2.1
        refine ⟨_, rfl, .inl ⟨rfl, _, SqL.of hS7⟩, _, rfl, p, g, s0, 4, rfl, P7, by decide, by decide, fun H8 c f8 P8 _ => ?_⟩
        have f48 := f47.trans f8
        have hS8 := f48 _ _ hS cS.1 cS.2.1
        have hT8 : H8 tp = some (.tup [.int (m : Int), .int (j : Int)]) := Fr.tup P7 f8 _ _ hT7
        have hss8 := All2.mono hss fun a c h => StepA.keep (Fr.tup P4 f48) h
        have lss := hss.len
        have done : ∀ (v : V) (stp : KM.Step), StepA K H8 v stp → (∀ m j, stp = some (m, j) → m ≤ 60 ∧ j < st) → ∃ (x8 x9 : Option V) (ss' : List V) (steps' : List KM.Step), [some (V.ref p), some (.int 6), some (.ref b), some (.int (sz : Int)), some (.int (st : Int)), some (.ref R), some (.int ((0 : Int) + (i : Int))), some (.ref S), some (.int ((0 : Int) + (t : Int))), some (.ref tp), x10] = [some (V.ref p), some (.int 6), some (.ref b), some (.int (sz : Int)), some (.int (st : Int)), some (.ref R), some (.int ((0 : Int) + (i : Int))), some (.ref S), x8, x9, x10] ∧
            Fr p g H3 (upd H8 S (.lst (ss ++ [v]))) ∧ Pot (upd H8 S (.lst (ss ++ [v]))) p g s0 ∧ upd H8 S (.lst (ss ++ [v])) S = some (.lst ss') ∧ All2 (StepA K (upd H8 S (.lst (ss ++ [v])))) ss' steps' ∧ steps'.length = t + 1 ∧ ∀ m j, some (m, j) ∈ steps' → m ≤ 60 ∧ j < st := by
          intro v stp hv hok
          have gl : Tup H8 (upd H8 S (.lst (ss ++ [v]))) := tup_lst hS8
          refine ⟨_, _, ss ++ [v], steps ++ [stp], rfl, (f4.trans f48).mut nS, P8.mut cS.1 cS.2.1 cS.2.2, upd_same, All2.snoc (All2.mono hss8 fun a c h => StepA.keep gl h) (StepA.keep gl hv), by simp [lsteps], fun m' j' h => ?_⟩
          rcases List.mem_append.mp h with h | h
          · exact hsteps m' j' h
          · exact hok m' j' (List.mem_singleton.mp h).symm
        refine ⟨rfl, _, rfl, ite2 (fun _ => ?_) (fun _ => ?_)⟩
        · exact ⟨S, ss, .non, rfl, rfl, hS8, small1000 (by omega), done .non none rfl fun m' j' h => by cases h⟩
        · exact ⟨_, rfl, S, ss, .ref tp, rfl, rfl, hS8, small1000 (by omega), done (.ref tp) (some (m, j)) ⟨tp, rfl, .inl hT8⟩ fun m' j' h => by
            have h := Option.some.inj h
            cases h
            exact ⟨m60 m hm, hj⟩⟩
      · rintro σ H4 ⟨x8', x9', ss, steps, rfl, f4, P4, hS, hss, lsteps, hsteps⟩
        refine ⟨_, rfl, by show 7 ≤ sizeLine; decide, fun l2 nl2 => ?_⟩
        have c2 := P4.ne nl2
        refine ⟨p, g, s0, l2, _, rfl, P4.new nl2, upd_same, c2.1, c2.2.1, by simp, by simp, fun H5 x f5 P5 hx => ?_⟩
        have f45 : Fr p g H4 H5 := (same_fr (same_new nl2)).trans f5
        obtain ⟨en, rfl, hen⟩ : ∃ en : Option Nat, x = optV en ∧ ∀ e, en = some e → 1 ≤ e ∧ e ≤ 9 := by
          simp only [List.mem_cons, List.not_mem_nil, or_false] at hx
          rcases hx with rfl | rfl | rfl | rfl | rfl | rfl | rfl
          · exact ⟨none, rfl, fun e h => by cases h⟩
          · exact ⟨some 1, rfl, fun e h => by cases h; decide⟩
          · exact ⟨some 1, rfl, fun e h => by cases h; decide⟩
          · exact ⟨some 2, rfl, fun e h => by cases h; decide⟩
          · exact ⟨some 3, rfl, fun e h => by cases h; decide⟩
          · exact ⟨some 5, rfl, fun e h => by cases h; decide⟩
          · exact ⟨some 9, rfl, fun e h => by cases h; decide⟩
        have f35 := f4.trans f45
        have hR5 := f35 _ _ hR cR.1 cR.2.1
        have hS5 := f45 _ _ hS cS.1 cS.2.1
        refine ⟨_, rfl, .inl ⟨rfl, _, SqL.of hR5⟩, _, rfl, _, rfl, S, ss, rfl, .inl ⟨SqL.of hS5, fun tt ntt => ?_⟩⟩
        have k6 := same_new (o := .tup ss) ntt
        refine ⟨by show 2 ≤ sizeLine; decide, fun tr ntr => ?_⟩
        have k7 := same_new (o := .tup [optV en, .ref tt]) ntr
        have k67 := k6.trans k7
        have f47 := f45.trans (same_fr k67)
        have P7 := P5.same k67
        have t1 : upd (upd H5 tt (.tup ss)) tr (.tup [optV en, .ref tt]) tt = some (.tup ss) := k7 _ _ upd_same
        have t2 : upd (upd H5 tt (.tup ss)) tr (.tup [optV en, .ref tt]) tr = some (.tup [optV en, .ref tt]) := upd_same
        have hR7 := k67 _ _ hR5
        generalize upd (upd H5 tt (.tup ss)) tr (.tup [optV en, .ref tt]) = H7 at f47 P7 t1 t2 hR7
        have lrs := hrs.len
        refine ⟨R, rs, .ref tr, rfl, rfl, hR7, small1000 (by omega), ?_⟩
        have gl : Tup H7 (upd H7 R (.lst (rs ++ [.ref tr]))) := tup_lst hR7
        have gA : Tup H3 (upd H7 R (.lst (rs ++ [.ref tr]))) := (Fr.tup P3 (f4.trans f47)).trans gl
        have gB : Tup H4 (upd H7 R (.lst (rs ++ [.ref tr]))) := (Fr.tup P4 f47).trans gl
        refine ⟨_, _, _, _, _, rs ++ [.ref tr], rows ++ [⟨en, steps⟩], rfl, (f3.trans (f4.trans f47)).mut nRH, P7.mut cR.1 cR.2.1 cR.2.2, upd_same, All2.snoc (All2.mono hrs fun a c h => RowA.keep gA h) ⟨tr, tt, ss, rfl, .inl (gl _ _ t2), .inl (gl _ _ t1), All2.mono hss fun a c h => StepA.keep gB h⟩, by simp [lrows], fun r h => ?_⟩
        rcases List.mem_append.mp h with h | h
        · exact hrows r h
        · rw [List.mem_singleton.mp h]
          exact ⟨lsteps, hen, hsteps⟩
    · rintro σ H3 ⟨x6, x7, x8, x9, x10, rs, rows, rfl, f3, P3, hR, hrs, lrows, hrows⟩
      refine ⟨_, rfl, _, rfl, R, rs, rfl, .inl ⟨SqL.of hR, fun tt ntt => ?_⟩⟩
      have k6 := same_new (o := .tup rs) ntt
      refine ⟨by show 2 ≤ sizeLine; decide, fun tr ntr => ?_⟩
      have k7 := same_new (o := .tup [.int (sz : Int), .ref tt]) ntr
      have k67 := k6.trans k7
      refine q _ _ ⟨sz, rows⟩ (f3.trans (same_fr k67)) (P3.same k67) ⟨tr, .ref tt, rfl, .inl upd_same, tt, rs, rfl, .inl (k7 _ _ upd_same), All2.mono hrs fun a c h => RowA.keep (same_tup k67) h⟩ ⟨⟨sz1, sz8, by show 1 ≤ rows.length; omega, by show rows.length ≤ 30; omega, fun r h => (hrows r h).len, fun r h e he => ?_, fun r h m j hm => ?_⟩, by show rows.length ≤ 6; omega, fun r h e he => ((hrows r h).ends e he).2⟩
      · have := (hrows r h).ends e he; omega
      · show m ≤ 60 ∧ j < rows.length
        rw [lrows]
        exact (hrows r h).mores m j hm
end
end KW

set_option Elab.async false
set_option linter.all false
set_option maxRecDepth 100000
set_option maxHeartbeats 4000000
/-! the law's fractions: _law_gcd, _law_reduced, _law_plus, _law_lighter, _law_sum, _law_part. -/
namespace KW
open PySem PySem.Spec PyProof.Rows L2 KR KP
open KM (Mach All2)
section
variable {P : Program} {w : World} {K : PySem.W.Frag} {mg : Str → Option Value} {base : Heap} {aN aO : Addr}
/-! ### _law_gcd -/
abbrev sLGcd : Stmt := topS 50
abbrev nLGcd : List Str := ["_law_one", "_law_other"]
theorem scLGcd : FnScope nLGcd ["_law_one", "_law_other"] (defScope sLGcd) := ⟨rfl, rfl, rfl, by decide +kernel, rfl, by decide +kernel, by decide +kernel⟩
def spLGcd : Sp := fun vs H Q _ => ∃ a b : Int, vs = [.int a, .int b] ∧ Q (.int ((Nat.gcd a.natAbs b.natAbs : Nat) : Int)) H
theorem abs_cast (i : Int) : (if i < 0 then -i else i) = ((i.natAbs : Nat) : Int) := by split <;> omega
theorem ok_lgcd (T : Txt K mg aN aO) (D : At K mg "_law_gcd" sLGcd ["_law_one", "_law_other"]) : Ok P w K mg base 1 "_law_gcd" ["_law_one", "_law_other"] spLGcd := by
  refine D.ok scLGcd (fun vs H Q E h => ?_) (fun f cdv A outer s H vs Q E hr h => ?_)
  · obtain ⟨a, b, rfl, _⟩ := h; rfl
  · obtain ⟨a, b, rfl, q⟩ := h
    have nd := scLGcd.nd
    refine ⟨_, pss_cons (ps_par (i := 0) (j := 1) rfl nd rfl rfl (by decide) rfl rfl (pa_cons (pe_callB call_abs (by rfl) T.abs_ boot_abs (pa_cons (pv 0) pa_nil)) (pa_cons (pe_callB call_abs (by rfl) T.abs_ boot_abs (pa_cons (pv 1) pa_nil)) pa_nil)) rfl)
      (pss_cons (ps_while PassesOwn.never (pt_cmpR op_gt (pv 1) pe_int (nomark _))
        (pss_one (ps_par (i := 0) (j := 1) rfl nd rfl rfl (by decide) rfl rfl (pa_cons (pv 1) (pa_cons (pe_op op_mod (pe_callTy call_int1 (by rfl) T.int_ boot_int (pa_cons (pv 0) pa_nil)) (pv 1)) pa_nil)) rfl)))
      (pss_one (ps_ret (pv 0)))), ?_⟩
    refine ⟨_, rfl, a, rfl, _, rfl, b, rfl, .int (a.natAbs : Int), .int (b.natAbs : Int), by rw [abs_cast, abs_cast], ?_⟩
    refine ⟨fun m σ H' => ∃ x y : Nat, σ = [some (.int (x : Int)), some (.int (y : Int))] ∧ H' = H ∧ Nat.gcd x y = Nat.gcd a.natAbs b.natAbs ∧ m = y, ⟨_, a.natAbs, b.natAbs, rfl, rfl, rfl, rfl⟩, ?_⟩
    rintro m σ H1 ⟨x, y, rfl, rfl, hg, rfl⟩
    refine ⟨_, rfl, (m : Int), 0, rfl, rfl, _, rfl, ?_⟩
    refine ite2 (fun hc => ?_) (fun hc => ?_)
    · have hc : (0 : Int) < (m : Int) := of_decide_eq_true hc
      refine ⟨fun σ' H' => σ' = [some (.int (m : Int)), some (.int ((x % m : Nat) : Int))] ∧ H' = H1, ?_, ?_⟩
      · rintro σ' H' ⟨rfl, rfl⟩
        refine ⟨x % m, Nat.mod_lt _ (by omega), m, x % m, rfl, rfl, ?_, rfl⟩
        rw [← hg, Nat.gcd_comm x m, Nat.gcd_comm m (x % m)]
        exact (Nat.gcd_rec m x).symm
      · refine ⟨_, rfl, _, rfl, .inl ⟨(x : Int), rfl, _, rfl, (x : Int), (m : Int), rfl, rfl, hc, .int (m : Int), .int ((x % m : Nat) : Int), ?_, rfl, rfl⟩⟩
        rw [Int.natCast_emod]
    · have hc : ¬ (0 : Int) < (m : Int) := fun z => hc (decide_eq_true z)
      have e : m = 0 := by omega
      subst e
      refine ⟨_, rfl, ?_⟩
      rw [← hg, Nat.gcd_zero_right] at q
      exact q
/-! ### _law_reduced -/
abbrev sLReduced : Stmt := topS 51
theorem scLReduced : FnScope ["_law_top", "_law_bottom", "_law_shared"] ["_law_top", "_law_bottom"] (defScope sLReduced) := ⟨rfl, rfl, rfl, by decide +kernel, rfl, by decide +kernel, by decide +kernel⟩
theorem ok_lreduced (D : At K mg "_law_reduced" sLReduced ["_law_top", "_law_bottom"]) (OG : Ok P w K mg base 1 "_law_gcd" ["_law_one", "_law_other"] spLGcd) : Ok P w K mg base 2 "_law_reduced" ["_law_top", "_law_bottom"] (spFraction K) := by
  refine D.ok scLReduced (fun vs H Q E h => ?_) (fun f cdv A outer s H vs Q E hr h => ?_)
  · obtain ⟨a, b, rfl, _⟩ := h; rfl
  · obtain ⟨a, b, rfl, hb, hn, q⟩ := h
    refine ⟨_, pss_cons (ps_set (i := 2) scLReduced.nd rfl (Or.inl rfl) (pe_fn OG hr (pa_cons (pv 0) (pa_cons (pv 1) pa_nil))))
      (pss_cons (ps_if (pt_cmpR op_lt (pv 1) pe_int (nomark _)) (pss_one (ps_set (i := 2) scLReduced.nd rfl (Or.inl rfl) (pe_un un_neg (pv 2)))) pss_nil)
      (pss_one (ps_ret (pe_tup (pa_cons (pe_op op_fdivS (pv 0) (pv 2)) (pa_cons (pe_op op_fdivS (pv 1) (pv 2)) pa_nil)))))), ?_⟩
    refine ⟨_, rfl, _, rfl, a, b, rfl, ?_⟩
    obtain ⟨e1, e2⟩ := least_terms (a := a) hb
    have hc := gcd_log (a := a) hb hn (Nat.le_refl _)
    refine ⟨_, rfl, _, _, rfl, rfl, _, rfl, ?_⟩
    have fin : ∀ g : Int, g = (if b < 0 then -((Nat.gcd a.natAbs b.natAbs : Nat) : Int) else ((Nat.gcd a.natAbs b.natAbs : Nat) : Int)) →
        tRet (tTup (tCons (tOp (rI CDivS fun i j => .int (i.fdiv j)) (tVar 0) (tVar 2)) (tCons (tOp (rI CDivS fun i j => .int (i.fdiv j)) (tVar 1) (tVar 2)) tNil))) { nx := fun _ H' => Q .non H', rt := Q } [some (.int a), some (.int b), some (.int g)] H := by
      intro g hg
      rw [← hg] at e1 e2 hc
      refine ⟨_, rfl, _, rfl, _, _, rfl, rfl, hc a, _, rfl, _, rfl, _, _, rfl, rfl, hc b, by show 2 ≤ sizeLine; decide, fun p hp => ?_⟩
      show Q (.ref p) (upd H p (.tup [.int (a.fdiv g), .int (b.fdiv g)]))
      rw [e1, e2]
      exact q _ _ (same_new hp) ⟨p, rfl, .inl upd_same⟩
    refine ite2 (fun h => ?_) (fun h => ?_)
    · have h : b < 0 := of_decide_eq_true h
      exact ⟨_, rfl, _, rfl, fin _ (by rw [if_pos h])⟩
    · have h : ¬ b < 0 := fun z => h (decide_eq_true z)
      exact fin _ (by rw [if_neg h])
/-! ### _law_plus -/
abbrev sLPlus : Stmt := topS 52
theorem scLPlus : FnScope ["_law_one", "_law_other"] ["_law_one", "_law_other"] (defScope sLPlus) := ⟨rfl, rfl, rfl, by decide +kernel, rfl, by decide +kernel, by decide +kernel⟩
theorem ok_lplus (D : At K mg "_law_plus" sLPlus ["_law_one", "_law_other"]) (O : Ok P w K mg base 2 "_law_reduced" ["_law_top", "_law_bottom"] (spFraction K)) : Ok P w K mg base 3 "_law_plus" ["_law_one", "_law_other"] (spFr2 K (fun _ _ => True) fun x y => x + y) := by
  refine D.ok scLPlus (fun vs H Q E h => ?_) (fun f cdv A outer s H vs Q E hr h => ?_)
  · obtain ⟨v, u, x, y, rfl, _⟩ := h; rfl
  · obtain ⟨v, u, x, y, rfl, ⟨a, rfl, ta⟩, ⟨b, rfl, tb⟩, hx, hy, _, q⟩ := h
    obtain ⟨x1, x2⟩ := small_bits hx
    obtain ⟨y1, y2⟩ := small_bits hy
    refine ⟨_, pss_one (ps_ret (pe_fn O hr (pa_cons (pe_op op_add (pe_op op_mulW (pe_ix ix_tup (pv 0) pe_int (fun _ _ => rfl)) (pe_ix ix_tup (pv 1) pe_int (fun _ _ => rfl)))
        (pe_op op_mulW (pe_ix ix_tup (pv 1) pe_int (fun _ _ => rfl)) (pe_ix ix_tup (pv 0) pe_int (fun _ _ => rfl))))
      (pa_cons (pe_op op_mulW (pe_ix ix_tup (pv 0) pe_int (fun _ _ => rfl)) (pe_ix ix_tup (pv 1) pe_int (fun _ _ => rfl))) pa_nil)))), ?_⟩
    refine ⟨_, rfl, a, _, _, _, rfl, rfl, ta.sq, atI_nat (j := 0) rfl, _, rfl, b, _, _, _, rfl, rfl, tb.sq, atI_nat (j := 1) rfl, _, _, rfl, rfl, mul45 x1 y2, ?_⟩
    refine ⟨_, rfl, b, _, _, _, rfl, rfl, tb.sq, atI_nat (j := 0) rfl, _, rfl, a, _, _, _, rfl, rfl, ta.sq, atI_nat (j := 1) rfl, _, _, rfl, rfl, mul45 y1 x2, _, _, rfl, rfl, ?_⟩
    refine ⟨_, rfl, a, _, _, _, rfl, rfl, ta.sq, atI_nat (j := 1) rfl, _, rfl, b, _, _, _, rfl, rfl, tb.sq, atI_nat (j := 1) rfl, _, _, rfl, rfl, mul45 x2 y2, ?_⟩
    refine ⟨_, _, rfl, Int.mul_ne_zero (den_ne x) (den_ne y), den_mul_small hx hy, fun H' z sm hz => q H' z sm ?_⟩
    have e : x + y = Rat.divInt (x.num * (y.den : Int) + y.num * (x.den : Int)) ((x.den : Int) * (y.den : Int)) := by
      rw [Rat.add_def', ← Int.natCast_mul, Rat.divInt_ofNat]
    show FrA K H' z (x + y)
    rw [e]; exact hz
/-! ### _law_sum, _law_part -/
abbrev sLSum : Stmt := topS 61
theorem scLSum : FnScope ["_law_one", "_law_other"] ["_law_one", "_law_other"] (defScope sLSum) := ⟨rfl, rfl, rfl, by decide +kernel, rfl, by decide +kernel, by decide +kernel⟩
def oAdd : Option Rat → Option Rat → Option Rat
  | some x, some y => some (x + y)
  | _, _ => none
def oSmall (n : Nat) (x : Option Rat) : Prop := ∀ r, x = some r → KM.Small n r
def spLSum (K : PySem.W.Frag) : Sp := fun vs H Q _ => ∃ (v u : V) (x y : Option Rat), vs = [v, u] ∧ OFrA K H v x ∧ OFrA K H u y ∧ oSmall 4500 x ∧ oSmall 4500 y ∧ ∀ H' z, Same H H' → OFrA K H' z (oAdd x y) → Q z H'
theorem ok_lsum (D : At K mg "_law_sum" sLSum ["_law_one", "_law_other"]) (O : Ok P w K mg base 3 "_law_plus" ["_law_one", "_law_other"] (spFr2 K (fun _ _ => True) fun x y => x + y)) : Ok P w K mg base 4 "_law_sum" ["_law_one", "_law_other"] (spLSum K) := by
  refine D.ok scLSum (fun vs H Q E h => ?_) (fun f cdv A outer s H vs Q E hr h => ?_)
  · obtain ⟨v, u, x, y, rfl, _⟩ := h; rfl
  · obtain ⟨v, u, x, y, rfl, hv, hu, sx, sy, q⟩ := h
    refine ⟨_, pss_one (ps_ret (pe_ifExp (PW.pt (pw_or (pt_cmpR op_isN (pv 0) pe_non (nomark _)) (pw_or1 (pt_cmpR op_isN (pv 1) pe_non (nomark _))))) pe_non (pe_fn O hr (pa_cons (pv 0) (pa_cons (pv 1) pa_nil))))), ?_⟩
    cases x with
    | none =>
      obtain rfl : v = .non := hv
      refine ⟨_, rfl, rfl, _, rfl, iteD rfl (iteT ?_)⟩
      exact q H .non (Same.refl H) rfl
    | some x =>
      obtain ⟨a, rfl, ta⟩ := id hv
      refine ⟨_, rfl, rfl, _, rfl, iteDN (by intro z; cases z) ?_⟩
      cases y with
      | none =>
        obtain rfl : u = .non := hu
        refine ⟨_, rfl, rfl, _, rfl, iteD rfl ?_⟩
        exact q H .non (Same.refl H) rfl
      | some y =>
        obtain ⟨b, rfl, tb⟩ := id hu
        refine ⟨_, rfl, rfl, _, rfl, iteDN (by intro z; cases z) ?_⟩
        exact ⟨_, rfl, _, rfl, _, _, x, y, rfl, hv, hu, sx x rfl, sy y rfl, trivial, fun H' z sm hz => q H' z sm hz⟩
abbrev sLPart : Stmt := topS 62
theorem scLPart : FnScope ["_law_one", "_law_more"] ["_law_one", "_law_more"] (defScope sLPart) := ⟨rfl, rfl, rfl, by decide +kernel, rfl, by decide +kernel, by decide +kernel⟩
def spLPart (K : PySem.W.Frag) : Sp := fun vs H Q _ => ∃ (v : V) (x : Option Rat) (m : Nat), vs = [v, .int (m : Int)] ∧ OFrA K H v x ∧ oSmall 4400 x ∧ m ≤ 60 ∧ ∀ H' z, Same H H' → OFrA K H' z (x.map fun r => KM.half m * r) → Q z H'
theorem pow_bits (m : Nat) : (((2 ^ m : Nat) : Int)).natAbs < 2 ^ (m + 1) := by
  rw [Int.natAbs_natCast]
  exact Nat.pow_lt_pow_right (by decide) (by omega)
theorem ok_lpart (D : At K mg "_law_part" sLPart ["_law_one", "_law_more"]) (O : Ok P w K mg base 2 "_law_reduced" ["_law_top", "_law_bottom"] (spFraction K)) (OP : Ok P w K mg base 1 "_law_power" ["_law_many"] spLPower) : Ok P w K mg base 3 "_law_part" ["_law_one", "_law_more"] (spLPart K) := by
  refine D.ok scLPart (fun vs H Q E h => ?_) (fun f cdv A outer s H vs Q E hr h => ?_)
  · obtain ⟨v, x, m, rfl, _⟩ := h; rfl
  · obtain ⟨v, x, m, rfl, hv, sx, hm, q⟩ := h
    refine ⟨_, pss_one (ps_ret (pe_ifExp (pt_cmpR op_isN (pv 0) pe_non (nomark _)) pe_non (pe_fn O hr (pa_cons (pe_ix ix_tup (pv 0) pe_int (fun _ _ => rfl)) (pa_cons (pe_op op_mulW (pe_ix ix_tup (pv 0) pe_int (fun _ _ => rfl)) (pe_fn OP (hr.mono (by decide)) (pa_cons (pv 1) pa_nil))) pa_nil))))), ?_⟩
    cases x with
    | none =>
      obtain rfl : v = .non := hv
      refine ⟨_, rfl, rfl, _, rfl, iteD rfl ?_⟩
      exact q H .non (Same.refl H) rfl
    | some x =>
      obtain ⟨a, rfl, ta⟩ := id hv
      refine ⟨_, rfl, rfl, _, rfl, iteDN (by intro z; cases z) ?_⟩
      obtain ⟨x1, x2⟩ := small_bits (sx x rfl)
      have hp := pow_bits m
      refine ⟨_, rfl, a, _, _, _, rfl, rfl, ta.sq, atI_nat (j := 0) rfl, _, rfl, a, _, _, _, rfl, rfl, ta.sq, atI_nat (j := 1) rfl, _, rfl, m, rfl, by omega, _, _, rfl, rfl, wide_mul x2 hp (by decide) (by omega) (by omega), ?_⟩
      have hd : ((x.den : Int) * ((2 ^ m : Nat) : Int)).natAbs < 2 ^ 9000 := Nat.lt_of_lt_of_le (wide_lt x2 hp) (Nat.pow_le_pow_right (by decide) (by omega))
      have h2 : ((2 ^ m : Nat) : Int) ≠ 0 := by have := Nat.two_pow_pos m; omega
      refine ⟨_, _, rfl, Int.mul_ne_zero (den_ne x) h2, hd, fun H' z sm hz => q H' z sm ?_⟩
      have e : KM.half m * x = Rat.divInt x.num ((x.den : Int) * ((2 ^ m : Nat) : Int)) := by
        rw [Rat.mul_comm, Rat.mul_def', KM.half_num, KM.half_den, Int.mul_one, ← Int.natCast_mul, Rat.divInt_ofNat]
      show FrA K H' z (KM.half m * x)
      rw [e]; exact hz
end
end KW

set_option Elab.async false
set_option linter.all false
set_option maxRecDepth 100000
set_option maxHeartbeats 4000000
/-! the law's building: _law_moved, _law_later, _law_under, _law_behind. -/
namespace KW
open PySem PySem.Spec PyProof.Rows L2 KR KP
open KM (Mach All2)
section
variable {K : PySem.W.Frag} {H : Hp} {Q : VK}
theorem rep_read {a : Addr} {k : Int} {n : Nat} (e : k = (n : Int)) (hn : n ≤ 1000) (ta : TpA K H a [.non]) (q : ∀ (H' : Hp) (c : Addr), Same H H' → TpA K H' c (List.replicate n .non) → Q (.ref c) H') : rRepA K (.ref a) (.int k) H Q := by
  subst e
  refine ⟨a, n, [.non], rfl, rfl, ta.sq, (fun z => by cases z), by omega, by omega, by simp, fun e => ?_, fun e p np => ?_⟩
  · refine q H a (Same.refl H) ?_
    have e : n = 1 := by omega
    rw [e]; exact ta
  · refine q _ p (same_new np) (.inl ?_)
    rw [upd_same, Int.toNat_natCast, flat_rep]
theorem cat_read {a b : Addr} {xs ys : List V} (ta : TpA K H a xs) (tb : TpA K H b ys) (hz : xs.length + ys.length ≤ 1000) (q : ∀ (H' : Hp) (c : Addr), Same H H' → TpA K H' c (xs ++ ys) → Q (.ref c) H') : rCatA K (.ref a) (.ref b) H Q := by
  refine ⟨a, b, xs, ys, rfl, rfl, ta.sq, tb.sq, Nat.le_of_lt (small1000 (by omega)), fun e => ?_, fun e1 e2 => ?_, fun e1 e2 p np => ?_⟩
  · exact q H b (Same.refl H) (by rw [e]; exact tb)
  · exact q H a (Same.refl H) (by rw [e2, List.append_nil]; exact ta)
  · exact q _ p (same_new np) (.inl upd_same)
end
section
variable {P : Program} {w : World} {K : PySem.W.Frag} {mg : Str → Option Value} {base : Heap} {aN aO : Addr}
/-! ### _law_moved -/
abbrev sLMoved : Stmt := topS 56
abbrev nLMoved : List Str := ["_law_rows", "_law_many", "_law_found", "_law_end", "_law_steps", "_law_step"]
theorem scLMoved : FnScope nLMoved ["_law_rows", "_law_many"] (defScope sLMoved) := ⟨rfl, rfl, rfl, by decide +kernel, rfl, by decide +kernel, by decide +kernel⟩
def spLMoved (K : PySem.W.Frag) : Sp := fun vs H Q _ => ∃ (v : V) (rows : List KM.Row) (k : Nat), vs = [v, .int (k : Int)] ∧ RowsA K H v rows ∧ rows.length ≤ 30 ∧ (∀ r ∈ rows, r.steps.length ≤ 8) ∧
  ∀ (H' : Hp) (L : Addr) (rs : List V), Same H H' → H L = none → H' L = some (.lst rs) → All2 (RowA K H') rs (rows.map (KM.movedRow k)) → Q (.ref L) H'
theorem ok_lmoved (T : Txt K mg aN aO) (D : At K mg "_law_moved" sLMoved ["_law_rows", "_law_many"]) : Ok P w K mg base 1 "_law_moved" ["_law_rows", "_law_many"] (spLMoved K) := by
  refine D.ok scLMoved (fun vs H Q E h => ?_) (fun f cdv A outer s H vs Q E hr h => ?_)
  · obtain ⟨v, rows, k, rfl, _⟩ := h; rfl
  · obtain ⟨v, rows, k, rfl, ⟨b, rs, rfl, tb, hrs⟩, r30, l8, q⟩ := h
    have nd := scLMoved.nd
    have lrs := hrs.len
    refine ⟨_, pss_cons (ps_set (i := 2) nd rfl (Or.inl rfl) (pe_lst pa_nil))
      (pss_cons (ps_for PassesOwn.never rfl (pi_tup (pv 0)) (pg_tup rfl (pgs_cons (pg_name (i := 3) nd rfl (Or.inl rfl)) (pgs_cons (pg_name (i := 4) nd rfl (Or.inl rfl)) pgs_nil)))
        (pss_one (ps_expr (pe_bm PySem.F.plainAttrs_list PySem.F.slot_list_append PySem.F.type_list_append mt_append (pv 2) (pa_cons (pe_tup (pa_cons (pv 3) (pa_cons (pe_callTy (r := rTupOf K) call_tupK (by rfl) T.tuple boot_tuple (pa_cons
          (pe_lc (own := [("_law_step", 5)]) (g := gName 5) (tt := tYes) rfl nd (pi_tup (pv 4)) (blkOk_by (N := nLMoved) (sc := defScope sLMoved) (by decide +kernel)) (fun _ _ _ _ _ => pg_name (i := 5) nd rfl (Or.inl rfl)) (fun _ _ _ _ _ => pts_nil)
            (fun _ _ _ _ _ => pe_ifExp (pt_cmpR op_isN (pv 5) pe_non (nomark _)) pe_non (pe_tup (pa_cons (pe_ix (r := rIxT K) ix_tup (pv 5) pe_int (fun _ _ => rfl)) (pa_cons (pe_op op_add (pe_ix (r := rIxT K) ix_tup (pv 5) pe_int (fun _ _ => rfl)) (pv 1)) pa_nil))))) pa_nil)) pa_nil))) pa_nil)))))
      (pss_one (ps_ret (pv 2)))), ?_⟩
    refine ⟨Nat.zero_le _, fun R nR => ?_⟩
    have k0 := same_new (o := .lst []) nR
    refine ⟨_, rfl, b, rfl, ⟨_, (tb.keep (same_tup k0)).sq⟩, ?_⟩
    refine for_tup (K := K) (a := b) (xs := rs) (fun i σ H' => ∃ (x3 x4 : Option V) (ws : List V), σ = [some (.ref b), some (.int (k : Int)), some (.ref R), x3, x4, none] ∧ Same H H' ∧ H' R = some (.lst ws) ∧ All2 (RowA K H') ws ((rows.take i).map (KM.movedRow k)))
      ⟨none, none, [], rfl, k0, upd_same, .nil⟩ (fun i σ H' _ ⟨_, _, _, _, sm, _⟩ => (tb.keep (same_tup sm)).sq) ?_ ?_
    · rintro i y σ H1 hi ⟨x3, x4, ws, rfl, sm, hR, hws⟩
      obtain ⟨r, hr_, ar, br, ss, rfl, tr, ts, hss⟩ := hrs.get hi
      have g1 := same_tup sm
      have ts1 := ts.keep g1
      have lss := hss.len
      have l8r := l8 r (List.mem_of_getElem? hr_)
      refine ⟨ar, _, rfl, (tr.keep g1).sq, rfl, _, _, rfl, _, _, rfl, rfl, ?_⟩
      refine ⟨_, rfl, .inl ⟨rfl, _, SqL.of hR⟩, _, rfl, _, rfl, br, rfl, ⟨_, ts1.sq⟩, fun L nL => ?_⟩
      refine lc_tup (K := K) (a := br) (xs := ss) (fun t H' => ∃ zs : List V, Same H1 H' ∧ H' L = some (.lst zs) ∧ All2 (StepA K H') zs ((r.steps.take t).map (KM.movedStep k)))
        ⟨[], same_new nL, upd_same, .nil⟩ (fun t H' _ ⟨_, sm2, _⟩ => (ts1.keep (same_tup sm2)).sq) ?_ ?_
      · rintro t x H2 ht ⟨zs, sm2, hL, hzs⟩
        obtain ⟨st, hst, hx⟩ := hss.get ht
        have hx2 := (hx.keep g1).keep (same_tup sm2)
        have htl := (List.getElem?_eq_some_iff.mp ht).1
        have lzs := hzs.len
        rw [List.length_map, List.length_take] at lzs
        have done : ∀ (z : V) (H3 : Hp), Same H2 H3 → StepA K H3 z (KM.movedStep k st) → ∃ acc, H3 L = some (.lst acc) ∧ acc.length < sizeLine ∧ ∃ zs : List V, Same H1 (upd H3 L (.lst (acc ++ [z]))) ∧ upd H3 L (.lst (acc ++ [z])) L = some (.lst zs) ∧ All2 (StepA K (upd H3 L (.lst (acc ++ [z])))) zs ((r.steps.take (t + 1)).map (KM.movedStep k)) := by
          intro z H3 sm3 hz
          have gl : Tup H3 (upd H3 L (.lst (zs ++ [z]))) := tup_lst (sm3 _ _ hL)
          refine ⟨zs, sm3 _ _ hL, small1000 (by omega), zs ++ [z], Same.mut (sm2.trans sm3) nL, upd_same, ?_⟩
          rw [take_snoc hst, List.map_append]
          exact All2.snoc (All2.mono hzs fun _ _ h => (h.keep (same_tup sm3)).keep gl) (hz.keep gl)
        cases st with
        | none =>
          obtain rfl : x = .non := hx2
          exact ⟨rfl, _, rfl, rfl, _, rfl, iteD rfl (done .non H2 (Same.refl H2) rfl)⟩
        | some p =>
          obtain ⟨ay, rfl, tay⟩ := hx2
          refine ⟨rfl, _, rfl, rfl, _, rfl, iteDN (by intro z; cases z) ?_⟩
          refine ⟨_, rfl, ay, _, _, _, rfl, rfl, tay.sq, atI_nat (j := 0) rfl, _, rfl, ay, _, _, _, rfl, rfl, tay.sq, atI_nat (j := 1) rfl, _, rfl, (p.2 : Int), (k : Int), rfl, rfl, by show 2 ≤ sizeLine; decide, fun tp ntp => ?_⟩
          exact done (.ref tp) _ (same_new ntp) ⟨tp, rfl, .inl (by rw [upd_same, Int.natCast_add])⟩
      · rintro H2 ⟨zs, sm2, hL, hzs⟩
        rw [lss, List.take_length] at hzs
        refine ⟨L, zs, rfl, .inl ⟨SqL.of hL, fun tt ntt => ?_⟩⟩
        have k6 := same_new (o := .tup zs) ntt
        refine ⟨by show 2 ≤ sizeLine; decide, fun tr2 ntr => ?_⟩
        have k7 := same_new (o := .tup [optV r.fin, .ref tt]) ntr
        have k67 := k6.trans k7
        have hR2 := k67 _ _ (sm2 _ _ hR)
        have lws := hws.len
        rw [List.length_map, List.length_take] at lws
        have gl : Tup (upd (upd H2 tt (.tup zs)) tr2 (.tup [optV r.fin, .ref tt])) (upd (upd (upd H2 tt (.tup zs)) tr2 (.tup [optV r.fin, .ref tt])) R (.lst (ws ++ [.ref tr2]))) := tup_lst hR2
        refine ⟨R, ws, .ref tr2, rfl, rfl, hR2, small1000 (by omega), _, _, ws ++ [.ref tr2], rfl, Same.mut ((sm.trans sm2).trans k67) nR, upd_same, ?_⟩
        rw [take_snoc hr_, List.map_append]
        refine All2.snoc (All2.mono hws fun _ _ h => (h.keep (same_tup (sm2.trans k67))).keep gl) ⟨tr2, tt, zs, rfl, .inl (gl _ _ upd_same), .inl (gl _ _ (k7 _ _ upd_same)), All2.mono hzs fun _ _ h => (h.keep (same_tup k67)).keep gl⟩
    · rintro σ H1 ⟨x3, x4, ws, rfl, sm, hR, hws⟩
      rw [lrs, List.take_length] at hws
      exact ⟨_, rfl, q H1 R ws sm nR hR hws⟩
/-! ### _law_later -/
abbrev sLLater : Stmt := topS 57
abbrev nLLater : List Str := ["_law_machine_here", "_law_end", "_law_steps"]
theorem scLLater : FnScope nLLater ["_law_machine_here"] (defScope sLLater) := ⟨rfl, rfl, rfl, by decide +kernel, rfl, by decide +kernel, by decide +kernel⟩
def spLLater (K : PySem.W.Frag) : Sp := fun vs H Q _ => ∃ (v : V) (M : Mach), vs = [v] ∧ MachA K H v M ∧ KM.Valid M ∧ ∀ (H' : Hp) (z : V), Same H H' → MachA K H' z (KM.later M) → Q z H'
theorem ok_llater (T : Txt K mg aN aO) (D : At K mg "_law_later" sLLater ["_law_machine_here"]) : Ok P w K mg base 1 "_law_later" ["_law_machine_here"] (spLLater K) := by
  refine D.ok scLLater (fun vs H Q E h => ?_) (fun f cdv A outer s H vs Q E hr h => ?_)
  · obtain ⟨v, M, rfl, _⟩ := h; rfl
  · obtain ⟨v, M, rfl, ⟨a, u, rfl, ta, b, rs, rfl, tb, hrs⟩, ok, q⟩ := h
    have nd := scLLater.nd
    have lrs := hrs.len
    have r30 := ok.rows30
    refine ⟨_, pss_one (ps_ret (pe_tup (pa_cons (pe_ix ix_tup (pv 0) pe_int (fun _ _ => rfl)) (pa_cons (pe_callTy (r := rTupOf K) call_tupK (by rfl) T.tuple boot_tuple (pa_cons
          (pe_lc (own := [("_law_end", 1), ("_law_steps", 2)]) (g := gTup K 2 (gCons (gName 1) (gCons (gName 2) gNil))) (tt := tYes) rfl nd (pi_tup (pe_ix ix_tup (pv 0) pe_int (fun _ _ => rfl))) (blkOk_by (N := nLLater) (sc := defScope sLLater) (by decide +kernel))
            (fun _ _ _ _ _ => pg_tup rfl (pgs_cons (pg_name (i := 1) nd rfl (Or.inl rfl)) (pgs_cons (pg_name (i := 2) nd rfl (Or.inl rfl)) pgs_nil))) (fun _ _ _ _ _ => pts_nil)
            (fun _ _ _ _ _ => pe_tup (pa_cons (pe_ifExp (pt_cmpR op_isN (pv 1) pe_non (nomark _)) pe_non (pe_op op_add (pv 1) pe_int)) (pa_cons (pv 2) pa_nil)))) pa_nil)) pa_nil)))), ?_⟩
    refine ⟨_, rfl, a, _, _, _, rfl, rfl, ta.sq, atI_nat (j := 0) rfl, ?_⟩
    refine ⟨_, rfl, a, _, _, _, rfl, rfl, ta.sq, atI_nat (j := 1) rfl, b, rfl, ⟨_, tb.sq⟩, fun L nL => ?_⟩
    refine lc_tup (K := K) (a := b) (xs := rs) (fun t H' => ∃ zs : List V, Same H H' ∧ H' L = some (.lst zs) ∧ All2 (RowA K H') zs ((M.rows.take t).map KM.laterRow))
        ⟨[], same_new nL, upd_same, .nil⟩ (fun t H' _ ⟨_, sm2, _⟩ => (tb.keep (same_tup sm2)).sq) ?_ ?_
    · rintro t x H2 ht ⟨zs, sm2, hL, hzs⟩
      obtain ⟨r, hr_, hx⟩ := hrs.get ht
      obtain ⟨ar, br, ss, rfl, tr, ts, hss⟩ := hx.keep (same_tup sm2)
      have htl := (List.getElem?_eq_some_iff.mp ht).1
      have lzs := hzs.len
      rw [List.length_map, List.length_take] at lzs
      refine ⟨ar, _, rfl, tr.sq, rfl, _, _, rfl, _, _, rfl, rfl, rfl, ?_⟩
      have done : ∀ (e : V) (tp : Addr), e = optV (r.fin.map (· + 1)) → H2 tp = none → ∃ acc, upd H2 tp (.tup [e, .ref br]) L = some (.lst acc) ∧ acc.length < sizeLine ∧ ∃ zs : List V, Same H (upd (upd H2 tp (.tup [e, .ref br])) L (.lst (acc ++ [.ref tp]))) ∧ upd (upd H2 tp (.tup [e, .ref br])) L (.lst (acc ++ [.ref tp])) L = some (.lst zs) ∧ All2 (RowA K (upd (upd H2 tp (.tup [e, .ref br])) L (.lst (acc ++ [.ref tp])))) zs ((M.rows.take (t + 1)).map KM.laterRow) := by
        intro e tp he ntp
        have k1 := same_new (o := .tup [e, .ref br]) ntp
        have hL3 := k1 _ _ hL
        have gl : Tup (upd H2 tp (.tup [e, .ref br])) (upd (upd H2 tp (.tup [e, .ref br])) L (.lst (zs ++ [.ref tp]))) := tup_lst hL3
        refine ⟨zs, hL3, small1000 (by omega), zs ++ [.ref tp], Same.mut (sm2.trans k1) nL, upd_same, ?_⟩
        rw [take_snoc hr_, List.map_append]
        refine All2.snoc (All2.mono hzs fun _ _ h => (h.keep (same_tup k1)).keep gl) ⟨tp, br, ss, rfl, .inl (gl _ _ (by rw [upd_same, he]; rfl)), (ts.keep (same_tup k1)).keep gl, All2.mono hss fun _ _ h => (h.keep (same_tup k1)).keep gl⟩
      cases hf : r.fin with
      | none =>
        rw [hf] at done
        exact ⟨_, rfl, rfl, _, rfl, iteD rfl ⟨_, rfl, by show 2 ≤ sizeLine; decide, fun tp ntp => done .non tp rfl ntp⟩⟩
      | some e =>
        rw [hf] at done
        refine ⟨_, rfl, rfl, _, rfl, iteDN (by intro z; cases z) ⟨_, rfl, (e : Int), 1, rfl, rfl, _, rfl, by show 2 ≤ sizeLine; decide, fun tp ntp => done (.int ((e : Int) + 1)) tp ?_ ntp⟩⟩
        show V.int ((e : Int) + 1) = V.int ((e + 1 : Nat) : Int)
        rw [Int.natCast_add]; rfl
    · rintro H2 ⟨zs, sm2, hL, hzs⟩
      rw [lrs, List.take_length] at hzs
      refine ⟨L, zs, rfl, .inl ⟨SqL.of hL, fun tt ntt => ?_⟩⟩
      have k6 := same_new (o := .tup zs) ntt
      refine ⟨by show 2 ≤ sizeLine; decide, fun tr ntr => ?_⟩
      have k7 := same_new (o := .tup [.int (M.size : Int), .ref tt]) ntr
      exact q _ _ ((sm2.trans k6).trans k7) ⟨tr, .ref tt, rfl, .inl upd_same, tt, zs, rfl, .inl (k7 _ _ upd_same), All2.mono hzs fun _ _ h => (h.keep (same_tup k6)).keep (same_tup k7)⟩
end
end KW

set_option Elab.async false
set_option linter.all false
set_option maxRecDepth 100000
set_option maxHeartbeats 4000000
/-! _law_under, _law_behind. -/
namespace KW
open PySem PySem.Spec PyProof.Rows L2 KR KP
open KM (Mach All2)
theorem steps_rep {K : PySem.W.Frag} {H : Hp} (n : Nat) : All2 (StepA K H) (List.replicate n V.non) (List.replicate n (none : KM.Step)) := All2.rep (F := StepA K H) (show StepA K H V.non none from rfl) n
section
variable {P : Program} {w : World} {K : PySem.W.Frag} {mg : Str → Option Value} {base : Heap} {aN aO : Addr}
abbrev sLUnder : Stmt := topS 58
abbrev nLUnder : List Str := ["_law_one", "_law_other", "_law_mores", "_law_rows", "_law_end", "_law_steps"]
theorem scLUnder : FnScope nLUnder ["_law_one", "_law_other", "_law_mores"] (defScope sLUnder) := ⟨rfl, rfl, rfl, by decide +kernel, rfl, by decide +kernel, by decide +kernel⟩
def spLUnder (K : PySem.W.Frag) : Sp := fun vs H Q _ => ∃ (v u : V) (b : Addr) (A B : Mach) (m0 m1 : Nat), vs = [v, u, .ref b] ∧ MachA K H v A ∧ MachA K H u B ∧ KM.Valid A ∧ KM.Valid B ∧ H b = some (.lst [.int (m0 : Int), .int (m1 : Int)]) ∧
  ∀ (H' : Hp) (z : V), Same H H' → MachA K H' z (KM.under A B m0 m1) → Q z H'
theorem ok_lunder (T : Txt K mg aN aO) (D : At K mg "_law_under" sLUnder ["_law_one", "_law_other", "_law_mores"]) (OM : Ok P w K mg base 1 "_law_moved" ["_law_rows", "_law_many"] (spLMoved K)) : Ok P w K mg base 2 "_law_under" ["_law_one", "_law_other", "_law_mores"] (spLUnder K) := by
  refine D.ok scLUnder (fun vs H Q E h => ?_) (fun f cdv A outer s H vs Q E hr h => ?_)
  · obtain ⟨v, u, b, A, B, m0, m1, rfl, _⟩ := h; rfl
  · obtain ⟨v, u, mb, MA, MB, m0, m1, rfl, ⟨a1, u1, rfl, ta1, b1, rs1, rfl, tb1, hrs1⟩, ⟨a2, u2, rfl, ta2, b2, rs2, rfl, tb2, hrs2⟩, okA, okB, hm, q⟩ := h
    have nd := scLUnder.nd
    have lrs1 := hrs1.len
    have lrs2 := hrs2.len
    have r30A := okA.rows30
    have r30B := okB.rows30
    refine ⟨_, pss_cons (ps_set (i := 3) nd rfl (Or.inl rfl) (pe_lst (pa_cons (pe_tup (pa_cons pe_non (pa_cons (pe_op op_catA
          (pe_tup (pa_cons (pe_tup (pa_cons (pe_ix ix_list (pv 2) pe_int (fun _ _ => rfl)) (pa_cons pe_int pa_nil))) (pa_cons (pe_tup (pa_cons (pe_ix ix_list (pv 2) pe_int (fun _ _ => rfl)) (pa_cons (pe_op op_add pe_int (pe_callB call_len_seq (by rfl) T.len boot_len (pa_cons (pe_ix ix_tup (pv 0) pe_int (fun _ _ => rfl)) pa_nil))) pa_nil))) pa_nil)))
          (pe_op op_repA (pe_tup (pa_cons pe_non pa_nil)) pe_int)) pa_nil))) pa_nil)))
      (pss_cons (ps_for PassesOwn.never rfl (pi_list (pe_op op_cat (pe_fn OM hr (pa_cons (pe_ix ix_tup (pv 0) pe_int (fun _ _ => rfl)) (pa_cons pe_int pa_nil)))
            (pe_fn OM hr (pa_cons (pe_ix ix_tup (pv 1) pe_int (fun _ _ => rfl)) (pa_cons (pe_op op_add pe_int (pe_callB call_len_seq (by rfl) T.len boot_len (pa_cons (pe_ix ix_tup (pv 0) pe_int (fun _ _ => rfl)) pa_nil))) pa_nil)))))
          (pg_tup rfl (pgs_cons (pg_name (i := 4) nd rfl (Or.inl rfl)) (pgs_cons (pg_name (i := 5) nd rfl (Or.inl rfl)) pgs_nil)))
        (pss_one (ps_expr (pe_bm PySem.F.plainAttrs_list PySem.F.slot_list_append PySem.F.type_list_append mt_append (pv 3) (pa_cons (pe_tup (pa_cons (pv 4) (pa_cons (pe_op op_catA (pv 5)
          (pe_op op_repA (pe_tup (pa_cons pe_non pa_nil)) (pe_op op_sub pe_int (pe_callB call_len_seq (by rfl) T.len boot_len (pa_cons (pv 5) pa_nil))))) pa_nil))) pa_nil)))))
      (pss_one (ps_ret (pe_tup (pa_cons pe_int (pa_cons (pe_callTy call_tuple_of (by rfl) T.tuple boot_tuple (pa_cons (pv 3) pa_nil)) pa_nil)))))), ?_⟩
    -- the first row
    refine ⟨_, rfl, mb, _, _, _, rfl, rfl, SqL.of hm, atI_nat (j := 0) rfl, by show 2 ≤ sizeLine; decide, fun t1 n1 => ?_⟩
    have k1 := same_new (o := .tup [.int (m0 : Int), .int 1]) n1
    refine ⟨_, rfl, mb, _, _, _, rfl, rfl, SqL.of (k1 _ _ hm), atI_nat (j := 1) rfl, _, rfl, a1, _, _, _, rfl, rfl, (ta1.keep (same_tup k1)).sq, atI_nat (j := 1) rfl, b1, rs1, rfl, .inr (tb1.keep (same_tup k1)).sq, 1, (rs1.length : Int), rfl, rfl, by show 2 ≤ sizeLine; decide, fun t2 n2 => ?_⟩
    have k2 := same_new (o := .tup [.int (m1 : Int), .int ((1 : Int) + (rs1.length : Int))]) n2
    refine ⟨by show 2 ≤ sizeLine; decide, fun t3 n3 => ?_⟩
    have k3 := same_new (o := .tup [.ref t1, .ref t2]) n3
    refine ⟨by show 1 ≤ sizeLine; decide, fun t4 n4 => ?_⟩
    have k4 := same_new (o := .tup [.non]) n4
    have q1 := k4 _ _ (k3 _ _ (k2 _ _ (upd_same (a := t1) (H := H) (o := .tup [.int (m0 : Int), .int 1]))))
    have q2 := k4 _ _ (k3 _ _ (upd_same (a := t2) (H := upd H t1 (.tup [.int (m0 : Int), .int 1])) (o := .tup [.int (m1 : Int), .int ((1 : Int) + (rs1.length : Int))])))
    have q3 := k4 _ _ (upd_same (a := t3) (H := upd (upd H t1 (.tup [.int (m0 : Int), .int 1])) t2 (.tup [.int (m1 : Int), .int ((1 : Int) + (rs1.length : Int))])) (o := .tup [.ref t1, .ref t2]))
    have q4 := upd_same (a := t4) (H := upd (upd (upd H t1 (.tup [.int (m0 : Int), .int 1])) t2 (.tup [.int (m1 : Int), .int ((1 : Int) + (rs1.length : Int))])) t3 (.tup [.ref t1, .ref t2])) (o := .tup [.non])
    have k14 := ((k1.trans k2).trans k3).trans k4
    generalize upd (upd (upd (upd H t1 (.tup [.int (m0 : Int), .int 1])) t2 (.tup [.int (m1 : Int), .int ((1 : Int) + (rs1.length : Int))])) t3 (.tup [.ref t1, .ref t2])) t4 (.tup [.non]) = H4 at k14 q1 q2 q3 q4
    dsimp only [tC]
    refine rep_read (K := K) (k := 6) (n := 6) rfl (by decide) (.inl q4) fun H5 c sm5 tc => ?_
    refine cat_read (K := K) (.inl (sm5 _ _ q3)) tc (by simp) fun H6 d sm6 td => ?_
    refine ⟨by show 2 ≤ sizeLine; decide, fun t7 n7 => ?_⟩
    have k7 := same_new (o := .tup [.non, .ref d]) n7
    refine ⟨by show 1 ≤ sizeLine; decide, fun R nR => ?_⟩
    have k8 := same_new (o := .lst [.ref t7]) nR
    have s4 := ((sm5.trans sm6).trans k7).trans k8
    have sm8 := k14.trans s4
    have nRH : H R = none := (((k14.trans sm5).trans sm6).trans k7).free nR
    have hRow : RowA K (upd (upd H6 t7 (.tup [.non, .ref d])) R (.lst [.ref t7])) (.ref t7) (KM.underHead m0 m1 MA.rows.length) := by
      refine ⟨t7, d, _, rfl, .inl (k8 _ _ upd_same), td.keep (same_tup (k7.trans k8)), .cons ⟨t1, rfl, .inl (s4 _ _ q1)⟩ (.cons ⟨t2, rfl, .inl ?_⟩ (steps_rep 6))⟩
      have := s4 _ _ q2
      rw [this]
      show some (HO.tup [V.int (m1 : Int), V.int ((1 : Int) + (rs1.length : Int))]) = some (HO.tup [V.int (m1 : Int), V.int ((1 + MA.rows.length : Nat) : Int)])
      rw [lrs1, Int.natCast_add]; rfl
    have hR8 : upd (upd H6 t7 (.tup [.non, .ref d])) R (.lst [.ref t7]) R = some (.lst [.ref t7]) := upd_same
    generalize upd (upd H6 t7 (.tup [.non, .ref d])) R (.lst [.ref t7]) = H8 at sm8 hRow hR8
    -- the others
    have g8 := same_tup sm8
    have mA : RowsA K H8 (.ref b1) MA.rows := RowsA.keep g8 ⟨b1, rs1, rfl, tb1, hrs1⟩
    have mB : RowsA K H8 (.ref b2) MB.rows := RowsA.keep g8 ⟨b2, rs2, rfl, tb2, hrs2⟩
    have l8A : ∀ r ∈ MA.rows, r.steps.length ≤ 8 := fun r h => by have := okA.len r h; have := okA.size8; omega
    have l8B : ∀ r ∈ MB.rows, r.steps.length ≤ 8 := fun r h => by have := okB.len r h; have := okB.size8; omega
    refine ⟨_, rfl, a1, _, _, _, rfl, rfl, (ta1.keep g8).sq, atI_nat (j := 1) rfl, _, _, 1, rfl, mA, r30A, l8A, fun H9 L1 ws1 sm9 nL1 hL1 hws1 => ?_⟩
    refine ⟨_, rfl, a2, _, _, _, rfl, rfl, ((ta2.keep g8).keep (same_tup sm9)).sq, atI_nat (j := 1) rfl, _, rfl, a1, _, _, _, rfl, rfl, ((ta1.keep g8).keep (same_tup sm9)).sq, atI_nat (j := 1) rfl, b1, rs1, rfl, .inr ((tb1.keep g8).keep (same_tup sm9)).sq, 1, (rs1.length : Int), rfl, rfl, ?_⟩
    refine ⟨_, _, 1 + MA.rows.length, by rw [← lrs1]; rfl, RowsA.keep (same_tup sm9) mB, r30B, l8B, fun H10 L2 ws2 sm10 nL2 hL2 hws2 => ?_⟩
    have sm810 := sm9.trans sm10
    have hL1' := sm10 _ _ hL1
    have hws1' := All2.mono hws1 fun _ _ h => RowA.keep (same_tup sm10) h
    have lw1 := hws1.len
    have lw2 := hws2.len
    rw [List.length_map] at lw1 lw2
    refine ⟨L1, L2, ws1, ws2, rfl, rfl, hL1', hL2, Nat.le_of_lt (small1000 (by omega)), fun C nC => ?_⟩
    have k11 := same_new (o := .lst (ws1 ++ ws2)) nC
    have hR11 := k11 _ _ (sm810 _ _ hR8)
    have nCR : C ≠ R := fun e => by rw [e, sm810 _ _ hR8] at nC; cases nC
    have sm11 := (sm8.trans sm810).trans k11
    have hRow11 := hRow.keep (same_tup (sm810.trans k11))
    have hAll := All2.mono (All2.app hws1' hws2) fun _ _ h => RowA.keep (same_tup k11) h
    have hC11 : upd H10 C (.lst (ws1 ++ ws2)) C = some (.lst (ws1 ++ ws2)) := upd_same
    generalize upd H10 C (.lst (ws1 ++ ws2)) = H11 at sm11 hR11 hRow11 hAll hC11
    have lAll : (ws1 ++ ws2).length ≤ 60 := by rw [List.length_append]; omega
    have l8all : ∀ r ∈ MA.rows.map (KM.movedRow 1) ++ MB.rows.map (KM.movedRow (1 + MA.rows.length)), r.steps.length ≤ 8 := by
      intro r h
      rcases List.mem_append.mp h with h | h
      · obtain ⟨r', h1, rfl⟩ := List.mem_map.mp h
        have := l8A r' h1
        show (r'.steps.map _).length ≤ 8
        rwa [List.length_map]
      · obtain ⟨r', h1, rfl⟩ := List.mem_map.mp h
        have := l8B r' h1
        show (r'.steps.map _).length ≤ 8
        rwa [List.length_map]
    have ed : KM.under MA MB m0 m1 = ⟨8, KM.underHead m0 m1 MA.rows.length :: ((MA.rows.map (KM.movedRow 1) ++ MB.rows.map (KM.movedRow (1 + MA.rows.length))).map (KM.padRow 8))⟩ := rfl
    rw [ed] at q
    generalize MA.rows.map (KM.movedRow 1) ++ MB.rows.map (KM.movedRow (1 + MA.rows.length)) = full at hAll l8all q
    generalize ws1 ++ ws2 = ws at hAll hC11 lAll
    refine ⟨C, rfl, ⟨_, SqL.of hC11⟩, ?_⟩
    refine for_list (K := K) (a := C) (xs := ws) (fun i σ H' => ∃ (x4 x5 : Option V) (zs : List V), σ = [some (.ref a1), some (.ref a2), some (.ref mb), some (.ref R), x4, x5] ∧ Same H H' ∧ Tup H11 H' ∧ H' C = some (.lst ws) ∧ H' R = some (.lst zs) ∧
        All2 (RowA K H') zs (KM.underHead m0 m1 MA.rows.length :: ((full.take i).map (KM.padRow 8))))
      ⟨none, none, [.ref t7], rfl, sm11, Tup.refl _, hC11, hR11, .cons hRow11 .nil⟩ (fun i σ H' _ ⟨_, _, _, _, _, _, h, _⟩ => SqL.of h) ?_ ?_
    · rintro i y σ H12 hi ⟨x4, x5, zs, rfl, sm12, g12, hC12, hR12, hzs⟩
      obtain ⟨r, hr_, hx⟩ := hAll.get hi
      obtain ⟨ar, br, ss, rfl, tr, ts, hss⟩ := hx.keep g12
      have l8r := l8all r (List.mem_of_getElem? hr_)
      have lss := hss.len
      have hin := (List.getElem?_eq_some_iff.mp hi).1
      refine ⟨ar, _, rfl, tr.sq, rfl, _, _, rfl, _, _, rfl, rfl, ?_⟩
      refine ⟨_, rfl, .inl ⟨rfl, _, SqL.of hR12⟩, _, rfl, _, rfl, by show 1 ≤ sizeLine; decide, fun t13 n13 => ?_⟩
      have k13 := same_new (o := .tup [.non]) n13
      refine ⟨_, rfl, br, ss, rfl, .inr (ts.keep (same_tup k13)).sq, 8, (ss.length : Int), rfl, rfl, ?_⟩
      refine rep_read (K := K) (k := 8 - (ss.length : Int)) (n := 8 - r.steps.length) (by omega) (by omega) (.inl upd_same) fun H14 c sm14 tc => ?_
      have k14' := k13.trans sm14
      refine cat_read (K := K) (ts.keep (same_tup k14')) tc (by rw [List.length_replicate]; omega) fun H15 d sm15 td => ?_
      refine ⟨by show 2 ≤ sizeLine; decide, fun t16 n16 => ?_⟩
      have k16 := same_new (o := .tup [optV r.fin, .ref d]) n16
      have k15' := k14'.trans sm15
      have k1216 := k15'.trans k16
      have hR16 := k1216 _ _ hR12
      have hC16 := k1216 _ _ hC12
      have hT16 : upd H15 t16 (.tup [optV r.fin, .ref d]) t16 = some (.tup [optV r.fin, .ref d]) := upd_same
      have td16 := td.keep (same_tup k16)
      generalize upd H15 t16 (.tup [optV r.fin, .ref d]) = H16 at k1216 hR16 hC16 hT16 td16
      have lzs := hzs.len
      rw [List.length_cons, List.length_map, List.length_take] at lzs
      have gl : Tup H16 (upd H16 R (.lst (zs ++ [.ref t16]))) := tup_lst hR16
      refine ⟨R, zs, .ref t16, rfl, rfl, hR16, small1000 (by omega), _, _, zs ++ [.ref t16], rfl, Same.mut (sm12.trans k1216) nRH, (g12.trans (same_tup k1216)).trans gl, by rw [upd_ne nCR]; exact hC16, upd_same, ?_⟩
      rw [take_snoc hr_, List.map_append, ← List.cons_append]
      refine All2.snoc (All2.mono hzs fun _ _ h => (h.keep (same_tup k1216)).keep gl) ⟨t16, d, _, rfl, .inl (gl _ _ hT16), td16.keep gl, All2.app (All2.mono hss fun _ _ h => (h.keep (same_tup k1216)).keep gl) (steps_rep _)⟩
    · rintro σ H12 ⟨x4, x5, zs, rfl, sm12, g12, hC12, hR12, hzs⟩
      have lfull := hAll.len
      rw [lfull, List.take_length] at hzs
      refine ⟨_, rfl, R, zs, rfl, .inl ⟨SqL.of hR12, fun tt ntt => ?_⟩⟩
      have k6 := same_new (o := .tup zs) ntt
      refine ⟨by show 2 ≤ sizeLine; decide, fun tr ntr => ?_⟩
      have k7 := same_new (o := .tup [.int 8, .ref tt]) ntr
      exact q _ _ ((sm12.trans k6).trans k7) ⟨tr, .ref tt, rfl, .inl upd_same, tt, zs, rfl, .inl (k7 _ _ upd_same), All2.mono hzs fun _ _ h => (h.keep (same_tup k6)).keep (same_tup k7)⟩
end
end KW

set_option Elab.async false
set_option linter.all false
set_option maxRecDepth 100000
set_option maxHeartbeats 4000000
/-! _law_behind, _law_twice. -/
namespace KW
open PySem PySem.Spec PyProof.Rows L2 KR KP
open KM (Mach All2)
section
variable {P : Program} {w : World} {K : PySem.W.Frag} {mg : Str → Option Value} {base : Heap} {aN aO : Addr}
abbrev sLBehind : Stmt := topS 59
abbrev nLBehind : List Str := ["_law_one", "_law_other", "_law_rows", "_law_end", "_law_steps", "_law_mark"]
theorem scLBehind : FnScope nLBehind ["_law_one", "_law_other"] (defScope sLBehind) := ⟨rfl, rfl, rfl, by decide +kernel, rfl, by decide +kernel, by decide +kernel⟩
def spLBehind (K : PySem.W.Frag) : Sp := fun vs H Q _ => ∃ (v u : V) (A B : Mach), vs = [v, u] ∧ MachA K H v A ∧ MachA K H u B ∧ KM.Valid A ∧ KM.Valid B ∧ A.size ≤ 7 ∧
  ∀ (H' : Hp) (z : V), Same H H' → MachA K H' z (KM.behind A B) → Q z H'
theorem ok_lbehind (T : Txt K mg aN aO) (D : At K mg "_law_behind" sLBehind ["_law_one", "_law_other"]) (OM : Ok P w K mg base 1 "_law_moved" ["_law_rows", "_law_many"] (spLMoved K)) : Ok P w K mg base 2 "_law_behind" ["_law_one", "_law_other"] (spLBehind K) := by
  refine D.ok scLBehind (fun vs H Q E h => ?_) (fun f cdv A outer s H vs Q E hr h => ?_)
  · obtain ⟨v, u, A, B, rfl, _⟩ := h; rfl
  · obtain ⟨v, u, MA, MB, rfl, ⟨a1, u1, rfl, ta1, b1, rs1, rfl, tb1, hrs1⟩, ⟨a2, u2, rfl, ta2, b2, rs2, rfl, tb2, hrs2⟩, okA, okB, sz7, q⟩ := h
    have nd := scLBehind.nd
    have lrs1 := hrs1.len
    have lrs2 := hrs2.len
    have r30A := okA.rows30
    have r30B := okB.rows30
    refine ⟨_, pss_cons (ps_set (i := 2) nd rfl (Or.inl rfl) (pe_lst pa_nil))
      (pss_cons (ps_for PassesOwn.never rfl (pi_tup (pe_ix ix_tup (pv 0) pe_int (fun _ _ => rfl))) (pg_tup rfl (pgs_cons (pg_name (i := 3) nd rfl (Or.inl rfl)) (pgs_cons (pg_name (i := 4) nd rfl (Or.inl rfl)) pgs_nil)))
        (pss_cons (ps_set (i := 5) nd rfl (Or.inl rfl) (pe_ifExp (pt_cmpR op_isN (pv 3) pe_non (nomark _)) pe_non (pe_tup (pa_cons (pv 3) (pa_cons (pe_callB call_len_seq (by rfl) T.len boot_len (pa_cons (pe_ix ix_tup (pv 0) pe_int (fun _ _ => rfl)) pa_nil)) pa_nil)))))
        (pss_one (ps_expr (pe_bm PySem.F.plainAttrs_list PySem.F.slot_list_append PySem.F.type_list_append mt_append (pv 2) (pa_cons (pe_tup (pa_cons pe_non (pa_cons (pe_op op_catA (pe_op op_catA (pv 4)
          (pe_op op_repA (pe_tup (pa_cons pe_non pa_nil)) (pe_op op_sub pe_int (pe_callB call_len_seq (by rfl) T.len boot_len (pa_cons (pv 4) pa_nil))))) (pe_tup (pa_cons (pv 5) pa_nil))) pa_nil))) pa_nil))))))
      (pss_cons (ps_for PassesOwn.never rfl (pi_list (pe_fn OM hr (pa_cons (pe_ix ix_tup (pv 1) pe_int (fun _ _ => rfl)) (pa_cons (pe_callB call_len_seq (by rfl) T.len boot_len (pa_cons (pe_ix ix_tup (pv 0) pe_int (fun _ _ => rfl)) pa_nil)) pa_nil))))
          (pg_tup rfl (pgs_cons (pg_name (i := 3) nd rfl (Or.inl rfl)) (pgs_cons (pg_name (i := 4) nd rfl (Or.inl rfl)) pgs_nil)))
        (pss_one (ps_expr (pe_bm PySem.F.plainAttrs_list PySem.F.slot_list_append PySem.F.type_list_append mt_append (pv 2) (pa_cons (pe_tup (pa_cons (pv 3) (pa_cons (pe_op op_catA (pv 4)
          (pe_op op_repA (pe_tup (pa_cons pe_non pa_nil)) (pe_op op_sub pe_int (pe_callB call_len_seq (by rfl) T.len boot_len (pa_cons (pv 4) pa_nil))))) pa_nil))) pa_nil)))))
      (pss_one (ps_ret (pe_tup (pa_cons pe_int (pa_cons (pe_callTy call_tuple_of (by rfl) T.tuple boot_tuple (pa_cons (pv 2) pa_nil)) pa_nil))))))), ?_⟩
    have l8A : ∀ r ∈ MA.rows, r.steps.length ≤ 7 := fun r h => by have := okA.len r h; omega
    have l8B : ∀ r ∈ MB.rows, r.steps.length ≤ 8 := fun r h => by have := okB.len r h; have := okB.size8; omega
    refine ⟨Nat.zero_le _, fun R nRH => ?_⟩
    have k0 := same_new (o := .lst []) nRH
    refine ⟨_, rfl, a1, _, _, _, rfl, rfl, (ta1.keep (same_tup k0)).sq, atI_nat (j := 1) rfl, b1, rfl, ⟨_, (tb1.keep (same_tup k0)).sq⟩, ?_⟩
    refine for_tup (K := K) (a := b1) (xs := rs1) (fun i σ H' => ∃ (x3 x4 x5 : Option V) (zs : List V), σ = [some (.ref a1), some (.ref a2), some (.ref R), x3, x4, x5] ∧ Same H H' ∧ H' R = some (.lst zs) ∧
        All2 (RowA K H') zs ((MA.rows.take i).map (KM.behindRow MA.rows.length)))
      ⟨none, none, none, [], rfl, k0, upd_same, .nil⟩ (fun i σ H' _ ⟨_, _, _, _, _, sm, _⟩ => (tb1.keep (same_tup sm)).sq) ?_ ?_
    · rintro i y σ H12 hi ⟨x3, x4, x5, zs, rfl, sm12, hR12, hzs⟩
      obtain ⟨r, hr_, hx⟩ := hrs1.get hi
      obtain ⟨ar, br, ss, rfl, tr, ts, hss⟩ := hx.keep (same_tup sm12)
      have l8r := l8A r (List.mem_of_getElem? hr_)
      have lss := hss.len
      have hin := (List.getElem?_eq_some_iff.mp hi).1
      have lzs := hzs.len
      rw [List.length_map, List.length_take] at lzs
      refine ⟨ar, _, rfl, tr.sq, rfl, _, _, rfl, _, _, rfl, rfl, ?_⟩
      -- the row
      have fin : ∀ (mk : V) (Hz : Hp) (t e : Addr), Same H12 Hz → StepA K Hz mk (r.fin.map fun e => (e, MA.rows.length)) → Hz t = some (.tup [.non, .ref e]) → TpA K Hz e (ss ++ List.replicate (7 - r.steps.length) .non ++ [mk]) →
          rAppend (.ref R) [.ref t] Hz fun _ H' => ∃ (x3 x4 x5 : Option V) (zs : List V), [some (.ref a1), some (.ref a2), some (.ref R), some (optV r.fin), some (.ref br), some mk] = [some (.ref a1), some (.ref a2), some (.ref R), x3, x4, x5] ∧ Same H H' ∧ H' R = some (.lst zs) ∧
            All2 (RowA K H') zs ((MA.rows.take (i + 1)).map (KM.behindRow MA.rows.length)) := by
        intro mk Hz t e smz hmk ht te
        have hRz := smz _ _ hR12
        have gl : Tup Hz (upd Hz R (.lst (zs ++ [.ref t]))) := tup_lst hRz
        refine ⟨R, zs, .ref t, rfl, rfl, hRz, small1000 (by omega), _, _, _, zs ++ [.ref t], rfl, Same.mut (sm12.trans smz) nRH, upd_same, ?_⟩
        rw [take_snoc hr_, List.map_append]
        refine All2.snoc (All2.mono hzs fun _ _ h => (h.keep (same_tup smz)).keep gl) ⟨t, e, _, rfl, .inl (gl _ _ ht), te.keep gl, All2.snoc (All2.app (All2.mono hss fun _ _ h => (h.keep (same_tup smz)).keep gl) (steps_rep _)) (hmk.keep gl)⟩
      cases hf : r.fin with
      | none =>
        rw [hf] at fin
        refine ⟨_, rfl, rfl, _, rfl, iteD rfl ?_⟩
        have sm0 : Same H12 H12 := Same.refl H12
        have hmk0 : StepA K H12 .non ((none : Option Nat).map fun e => (e, MA.rows.length)) := rfl
        refine ⟨_, rfl, .inl ⟨rfl, _, SqL.of (sm0 _ _ hR12)⟩, _, rfl, by show 1 ≤ sizeLine; decide, fun t13 n13 => ?_⟩
        have k13 := same_new (o := .tup [.non]) n13
        have k13a := Same.trans sm0 k13
        refine ⟨_, rfl, br, ss, rfl, .inr (ts.keep (same_tup k13a)).sq, 7, (ss.length : Int), rfl, rfl, ?_⟩
        refine rep_read (K := K) (k := 7 - (ss.length : Int)) (n := 7 - r.steps.length) (by omega) (by omega) (.inl upd_same) fun H14 c sm14 tc => ?_
        have k14' := k13a.trans sm14
        refine cat_read (K := K) (ts.keep (same_tup k14')) tc (by rw [List.length_replicate]; omega) fun H15 d sm15 td => ?_
        refine ⟨_, rfl, by show 1 ≤ sizeLine; decide, fun t17 n17 => ?_⟩
        have k17 := same_new (o := .tup [.non]) n17
        refine cat_read (K := K) (td.keep (same_tup k17)) (.inl upd_same) (by rw [List.length_append, List.length_replicate, List.length_singleton]; omega) fun H18 e sm18 te => ?_
        refine ⟨by show 2 ≤ sizeLine; decide, fun t16 n16 => ?_⟩
        have k16 := same_new (o := .tup [.non, .ref e]) n16
        have kz := (((k14'.trans sm15).trans k17).trans sm18).trans k16
        exact fin .non _ t16 e kz (hmk0.keep (same_tup ((((k13.trans sm14).trans sm15).trans k17).trans sm18 |>.trans k16))) upd_same (te.keep (same_tup k16))
      | some e0 =>
        rw [hf] at fin
        refine ⟨_, rfl, rfl, _, rfl, iteDN (by intro z; cases z) ?_⟩
        refine ⟨_, rfl, _, rfl, a1, _, _, _, rfl, rfl, (ta1.keep (same_tup sm12)).sq, atI_nat (j := 1) rfl, b1, rs1, rfl, .inr (tb1.keep (same_tup sm12)).sq, by show 2 ≤ sizeLine; decide, fun tm ntm => ?_⟩
        have sm0 := same_new (o := .tup [.int (e0 : Int), .int (rs1.length : Int)]) ntm
        have hmk0 : StepA K (upd H12 tm (.tup [.int (e0 : Int), .int (rs1.length : Int)])) (.ref tm) ((some e0).map fun e => (e, MA.rows.length)) := ⟨tm, rfl, .inl (by rw [upd_same, lrs1])⟩
        refine ⟨_, rfl, .inl ⟨rfl, _, SqL.of (sm0 _ _ hR12)⟩, _, rfl, by show 1 ≤ sizeLine; decide, fun t13 n13 => ?_⟩
        have k13 := same_new (o := .tup [.non]) n13
        have k13a := Same.trans sm0 k13
        refine ⟨_, rfl, br, ss, rfl, .inr (ts.keep (same_tup k13a)).sq, 7, (ss.length : Int), rfl, rfl, ?_⟩
        refine rep_read (K := K) (k := 7 - (ss.length : Int)) (n := 7 - r.steps.length) (by omega) (by omega) (.inl upd_same) fun H14 c sm14 tc => ?_
        have k14' := k13a.trans sm14
        refine cat_read (K := K) (ts.keep (same_tup k14')) tc (by rw [List.length_replicate]; omega) fun H15 d sm15 td => ?_
        refine ⟨_, rfl, by show 1 ≤ sizeLine; decide, fun t17 n17 => ?_⟩
        have k17 := same_new (o := .tup [(.ref tm)]) n17
        refine cat_read (K := K) (td.keep (same_tup k17)) (.inl upd_same) (by rw [List.length_append, List.length_replicate, List.length_singleton]; omega) fun H18 e sm18 te => ?_
        refine ⟨by show 2 ≤ sizeLine; decide, fun t16 n16 => ?_⟩
        have k16 := same_new (o := .tup [.non, .ref e]) n16
        have kz := (((k14'.trans sm15).trans k17).trans sm18).trans k16
        exact fin (.ref tm) _ t16 e kz (hmk0.keep (same_tup ((((k13.trans sm14).trans sm15).trans k17).trans sm18 |>.trans k16))) upd_same (te.keep (same_tup k16))
    · rintro σ H8 ⟨x3, x4, x5, zs0, rfl, sm8, hR8, hzs0⟩
      rw [lrs1, List.take_length] at hzs0
      have g8 := same_tup sm8
      have mB : RowsA K H8 (.ref b2) MB.rows := RowsA.keep g8 ⟨b2, rs2, rfl, tb2, hrs2⟩
      refine ⟨_, rfl, a2, _, _, _, rfl, rfl, (ta2.keep g8).sq, atI_nat (j := 1) rfl, _, rfl, a1, _, _, _, rfl, rfl, (ta1.keep g8).sq, atI_nat (j := 1) rfl, b1, rs1, rfl, .inr (tb1.keep g8).sq, ?_⟩
      refine ⟨_, _, MA.rows.length, by rw [← lrs1], mB, r30B, l8B, fun H11 C ws sm10 nC hC11 hAll => ?_⟩
      have hR11 := sm10 _ _ hR8
      have nCR : C ≠ R := fun e => by rw [e, hR8] at nC; cases nC
      have sm11 := sm8.trans sm10
      have hRow11 := All2.mono hzs0 fun _ _ h => RowA.keep (same_tup sm10) h
      have lw := hAll.len
      rw [List.length_map] at lw
      have l8all : ∀ r ∈ MB.rows.map (KM.movedRow MA.rows.length), r.steps.length ≤ 8 := by
        intro r h
        obtain ⟨r', h1, rfl⟩ := List.mem_map.mp h
        have := l8B r' h1
        show (r'.steps.map _).length ≤ 8
        rwa [List.length_map]
      have ed : KM.behind MA MB = ⟨8, MA.rows.map (KM.behindRow MA.rows.length) ++ (MB.rows.map (KM.movedRow MA.rows.length)).map (KM.padRow 8)⟩ := rfl
      rw [ed] at q
      have lb : (MA.rows.map (KM.behindRow MA.rows.length)).length ≤ 30 := by rw [List.length_map]; exact r30A
      generalize MA.rows.map (KM.behindRow MA.rows.length) = before at hRow11 q lb
      generalize MB.rows.map (KM.movedRow MA.rows.length) = full at hAll l8all q
      refine ⟨C, rfl, ⟨_, SqL.of hC11⟩, ?_⟩
      refine for_list (K := K) (a := C) (xs := ws) (fun i σ H' => ∃ (x3 x4 x5 : Option V) (zs : List V), σ = [some (.ref a1), some (.ref a2), some (.ref R), x3, x4, x5] ∧ Same H H' ∧ Tup H11 H' ∧ H' C = some (.lst ws) ∧ H' R = some (.lst zs) ∧
          All2 (RowA K H') zs (before ++ (full.take i).map (KM.padRow 8)))
        ⟨x3, x4, x5, zs0, rfl, sm11, Tup.refl _, hC11, hR11, by rw [List.take_zero, List.map_nil, List.append_nil]; exact hRow11⟩ (fun i σ H' _ ⟨_, _, _, _, _, _, _, h, _⟩ => SqL.of h) ?_ ?_
      · rintro i y σ H12 hi ⟨x3, x4, x5, zs, rfl, sm12, g12, hC12, hR12, hzs⟩
        obtain ⟨r, hr_, hx⟩ := hAll.get hi
        obtain ⟨ar, br, ss, rfl, tr, ts, hss⟩ := hx.keep g12
        have l8r := l8all r (List.mem_of_getElem? hr_)
        have lss := hss.len
        have hin := (List.getElem?_eq_some_iff.mp hi).1
        refine ⟨ar, _, rfl, tr.sq, rfl, _, _, rfl, _, _, rfl, rfl, ?_⟩
        refine ⟨_, rfl, .inl ⟨rfl, _, SqL.of hR12⟩, _, rfl, _, rfl, by show 1 ≤ sizeLine; decide, fun t13 n13 => ?_⟩
        have k13 := same_new (o := .tup [.non]) n13
        refine ⟨_, rfl, br, ss, rfl, .inr (ts.keep (same_tup k13)).sq, 8, (ss.length : Int), rfl, rfl, ?_⟩
        refine rep_read (K := K) (k := 8 - (ss.length : Int)) (n := 8 - r.steps.length) (by omega) (by omega) (.inl upd_same) fun H14 c sm14 tc => ?_
        have k14' := k13.trans sm14
        refine cat_read (K := K) (ts.keep (same_tup k14')) tc (by rw [List.length_replicate]; omega) fun H15 d sm15 td => ?_
        refine ⟨by show 2 ≤ sizeLine; decide, fun t16 n16 => ?_⟩
        have k16 := same_new (o := .tup [optV r.fin, .ref d]) n16
        have k15' := k14'.trans sm15
        have k1216 := k15'.trans k16
        have hR16 := k1216 _ _ hR12
        have hC16 := k1216 _ _ hC12
        have hT16 : upd H15 t16 (.tup [optV r.fin, .ref d]) t16 = some (.tup [optV r.fin, .ref d]) := upd_same
        have td16 := td.keep (same_tup k16)
        generalize upd H15 t16 (.tup [optV r.fin, .ref d]) = H16 at k1216 hR16 hC16 hT16 td16
        have lzs := hzs.len
        rw [List.length_append, List.length_map, List.length_take] at lzs
        have gl : Tup H16 (upd H16 R (.lst (zs ++ [.ref t16]))) := tup_lst hR16
        refine ⟨R, zs, .ref t16, rfl, rfl, hR16, small1000 (by omega), _, _, _, zs ++ [.ref t16], rfl, Same.mut (sm12.trans k1216) nRH, (g12.trans (same_tup k1216)).trans gl, by rw [upd_ne nCR]; exact hC16, upd_same, ?_⟩
        rw [take_snoc hr_, List.map_append, ← List.append_assoc]
        refine All2.snoc (All2.mono hzs fun _ _ h => (h.keep (same_tup k1216)).keep gl) ⟨t16, d, _, rfl, .inl (gl _ _ hT16), td16.keep gl, All2.app (All2.mono hss fun _ _ h => (h.keep (same_tup k1216)).keep gl) (steps_rep _)⟩
      · rintro σ H12 ⟨x3, x4, x5, zs, rfl, sm12, g12, hC12, hR12, hzs⟩
        have lfull := hAll.len
        rw [lfull, List.take_length] at hzs
        refine ⟨_, rfl, R, zs, rfl, .inl ⟨SqL.of hR12, fun tt ntt => ?_⟩⟩
        have k6 := same_new (o := .tup zs) ntt
        refine ⟨by show 2 ≤ sizeLine; decide, fun tr ntr => ?_⟩
        have k7 := same_new (o := .tup [.int 8, .ref tt]) ntr
        exact q _ _ ((sm12.trans k6).trans k7) ⟨tr, .ref tt, rfl, .inl upd_same, tt, zs, rfl, .inl (k7 _ _ upd_same), All2.mono hzs fun _ _ h => (h.keep (same_tup k6)).keep (same_tup k7)⟩
end
end KW

set_option Elab.async false
set_option linter.all false
set_option maxRecDepth 100000
set_option maxHeartbeats 4000000
/-! _law_twice. -/
namespace KW
open PySem PySem.Spec PyProof.Rows L2 KR KP
open KM (Mach All2)
theorem rep_readX {K : PySem.W.Frag} {H : Hp} {Q : VK} {a : Addr} {x : V} {k : Int} {n : Nat} (e : k = (n : Int)) (hn : n ≤ 1000) (ta : TpA K H a [x]) (q : ∀ (H' : Hp) (c : Addr), Same H H' → TpA K H' c (List.replicate n x) → Q (.ref c) H') : rRepA K (.ref a) (.int k) H Q := by
  subst e
  refine ⟨a, n, [x], rfl, rfl, ta.sq, (fun z => by cases z), by omega, by omega, by simp, fun e => ?_, fun e p np => ?_⟩
  · refine q H a (Same.refl H) ?_
    have e : n = 1 := by omega
    rw [e]; exact ta
  · refine q _ p (same_new np) (.inl ?_)
    rw [upd_same, Int.toNat_natCast, flat_rep]
section
variable {P : Program} {w : World} {K : PySem.W.Frag} {mg : Str → Option Value} {base : Heap} {aN aO : Addr}
abbrev sLTwice : Stmt := topS 60
abbrev nLTwice : List Str := ["_law_pot_here", "_law_machine_here", "_law_many", "_law_rows", "_law_turn", "_law_end", "_law_steps", "_law_later_here", "_law_step"]
theorem scLTwice : FnScope nLTwice ["_law_pot_here", "_law_machine_here"] (defScope sLTwice) := ⟨rfl, rfl, rfl, by decide +kernel, rfl, by decide +kernel, by decide +kernel⟩
def spLTwice (K : PySem.W.Frag) : Sp := fun vs H Q _ => ∃ (p g s : Addr) (v : V) (M : Mach), vs = [.ref p, v] ∧ Pot H p g s ∧ MachA K H v M ∧ KM.Valid M ∧
  ∀ (H' : Hp) (z : V) (D : Mach), Fr p g H H' → Pot H' p g s → MachA K H' z D → KM.TwiceOf M D → Q z H'
/-- the rows so far -/
def TwOk (M : Mach) (rows : List KM.Row) : Prop := ∀ k r, rows[k]? = some r → ∃ r', M.rows[KM.low M.rows.length k]? = some r' ∧ r.fin = r'.fin ∧ All2 (KM.Twin M.rows.length) r.steps r'.steps
theorem low_at {n i t : Nat} (ht : t < n) (hi : i < 2) : KM.low n (i * n + t) = t := by
  unfold KM.low
  have : i = 0 ∨ i = 1 := by omega
  rcases this with rfl | rfl
  · rw [if_pos (by omega)]; omega
  · rw [if_neg (by omega)]; omega
theorem low_to {n j d : Nat} (hj : j < n) (hd : d < 2) : KM.low n (j + n * d) = j ∧ j + n * d < 2 * n := by
  have : d = 0 ∨ d = 1 := by omega
  unfold KM.low
  rcases this with rfl | rfl
  · rw [if_pos (by omega)]; omega
  · rw [if_neg (by omega)]; omega
theorem ok_ltwice (T : Txt K mg aN aO) (D : At K mg "_law_twice" sLTwice ["_law_pot_here", "_law_machine_here"]) (OD : Ok P w K mg base 1 "_law_draw" ["_law_pot_here", "_law_many"] spLDraw) : Ok P w K mg base 2 "_law_twice" ["_law_pot_here", "_law_machine_here"] (spLTwice K) := by
  refine D.ok scLTwice (fun vs H Q E h => ?_) (fun f cdv A outer s H vs Q E hr h => ?_)
  · obtain ⟨p, g, s, v, M, rfl, _⟩ := h; rfl
  · obtain ⟨p, g, s0, v, M, rfl, hP, ⟨a, u, rfl, ta, b, rs, rfl, tb, hrs⟩, ok, q⟩ := h
    have nd := scLTwice.nd
    have lrs := hrs.len
    have r30 := ok.rows30
    have s8 := ok.size8
    refine ⟨_, pss_cons (ps_asg (pe_tup (pa_cons (pe_callB call_len_seq (by rfl) T.len boot_len (pa_cons (pe_ix ix_tup (pv 1) pe_int (fun _ _ => rfl)) pa_nil)) (pa_cons (pe_lst pa_nil) pa_nil)))
          (pg_tup rfl (pgs_cons (pg_name (i := 2) nd rfl (Or.inr rfl)) (pgs_cons (pg_name (i := 3) nd rfl (Or.inl rfl)) pgs_nil))))
      (pss_cons (ps_for PassesOwn.never rfl (pi_range1 (by rfl) T.range (pa_cons pe_int pa_nil)) (pg_name (i := 4) nd rfl (Or.inl rfl))
        (pss_one (ps_for PassesOwn.never rfl (pi_tup (pe_ix ix_tup (pv 1) pe_int (fun _ _ => rfl))) (pg_tup rfl (pgs_cons (pg_name (i := 5) nd rfl (Or.inl rfl)) (pgs_cons (pg_name (i := 6) nd rfl (Or.inl rfl)) pgs_nil)))
          (pss_cons (ps_setLc (i := 7) (own := [("_law_step", 8)]) (g := gName 8) (tt := tYes) rfl nd rfl rfl (sw_true rfl rfl rfl (by decide +kernel)) (pi_tup (pv 6)) (blkOk_by (N := nLTwice) (sc := defScope sLTwice) (by decide +kernel))
              (fun _ _ _ _ _ => pg_name (i := 8) nd rfl (Or.inl rfl)) (fun _ _ _ _ _ => pts_nil)
              (fun _ _ _ _ _ => pe_ifExp (pt_cmpR op_isN (pv 8) pe_non (nomark _)) pe_non (pe_tup (pa_cons (pe_ix (r := rIxT K) ix_tup (pv 8) pe_int (fun _ _ => rfl)) (pa_cons (pe_op op_add (pe_ix (r := rIxT K) ix_tup (pv 8) pe_int (fun _ _ => rfl))
                (pe_op op_mul (pv 2) (pe_fn OD hr (pa_cons (pv 0) (pa_cons pe_int pa_nil))))) pa_nil)))))
          (pss_one (ps_expr (pe_bm PySem.F.plainAttrs_list PySem.F.slot_list_append PySem.F.type_list_append mt_append (pv 3) (pa_cons (pe_tup (pa_cons (pv 5) (pa_cons (pe_callTy call_tuple_of (by rfl) T.tuple boot_tuple (pa_cons (pv 7) pa_nil)) pa_nil))) pa_nil))))))))
      (pss_one (ps_ret (pe_tup (pa_cons (pe_ix ix_tup (pv 1) pe_int (fun _ _ => rfl)) (pa_cons (pe_callTy call_tuple_of (by rfl) T.tuple boot_tuple (pa_cons (pe_op op_cat (pv 3)
          (pe_lst (pa_cons (pe_tup (pa_cons pe_int (pa_cons (pe_op op_repA (pe_tup (pa_cons (pe_tup (pa_cons pe_int (pa_cons pe_int pa_nil))) pa_nil)) (pe_ix ix_tup (pv 1) pe_int (fun _ _ => rfl))) pa_nil))) pa_nil))) pa_nil)) pa_nil)))))), ?_⟩
    refine ⟨_, rfl, a, _, _, _, rfl, rfl, ta.sq, atI_nat (j := 1) rfl, b, rs, rfl, .inr tb.sq, Nat.zero_le _, fun R nRH => ?_⟩
    have k0 := same_new (o := .lst []) nRH
    have cR := hP.ne nRH
    refine ⟨by show 2 ≤ sizeLine; decide, fun tq ntq => ?_⟩
    have k1 := same_new (o := .tup [.int (rs.length : Int), .ref R]) ntq
    refine ⟨tq, _, rfl, SqT.of upd_same, rfl, _, _, rfl, _, _, rfl, rfl, ?_⟩
    have sm1 := k0.trans k1
    have P1 := hP.same sm1
    have hR1 := k1 _ _ (upd_same (a := R) (H := H) (o := .lst []))
    have f1 : Fr p g H (upd (upd H R (.lst [])) tq (.tup [.int (rs.length : Int), .ref R])) := same_fr sm1
    generalize upd (upd H R (.lst [])) tq (.tup [.int (rs.length : Int), .ref R]) = H1 at sm1 P1 hR1 f1
    rw [lrs]
    refine ⟨2, rfl, by decide, by decide, ?_⟩
    have kept : ∀ {H' : Hp}, Fr p g H H' → Tup H H' := fun h => Fr.tup hP h
    refine for_range (lo := 0) (n := 2) (fun i σ H' => ∃ (x4 x5 x6 x7 : Option V) (zs : List V) (rows : List KM.Row), σ = [some (.ref p), some (.ref a), some (.int (M.rows.length : Int)), some (.ref R), x4, x5, x6, x7, none] ∧
        Fr p g H H' ∧ Pot H' p g s0 ∧ H' R = some (.lst zs) ∧ All2 (RowA K H') zs rows ∧ rows.length = i * M.rows.length ∧ TwOk M rows)
      ⟨none, none, none, none, [], [], rfl, f1, P1, hR1, .nil, by simp, fun k r h => by simp at h⟩ ?_ ?_
    · rintro i σ H2 hi ⟨x4, x5, x6, x7, zs, rows, rfl, f2, P2, hR2, hzs, lrows, tw⟩
      refine ⟨_, rfl, a, _, _, _, rfl, rfl, (ta.keep (kept f2)).sq, atI_nat (j := 1) rfl, b, rfl, ⟨_, (tb.keep (kept f2)).sq⟩, ?_⟩
      refine for_tup (K := K) (a := b) (xs := rs) (fun t σ H' => ∃ (x5 x6 x7 : Option V) (zs : List V) (rows : List KM.Row), σ = [some (.ref p), some (.ref a), some (.int (M.rows.length : Int)), some (.ref R), some (.int ((0 : Int) + (i : Int))), x5, x6, x7, none] ∧
          Fr p g H H' ∧ Pot H' p g s0 ∧ H' R = some (.lst zs) ∧ All2 (RowA K H') zs rows ∧ rows.length = i * M.rows.length + t ∧ TwOk M rows)
        ⟨x5, x6, x7, zs, rows, rfl, f2, P2, hR2, hzs, by omega, tw⟩ (fun t σ H' _ ⟨_, _, _, _, _, _, h, _⟩ => (tb.keep (kept h)).sq) ?_ ?_
      · rintro t y σ H3 ht ⟨x5, x6, x7, zs, rows, rfl, f3, P3, hR3, hzs, lrows, tw⟩
        obtain ⟨r, hr_, hx⟩ := hrs.get ht
        obtain ⟨ar, br, ss, rfl, tr, ts, hss⟩ := hx.keep (kept f3)
        have lss := hss.len
        have htn : t < M.rows.length := (List.getElem?_eq_some_iff.mp hr_).1
        have lr := ok.len r (List.mem_of_getElem? hr_)
        refine ⟨ar, _, rfl, tr.sq, rfl, _, _, rfl, _, _, rfl, rfl, ?_⟩
        refine ⟨_, rfl, br, rfl, ⟨_, ts.sq⟩, fun L nL => ?_⟩
        have cL := P3.ne nL
        refine lc_tup (K := K) (a := br) (xs := ss) (fun c H' => ∃ (ws : List V) (steps : List KM.Step), Fr p g H3 H' ∧ Pot H' p g s0 ∧ H' L = some (.lst ws) ∧ All2 (StepA K H') ws steps ∧ All2 (KM.Twin M.rows.length) steps (r.steps.take c))
          ⟨[], [], same_fr (same_new nL), P3.new nL, upd_same, .nil, .nil⟩ (fun c H' _ ⟨_, _, f4, _⟩ => (ts.keep (Fr.tup P3 f4)).sq) ?_ ?_
        · rintro c x H4 hc ⟨ws, steps, f4, P4, hL, hws, tws⟩
          obtain ⟨st, hst, hx⟩ := hss.get hc
          have hx4 := hx.keep (Fr.tup P3 f4)
          have hcl := (List.getElem?_eq_some_iff.mp hc).1
          have lws := hws.len
          have ltw := tws.len
          rw [List.length_take] at ltw
          have done : ∀ (z : V) (st' : KM.Step) (H5 : Hp), Fr p g H4 H5 → Pot H5 p g s0 → StepA K H5 z st' → KM.Twin M.rows.length st' st → ∃ acc, H5 L = some (.lst acc) ∧ acc.length < sizeLine ∧ ∃ (ws : List V) (steps : List KM.Step), Fr p g H3 (upd H5 L (.lst (acc ++ [z]))) ∧ Pot (upd H5 L (.lst (acc ++ [z]))) p g s0 ∧ upd H5 L (.lst (acc ++ [z])) L = some (.lst ws) ∧
              All2 (StepA K (upd H5 L (.lst (acc ++ [z])))) ws steps ∧ All2 (KM.Twin M.rows.length) steps (r.steps.take (c + 1)) := by
            intro z st' H5 f5 P5 hz htw
            have hL5 := f5 _ _ hL cL.1 cL.2.1
            have gl : Tup H5 (upd H5 L (.lst (ws ++ [z]))) := tup_lst hL5
            refine ⟨ws, hL5, small1000 (by omega), ws ++ [z], steps ++ [st'], (f4.trans f5).mut nL, P5.mut cL.1 cL.2.1 cL.2.2, upd_same, ?_, ?_⟩
            · exact All2.snoc (All2.mono hws fun _ _ h => (h.keep (Fr.tup P4 f5)).keep gl) (hz.keep gl)
            · rw [take_snoc hst]
              exact All2.snoc tws htw
          cases st with
          | none =>
            obtain rfl : x = .non := hx4
            exact ⟨rfl, _, rfl, rfl, _, rfl, iteD rfl (done .non none H4 (Fr.refl H4) P4 rfl .no)⟩
          | some m =>
            obtain ⟨ay, rfl, tay⟩ := hx4
            have hj : m.2 < M.rows.length := (ok.mores r (List.mem_of_getElem? hr_) m.1 m.2 (List.mem_of_getElem? hst)).2
            refine ⟨rfl, _, rfl, rfl, _, rfl, iteDN (by intro z; cases z) ?_⟩
            refine ⟨_, rfl, ay, _, _, _, rfl, rfl, tay.sq, atI_nat (j := 0) rfl, _, rfl, ay, _, _, _, rfl, rfl, tay.sq, atI_nat (j := 1) rfl, _, rfl, _, rfl, p, g, s0, 2, rfl, P4, by decide, by decide, fun H5 d f5 P5 hd => ?_⟩
            refine ⟨(M.rows.length : Int), (d : Int), rfl, rfl, .inr ⟨by omega, by omega⟩, (m.2 : Int), _, rfl, rfl, by show 2 ≤ sizeLine; decide, fun tp ntp => ?_⟩
            obtain ⟨l1, l2⟩ := low_to hj hd
            refine done (.ref tp) (some (m.1, m.2 + M.rows.length * d)) _ (f5.trans (same_fr (same_new ntp))) (P5.new ntp) ⟨tp, rfl, .inl ?_⟩ (.one l2 l1)
            rw [upd_same, Int.natCast_add, Int.natCast_mul]
        · rintro H4 ⟨ws, steps, f4, P4, hL, hws, tws⟩
          rw [lss, List.take_length] at tws
          have f34 := f3.trans f4
          have hR4 := f4 _ _ hR3 cR.1 cR.2.1
          refine ⟨_, rfl, .inl ⟨rfl, _, SqL.of hR4⟩, _, rfl, _, rfl, L, ws, rfl, .inl ⟨SqL.of hL, fun tt ntt => ?_⟩⟩
          have k6 := same_new (o := .tup ws) ntt
          refine ⟨by show 2 ≤ sizeLine; decide, fun tr2 ntr => ?_⟩
          have k7 := same_new (o := .tup [optV r.fin, .ref tt]) ntr
          have k67 := k6.trans k7
          have f47 : Fr p g H4 (upd (upd H4 tt (.tup ws)) tr2 (.tup [optV r.fin, .ref tt])) := same_fr k67
          have P7 := P4.same k67
          have t1 : upd (upd H4 tt (.tup ws)) tr2 (.tup [optV r.fin, .ref tt]) tt = some (.tup ws) := k7 _ _ upd_same
          have t2 : upd (upd H4 tt (.tup ws)) tr2 (.tup [optV r.fin, .ref tt]) tr2 = some (.tup [optV r.fin, .ref tt]) := upd_same
          have hR7 := k67 _ _ hR4
          generalize upd (upd H4 tt (.tup ws)) tr2 (.tup [optV r.fin, .ref tt]) = H7 at f47 P7 t1 t2 hR7
          have lzs := hzs.len
          have gl : Tup H7 (upd H7 R (.lst (zs ++ [.ref tr2]))) := tup_lst hR7
          have gA : Tup H3 (upd H7 R (.lst (zs ++ [.ref tr2]))) := (Fr.tup P3 (f4.trans f47)).trans gl
          have gB : Tup H4 (upd H7 R (.lst (zs ++ [.ref tr2]))) := (Fr.tup P4 f47).trans gl
          have him : i * M.rows.length ≤ 1 * M.rows.length := Nat.mul_le_mul_right _ (by omega)
          refine ⟨R, zs, .ref tr2, rfl, rfl, hR7, small1000 (by omega), _, _, _, zs ++ [.ref tr2], rows ++ [⟨r.fin, steps⟩], rfl, (f34.trans f47).mut nRH, P7.mut cR.1 cR.2.1 cR.2.2, upd_same, All2.snoc (All2.mono hzs fun _ _ h => h.keep gA) ⟨tr2, tt, ws, rfl, .inl (gl _ _ t2), .inl (gl _ _ t1), All2.mono hws fun _ _ h => h.keep gB⟩, by rw [List.length_append, List.length_singleton]; omega, fun k r2 hk => ?_⟩
          by_cases hkl : k < rows.length
          · rw [List.getElem?_append_left hkl] at hk
            exact tw k r2 hk
          · rw [List.getElem?_append_right (by omega)] at hk
            have e : k = rows.length := by
              have := (List.getElem?_eq_some_iff.mp hk).1
              simp at this
              omega
            subst e
            rw [Nat.sub_self] at hk
            cases hk
            refine ⟨r, ?_, rfl, tws⟩
            rw [lrows, low_at htn (by omega)]
            exact hr_
      · rintro σ H3 ⟨x5, x6, x7, zs, rows, rfl, f3, P3, hR3, hzs, lrows, tw⟩
        refine ⟨_, _, _, _, zs, rows, rfl, f3, P3, hR3, hzs, ?_, tw⟩
        rw [lrows, lrs, Nat.succ_mul]
    · rintro σ H3 ⟨x4, x5, x6, x7, zs, rows, rfl, f3, P3, hR3, hzs, lrows, tw⟩
      have g3 := kept f3
      have lzs := hzs.len
      refine ⟨_, rfl, a, _, _, _, rfl, rfl, (ta.keep g3).sq, atI_nat (j := 0) rfl, ?_⟩
      refine ⟨_, rfl, by show 2 ≤ sizeLine; decide, fun t1 n1 => ?_⟩
      have k1 := same_new (o := .tup [.int 0, .int 0]) n1
      refine ⟨by show 1 ≤ sizeLine; decide, fun t2 n2 => ?_⟩
      have k2 := same_new (o := .tup [.ref t1]) n2
      have k12 := k1.trans k2
      refine ⟨_, rfl, a, _, _, _, rfl, rfl, ((ta.keep g3).keep (same_tup k12)).sq, atI_nat (j := 0) rfl, ?_⟩
      refine rep_readX (K := K) (k := (M.size : Int)) (n := M.size) rfl (by omega) (.inl upd_same) fun H4 c sm4 tc => ?_
      have q1 := sm4 _ _ (k2 _ _ (upd_same (a := t1) (H := H3) (o := .tup [.int 0, .int 0])))
      refine ⟨by show 2 ≤ sizeLine; decide, fun t5 n5 => ?_⟩
      have k5 := same_new (o := .tup [.int 1, .ref c]) n5
      refine ⟨by show 1 ≤ sizeLine; decide, fun l6 n6 => ?_⟩
      have k6 := same_new (o := .lst [.ref t5]) n6
      have kz := ((k12.trans sm4).trans k5).trans k6
      refine ⟨R, l6, zs, [.ref t5], rfl, rfl, kz _ _ hR3, upd_same, Nat.le_of_lt (small1000 (by rw [List.length_singleton]; omega)), fun l7 n7 => ?_⟩
      have k7 := same_new (o := .lst (zs ++ [.ref t5])) n7
      refine ⟨l7, _, rfl, .inl ⟨SqL.of upd_same, fun t8 n8 => ?_⟩⟩
      have k8 := same_new (o := .tup (zs ++ [.ref t5])) n8
      refine ⟨by show 2 ≤ sizeLine; decide, fun t9 n9 => ?_⟩
      have k9 := same_new (o := .tup [.int (M.size : Int), .ref t8]) n9
      have k79 := (k7.trans k8).trans k9
      have kall := kz.trans k79
      have gl := same_tup kall
      refine q _ _ ⟨M.size, rows ++ [⟨some 1, List.replicate M.size (some (0, 0))⟩]⟩ (f3.trans (same_fr kall)) (P3.same kall) ⟨t9, .ref t8, rfl, .inl upd_same, t8, _, rfl, .inl (k9 _ _ upd_same), All2.snoc (All2.mono hzs fun _ _ h => h.keep gl)
        ⟨t5, c, _, rfl, .inl (k79 _ _ (k6 _ _ upd_same)), tc.keep (same_tup ((k5.trans k6).trans k79)), All2.rep (F := StepA K _) (a := V.ref t1) (b := some (0, 0)) ⟨t1, rfl, .inl (k79 _ _ (k6 _ _ (k5 _ _ q1)))⟩ M.size⟩⟩ ⟨rfl, ?_, fun k hk => ?_, ?_⟩
      · show (rows ++ [_]).length = _
        rw [List.length_append, List.length_singleton, lrows]
      · obtain ⟨r, hr_⟩ : ∃ r, rows[k]? = some r := ⟨_, List.getElem?_eq_getElem (by omega)⟩
        obtain ⟨r', h1, h2, h3⟩ := tw k r hr_
        refine ⟨r, r', ?_, h1, h2, h3⟩
        show (rows ++ [_])[k]? = some r
        rw [List.getElem?_append_left (by omega)]
        exact hr_
      · show (rows ++ [_])[2 * M.rows.length]? = _
        rw [List.getElem?_append_right (by omega), lrows, Nat.sub_self]
        rfl
theorem twice_valid {M D : Mach} (V : KM.Valid M) (T : KM.TwiceOf M D) (h14 : M.rows.length ≤ 14) : KM.Valid D := by
  have rowD : ∀ r ∈ D.rows, (∃ r' ∈ M.rows, r.fin = r'.fin ∧ All2 (KM.Twin M.rows.length) r.steps r'.steps) ∨ r = ⟨some 1, List.replicate M.size (some (0, 0))⟩ := by
    intro r h
    obtain ⟨k, hk, e⟩ := List.getElem_of_mem h
    have e' : D.rows[k]? = some r := by rw [List.getElem?_eq_getElem hk, e]
    rw [T.len] at hk
    by_cases h2 : k < 2 * M.rows.length
    · obtain ⟨r1, r', h3, h4, h5, h6⟩ := T.row k h2
      rw [e'] at h3
      cases h3
      exact .inl ⟨r', List.mem_of_getElem? h4, h5, h6⟩
    · have h3 : k = 2 * M.rows.length := by omega
      subst h3
      rw [T.last] at e'
      exact .inr (Option.some.inj e').symm
  have r1 := V.rows1
  refine ⟨by rw [T.size]; exact V.size1, by rw [T.size]; exact V.size8, by rw [T.len]; omega, by rw [T.len]; omega, fun r h => ?_, fun r h e he => ?_, fun r h m s hm => ?_⟩
  · rcases rowD r h with ⟨r', h1, _, h3⟩ | rfl
    · rw [h3.len, T.size]; exact V.len r' h1
    · show (List.replicate _ _).length = _
      rw [List.length_replicate, T.size]
  · rcases rowD r h with ⟨r', h1, h2, _⟩ | rfl
    · exact V.fins r' h1 e (by rw [← h2]; exact he)
    · have he : some 1 = some e := he
      cases he; decide
  · rw [T.len]
    rcases rowD r h with ⟨r', h1, _, h3⟩ | rfl
    · obtain ⟨st, h4, h5⟩ := h3.mem_left hm
      cases h5 with
      | one h6 h7 => exact ⟨(V.mores r' h1 _ _ h4).1, by omega⟩
    · have hm := List.eq_of_mem_replicate (show some (m, s) ∈ List.replicate M.size (some (0, 0)) from hm)
      cases hm
      exact ⟨by omega, by omega⟩
end
end KW

set_option Elab.async false
set_option linter.all false
set_option maxRecDepth 100000
set_option maxHeartbeats 4000000
/-! _law_trim: the fixpoint by counting. -/
namespace KW
open PySem PySem.Spec PyProof.Rows L2 KR KP
open KM (Mach All2)
def addAll (F G : List Nat) : List Nat := G.foldl (fun F j => if j ∈ F then F else F ++ [j]) F
theorem addAll_mem : ∀ (G F : List Nat) (x : Nat), x ∈ addAll F G ↔ x ∈ F ∨ x ∈ G
  | [], F, x => by simp [addAll]
  | j :: G, F, x => by
    show x ∈ addAll (if j ∈ F then F else F ++ [j]) G ↔ _
    rw [addAll_mem G]
    by_cases e : j ∈ F
    · rw [if_pos e]
      constructor
      · rintro (h | h)
        · exact .inl h
        · exact .inr (by simp [h])
      · rintro (h | h)
        · exact .inl h
        · rcases List.mem_cons.mp h with rfl | h
          · exact .inl e
          · exact .inr h
    · rw [if_neg e]
      simp only [List.mem_append, List.mem_cons, List.not_mem_nil, or_false]
      exact ⟨fun h => by rcases h with (h | h) | h; exact .inl h; exact .inr (.inl h); exact .inr (.inr h), fun h => by rcases h with h | h | h; exact .inl (.inl h); exact .inl (.inr h); exact .inr h⟩
theorem addAll_nodup : ∀ (G F : List Nat), F.Nodup → (addAll F G).Nodup
  | [], F, h => h
  | j :: G, F, h => by
    show (addAll (if j ∈ F then F else F ++ [j]) G).Nodup
    refine addAll_nodup G _ ?_
    by_cases e : j ∈ F
    · rw [if_pos e]; exact h
    · rw [if_neg e]; exact nd_snoc h e
theorem merge_dk : ∀ (G F : List Nat), mergeK (dk F) (dk G) = dk (addAll F G)
  | [], F => rfl
  | j :: G, F => by
    show mergeK (putK (dk F) (Sum.inl (j : Int)) (V.bl true)) (dk G) = dk (addAll (if j ∈ F then F else F ++ [j]) G)
    by_cases e : j ∈ F
    · rw [dk_put_in e, if_pos e]; exact merge_dk G F
    · rw [dk_put e, if_neg e]; exact merge_dk G _
theorem nodup_eq {ks ks' : List Nat} (nd : ks.Nodup) (sub : ∀ x ∈ ks, x ∈ ks') (h : ks'.length ≤ ks.length) : ∀ x ∈ ks', x ∈ ks := by
  intro x hx
  apply Classical.byContradiction
  intro hn
  have h1 : (x :: ks).Nodup := List.nodup_cons.mpr ⟨hn, nd⟩
  have h2 := KM.nodup_len (l2 := ks') h1 fun y hy => by
    rcases List.mem_cons.mp hy with rfl | hy
    · exact hx
    · exact sub y hy
  simp at h2
  omega
/-- what a state needs to end -/
def Ends1 (M : Mach) (L : List Nat) (i : Nat) : Prop := KM.fin M i ≠ none ∨ ∃ m j, (m, j) ∈ KM.stp M i ∧ j ∈ L
/-- within a pass -/
structure TP (M : Mach) (F0 L0 F L : List Nat) (t : Nat) : Prop where
  ndF : F.Nodup
  ndL : L.Nodup
  zero : 0 ∈ F
  rF : ∀ i ∈ F, KM.Reach M i
  cL : ∀ i ∈ L, KM.Co M i
  subF : ∀ i ∈ F0, i ∈ F
  subL : ∀ i ∈ L0, i ∈ L
  doneF : ∀ i, i < t → i ∈ F0 → ∀ m j, (m, j) ∈ KM.stp M i → j ∈ F
  doneL : ∀ i, i < t → Ends1 M L0 i → i ∈ L
/-- between passes -/
structure TO (M : Mach) (F L : List Nat) (t : Nat) : Prop where
  ndF : F.Nodup
  ndL : L.Nodup
  zero : 0 ∈ F
  rF : ∀ i ∈ F, KM.Reach M i
  cL : ∀ i ∈ L, KM.Co M i
  growF : (∀ i ∈ F, ∀ m j, (m, j) ∈ KM.stp M i → j ∈ F) ∨ t + 1 ≤ F.length
  growL : (∀ i, i < M.rows.length → Ends1 M L i → i ∈ L) ∨ t ≤ L.length
theorem TO.start (M : Mach) : TO M [0] [] 0 := ⟨by simp, by simp, by simp, fun i h => by simp at h; subst h; exact .zero, fun i h => by simp at h, .inr (Nat.le_refl _), .inr (Nat.le_refl _)⟩
theorem TO.pass {M : Mach} {F L : List Nat} {t : Nat} (h : TO M F L t) : TP M F L F L 0 :=
  ⟨h.ndF, h.ndL, h.zero, h.rF, h.cL, fun i h => h, fun i h => h, fun i h => absurd h (Nat.not_lt_zero _), fun i h => absurd h (Nat.not_lt_zero _)⟩
theorem co_of_end {M : Mach} {L : List Nat} (h : ∀ i ∈ L, KM.Co M i) {i : Nat} (e : Ends1 M L i) : KM.Co M i := by
  rcases e with e | ⟨m, j, h1, h2⟩
  · cases hf : KM.fin M i with
    | none => exact absurd hf e
    | some x => exact .fin hf
  · exact .step h1 (h j h2)
theorem co_closed {M : Mach} {L : List Nat} (cl : ∀ i, i < M.rows.length → Ends1 M L i → i ∈ L) {i : Nat} (h : KM.Co M i) : i ∈ L := by
  induction h with
  | fin he => exact cl _ (co_lt (.fin he)) (.inl (by rw [he]; intro z; cases z))
  | step hs hc ih => exact cl _ (co_lt (.step hs hc)) (.inr ⟨_, _, hs, ih⟩)
theorem TP.pass {M : Mach} {F L F' L' : List Nat} {t : Nat} (h : TO M F L t) (p : TP M F L F' L' M.rows.length) (V : KM.Valid M) : TO M F' L' (t + 1) := by
  have lF := KM.nodup_len h.ndF p.subF
  have lL := KM.nodup_len h.ndL p.subL
  refine ⟨p.ndF, p.ndL, p.zero, p.rF, p.cL, ?_, ?_⟩
  · by_cases e : F'.length ≤ F.length
    · have sub := nodup_eq h.ndF p.subF e
      refine .inl fun i hi m j hm => p.doneF i ?_ (sub i hi) m j hm
      exact V.reach_lt (p.rF i hi)
    · rcases h.growF with g | g
      · refine absurd (KM.nodup_len p.ndF fun i hi => ?_) e
        exact closed_reach h.zero g (p.rF i hi)
      · exact .inr (by omega)
  · by_cases e : L'.length ≤ L.length
    · have sub := nodup_eq h.ndL p.subL e
      refine .inl fun i hi he => p.doneL i hi ?_
      rcases he with he | ⟨m, j, h1, h2⟩
      · exact .inl he
      · exact .inr ⟨m, j, h1, sub j h2⟩
    · rcases h.growL with g | g
      · refine absurd (KM.nodup_len p.ndL fun i hi => ?_) e
        exact co_closed g (p.cL i hi)
      · exact .inr (by omega)
theorem TO.fin {M : Mach} {F L : List Nat} (h : TO M F L M.rows.length) (V : KM.Valid M) : (∀ i, i ∈ F ↔ KM.Reach M i) ∧ ∀ i, i ∈ L ↔ KM.Co M i := by
  refine ⟨fun i => ⟨h.rF i, fun r => ?_⟩, fun i => ⟨h.cL i, fun r => ?_⟩⟩
  · rcases h.growF with g | g
    · exact closed_reach h.zero g r
    · have := len_le_of h.ndF fun i hi => V.reach_lt (h.rF i hi)
      omega
  · rcases h.growL with g | g
    · exact co_closed g r
    · refine nodup_eq (ks' := List.range M.rows.length) h.ndL (fun x hx => List.mem_range.mpr (co_lt (h.cL x hx))) (by rw [List.length_range]; exact g) i (List.mem_range.mpr (co_lt r))
/-- one state -/
theorem TP.step {M : Mach} {F0 L0 F L F' L' : List Nat} {t : Nat} (p : TP M F0 L0 F L t) (hF : F' = F ∨ (t ∈ F ∧ ∃ G : List Nat, (∀ j ∈ G, ∃ m, (m, j) ∈ KM.stp M t) ∧ F' = addAll F G))
    (hF2 : t ∈ F → ∀ m j, (m, j) ∈ KM.stp M t → j ∈ F') (hL : L' = L ∨ (Ends1 M L t ∧ t ∉ L ∧ L' = L ++ [t])) (hL2 : Ends1 M L t → t ∈ L') : TP M F0 L0 F' L' (t + 1) := by
  have sF : ∀ i ∈ F, i ∈ F' := by
    rcases hF with rfl | ⟨_, G, _, rfl⟩
    · exact fun i h => h
    · exact fun i h => (addAll_mem G F i).mpr (.inl h)
  have sL : ∀ i ∈ L, i ∈ L' := by
    rcases hL with rfl | ⟨_, _, rfl⟩
    · exact fun i h => h
    · exact fun i h => by simp [h]
  refine ⟨?_, ?_, sF 0 p.zero, ?_, ?_, fun i h => sF i (p.subF i h), fun i h => sL i (p.subL i h), fun i hi h0 m j hm => ?_, fun i hi he => ?_⟩
  · rcases hF with rfl | ⟨_, G, _, rfl⟩
    · exact p.ndF
    · exact addAll_nodup G F p.ndF
  · rcases hL with rfl | ⟨_, h2, rfl⟩
    · exact p.ndL
    · exact nd_snoc p.ndL h2
  · rcases hF with rfl | ⟨h1, G, h2, rfl⟩
    · exact p.rF
    · intro i hi
      rcases (addAll_mem G F i).mp hi with h | h
      · exact p.rF i h
      · obtain ⟨m, hm⟩ := h2 i h
        exact .step (p.rF t h1) hm
  · rcases hL with rfl | ⟨h1, _, rfl⟩
    · exact p.cL
    · intro i hi
      rcases List.mem_append.mp hi with h | h
      · exact p.cL i h
      · rw [List.mem_singleton.mp h]
        exact co_of_end p.cL h1
  · by_cases e : i = t
    · subst e
      exact hF2 (p.subF i h0) m j hm
    · exact sF j (p.doneF i (by omega) h0 m j hm)
  · by_cases e : i = t
    · subst e
      refine hL2 ?_
      rcases he with he | ⟨m, j, h1, h2⟩
      · exact .inl he
      · exact .inr ⟨m, j, h1, p.subL j h2⟩
    · exact sL i (p.doneL i (by omega) he)
theorem inV_il (ls : List Nat) (j : Nat) : inV (.int (j : Int)) (il ls) = decide (j ∈ ls) := by
  rw [Bool.eq_iff_iff, decide_eq_true_iff]
  unfold inV il
  rw [List.any_eq_true]
  constructor
  · rintro ⟨y, h1, h2⟩
    obtain ⟨k, hk, rfl⟩ := List.mem_map.mp h1
    have h2 : ((k : Int) == (j : Int)) = true := h2
    have h2 := eq_of_beq h2
    have : k = j := by omega
    rwa [← this]
  · intro h
    refine ⟨.int (j : Int), List.mem_map.mpr ⟨j, h, rfl⟩, ?_⟩
    show ((j : Int) == (j : Int)) = true
    simp
theorem il_flat (ls : List Nat) : (il ls).all flatV = true := by
  unfold il
  rw [List.all_eq_true]
  intro x hx
  obtain ⟨k, _, rfl⟩ := List.mem_map.mp hx
  rfl
end KW

set_option Elab.async false
set_option linter.all false
set_option maxRecDepth 100000
set_option maxHeartbeats 4000000
/-! _law_trim. -/
namespace KW
open PySem PySem.Spec PyProof.Rows L2 KR KP
open KM (Mach All2)
section
variable {P : Program} {w : World} {K : PySem.W.Frag} {mg : Str → Option Value} {base : Heap} {aN aO : Addr}
abbrev sLTrim : Stmt := topS 49
abbrev nLTrim : List Str := ["_law_machine_here", "_law_size", "_law_rows", "_law_first", "_law_last", "_law_turn", "_law_state", "_law_later_here", "_law_kept", "_law_found", "_law_steps", "_law_step", "_law_other"]
theorem scLTrim : FnScope nLTrim ["_law_machine_here"] (defScope sLTrim) := ⟨rfl, rfl, rfl, by decide +kernel, rfl, by decide +kernel, by decide +kernel⟩
/-- the next states of some steps -/
def nexts (l : List KM.Step) : List Nat := (l.filterMap id).map (·.2)
theorem nexts_snoc (l : List KM.Step) (st : KM.Step) : nexts (l ++ [st]) = nexts l ++ (match st with | none => [] | some p => [p.2]) := by
  unfold nexts
  rw [filter_snoc, List.map_append]
  cases st <;> rfl
theorem nexts_mem {M : Mach} {i : Nat} {r : KM.Row} (h : M.rows[i]? = some r) {j : Nat} : j ∈ nexts r.steps ↔ ∃ m, (m, j) ∈ KM.stp M i := by
  rw [KM.stp_of h]
  unfold nexts KM.Row.stp
  constructor
  · intro hj
    obtain ⟨p, hp, rfl⟩ := List.mem_map.mp hj
    exact ⟨p.1, hp⟩
  · rintro ⟨m, hm⟩
    exact List.mem_map.mpr ⟨(m, j), hm, rfl⟩
theorem nexts_len (l : List KM.Step) : (nexts l).length ≤ l.length := by
  unfold nexts
  rw [List.length_map]
  exact List.length_filterMap_le id l
theorem ok_ltrim (T : Txt K mg aN aO) (D : At K mg "_law_trim" sLTrim ["_law_machine_here"]) : Ok P w K mg base 1 "_law_trim" ["_law_machine_here"] (spTrim K) := by
  refine D.ok scLTrim (fun vs H Q E h => ?_) (fun f cdv A outer s H vs Q E hr h => ?_)
  · obtain ⟨v, M, rfl, _⟩ := h; rfl
  · obtain ⟨v, M, rfl, ⟨a, u, rfl, ta, b, rs, rfl, tb, hrs⟩, ok, q⟩ := h
    have lrs := hrs.len
    have r30 := ok.rows30
    have s1 := ok.size1
    have s8 := ok.size8
    have nd := scLTrim.nd
    refine ⟨_, pss_cons (ps_asg (pv 0) (pg_tup rfl (pgs_cons (pg_name (i := 1) nd rfl (Or.inl rfl)) (pgs_cons (pg_name (i := 2) nd rfl (Or.inl rfl)) pgs_nil))))
      (pss_cons (ps_asg (pe_tup (pa_cons (pe_disp (pps_cons pe_int pe_bl pps_nil) (by rfl) (by rfl) (fun z => by cases z) (by decide)) (pa_cons pe_dnewK pa_nil))) (pg_tup rfl (pgs_cons (pg_name (i := 3) nd rfl (Or.inr rfl)) (pgs_cons (pg_name (i := 4) nd rfl (Or.inr rfl)) pgs_nil))))
      (pss_cons (ps_for PassesOwn.never rfl (pi_range1 (by rfl) T.range (pa_cons (pe_callB call_len_seq (by rfl) T.len boot_len (pa_cons (pv 2) pa_nil)) pa_nil)) (pg_name (i := 5) nd rfl (Or.inl rfl))
        (pss_one (ps_for PassesOwn.never rfl (pi_range1 (by rfl) T.range (pa_cons (pe_callB call_len_seq (by rfl) T.len boot_len (pa_cons (pv 2) pa_nil)) pa_nil)) (pg_name (i := 6) nd rfl (Or.inl rfl))
          (pss_cons (ps_setLc (i := 7) (own := [("_law_step", 11)]) (g := gName 11) rfl nd rfl rfl (sw_true rfl rfl rfl (by decide +kernel)) (pi_tup (pe_ix ix_tup (pe_ix ix_tup (pv 2) (pv 6) (fun _ _ => rfl)) pe_int (fun _ _ => rfl))) (blkOk_by (N := nLTrim) (sc := defScope sLTrim) (by decide +kernel))
              (fun _ _ _ _ _ => pg_name (i := 11) nd rfl (Or.inl rfl)) (fun _ _ _ _ _ => pts_one (pt_cmpR op_notN (pv 11) pe_non (nomark _))) (fun _ _ _ _ _ => pe_ix (r := rIxT K) ix_tup (pv 11) pe_int (fun _ _ => rfl)))
          (pss_cons (ps_if (pt_cmp (pc_din (hu_of hr) (pv 6) (pv 3)))
            (pss_one (ps_expr (pe_bm PySem.F.plainAttrs_dict PySem.F.slot_dict_update PySem.F.type_dict_update mt_update (pv 3) (pa_cons (pe_callTy (call_dictP rfl) (by rfl) T.dict_ boot_dict (pa_cons
                (pe_lc (own := [("_law_other", 12)]) (g := gName 12) (tt := tYes) rfl nd (pi_list (pv 7)) (blkOk_by (N := nLTrim) (sc := defScope sLTrim) (by decide +kernel)) (fun _ _ _ _ _ => pg_name (i := 12) nd rfl (Or.inl rfl)) (fun _ _ _ _ _ => pts_nil)
                  (fun _ _ _ _ _ => pe_tup (pa_cons (pv 12) (pa_cons pe_bl pa_nil)))) pa_nil)) pa_nil)))) pss_nil)
          (pss_one (ps_if (PW.pt (pw_or (pt_cmpR op_notN (pe_ix ix_tup (pe_ix ix_tup (pv 2) (pv 6) (fun _ _ => rfl)) pe_int (fun _ _ => rfl)) pe_non (nomark _)) (pw_or1 (pt_val (pe_callB (cr_any rfl) (by rfl) T.any_ boot_any (pa_cons
                (pe_lc (own := [("_law_other", 12)]) (g := gName 12) (tt := tYes) rfl nd (pi_list (pv 7)) (blkOk_by (N := nLTrim) (sc := defScope sLTrim) (by decide +kernel)) (fun _ _ _ _ _ => pg_name (i := 12) nd rfl (Or.inl rfl)) (fun _ _ _ _ _ => pts_nil)
                  (fun _ _ _ _ _ => pe_cmp (pc_din (hu_of hr) (pv 12) (pv 4)))) pa_nil))))))
            (pss_one (ps_dput (hu_of hr) (pv 4) (pv 6) pe_bl rfl)) pss_nil)))))))
      (pss_cons (ps_if (pt_cmp (pc_dnotin (hu_of hr) pe_int (pv 4))) (pss_one (ps_ret (pe_tup (pa_cons (pv 1) (pa_cons (pe_tup (pa_cons (pe_tup (pa_cons pe_non (pa_cons
            (pe_op op_repA (pe_tup (pa_cons pe_non pa_nil)) (pv 1)) pa_nil))) pa_nil)) pa_nil))))) pss_nil)
      (pss_cons (ps_setLc (i := 8) (own := [("_law_state", 6)]) (g := gName 6) rfl nd rfl rfl (sw_true rfl rfl rfl (by decide +kernel)) (pi_range1 (by rfl) T.range (pa_cons (pe_callB call_len_seq (by rfl) T.len boot_len (pa_cons (pv 2) pa_nil)) pa_nil)) (blkOk_by (N := nLTrim) (sc := defScope sLTrim) (by decide +kernel))
          (fun _ _ _ _ _ => pg_name (i := 6) nd rfl (Or.inl rfl)) (fun _ _ _ _ _ => pts_one (PW.pt (pw_and (pt_cmp (pc_din (hu_of hr) (pv 6) (pv 3))) (pw_and1 (pt_cmp (pc_din (hu_of hr) (pv 6) (pv 4))))))) (fun _ _ _ _ _ => pv 6))
      (pss_cons (ps_set (i := 9) nd rfl (Or.inl rfl) (pe_lst pa_nil))
      (pss_cons (ps_for PassesOwn.never rfl (pi_list (pv 8)) (pg_name (i := 6) nd rfl (Or.inl rfl))
        (pss_cons (ps_set (i := 10) nd rfl (Or.inl rfl) (pe_lst pa_nil))
        (pss_cons (ps_for PassesOwn.never rfl (pi_tup (pe_ix ix_tup (pe_ix ix_tup (pv 2) (pv 6) (fun _ _ => rfl)) pe_int (fun _ _ => rfl))) (pg_name (i := 11) nd rfl (Or.inl rfl))
          (pss_one (ps_expr (pe_bm PySem.F.plainAttrs_list PySem.F.slot_list_append PySem.F.type_list_append mt_append (pv 10) (pa_cons (pe_ifExp (PW.pt (pw_and (pt_cmpR op_notN (pv 11) pe_non (nomark _)) (pw_and1 (pt_cmpR op_in_seq (pe_ix ix_tup (pv 11) pe_int (fun _ _ => rfl)) (pv 8) rfl))))
              (pe_tup (pa_cons (pe_ix ix_tup (pv 11) pe_int (fun _ _ => rfl)) (pa_cons (pe_bm PySem.F.plainAttrs_list PySem.F.slot_list_index PySem.F.type_list_index mt_index (pv 8) (pa_cons (pe_ix ix_tup (pv 11) pe_int (fun _ _ => rfl)) pa_nil)) pa_nil))) pe_non) pa_nil)))))
        (pss_one (ps_expr (pe_bm PySem.F.plainAttrs_list PySem.F.slot_list_append PySem.F.type_list_append mt_append (pv 9) (pa_cons (pe_tup (pa_cons (pe_ix ix_tup (pe_ix ix_tup (pv 2) (pv 6) (fun _ _ => rfl)) pe_int (fun _ _ => rfl)) (pa_cons (pe_callTy call_tuple_of (by rfl) T.tuple boot_tuple (pa_cons (pv 10) pa_nil)) pa_nil))) pa_nil)))))))
      (pss_one (ps_ret (pe_tup (pa_cons (pv 1) (pa_cons (pe_callTy call_tuple_of (by rfl) T.tuple boot_tuple (pa_cons (pv 9) pa_nil)) pa_nil))))))))))), ?_⟩
    refine ⟨_, rfl, a, _, rfl, ta.sq, rfl, _, _, rfl, _, _, rfl, rfl, ?_⟩
    -- first, last
    refine fun d1 nd1 => ⟨upd_same, [((Sum.inl 0 : Key), V.bl true)], rfl, by show 1 ≤ 15; decide, ?_⟩
    rw [upd_upd]
    have k1 : Same H (upd H d1 (.dK (mergeK [] [((Sum.inl 0 : Key), V.bl true)]))) := same_new nd1
    have hd1 : upd H d1 (.dK (mergeK [] [((Sum.inl 0 : Key), V.bl true)])) d1 = some (.dK (dk [0])) := upd_same
    generalize upd H d1 (.dK (mergeK [] [((Sum.inl 0 : Key), V.bl true)])) = H1 at k1 hd1
    refine fun d2 nd2 => ?_
    have k2 := same_new (o := .dK []) nd2
    refine ⟨by show 2 ≤ sizeLine; decide, fun tq ntq => ?_⟩
    have k3 := same_new (o := .tup [.ref d1, .ref d2]) ntq
    refine ⟨tq, _, rfl, SqT.of upd_same, rfl, _, _, rfl, _, _, rfl, rfl, ?_⟩
    have sm3 := (k1.trans k2).trans k3
    have hd13 := k3 _ _ (k2 _ _ hd1)
    have hd23 := k3 _ _ (upd_same (a := d2) (H := H1) (o := .dK []))
    have n12 : d1 ≠ d2 := fun e => by rw [← e, hd1] at nd2; cases nd2
    have nd2H : H d2 = none := k1.free nd2
    have ndup : d1 ≠ d2 := n12
    generalize upd (upd H1 d2 (.dK [])) tq (.tup [.ref d1, .ref d2]) = H3 at sm3 hd13 hd23
    refine ⟨_, rfl, b, rs, rfl, .inr (tb.keep (same_tup sm3)).sq, _, rfl, by omega, by omega, ?_⟩
    rw [Int.toNat_natCast, lrs]
    refine for_range (lo := 0) (n := M.rows.length) (fun i σ H' => ∃ (x5 x6 x7 : Option V) (F L : List Nat), σ = [some (.ref a), some (.int (M.size : Int)), some (.ref b), some (.ref d1), some (.ref d2), x5, x6, x7, none, none, none, none, none] ∧ Same H H' ∧ H' d1 = some (.dK (dk F)) ∧ H' d2 = some (.dK (dk L)) ∧ TO M F L i)
      ⟨none, none, none, [0], [], rfl, sm3, hd13, hd23, TO.start M⟩ ?_ ?_
    · rintro i σ H4 hi ⟨x5, x6, x7, F0, L0, rfl, sm4, hd14, hd24, to⟩
      refine ⟨_, rfl, b, rs, rfl, .inr (tb.keep (same_tup sm4)).sq, _, rfl, by omega, by omega, ?_⟩
      rw [Int.toNat_natCast, lrs]
      refine for_range (lo := 0) (n := M.rows.length) (fun t σ H' => ∃ (x6 x7 : Option V) (F L : List Nat), σ = [some (.ref a), some (.int (M.size : Int)), some (.ref b), some (.ref d1), some (.ref d2), some (.int ((0 : Int) + (i : Int))), x6, x7, none, none, none, none, none] ∧ Same H H' ∧ H' d1 = some (.dK (dk F)) ∧ H' d2 = some (.dK (dk L)) ∧ TP M F0 L0 F L t)
        ⟨x6, x7, F0, L0, rfl, sm4, hd14, hd24, to.pass⟩ ?_ ?_
      · rintro t σ H5 ht ⟨x6, x7, F, L, rfl, sm5, hd15, hd25, tp⟩
        show gName 6 (.int ((0 : Int) + (t : Int))) _ H5 _
        rw [Int.zero_add]
        obtain ⟨r, hr_⟩ : ∃ r, M.rows[t]? = some r := ⟨_, List.getElem?_eq_getElem ht⟩
        obtain ⟨xr, hxr, ar, br, ss, rfl, tr, ts, hss⟩ := hrs.getR hr_
        have g5 := same_tup sm5
        have lss := hss.len
        have lr := ok.len r (List.mem_of_getElem? hr_)
        have lF := len_le_of tp.ndF fun i hi => ok.reach_lt (tp.rF i hi)
        have lL := len_le_of tp.ndL fun i hi => co_lt (tp.cL i hi)
        refine ⟨_, rfl, _, rfl, b, _, _, _, rfl, rfl, (tb.keep g5).sq, atI_nat hxr, ar, _, _, _, rfl, rfl, (tr.keep g5).sq, atI_nat (j := 1) rfl, br, rfl, ⟨_, (ts.keep g5).sq⟩, fun N nN => ?_⟩
        refine lc_tup (K := K) (a := br) (xs := ss) (fun c H' => Same H5 H' ∧ H' N = some (.lst (il (nexts (r.steps.take c))))) ⟨same_new nN, upd_same⟩ (fun c H' _ ⟨sm, _⟩ => ((ts.keep g5).keep (same_tup sm)).sq) ?_ ?_
        · rintro c x H6 hc ⟨sm6, hN⟩
          obtain ⟨st, hst, hx⟩ := hss.get hc
          have hx6 := (hx.keep g5).keep (same_tup sm6)
          refine ⟨rfl, _, rfl, rfl, _, rfl, ?_⟩
          cases st with
          | none =>
            obtain rfl : x = .non := hx6
            refine iteF ⟨sm6, ?_⟩
            rw [take_snoc hst, nexts_snoc, List.append_nil]
            exact hN
          | some p =>
            obtain ⟨ay, rfl, tay⟩ := hx6
            refine iteT ⟨_, rfl, ay, _, _, _, rfl, rfl, tay.sq, atI_nat (j := 1) rfl, _, hN, ?_, Same.mut sm6 nN, ?_⟩
            · rw [il_len]
              have h1 := nexts_len (r.steps.take c)
              have h2 := List.length_take_le c r.steps
              have h3 : (r.steps.take c).length ≤ r.steps.length := by rw [List.length_take]; omega
              exact small1000 (by omega)
            · rw [upd_same, take_snoc hst, nexts_snoc, il_snoc]
        rintro H6 ⟨sm6, hN⟩
        rw [lss, List.take_length] at hN
        have lN := nexts_len r.steps
        have smE := sm5.trans sm6
        have hd16 := sm6 _ _ hd15
        have hd26 := sm6 _ _ hd25
        have g6 := same_tup smE
        have nNd2 : N ≠ d2 := fun e => by rw [e, hd25] at nN; cases nN
        have nNd1 : N ≠ d1 := fun e => by rw [e, hd15] at nN; cases nN
        -- the second half, from the dict first on
        have put2 : ∀ (F' : List Nat) (H7 : Hp), (F' = F ∨ (t ∈ F ∧ ∃ G : List Nat, (∀ j ∈ G, ∃ m, (m, j) ∈ KM.stp M t) ∧ F' = addAll F G)) → (t ∈ F → ∀ m j, (m, j) ∈ KM.stp M t → j ∈ F') → Same H H7 → H7 d1 = some (.dK (dk F')) → H7 d2 = some (.dK (dk L)) → Ends1 M L t →
            ∃ H8, DPut H7 d2 (.int (t : Int)) (.bl true) H8 ∧ ∃ (x6 x7 : Option V) (F L : List Nat), [some (V.ref a), some (.int (M.size : Int)), some (.ref b), some (.ref d1), some (.ref d2), some (.int ((0 : Int) + (i : Int))), some (.int (t : Int)), some (.ref N), none, none, none, none, none] = [some (V.ref a), some (.int (M.size : Int)), some (.ref b), some (.ref d1), some (.ref d2), some (.int ((0 : Int) + (i : Int))), x6, x7, none, none, none, none, none] ∧ Same H H8 ∧ H8 d1 = some (.dK (dk F)) ∧ H8 d2 = some (.dK (dk L)) ∧ TP M F0 L0 F L (t + 1) := by
          intro F' H7 hF hF2 sm7 h71 h72 he
          by_cases hin : t ∈ L
          · exact ⟨_, DPut.k (k := Sum.inl (t : Int)) h72 (by rw [dk_len]; exact small1000 (by omega)), _, _, F', L, rfl, Same.mut sm7 nd2H, by rw [upd_ne ndup]; exact h71, by rw [upd_same, dk_put_in hin], tp.step hF hF2 (.inl rfl) fun _ => hin⟩
          · exact ⟨_, DPut.k (k := Sum.inl (t : Int)) h72 (by rw [dk_len]; exact small1000 (by omega)), _, _, F', L ++ [t], rfl, Same.mut sm7 nd2H, by rw [upd_ne ndup]; exact h71, by rw [upd_same, dk_put hin], tp.step hF hF2 (.inr ⟨he, hin, rfl⟩) fun _ => by simp⟩
        have skip2 : ∀ (F' : List Nat) (H7 : Hp), (F' = F ∨ (t ∈ F ∧ ∃ G : List Nat, (∀ j ∈ G, ∃ m, (m, j) ∈ KM.stp M t) ∧ F' = addAll F G)) → (t ∈ F → ∀ m j, (m, j) ∈ KM.stp M t → j ∈ F') → Same H H7 → H7 d1 = some (.dK (dk F')) → H7 d2 = some (.dK (dk L)) → ¬ Ends1 M L t → ∃ (x6 x7 : Option V) (F L : List Nat), [some (V.ref a), some (.int (M.size : Int)), some (.ref b), some (.ref d1), some (.ref d2), some (.int ((0 : Int) + (i : Int))), some (.int (t : Int)), some (.ref N), none, none, none, none, none] = [some (V.ref a), some (.int (M.size : Int)), some (.ref b), some (.ref d1), some (.ref d2), some (.int ((0 : Int) + (i : Int))), x6, x7, none, none, none, none, none] ∧ Same H H7 ∧ H7 d1 = some (.dK (dk F)) ∧ H7 d2 = some (.dK (dk L)) ∧ TP M F0 L0 F L (t + 1) := by
          intro F' H7 hF hF2 sm7 h71 h72 he
          exact ⟨_, _, F', L, rfl, sm7, h71, h72, tp.step hF hF2 (.inl rfl) fun h => absurd h he⟩
        -- if state in first
        refine ⟨_, rfl, _, rfl, d1, _, rfl, DGet.k (k := Sum.inl (t : Int)) hd16, _, rfl, ?_⟩
        rw [dk_val]
        by_cases hin : t ∈ F
        · rw [if_pos hin]
          refine iteT ?_
          -- first.update(dict([(other, True) for other in later]))
          refine ⟨_, rfl, .inr (.inr (.inl ⟨rfl, .inl ⟨_, hd16⟩⟩)), ?_⟩
          refine ⟨_, rfl, N, rfl, ⟨_, SqL.of hN⟩, fun C nC => ?_⟩
          refine lc_list (K := K) (a := N) (xs := il (nexts r.steps)) (fun c H' => ∃ ps : List Addr, Same H6 H' ∧ H' C = some (.lst (ps.map V.ref)) ∧ Paired (fun p (kv : Key × V) => TpA K H' p [kV kv.1, kv.2]) ps (dk ((nexts r.steps).take c))) ⟨[], same_new nC, upd_same, .nil⟩ (fun c H' _ ⟨_, sm, _⟩ => SqL.of (sm _ _ hN)) ?_ ?_
          · rintro c x H7 hc ⟨ps, sm7, hC, hps⟩
            obtain ⟨j, hj, rfl⟩ := il_get hc
            have hcl := (List.getElem?_eq_some_iff.mp hj).1
            have lps := hps.length
            rw [dk_len, List.length_take] at lps
            refine ⟨rfl, _, rfl, by show 2 ≤ sizeLine; decide, fun tp2 ntp2 => ?_⟩
            have k8 := same_new (o := .tup [.int (j : Int), .bl true]) ntp2
            have hC8 := k8 _ _ hC
            have gl : Tup (upd H7 tp2 (.tup [.int (j : Int), .bl true])) (upd (upd H7 tp2 (.tup [.int (j : Int), .bl true])) C (.lst (ps.map V.ref ++ [.ref tp2]))) := tup_lst hC8
            refine ⟨_, hC8, ?_, ps ++ [tp2], Same.mut (sm7.trans k8) nC, ?_, ?_⟩
            · rw [List.length_map]; exact small1000 (by omega)
            · rw [upd_same, List.map_append]; rfl
            · have e : dk ((nexts r.steps).take (c + 1)) = dk ((nexts r.steps).take c) ++ [((Sum.inl (j : Int) : Key), V.bl true)] := by
                unfold dk
                rw [take_snoc hj, List.map_append]; rfl
              rw [e]
              exact (Paired.mono (fun p (kv : Key × V) (h : TpA K H7 p [kV kv.1, kv.2]) => (h.keep (same_tup k8)).keep gl) hps).snoc (.inl (gl _ _ upd_same))
          rintro H7 ⟨ps, sm7, hC, hps⟩
          rw [il_len, List.take_length] at hps
          refine ⟨C, ps, dk (nexts r.steps), rfl, SqL.of hC, Paired.mono (fun p (kv : Key × V) (h : TpA K H7 p [kV kv.1, kv.2]) => h.sq) hps, fun dn ndn => ?_⟩
          have eM : mergeK [] (dk (nexts r.steps)) = dk (addAll [] (nexts r.steps)) := merge_dk (nexts r.steps) []
          rw [eM]
          have k8 := same_new (o := .dK (dk (addAll [] (nexts r.steps)))) ndn
          have sm8 := sm7.trans k8
          have hd18 := sm8 _ _ hd16
          have ndn1 : d1 ≠ dn := fun e => by rw [← e, sm7 _ _ hd16] at ndn; cases ndn
          have lG : (addAll [] (nexts r.steps)).length ≤ M.rows.length := len_le_of (addAll_nodup _ [] List.nodup_nil) fun j hj => by
            rcases (addAll_mem _ _ _).mp hj with h | h
            · simp at h
            · obtain ⟨m, hm⟩ := (nexts_mem hr_).mp h
              exact ok.stp_lt hm
          refine ⟨d1, dn, dk F, dk (addAll [] (nexts r.steps)), rfl, rfl, hd18, upd_same, ndn1, by rw [dk_len, dk_len]; exact Nat.le_of_lt (small1000 (by omega)), ?_⟩
          rw [merge_dk]
          have nd1H : H d1 = none := nd1
          have sm9 : Same H (upd (upd H7 dn (.dK (dk (addAll [] (nexts r.steps))))) d1 (.dK (dk (addAll F (addAll [] (nexts r.steps)))))) := Same.mut (smE.trans sm8) nd1H
          have h91 : upd (upd H7 dn (.dK (dk (addAll [] (nexts r.steps))))) d1 (.dK (dk (addAll F (addAll [] (nexts r.steps))))) d1 = some (.dK (dk (addAll F (addAll [] (nexts r.steps))))) := upd_same
          have h92 : upd (upd H7 dn (.dK (dk (addAll [] (nexts r.steps))))) d1 (.dK (dk (addAll F (addAll [] (nexts r.steps))))) d2 = some (.dK (dk L)) := by rw [upd_ne ndup.symm]; exact sm8 _ _ hd26
          have h9N : upd (upd H7 dn (.dK (dk (addAll [] (nexts r.steps))))) d1 (.dK (dk (addAll F (addAll [] (nexts r.steps))))) N = some (.lst (il (nexts r.steps))) := by rw [upd_ne nNd1]; exact sm8 _ _ hN
          generalize upd (upd H7 dn (.dK (dk (addAll [] (nexts r.steps))))) d1 (.dK (dk (addAll F (addAll [] (nexts r.steps))))) = H9 at sm9 h91 h92 h9N
          have hFa : addAll F (addAll [] (nexts r.steps)) = F ∨ (t ∈ F ∧ ∃ G : List Nat, (∀ j ∈ G, ∃ m, (m, j) ∈ KM.stp M t) ∧ addAll F (addAll [] (nexts r.steps)) = addAll F G) := .inr ⟨hin, _, fun j hj => by
            rcases (addAll_mem _ _ _).mp hj with h | h
            · simp at h
            · exact (nexts_mem hr_).mp h, rfl⟩
          have hFb : t ∈ F → ∀ m j, (m, j) ∈ KM.stp M t → j ∈ addAll F (addAll [] (nexts r.steps)) := fun _ m j hm =>
            (addAll_mem _ _ _).mpr (.inr ((addAll_mem _ _ _).mpr (.inr ((nexts_mem hr_).mpr ⟨m, hm⟩))))
          refine ⟨_, rfl, _, rfl, b, _, _, _, rfl, rfl, (tb.keep (same_tup sm9)).sq, atI_nat hxr, ar, _, _, _, rfl, rfl, (tr.keep (same_tup sm9)).sq, atI_nat (j := 0) rfl, rfl, _, rfl, ?_⟩
          cases hf : r.fin with
          | some e0 =>
            refine iteT ?_
            obtain ⟨H8, hput, hrest⟩ := put2 _ _ hFa hFb sm9 h91 h92 (.inl (by rw [KM.fin_of hr_, hf]; intro z; cases z))
            exact ⟨_, rfl, _, rfl, d2, H8, rfl, hput, hrest⟩
          | none =>
            refine iteF ?_
            refine ⟨_, rfl, N, rfl, ⟨_, SqL.of h9N⟩, fun B nB => ?_⟩
            refine lc_list (K := K) (a := N) (xs := il (nexts r.steps)) (fun c H' => Same _ H' ∧ H' B = some (.lst ((((nexts r.steps).take c).map (fun j => decide (j ∈ L))).map V.bl))) ⟨same_new nB, upd_same⟩ (fun c H' _ ⟨sm, _⟩ => SqL.of (sm _ _ h9N)) ?_ ?_
            · rintro c x Hb hc ⟨smb, hB⟩
              obtain ⟨j, hj, rfl⟩ := il_get hc
              have hcl := (List.getElem?_eq_some_iff.mp hj).1
              refine ⟨rfl, _, rfl, _, rfl, d2, _, rfl, DGet.k (k := Sum.inl (j : Int)) (smb _ _ h92), _, hB, ?_, Same.mut smb nB, ?_⟩
              · rw [List.length_map, List.length_map, List.length_take]
                exact small1000 (by omega)
              · rw [upd_same, take_snoc hj, List.map_append, List.map_append, dk_val]
                by_cases hjl : j ∈ L
                · rw [if_pos hjl]; simp [hjl]
                · rw [if_neg hjl]; simp [hjl]
            · rintro Hb ⟨smb, hB⟩
              rw [il_len, List.take_length] at hB
              refine ⟨B, _, rfl, SqL.of hB, _, rfl, ?_⟩
              refine ite2 (fun hc => ?_) (fun hc => ?_)
              · obtain ⟨bb, hb1, hb2⟩ := List.any_eq_true.mp hc
                obtain ⟨j, hj, rfl⟩ := List.mem_map.mp hb1
                have hjL : j ∈ L := of_decide_eq_true hb2
                obtain ⟨m, hm⟩ := (nexts_mem hr_).mp hj
                obtain ⟨H8, hput, hrest⟩ := put2 _ _ hFa hFb (Same.trans sm9 smb) (smb _ _ h91) (smb _ _ h92) (.inr ⟨m, j, hm, hjL⟩)
                exact ⟨_, rfl, _, rfl, d2, H8, rfl, hput, hrest⟩
              · refine skip2 _ _ hFa hFb (Same.trans sm9 smb) (smb _ _ h91) (smb _ _ h92) (fun he => hc ?_)
                rcases he with he | ⟨m, j, hm, hjL⟩
                · rw [KM.fin_of hr_, hf] at he; exact absurd rfl he
                · exact List.any_eq_true.mpr ⟨true, List.mem_map.mpr ⟨j, (nexts_mem hr_).mpr ⟨m, hm⟩, decide_eq_true hjL⟩, rfl⟩
        · rw [if_neg hin]
          refine iteF ?_
          have hFa : F = F ∨ (t ∈ F ∧ ∃ G : List Nat, (∀ j ∈ G, ∃ m, (m, j) ∈ KM.stp M t) ∧ F = addAll F G) := .inl rfl
          have hFb : t ∈ F → ∀ m j, (m, j) ∈ KM.stp M t → j ∈ F := fun h => absurd h hin
          refine ⟨_, rfl, _, rfl, b, _, _, _, rfl, rfl, (tb.keep (same_tup smE)).sq, atI_nat hxr, ar, _, _, _, rfl, rfl, (tr.keep (same_tup smE)).sq, atI_nat (j := 0) rfl, rfl, _, rfl, ?_⟩
          cases hf : r.fin with
          | some e0 =>
            refine iteT ?_
            obtain ⟨H8, hput, hrest⟩ := put2 _ _ hFa hFb smE hd16 hd26 (.inl (by rw [KM.fin_of hr_, hf]; intro z; cases z))
            exact ⟨_, rfl, _, rfl, d2, H8, rfl, hput, hrest⟩
          | none =>
            refine iteF ?_
            refine ⟨_, rfl, N, rfl, ⟨_, SqL.of hN⟩, fun B nB => ?_⟩
            refine lc_list (K := K) (a := N) (xs := il (nexts r.steps)) (fun c H' => Same _ H' ∧ H' B = some (.lst ((((nexts r.steps).take c).map (fun j => decide (j ∈ L))).map V.bl))) ⟨same_new nB, upd_same⟩ (fun c H' _ ⟨sm, _⟩ => SqL.of (sm _ _ hN)) ?_ ?_
            · rintro c x Hb hc ⟨smb, hB⟩
              obtain ⟨j, hj, rfl⟩ := il_get hc
              have hcl := (List.getElem?_eq_some_iff.mp hj).1
              refine ⟨rfl, _, rfl, _, rfl, d2, _, rfl, DGet.k (k := Sum.inl (j : Int)) (smb _ _ hd26), _, hB, ?_, Same.mut smb nB, ?_⟩
              · rw [List.length_map, List.length_map, List.length_take]
                exact small1000 (by omega)
              · rw [upd_same, take_snoc hj, List.map_append, List.map_append, dk_val]
                by_cases hjl : j ∈ L
                · rw [if_pos hjl]; simp [hjl]
                · rw [if_neg hjl]; simp [hjl]
            · rintro Hb ⟨smb, hB⟩
              rw [il_len, List.take_length] at hB
              refine ⟨B, _, rfl, SqL.of hB, _, rfl, ?_⟩
              refine ite2 (fun hc => ?_) (fun hc => ?_)
              · obtain ⟨bb, hb1, hb2⟩ := List.any_eq_true.mp hc
                obtain ⟨j, hj, rfl⟩ := List.mem_map.mp hb1
                have hjL : j ∈ L := of_decide_eq_true hb2
                obtain ⟨m, hm⟩ := (nexts_mem hr_).mp hj
                obtain ⟨H8, hput, hrest⟩ := put2 _ _ hFa hFb (Same.trans smE smb) (smb _ _ hd16) (smb _ _ hd26) (.inr ⟨m, j, hm, hjL⟩)
                exact ⟨_, rfl, _, rfl, d2, H8, rfl, hput, hrest⟩
              · refine skip2 _ _ hFa hFb (Same.trans smE smb) (smb _ _ hd16) (smb _ _ hd26) (fun he => hc ?_)
                rcases he with he | ⟨m, j, hm, hjL⟩
                · rw [KM.fin_of hr_, hf] at he; exact absurd rfl he
                · exact List.any_eq_true.mpr ⟨true, List.mem_map.mpr ⟨j, (nexts_mem hr_).mpr ⟨m, hm⟩, decide_eq_true hjL⟩, rfl⟩
      · rintro σ H5 ⟨x6, x7, F, L, rfl, sm5, hd15, hd25, tp⟩
        exact ⟨_, x6, x7, F, L, rfl, sm5, hd15, hd25, tp.pass to ok⟩
    · rintro σ H4 ⟨x5, x6, x7, F, L, rfl, sm4, hd14, hd24, to⟩
      obtain ⟨mF, mL⟩ := to.fin ok
      have taA := ta.keep (same_tup sm4)
      have tbA := tb.keep (same_tup sm4)
      -- if 0 not in last
      refine ⟨_, rfl, d2, _, rfl, DGet.k (k := Sum.inl ((0 : Nat) : Int)) hd24, _, rfl, ?_⟩
      rw [dk_val]
      by_cases h0 : 0 ∈ L
      · have hco : KM.Co M 0 := (mL 0).mp h0
        rw [if_pos h0]
        refine iteF ?_
        -- kept
        refine ⟨_, rfl, b, rs, rfl, .inr tbA.sq, _, rfl, by omega, by omega, fun Lk nLk => ?_⟩
        rw [Int.toNat_natCast, lrs]
        refine lc_range (lo := 0) (n := M.rows.length) (fun c H' => Same H4 H' ∧ H' Lk = some (.lst (il ((List.range c).filter fun z => decide (z ∈ F ∧ z ∈ L))))) ⟨same_new nLk, upd_same⟩ ?_ ?_
        · rintro c H5 hc ⟨sm5, hLk⟩
          show gName 6 (.int ((0 : Int) + (c : Int))) _ H5 _
          rw [Int.zero_add]
          have eb : (List.range (c + 1)).filter (fun z => decide (z ∈ F ∧ z ∈ L)) = (List.range c).filter (fun z => decide (z ∈ F ∧ z ∈ L)) ++ (if c ∈ F ∧ c ∈ L then [c] else []) := by
            rw [List.range_succ, List.filter_append]
            by_cases e : c ∈ F ∧ c ∈ L
            · rw [if_pos e]; simp [e]
            · rw [if_neg e]; simp [e]
          refine ⟨rfl, _, rfl, _, rfl, d1, _, rfl, DGet.k (k := Sum.inl (c : Int)) (sm5 _ _ hd14), _, rfl, ?_⟩
          rw [dk_val]
          by_cases h1 : c ∈ F
          · rw [if_pos h1]
            refine iteT ⟨_, rfl, _, rfl, d2, _, rfl, DGet.k (k := Sum.inl (c : Int)) (sm5 _ _ hd24), _, rfl, ?_⟩
            rw [dk_val]
            by_cases h2 : c ∈ L
            · rw [if_pos h2]
              refine iteT ⟨_, rfl, _, hLk, ?_, Same.mut sm5 nLk, ?_⟩
              · rw [il_len]
                have h1 := List.length_filter_le (fun z => decide (z ∈ F ∧ z ∈ L)) (List.range c)
                rw [List.length_range] at h1
                exact small1000 (by omega)
              · rw [upd_same, eb, if_pos ⟨h1, h2⟩, il_snoc]
            · rw [if_neg h2]
              refine iteF ⟨sm5, ?_⟩
              rw [eb, if_neg (fun z => h2 z.2), List.append_nil]
              exact hLk
          · rw [if_neg h1]
            refine iteF (iteF ⟨sm5, ?_⟩)
            rw [eb, if_neg (fun z => h1 z.1), List.append_nil]
            exact hLk
        rintro H5 ⟨sm5, hLk⟩
        have ek : (List.range M.rows.length).filter (fun z => decide (z ∈ F ∧ z ∈ L)) = KM.kept M := by
          refine asc_ext _ _ (List.Pairwise.filter _ List.pairwise_lt_range) (kept_asc M) fun x => ?_
          rw [List.mem_filter, KM.mem_kept ok, List.mem_range, decide_eq_true_iff]
          constructor
          · rintro ⟨_, h1, h2⟩; exact ⟨(mF x).mp h1, (mL x).mp h2⟩
          · rintro ⟨h1, h2⟩; exact ⟨ok.reach_lt h1, (mF x).mpr h1, (mL x).mpr h2⟩
        rw [ek] at hLk
        have smA := sm4.trans sm5
        generalize hkl : KM.kept M = kl at *
        have klnd : kl.Nodup := by rw [← hkl]; exact KM.kept_nodup M
        have klen : kl.length ≤ 30 := by rw [← hkl]; exact Nat.le_trans (KM.kept_len M) r30
        -- found = []
        refine ⟨Nat.zero_le _, fun R nR => ?_⟩
        have k6 := same_new (o := .lst []) nR
        have nRH : H R = none := smA.free nR
        have nRLk : R ≠ Lk := fun e => by rw [e, hLk] at nR; cases nR
        refine ⟨_, rfl, Lk, rfl, ⟨_, SqL.of (k6 _ _ hLk)⟩, ?_⟩
        refine for_list (K := K) (a := Lk) (xs := il kl) (fun i σ H' => ∃ (x5 x6 x7 x10 x11 : Option V) (vs : List V), σ = [some (.ref a), some (.int (M.size : Int)), some (.ref b), some (.ref d1), some (.ref d2), x5, x6, x7, some (.ref Lk), some (.ref R), x10, x11, none] ∧
            Same H H' ∧ H' Lk = some (.lst (il kl)) ∧ H' R = some (.lst vs) ∧ All2 (RowA K H') vs ((kl.take i).map fun j => KM.trimRow kl (M.rows.getD j KM.noRow)))
          ⟨x5, x6, x7, none, none, [], rfl, smA.trans k6, k6 _ _ hLk, upd_same, .nil⟩ (fun i σ H' _ ⟨_, _, _, _, _, _, _, _, h, _⟩ => SqL.of h) ?_ ?_
        · rintro i y σ H8 hi ⟨x5, x6, x7, x10, x11, vs, rfl, sm8, hL8, hR8, hvs⟩
          obtain ⟨j, hj, rfl⟩ := il_get hi
          have hjk : j ∈ KM.kept M := by rw [hkl]; exact List.mem_of_getElem? hj
          have hjr := KM.getD_row (KM.kept_lt ok hjk)
          obtain ⟨xr, hxr, ar, br, ss, rfl, tr, ts, hss⟩ := hrs.getR hjr
          obtain ⟨r, er⟩ : ∃ r, M.rows.getD j KM.noRow = r := ⟨_, rfl⟩
          rw [er] at hjr tr hss
          have g8 := same_tup sm8
          have lss := hss.len
          have lr := ok.len r (List.mem_of_getElem? hjr)
          have hin := (List.getElem?_eq_some_iff.mp hj).1
          -- steps = []
          refine ⟨Nat.zero_le _, fun S nS => ?_⟩
          have k9 := same_new (o := .lst []) nS
          have nSL : S ≠ Lk := fun e => by rw [e, hL8] at nS; cases nS
          have nSR : S ≠ R := fun e => by rw [e, hR8] at nS; cases nS
          refine ⟨_, rfl, _, rfl, b, _, _, _, rfl, rfl, ((tb.keep g8).keep (same_tup k9)).sq, atI_nat hxr, ar, _, _, _, rfl, rfl, ((tr.keep g8).keep (same_tup k9)).sq, atI_nat (j := 1) rfl, br, rfl, ⟨_, ((ts.keep g8).keep (same_tup k9)).sq⟩, ?_⟩
          refine for_tup (K := K) (a := br) (xs := ss) (fun t σ H' => ∃ (x11 : Option V) (ws : List V), σ = [some (.ref a), some (.int (M.size : Int)), some (.ref b), some (.ref d1), some (.ref d2), x5, some (.int (j : Int)), x7, some (.ref Lk), some (.ref R), some (.ref S), x11, none] ∧
              Same H8 H' ∧ H' S = some (.lst ws) ∧ All2 (StepA K H') ws ((r.steps.take t).map (KM.renum kl)))
            ⟨x11, [], rfl, k9, upd_same, .nil⟩ (fun t σ H' _ ⟨_, _, _, sm, _⟩ => ((ts.keep g8).keep (same_tup sm)).sq) ?_ ?_
          · rintro t x σ H9 ht ⟨x11, ws, rfl, sm9, hS9, hws⟩
            obtain ⟨st, hst, hx⟩ := hss.get ht
            have hx9 := (hx.keep g8).keep (same_tup sm9)
            have hts : t < r.steps.length := (List.getElem?_eq_some_iff.mp hst).1
            have lws := hws.len
            rw [List.length_map, List.length_take] at lws
            have hL9 := sm9 _ _ hL8
            have done : ∀ (z : V) (H10 : Hp), Same H9 H10 → StepA K H10 z (KM.renum kl st) → rAppend (.ref S) [z] H10 fun _ H' => ∃ (x11 : Option V) (ws : List V), [some (V.ref a), some (.int (M.size : Int)), some (.ref b), some (.ref d1), some (.ref d2), x5, some (.int (j : Int)), x7, some (.ref Lk), some (.ref R), some (.ref S), some x, none] = [some (V.ref a), some (.int (M.size : Int)), some (.ref b), some (.ref d1), some (.ref d2), x5, some (.int (j : Int)), x7, some (.ref Lk), some (.ref R), some (.ref S), x11, none] ∧
                Same H8 H' ∧ H' S = some (.lst ws) ∧ All2 (StepA K H') ws ((r.steps.take (t + 1)).map (KM.renum kl)) := by
              intro z H10 sm10 hz
              have hS10 := sm10 _ _ hS9
              have gl : Tup H10 (upd H10 S (.lst (ws ++ [z]))) := tup_lst hS10
              refine ⟨S, ws, z, rfl, rfl, hS10, small1000 (by omega), _, ws ++ [z], rfl, Same.mut (sm9.trans sm10) nS, upd_same, ?_⟩
              rw [take_snoc hst, List.map_append]
              exact ((hws.mono fun _ _ h => (h.keep (same_tup sm10)).keep gl)).snoc (hz.keep gl)
            refine ⟨_, rfl, .inl ⟨rfl, _, SqL.of hS9⟩, ?_⟩
            cases st with
            | none =>
              obtain rfl : x = .non := hx9
              exact ⟨_, rfl, rfl, _, rfl, iteF (iteF (done _ _ (Same.refl _) rfl))⟩
            | some p =>
              obtain ⟨ax, rfl, tx⟩ := hx9
              refine ⟨_, rfl, rfl, _, rfl, iteT ?_⟩
              refine ⟨_, rfl, ax, _, _, _, rfl, rfl, tx.sq, atI_nat (j := 1) rfl, _, rfl, Lk, _, rfl, .inl (SqL.of hL9), rfl, il_flat kl, _, rfl, ?_⟩
              by_cases hp : p.2 ∈ kl
              · refine iteBT (by rw [if_neg (by decide), inV_il]; exact decide_eq_true hp) ?_
                refine ⟨_, rfl, ax, _, _, _, rfl, rfl, tx.sq, atI_nat (j := 0) rfl, _, rfl, .inl ⟨rfl, _, SqL.of hL9⟩, _, rfl, ax, _, _, _, rfl, rfl, tx.sq, atI_nat (j := 1) rfl, ?_⟩
                have hget := KM.get_idxOf hp
                refine ⟨Lk, il kl, .int (p.2 : Int), kl.idxOf p.2, .int (p.2 : Int), rfl, rfl, SqL.of hL9, rfl, il_flat kl, ?_, ?_, fun m z' hm hz' => ?_, by show 2 ≤ sizeLine; decide, fun tq ntq => ?_⟩
                · unfold il
                  rw [List.getElem?_map, hget]; rfl
                · show ((p.2 : Int) == (p.2 : Int)) = true
                  simp
                · obtain ⟨k, hk, rfl⟩ := il_get hz'
                  have : k ≠ p.2 := fun e => by
                    subst e
                    have := KM.idxOf_get klnd hk
                    omega
                  show ((k : Int) == (p.2 : Int)) = false
                  rw [beq_eq_false_iff_ne]
                  omega
                · refine done _ _ (same_new ntq) ?_
                  have e : KM.renum kl (some p) = some (p.1, kl.idxOf p.2) := if_pos hp
                  rw [e]
                  exact ⟨tq, rfl, .inl upd_same⟩
              · refine iteBF (by rw [if_neg (by decide), inV_il]; exact decide_eq_false hp) ?_
                refine done _ _ (Same.refl _) ?_
                have e : KM.renum kl (some p) = none := if_neg hp
                rw [e]
                rfl
          · rintro σ H9 ⟨x11, ws, rfl, sm9, hS9, hws⟩
            rw [lss, List.take_length] at hws
            have lws := hws.len
            rw [List.length_map] at lws
            have hR9 := sm9 _ _ hR8
            have tb9 := (tb.keep g8).keep (same_tup sm9)
            have tr9 := (tr.keep g8).keep (same_tup sm9)
            refine ⟨_, rfl, .inl ⟨rfl, _, SqL.of hR9⟩, _, rfl, _, rfl, b, _, _, _, rfl, rfl, tb9.sq, atI_nat hxr, ar, _, _, _, rfl, rfl, tr9.sq, atI_nat (j := 0) rfl, _, rfl, S, _, rfl, .inl ⟨SqL.of hS9, fun tt ntt => ?_⟩⟩
            refine ⟨by show 2 ≤ sizeLine; decide, fun tq ntq => ?_⟩
            have g1 : Tup H9 (upd H9 tt (.tup ws)) := tup_new ntt
            have g2 : Tup (upd H9 tt (.tup ws)) (upd (upd H9 tt (.tup ws)) tq (.tup [optV r.fin, .ref tt])) := tup_new ntq
            have hR10 : upd (upd H9 tt (.tup ws)) tq (.tup [optV r.fin, .ref tt]) R = some (.lst vs) := same_new ntq _ _ (same_new ntt _ _ hR9)
            have g3 : Tup (upd (upd H9 tt (.tup ws)) tq (.tup [optV r.fin, .ref tt])) (upd (upd (upd H9 tt (.tup ws)) tq (.tup [optV r.fin, .ref tt])) R (.lst (vs ++ [.ref tq]))) := tup_lst hR10
            have lvs := hvs.len
            rw [List.length_map, List.length_take] at lvs
            refine ⟨R, _, _, rfl, rfl, hR10, small1000 (by omega), _, _, _, _, _, vs ++ [.ref tq], rfl, Same.mut (((sm8.trans sm9).trans (same_new ntt)).trans (same_new ntq)) nRH, ?_, upd_same, ?_⟩
            · rw [upd_ne nRLk.symm]
              exact same_new ntq _ _ (same_new ntt _ _ (sm9 _ _ hL8))
            · rw [take_snoc hj, List.map_append]
              refine ((hvs.mono fun _ _ h => (((h.keep (same_tup sm9)).keep g1).keep g2).keep g3)).snoc ?_
              show RowA K _ (.ref tq) (KM.trimRow kl (M.rows.getD j KM.noRow))
              rw [er]
              refine ⟨tq, tt, ws, rfl, .inl (g3 _ _ upd_same), .inl (g3 _ _ (g2 _ _ upd_same)), (((hws.mono fun _ _ h => h.keep g1).mono fun _ _ h => h.keep g2).mono fun _ _ h => h.keep g3)⟩
        · rintro σ H8 ⟨x5, x6, x7, x10, x11, vs, rfl, sm8, hL8, hR8, hvs⟩
          rw [il_len, List.take_length] at hvs
          have g8 := same_tup sm8
          refine ⟨_, rfl, _, rfl, R, _, rfl, .inl ⟨SqL.of hR8, fun tt ntt => ?_⟩⟩
          refine ⟨by show 2 ≤ sizeLine; decide, fun tq ntq => ?_⟩
          have g1 : Tup H8 (upd H8 tt (.tup vs)) := tup_new ntt
          have g2 : Tup (upd H8 tt (.tup vs)) (upd (upd H8 tt (.tup vs)) tq (.tup [.int (M.size : Int), .ref tt])) := tup_new ntq
          refine q _ _ ((sm8.trans (same_new ntt)).trans (same_new ntq)) ?_
          rw [KM.trim_co hco, hkl]
          exact ⟨tq, .ref tt, rfl, .inl upd_same, tt, vs, rfl, .inl (g2 _ _ upd_same), (hvs.mono fun _ _ h => (h.keep g1).keep g2)⟩
      · have hco : ¬ KM.Co M 0 := fun h => h0 ((mL 0).mpr h)
        rw [if_neg h0]
        refine iteT ?_
        refine ⟨_, rfl, by show 1 ≤ sizeLine; decide, fun t1 nt1 => ?_⟩
        have k5 := same_new (o := .tup [.non]) nt1
        refine ⟨_, rfl, ?_⟩
        refine rep_read (K := K) (k := (M.size : Int)) (n := M.size) rfl (by omega) (.inl upd_same) fun H6 t2 sm6 ht2 => ?_
        refine ⟨by show 2 ≤ sizeLine; decide, fun p np => ⟨by show 1 ≤ sizeLine; decide, fun p2 np2 => ⟨by show 2 ≤ sizeLine; decide, fun p3 np3 => ?_⟩⟩⟩
        have k1 := same_new (o := .tup [.non, .ref t2]) np
        have k2 := same_new (o := .tup [.ref p]) np2
        have k3 := same_new (o := .tup [.int (M.size : Int), .ref p2]) np3
        refine q _ _ (((((sm4.trans k5).trans sm6).trans k1).trans k2).trans k3) ?_
        rw [KM.trim_no hco]
        exact ⟨p3, .ref p2, rfl, .inl upd_same, p2, [.ref p], rfl, .inl (k3 _ _ upd_same), All2.one ⟨p, t2, _, rfl, .inl (k3 _ _ (k2 _ _ upd_same)), ((ht2.keep (same_tup k1)).keep (same_tup k2)).keep (same_tup k3), KM.All2.rep (F := StepA K _) (a := V.non) (b := none) rfl M.size⟩⟩
end
end KW

set_option Elab.async false
set_option linter.all false
set_option maxRecDepth 100000
set_option maxHeartbeats 4000000
/-! _law_lighter; rows of whole numbers. -/
namespace KW
open PySem PySem.Spec PyProof.Rows L2 KR KP
open KM (Mach All2)
def rl (wd : Nat) (f : Nat → Int) : List V := (List.range wd).map fun j => V.int (f j)
theorem rl_len (wd : Nat) (f : Nat → Int) : (rl wd f).length = wd := by unfold rl; rw [List.length_map, List.length_range]
theorem rl_at {wd : Nat} (f : Nat → Int) {j : Nat} (h : j < wd) : (rl wd f)[j]? = some (.int (f j)) := by
  unfold rl
  rw [List.getElem?_map, List.getElem?_range h]
  rfl
theorem rl_get {wd : Nat} {f : Nat → Int} {j : Nat} {x : V} (h : (rl wd f)[j]? = some x) : j < wd ∧ x = .int (f j) := by
  have hj := (List.getElem?_eq_some_iff.mp h).1
  rw [rl_len] at hj
  rw [rl_at f hj] at h
  exact ⟨hj, (Option.some.inj h).symm⟩
theorem rl_snoc (n : Nat) (f : Nat → Int) : rl (n + 1) f = rl n f ++ [.int (f n)] := by
  unfold rl
  rw [List.range_succ, List.map_append]; rfl
theorem rl_congr {wd : Nat} {f g : Nat → Int} (h : ∀ j, j < wd → f j = g j) : rl wd f = rl wd g := by
  unfold rl
  exact List.map_congr_left fun j hj => by rw [h j (List.mem_range.mp hj)]
theorem rl_set (wd : Nat) (f : Nat → Int) (k : Nat) (z : Int) : (rl wd f).set k (.int z) = rl wd fun j => if j = k then z else f j := by
  apply List.ext_getElem?
  intro j
  by_cases hj : j < wd
  · rw [rl_at _ hj]
    by_cases e : k = j
    · subst e
      rw [List.getElem?_set_self (by rw [rl_len]; exact hj), if_pos rfl]
    · rw [List.getElem?_set_ne e, rl_at _ hj, if_neg (fun z => e z.symm)]
  · rw [List.getElem?_eq_none (by rw [List.length_set, rl_len]; omega), List.getElem?_eq_none (by rw [rl_len]; omega)]
theorem rl_flat (wd : Nat) (f : Nat → Int) : rl wd f = ((List.range wd).map f).map V.int := by
  unfold rl
  rw [List.map_map]; rfl
def RowI (H : Hp) (v : V) (wd : Nat) (f : Nat → Int) : Prop := ∃ l : Addr, v = .ref l ∧ H l = some (.lst (rl wd f))
def MatI (H : Hp) (R : Addr) (rs : List V) (wd : Nat) (m : Nat → Nat → Int) : Prop := H R = some (.lst rs) ∧ ∀ (i : Nat) (v : V), rs[i]? = some v → v ≠ .ref R ∧ RowI H v wd (m i)
section
variable {H H' : Hp} {v : V} {wd : Nat} {f : Nat → Int} {m m' : Nat → Nat → Int} {R : Addr} {rs : List V}
theorem RowI.same (s : Same H H') (h : RowI H v wd f) : RowI H' v wd f := by
  obtain ⟨l, e, hl⟩ := h
  exact ⟨l, e, s _ _ hl⟩
theorem RowI.congr {g : Nat → Int} (h : RowI H v wd f) (e : ∀ j, j < wd → f j = g j) : RowI H v wd g := by
  obtain ⟨l, ev, hl⟩ := h
  exact ⟨l, ev, by rw [hl, rl_congr e]⟩
theorem RowI.upd {o : HO} (n : v ≠ .ref R) (h : RowI H v wd f) : RowI (upd H R o) v wd f := by
  obtain ⟨l, e, hl⟩ := h
  refine ⟨l, e, ?_⟩
  rw [upd_ne (fun z => n (by rw [e, z]))]
  exact hl
theorem MatI.same (s : Same H H') (h : MatI H R rs wd m) : MatI H' R rs wd m :=
  ⟨s _ _ h.1, fun i v hi => ⟨(h.2 i v hi).1, (h.2 i v hi).2.same s⟩⟩
theorem MatI.congr (h : MatI H R rs wd m) (e : ∀ i j, i < rs.length → j < wd → m i j = m' i j) : MatI H R rs wd m' :=
  ⟨h.1, fun i v hi => ⟨(h.2 i v hi).1, (h.2 i v hi).2.congr fun j hj => e i j (List.getElem?_eq_some_iff.mp hi).1 hj⟩⟩
theorem MatI.row (h : MatI H R rs wd m) {i : Nat} (hi : i < rs.length) : ∃ v, rs[i]? = some v ∧ v ≠ .ref R ∧ RowI H v wd (m i) := ⟨_, List.getElem?_eq_getElem hi, h.2 i _ (List.getElem?_eq_getElem hi)⟩
theorem MatI.set {k : Nat} (h : MatI H R rs wd m) (n : v ≠ .ref R) (hv : RowI H v wd f) : MatI (L2.upd H R (.lst (rs.set k v))) R (rs.set k v) wd (fun i => if i = k then f else m i) := by
  refine ⟨upd_same, fun i u hi => ?_⟩
  by_cases e : i = k
  · subst e
    have hlt : i < rs.length := by
      have := (List.getElem?_eq_some_iff.mp hi).1
      rwa [List.length_set] at this
    rw [List.getElem?_set_self hlt] at hi
    cases hi
    refine ⟨n, ?_⟩
    dsimp only
    rw [if_pos rfl]
    exact hv.upd n
  · rw [List.getElem?_set_ne (fun z => e z.symm)] at hi
    obtain ⟨a, b⟩ := h.2 i u hi
    refine ⟨a, ?_⟩
    dsimp only
    rw [if_neg e]
    exact b.upd a
theorem MatI.snoc (h : MatI H R rs wd m) (n : v ≠ .ref R) (hv : RowI H v wd f) : MatI (L2.upd H R (.lst (rs ++ [v]))) R (rs ++ [v]) wd (fun i => if i = rs.length then f else m i) := by
  refine ⟨upd_same, fun i u hi => ?_⟩
  by_cases e : i = rs.length
  · subst e
    rw [List.getElem?_append_right (Nat.le_refl _), Nat.sub_self] at hi
    cases hi
    refine ⟨n, ?_⟩
    dsimp only
    rw [if_pos rfl]
    exact hv.upd n
  · have hlt : i < rs.length := by
      have := (List.getElem?_eq_some_iff.mp hi).1
      rw [List.length_append, List.length_singleton] at this
      omega
    rw [List.getElem?_append_left hlt] at hi
    obtain ⟨a, b⟩ := h.2 i u hi
    refine ⟨a, ?_⟩
    dsimp only
    rw [if_neg e]
    exact b.upd a
end
section
variable {P : Program} {w : World} {K : PySem.W.Frag} {mg : Str → Option Value} {base : Heap} {aN aO : Addr}
abbrev sLLighter : Stmt := topS 53
abbrev nLLighter : List Str := ["_law_row", "_law_shared", "_law_one"]
theorem scLLighter : FnScope nLLighter ["_law_row"] (defScope sLLighter) := ⟨rfl, rfl, rfl, by decide +kernel, rfl, by decide +kernel, by decide +kernel⟩
def spLLighter : Sp := fun vs H Q _ => ∃ (v : V) (wd : Nat) (f : Nat → Int), vs = [v] ∧ RowI H v wd f ∧ wd ≤ 1000 ∧ (∀ j, j < wd → (f j).natAbs < 2 ^ 9000) ∧
  ∀ (H' : Hp) (u : V) (g : Nat → Int) (c : Nat), Same H H' → RowI H' u wd g → 0 < c → (∀ j, j < wd → f j = (c : Int) * g j) → (∀ R : Addr, H R ≠ none → v ≠ .ref R → u ≠ .ref R) → Q u H'
theorem ok_llighter (T : Txt K mg aN aO) (D : At K mg "_law_lighter" sLLighter ["_law_row"]) (OG : Ok P w K mg base 1 "_law_gcd" ["_law_one", "_law_other"] spLGcd) : Ok P w K mg base 2 "_law_lighter" ["_law_row"] spLLighter := by
  refine D.ok scLLighter (fun vs H Q E h => ?_) (fun f cdv A outer s H vs Q E hr h => ?_)
  · obtain ⟨v, wd, f, rfl, _⟩ := h; rfl
  · obtain ⟨v, wd, z, rfl, ⟨l, rfl, hl⟩, hwd, hz, q⟩ := h
    have nd := scLLighter.nd
    refine ⟨_, pss_cons (ps_set (i := 1) nd rfl (Or.inr rfl) pe_int)
      (pss_cons (ps_for PassesOwn.never rfl (pi_list (pv 0)) (pg_name (i := 2) nd rfl (Or.inl rfl))
        (pss_one (ps_set (i := 1) nd rfl (Or.inr rfl) (pe_fn OG hr (pa_cons (pv 1) (pa_cons (pv 2) pa_nil))))))
      (pss_one (ps_ret (pe_ifExp (pt_cmpR op_eq (pv 1) pe_int (nomark _)) (pv 0)
        (pe_lc (own := [("_law_one", 2)]) (g := gName 2) (tt := tYes) rfl nd (pi_list (pv 0)) (blkOk_by (N := nLLighter) (sc := defScope sLLighter) (by decide +kernel)) (fun _ _ _ _ _ => pg_name (i := 2) nd rfl (Or.inl rfl)) (fun _ _ _ _ _ => pts_nil)
          (fun _ _ _ _ _ => pe_op op_fdivS (pv 2) (pv 1))))))), ?_⟩
    refine ⟨_, rfl, l, rfl, ⟨_, SqL.of hl⟩, ?_⟩
    refine for_list (K := K) (a := l) (xs := rl wd z) (fun i σ H' => ∃ x2 : Option V, σ = [some (.ref l), some (.int ((KM.rowGcd z i : Nat) : Int)), x2] ∧ H' = H) ⟨none, rfl, rfl⟩ (fun i σ H' _ ⟨_, _, h⟩ => by rw [h]; exact SqL.of hl) ?_ ?_
    · rintro i x σ H' hi ⟨x2, rfl, rfl⟩
      obtain ⟨hiw, rfl⟩ := rl_get hi
      refine ⟨_, rfl, _, rfl, _, _, rfl, some (.int (z i)), ?_, rfl⟩
      rw [Int.natAbs_natCast]
      rfl
    · rintro σ H' ⟨x2, rfl, rfl⟩
      rw [rl_len]
      refine ⟨_, rfl, rfl, _, rfl, ite2 (fun hc => ?_) (fun hc => ?_)⟩
      · have h0 : V.int ((KM.rowGcd z wd : Nat) : Int) = V.int 0 := of_decide_eq_true hc
        have h0 : KM.rowGcd z wd = 0 := by have := V.int.inj h0; omega
        refine ⟨_, rfl, q H' (.ref l) z 1 (Same.refl H') ⟨l, rfl, hl⟩ (by decide) (fun j hj => by rw [Int.natCast_one, Int.one_mul]) fun R _ h => h⟩
      · have h0 : KM.rowGcd z wd ≠ 0 := fun e => hc (decide_eq_true (by rw [e]; rfl))
        obtain ⟨j0, hj0, hz0⟩ := KM.rowGcd_pos z h0
        have hgs : KM.rowGcd z wd < 2 ^ 9000 := Nat.lt_of_le_of_lt (Nat.le_of_dvd (by omega) (KM.rowGcd_dvd z hj0)) (hz j0 hj0)
        refine ⟨_, rfl, l, rfl, ⟨_, SqL.of hl⟩, fun L nL => ?_⟩
        have ex : ∀ j, j < wd → z j = ((KM.rowGcd z wd : Nat) : Int) * (z j).fdiv ((KM.rowGcd z wd : Nat) : Int) := fun j hj => by
          have hd : ((KM.rowGcd z wd : Nat) : Int) ∣ z j := Int.ofNat_dvd_left.mpr (KM.rowGcd_dvd z hj)
          rw [fdiv_plain hd, Int.mul_ediv_cancel' hd]
        refine lc_list (K := K) (a := l) (xs := rl wd z) (fun i H1 => Same H' H1 ∧ H1 L = some (.lst (rl i fun j => (z j).fdiv ((KM.rowGcd z wd : Nat) : Int)))) ⟨same_new nL, upd_same⟩ (fun i H1 _ ⟨sm, _⟩ => SqL.of (sm _ _ hl)) ?_ ?_
        · rintro i x H1 hi ⟨sm, hL⟩
          obtain ⟨hiw, rfl⟩ := rl_get hi
          refine ⟨rfl, _, rfl, _, rfl, _, _, rfl, rfl, divS_of (b := 9000) (by omega) (by rw [Int.natAbs_natCast]; exact hgs) (Nat.le_refl _), _, hL, by rw [rl_len]; exact small1000 (by omega), Same.mut sm nL, ?_⟩
          rw [upd_same, rl_snoc]
        · rintro H1 ⟨sm, hL⟩
          rw [rl_len] at hL
          refine q H1 (.ref L) _ _ sm ⟨L, rfl, hL⟩ (Nat.pos_of_ne_zero h0) ex fun R hR _ e => ?_
          have e := V.ref.inj e
          rw [e] at nL
          exact hR nL
end
end KW

set_option Elab.async false
set_option linter.all false
set_option maxRecDepth 100000
set_option maxHeartbeats 4000000
/-! _law_worths, _law_total. -/
namespace KW
open PySem PySem.Spec PyProof.Rows L2 KR KP
open KM (Mach All2)
theorem pe_read {X : Cx} {e : Expr} {t t' : TE} (h : PE X e t) (hh : ∀ σ H Q, t' σ H Q → t σ H Q) : PE X e t' := ⟨fun pins s σ H Q I q => h.run pins s σ H Q I (hh σ H Q q)⟩
def endZ : Option Nat → Int
  | none => 0
  | some e => ((2 ^ (60 - e) : Nat) : Int)
/-- 0 if end is None else power(60 - end) -/
def tEndZ : TE := fun σ H Q => ∃ e : Option Nat, σ[3]? = some (some (optV e)) ∧ (∀ x, e = some x → x ≤ 60) ∧ Q (.int (endZ e)) H
theorem lst_shaped : ∀ ds : List Nat, SeqAt.shaped (.list (ds.map fun (i : Nat) => PyData.int (i : Int))) = true := by
  have lay : ∀ ds : List Nat, PyData.canLayAll0 (ds.map fun (i : Nat) => PyData.int (i : Int)) = true := by
    intro ds
    induction ds with
    | nil => simp [PyData.canLayAll0]
    | cons z zs ih => simp [PyData.canLayAll0, PyData.canLay0, ih]
  have dep : ∀ ds : List Nat, PyData.depthAll (ds.map fun (i : Nat) => PyData.int (i : Int)) = 0 := by
    intro ds
    induction ds with
    | nil => simp [PyData.depthAll]
    | cons z zs ih => simp [PyData.depthAll, PyData.depth, ih]
  intro ds
  show (PyData.canLay0 (.list _) && decide (PyData.depth (.list _) ≤ 64)) = true
  rw [Bool.and_eq_true]
  exact ⟨by simp only [PyData.canLay0]; exact lay ds, decide_eq_true (by simp only [PyData.depth]; rw [dep]; decide)⟩
theorem il_dp {K : PySem.W.Frag} {H : Hp} : ∀ ds : List Nat, DpAll K H (il ds) (ds.map fun (i : Nat) => PyData.int (i : Int))
  | [] => .nil
  | d :: ds => .cons (.int (d : Int)) (il_dp ds)
theorem neg_num (x : Rat) : x.num < 0 ↔ x < 0 := by
  have h := @Rat.num_nonneg x
  constructor
  · intro h1
    have : ¬ 0 ≤ x := fun z => by have := h.mpr z; omega
    grind
  · intro h1
    have : ¬ 0 ≤ x.num := fun z => by have := h.mp z; grind
    omega
section
variable {P : Program} {w : World} {K : PySem.W.Frag} {mg : Str → Option Value} {base : Heap} {aN aO : Addr}
abbrev sLWorths : Stmt := topS 54
abbrev nLWorths : List Str := ["_law_small", "_law_rows", "_law_state", "_law_end", "_law_steps", "_law_row", "_law_step", "_law_column", "_law_there", "_law_head", "_law_at", "_law_factor", "_law_found", "_law_k", "_law_worth"]
theorem scLWorths : FnScope nLWorths ["_law_small"] (defScope sLWorths) := ⟨rfl, rfl, rfl, by decide +kernel, rfl, by decide +kernel, by decide +kernel⟩
def spLWorths (K : PySem.W.Frag) : Sp := fun vs H Q _ => ∃ (v : V) (M : Mach), vs = [v] ∧ MachA K H v (KM.trim M) ∧ KM.Valid M ∧ (KM.trim M).rows.length ≤ 6 ∧
  (∀ (H' : Hp) (z : V) (x : Nat → Rat), Same H H' → KM.IsTot M (some (x 0)) → FrsA K H' z (KM.trim M).rows.length x → KM.Small 4223 (x 0) → Q z H') ∧ (∀ H' : Hp, Same H H' → KM.IsTot M none → Q .non H')
theorem ok_lworths (T : Txt K mg aN aO) (D : At K mg "_law_worths" sLWorths ["_law_small"]) (OP : Ok P w K mg base 1 "_law_power" ["_law_many"] spLPower) (OL : Ok P w K mg base 2 "_law_lighter" ["_law_row"] spLLighter)
    (OR : Ok P w K mg base 2 "_law_reduced" ["_law_top", "_law_bottom"] (spFraction K)) : Ok P w K mg base 3 "_law_worths" ["_law_small"] (spLWorths K) := by
  refine D.ok scLWorths (fun vs H Q E h => ?_) (fun f cdv A outer s H vs Q E hr h => ?_)
  · obtain ⟨v, M, rfl, _⟩ := h; rfl
  · obtain ⟨v, M, rfl, hTM, okM, n6, q1, q2⟩ := h
    obtain ⟨a, u, rfl, ta, b, rs, rfl, tb, hrs⟩ := id hTM
    have ok := KM.trim_valid okM
    have r1 := ok.rows1
    have lrs := hrs.len
    have nd := scLWorths.nd
    have hr1 := hr.mono (show 1 ≤ 2 by decide)
    refine ⟨_, pss_cons (ps_set (i := 1) nd rfl (Or.inr rfl) (pe_lst pa_nil))
      (pss_cons (ps_for PassesOwn.never rfl (pi_range1 (by rfl) T.range (pa_cons (pe_callB call_len_seq (by rfl) T.len boot_len (pa_cons (pe_ix ix_tup (pv 0) pe_int (fun _ _ => rfl)) pa_nil)) pa_nil)) (pg_name (i := 2) nd rfl (Or.inl rfl))
        (pss_cons (ps_asg (pe_ix ix_tup (pe_ix ix_tup (pv 0) pe_int (fun _ _ => rfl)) (pv 2) (fun _ _ => rfl)) (pg_tup rfl (pgs_cons (pg_name (i := 3) nd rfl (Or.inl rfl)) (pgs_cons (pg_name (i := 4) nd rfl (Or.inl rfl)) pgs_nil))))
        (pss_cons (ps_set (i := 5) nd rfl (Or.inl rfl) (pe_op op_cat (pe_op op_rep (pe_lst (pa_cons pe_int pa_nil)) (pe_callB call_len_seq (by rfl) T.len boot_len (pa_cons (pe_ix ix_tup (pv 0) pe_int (fun _ _ => rfl)) pa_nil)))
          (pe_lst (pa_cons (pe_read (t' := tEndZ) (pe_ifExp (pt_cmpR op_isN (pv 3) pe_non (nomark _)) pe_int (pe_fn OP hr1 (pa_cons (pe_op op_sub pe_int (pv 3)) pa_nil))) (fun σ H Q h => by
            obtain ⟨e, hs, hle, q⟩ := h
            cases e with
            | none => exact ⟨_, hs, rfl, _, rfl, iteD rfl q⟩
            | some e =>
              refine ⟨_, hs, rfl, _, rfl, iteDN (by intro z; cases z) ⟨_, hs, 60, (e : Int), rfl, rfl, 60 - e, ?_, by omega, q⟩⟩
              have := hle e rfl
              show [V.int (60 - (e : Int))] = [V.int ((60 - e : Nat) : Int)]
              rw [Int.ofNat_sub this]; rfl)) pa_nil))))
        (pss_cons (ps_asg (pe_op op_pow pe_int pe_int) (pg_sub (pv 5) (pv 2) set_list))
        (pss_cons (ps_for PassesOwn.never rfl (pi_tup (pv 4)) (pg_name (i := 6) nd rfl (Or.inl rfl))
          (pss_one (ps_if (pt_cmpR op_notN (pv 6) pe_non (nomark _))
            (pss_one (ps_asg (pe_op op_sub (pe_ix ix_list (pv 5) (pe_ix ix_tup (pv 6) pe_int (fun _ _ => rfl)) (fun _ _ => rfl)) (pe_fn OP hr1 (pa_cons (pe_op op_sub pe_int (pe_ix ix_tup (pv 6) pe_int (fun _ _ => rfl))) pa_nil)))
              (pg_sub (pv 5) (pe_ix ix_tup (pv 6) pe_int (fun _ _ => rfl)) set_list))) pss_nil)))
        (pss_one (ps_expr (pe_bm PySem.F.plainAttrs_list PySem.F.slot_list_append PySem.F.type_list_append mt_append (pv 1) (pa_cons (pe_fn OL hr (pa_cons (pv 5) pa_nil)) pa_nil)))))))))
      (pss_cons (ps_for PassesOwn.never rfl (pi_range1 (by rfl) T.range (pa_cons (pe_callB call_len_seq (by rfl) T.len boot_len (pa_cons (pv 1) pa_nil)) pa_nil)) (pg_name (i := 7) nd rfl (Or.inr rfl))
        (pss_cons (ps_setLc (i := 8) (own := [("_law_at", 10)]) (g := gName 10) rfl nd rfl rfl (sw_true rfl rfl rfl (by decide +kernel)) (pi_range2 (by rfl) T.range (pa_cons (pv 7) (pa_cons (pe_callB call_len_seq (by rfl) T.len boot_len (pa_cons (pv 1) pa_nil)) pa_nil))) (blkOk_by (N := nLWorths) (sc := defScope sLWorths) (by decide +kernel))
            (fun _ _ _ _ _ => pg_name (i := 10) nd rfl (Or.inl rfl)) (fun _ _ _ _ _ => pts_one (pt_cmpR op_ne (pe_ix (r := rIxL K) ix_list (pe_ix (r := rIxL K) ix_list (pv 1) (pv 10) (fun _ _ => rfl)) (pv 7) (fun _ _ => rfl)) pe_int (nomark _))) (fun _ _ _ _ _ => pv 10))
        (pss_cons (ps_if (pt_cmpR (op_eqD hr.units) (pv 8) (pe_lst pa_nil) (nomark _)) (pss_one (ps_ret pe_non)) pss_nil)
        (pss_cons (ps_asg (pe_tup (pa_cons (pe_ix ix_list (pv 1) (pe_ix ix_list (pv 8) pe_int (fun _ _ => rfl)) (fun _ _ => rfl)) (pa_cons (pe_ix ix_list (pv 1) (pv 7) (fun _ _ => rfl)) pa_nil)))
            (pg_tup rfl (pgs_cons (pg_sub (pv 1) (pv 7) set_list) (pgs_cons (pg_sub (pv 1) (pe_ix ix_list (pv 8) pe_int (fun _ _ => rfl)) set_list) pgs_nil))))
        (pss_cons (ps_set (i := 9) nd rfl (Or.inr rfl) (pe_ix ix_list (pv 1) (pv 7) (fun _ _ => rfl)))
        (pss_one (ps_for PassesOwn.never rfl (pi_range1 (by rfl) T.range (pa_cons (pe_callB call_len_seq (by rfl) T.len boot_len (pa_cons (pv 1) pa_nil)) pa_nil)) (pg_name (i := 10) nd rfl (Or.inr rfl))
          (pss_cons (ps_set (i := 11) nd rfl (Or.inr rfl) (pe_ix ix_list (pe_ix ix_list (pv 1) (pv 10) (fun _ _ => rfl)) (pv 7) (fun _ _ => rfl)))
          (pss_one (ps_if (PW.pt (pw_and (pt_cmpR op_ne (pv 10) (pv 7) (nomark _)) (pw_and1 (pt_cmpR op_ne (pv 11) pe_int (nomark _)))))
            (pss_one (ps_asg (pe_fn OL hr (pa_cons (pe_lc (own := [("_law_k", 13)]) (g := gName 13) (tt := tYes) rfl nd (pi_range1 (by rfl) T.range (pa_cons (pe_callB call_len_seq (by rfl) T.len boot_len (pa_cons (pv 9) pa_nil)) pa_nil)) (blkOk_by (N := nLWorths) (sc := defScope sLWorths) (by decide +kernel))
                (fun _ _ _ _ _ => pg_name (i := 13) nd rfl (Or.inl rfl)) (fun _ _ _ _ _ => pts_nil)
                (fun _ _ _ _ _ => pe_op op_sub (pe_op op_mulW (pe_ix (r := rIxL K) ix_list (pe_ix (r := rIxL K) ix_list (pv 1) (pv 10) (fun _ _ => rfl)) (pv 13) (fun _ _ => rfl)) (pe_ix (r := rIxL K) ix_list (pv 9) (pv 7) (fun _ _ => rfl)))
                  (pe_op op_mulW (pv 11) (pe_ix (r := rIxL K) ix_list (pv 9) (pv 13) (fun _ _ => rfl))))) pa_nil))
              (pg_sub (pv 1) (pv 10) set_list))) pss_nil))))))))))
      (pss_cons (ps_set (i := 12) nd rfl (Or.inl rfl) (pe_callTy (r := rTupOf K) call_tupK (by rfl) T.tuple boot_tuple (pa_cons
          (pe_lc (own := [("_law_at", 10)]) (g := gName 10) (tt := tYes) rfl nd (pi_range1 (by rfl) T.range (pa_cons (pe_callB call_len_seq (by rfl) T.len boot_len (pa_cons (pv 1) pa_nil)) pa_nil)) (blkOk_by (N := nLWorths) (sc := defScope sLWorths) (by decide +kernel))
            (fun _ _ _ _ _ => pg_name (i := 10) nd rfl (Or.inl rfl)) (fun _ _ _ _ _ => pts_nil)
            (fun _ _ _ _ _ => pe_fn OR hr (pa_cons (pe_ix (r := rIxL K) ix_list (pe_ix (r := rIxL K) ix_list (pv 1) (pv 10) (fun _ _ => rfl)) (pe_un un_neg pe_int) (fun _ _ => rfl)) (pa_cons (pe_ix (r := rIxL K) ix_list (pe_ix (r := rIxL K) ix_list (pv 1) (pv 10) (fun _ _ => rfl)) (pv 10) (fun _ _ => rfl)) pa_nil)))) pa_nil)))
      (pss_one (ps_ret (pe_ifExp (pt_val (pe_callB (cr_any rfl) (by rfl) T.any_ boot_any (pa_cons
          (pe_lc (own := [("_law_worth", 14)]) (g := gName 14) (tt := tYes) rfl nd (pi_tup (pv 12)) (blkOk_by (N := nLWorths) (sc := defScope sLWorths) (by decide +kernel)) (fun _ _ _ _ _ => pg_name (i := 14) nd rfl (Or.inl rfl)) (fun _ _ _ _ _ => pts_nil)
            (fun _ _ _ _ _ => pe_cmpR op_lt (pe_ix (r := rIxT K) ix_tup (pv 14) pe_int (fun _ _ => rfl)) pe_int (nomark _))) pa_nil))) pe_non (pv 12))))))), ?_⟩
    -- rows = []
    refine ⟨Nat.zero_le _, fun R nRH => ?_⟩
    have k0 := same_new (o := .lst []) nRH
    generalize hn : (KM.trim M).rows.length = n at *
    obtain ⟨Tm, hT⟩ : ∃ Tm, KM.trim M = Tm := ⟨_, rfl⟩
    rw [hT] at ok hTM hrs ta hn
    refine ⟨_, rfl, a, _, _, _, rfl, rfl, (ta.keep (same_tup k0)).sq, atI_nat (j := 1) rfl, b, rs, rfl, .inr (tb.keep (same_tup k0)).sq, _, rfl, by omega, by omega, ?_⟩
    rw [Int.toNat_natCast, lrs]
    refine for_range (lo := 0) (n := n) (fun i σ H' => ∃ (x2 x3 x4 x5 x6 : Option V) (ws : List V) (m : Nat → Nat → Int), σ = [some (.ref a), some (.ref R), x2, x3, x4, x5, x6, none, none, none, none, none, none, none, none] ∧ Same H H' ∧ ws.length = i ∧ MatI H' R ws (n + 1) m ∧ ∀ k, k < i → KM.LightOf Tm k (m k))
      ⟨none, none, none, none, none, [], fun _ _ => 0, rfl, k0, rfl, ⟨upd_same, fun i v h => by simp at h⟩, fun k h => absurd h (Nat.not_lt_zero _)⟩ ?_ ?_
    · rintro i σ H1 hi ⟨x2, x3, x4, x5, x6, ws, m, rfl, sm, lws, hM, hL⟩
      show gName 2 (.int ((0 : Int) + (i : Int))) _ H1 _
      rw [Int.zero_add]
      obtain ⟨r, hr_⟩ : ∃ r, Tm.rows[i]? = some r := ⟨_, List.getElem?_eq_getElem (by omega)⟩
      obtain ⟨xr, hxr, ar, br, ss, rfl, tr, ts, hss⟩ := hrs.getR hr_
      have g1 := same_tup sm
      have lss := hss.len
      have lr := ok.len r (List.mem_of_getElem? hr_)
      have s8 := ok.size8
      obtain ⟨h60, hl8⟩ := ok.row_stp hr_
      refine ⟨_, rfl, a, _, _, _, rfl, rfl, (ta.keep g1).sq, atI_nat (j := 1) rfl, _, rfl, b, rs, _, _, rfl, rfl, (tb.keep g1).sq, atI_nat hxr, ar, _, rfl, (tr.keep g1).sq, rfl, _, _, rfl, _, _, rfl, rfl, ?_⟩
      -- row = [0] * n + [..]
      refine ⟨by show 1 ≤ sizeLine; decide, fun l1 n1 => ?_⟩
      have k1 := same_new (o := .lst [.int 0]) n1
      have g2 := g1.trans (same_tup k1)
      refine ⟨_, rfl, a, _, _, _, rfl, rfl, (ta.keep g2).sq, atI_nat (j := 1) rfl, b, rs, rfl, .inr (tb.keep g2).sq, ?_⟩
      refine ⟨l1, _, _, rfl, rfl, upd_same, by omega, by omega, by rw [Int.toNat_natCast]; show 1 * rs.length ≤ sizeLine; exact Nat.le_of_lt (small1000 (by omega)), fun l2 n2 => ?_⟩
      rw [Int.toNat_natCast, flat_rep, lrs]
      have k2 := same_new (o := .lst (List.replicate n (.int 0))) n2
      refine ⟨r.fin, rfl, fun x hx => (ok.fins r (List.mem_of_getElem? hr_) x hx).2, by show 1 ≤ sizeLine; decide, fun l3 n3 => ?_⟩
      have k3 := same_new (o := .lst [.int (endZ r.fin)]) n3
      refine ⟨l2, l3, _, _, rfl, rfl, k3 _ _ upd_same, upd_same, by rw [List.length_replicate]; exact Nat.le_of_lt (small1000 (by show n + 1 ≤ 1000; omega)), fun W nW => ?_⟩
      have k4 := same_new (o := .lst (List.replicate n (.int 0) ++ [.int (endZ r.fin)])) nW
      have k13 := (k1.trans k2).trans k3
      have nW1 : H1 W = none := k13.free nW
      have s14 := k13.trans k4
      have eW : List.replicate n (V.int 0) ++ [.int (endZ r.fin)] = rl (n + 1) (fun j => if j = n then endZ r.fin else 0) := by
        rw [rl_snoc, if_pos rfl]
        congr 1
        unfold rl
        apply List.ext_getElem?
        intro j
        rw [List.getElem?_map]
        by_cases hj : j < n
        · rw [List.getElem?_replicate, if_pos hj, List.getElem?_range hj]
          show some (V.int 0) = some (V.int (if j = n then endZ r.fin else 0))
          rw [if_neg (by omega)]
        · rw [List.getElem?_replicate, if_neg hj, List.getElem?_eq_none (by rw [List.length_range]; omega)]
          rfl
      rw [eW]
      rw [eW] at s14
      have hW4 : upd (upd (upd (upd H1 l1 (.lst [.int 0])) l2 (.lst (List.replicate n (.int 0)))) l3 (.lst [.int (endZ r.fin)])) W (.lst (rl (n + 1) (fun j => if j = n then endZ r.fin else 0))) W = some (.lst (rl (n + 1) (fun j => if j = n then endZ r.fin else 0))) := upd_same
      generalize upd (upd (upd (upd H1 l1 (.lst [.int 0])) l2 (.lst (List.replicate n (.int 0)))) l3 (.lst [.int (endZ r.fin)])) W (.lst (rl (n + 1) (fun j => if j = n then endZ r.fin else 0))) = H4 at s14 hW4
      have nWR : W ≠ R := fun e => by rw [e, hM.1] at nW1; cases nW1
      -- row[state] = 2 ** 60
      refine ⟨2, 60, rfl, rfl, ⟨by decide, by decide, by decide⟩, _, rfl, _, rfl, W, _, _, i, rfl, rfl, hW4, ixN_nat (by rw [rl_len]; omega), ?_⟩
      have e5 : (rl (n + 1) (fun j => if j = n then endZ r.fin else 0)).set i (.int ((2 : Int) ^ (60 : Int).toNat)) = rl (n + 1) (KM.rowZ Tm i ((r.steps.take 0).filterMap id)) := by
        rw [rl_set]
        refine rl_congr fun j hj => ?_
        show _ = (if j = Tm.rows.length then KM.bvalZ Tm i else KM.entZ i [] j)
        rw [KM.entZ_nil, hn]
        by_cases e1 : j = i
        · rw [if_pos e1, if_neg (by omega), if_pos e1]; rfl
        · rw [if_neg e1]
          by_cases e2 : j = n
          · rw [if_pos e2, if_pos e2]
            unfold KM.bvalZ
            rw [KM.fin_of hr_]
            cases r.fin <;> rfl
          · rw [if_neg e2, if_neg e2, if_neg e1]
      have s15 : Same H1 (upd H4 W (.lst ((rl (n + 1) (fun j => if j = n then endZ r.fin else 0)).set i (.int ((2 : Int) ^ (60 : Int).toNat))))) := Same.mut s14 nW1
      have hW5 : upd H4 W (.lst ((rl (n + 1) (fun j => if j = n then endZ r.fin else 0)).set i (.int ((2 : Int) ^ (60 : Int).toNat)))) W = some (.lst (rl (n + 1) (KM.rowZ Tm i ((r.steps.take 0).filterMap id)))) := by rw [upd_same, e5]
      generalize upd H4 W (.lst ((rl (n + 1) (fun j => if j = n then endZ r.fin else 0)).set i (.int ((2 : Int) ^ (60 : Int).toNat)))) = H5 at s15 hW5
      -- for step in steps
      refine ⟨_, rfl, br, rfl, ⟨_, ((ts.keep g1).keep (same_tup s15)).sq⟩, ?_⟩
      refine for_tup (K := K) (a := br) (xs := ss) (fun t σ H' => ∃ x6 : Option V, σ = [some (.ref a), some (.ref R), some (.int (i : Int)), some (optV r.fin), some (.ref br), some (.ref W), x6, none, none, none, none, none, none, none, none] ∧ Same H1 H' ∧ H' W = some (.lst (rl (n + 1) (KM.rowZ Tm i ((r.steps.take t).filterMap id)))))
        ⟨x6, rfl, s15, hW5⟩ (fun t σ H' _ ⟨_, _, s, _⟩ => ((ts.keep g1).keep (same_tup s)).sq) ?_ ?_
      · rintro t y σ H6 ht ⟨x6, rfl, s16, hW6⟩
        obtain ⟨st, hst, hy⟩ := hss.get ht
        have hy6 := (hy.keep g1).keep (same_tup s16)
        refine ⟨_, rfl, rfl, _, rfl, ?_⟩
        cases st with
        | none =>
          obtain rfl : y = .non := hy6
          refine iteF ⟨_, rfl, s16, ?_⟩
          rw [take_snoc hst, filter_snoc, List.append_nil]
          exact hW6
        | some p =>
          obtain ⟨ay, rfl, tay⟩ := hy6
          obtain ⟨p60, plt⟩ := ok.mores r (List.mem_of_getElem? hr_) p.1 p.2 (List.mem_of_getElem? hst)
          refine iteT ?_
          refine ⟨_, rfl, _, rfl, ay, _, _, _, rfl, rfl, tay.sq, atI_nat (j := 1) rfl, W, _, _, _, rfl, rfl, SqL.of hW6, atI_nat (rl_at _ (show p.2 < n + 1 by omega)), _, rfl, ay, _, _, _, rfl, rfl, tay.sq, atI_nat (j := 0) rfl, 60, (p.1 : Int), rfl, rfl, 60 - p.1, ?_, by omega, _, _, rfl, rfl, _, rfl, _, rfl, ay, _, _, _, rfl, rfl, tay.sq, atI_nat (j := 1) rfl, W, _, _, p.2, rfl, rfl, hW6, ixN_nat (by rw [rl_len]; omega), ?_⟩
          · show [V.int (60 - (p.1 : Int))] = [V.int ((60 - p.1 : Nat) : Int)]
            rw [Int.ofNat_sub p60]; rfl
          · refine ⟨_, rfl, Same.mut s16 nW1, ?_⟩
            rw [upd_same, rl_set, take_snoc hst, filter_snoc]
            congr 2
            refine rl_congr fun j hj => ?_
            show (if j = p.2 then KM.rowZ Tm i ((r.steps.take t).filterMap id) p.2 - ((2 ^ (60 - p.1) : Nat) : Int) else KM.rowZ Tm i ((r.steps.take t).filterMap id) j) = KM.rowZ Tm i ((r.steps.take t).filterMap id ++ [p]) j
            unfold KM.rowZ
            by_cases e1 : j = p.2
            · rw [if_pos e1, if_neg (by omega), if_neg (by omega), KM.entZ_snoc, if_pos e1.symm, e1]
            · rw [if_neg e1]
              by_cases e2 : j = Tm.rows.length
              · rw [if_pos e2, if_pos e2]
              · rw [if_neg e2, if_neg e2, KM.entZ_snoc, if_neg (fun z => e1 z.symm), Int.sub_zero]
      · rintro σ H6 ⟨x6, rfl, s16, hW6⟩
        rw [lss, List.take_length] at hW6
        have hM6 := hM.same s16
        refine ⟨_, rfl, .inl ⟨rfl, _, SqL.of hM6.1⟩, _, rfl, _, n + 1, _, rfl, ⟨W, rfl, hW6⟩, by omega, fun j hj => ?_, fun H7 z g c s7 hz hc he hR => ?_⟩
        · refine Nat.lt_of_lt_of_le ?_ (Nat.pow_le_pow_right (show 0 < 2 by decide) (show 65 ≤ 9000 by decide))
          unfold KM.rowZ
          by_cases e : j = Tm.rows.length
          · rw [if_pos e]; exact KM.bvalZ_small Tm i
          · rw [if_neg e]
            exact KM.entZ_small i j h60 hl8
        · have hM7 := hM6.same s7
          have nz : z ≠ .ref R := hR R (by rw [hM6.1]; intro q; cases q) (fun e => nWR (V.ref.inj e))
          refine ⟨R, ws, z, rfl, rfl, hM7.1, small1000 (by omega), _, _, _, _, _, ws ++ [z], _, rfl, Same.mut ((sm.trans s16).trans s7) nRH, by simp [lws], hM7.snoc nz hz, fun k hk => ?_⟩
          by_cases e : k = ws.length
          · rw [if_pos e]
            have e2 : k = i := by omega
            refine ⟨c, hc, fun j hj => ?_⟩
            rw [e2, KM.stp_of hr_]
            exact he j (by omega)
          · rw [if_neg e]
            exact hL k (by omega)
    · rintro σ H1 ⟨x2, x3, x4, x5, x6, ws, m0, rfl, sm, lws, hM, hL⟩
      have hMat : KM.MatOf Tm (KM.castM m0) := KM.light_mat ok fun k hk => hL k (by omega)
      have hS0 : ∀ i, i < n → ∀ j, j < n + 1 → (m0 i j).natAbs < 2 ^ KM.wd 0 := fun i hi j hj => KM.light_small ok (by omega) (hL i hi) (by omega)
      -- the columns
      refine ⟨_, rfl, R, ws, rfl, .inl (SqL.of hM.1), _, rfl, by omega, by omega, ?_⟩
      rw [Int.toNat_natCast, lws]
      refine for_range (lo := 0) (n := n) (fun c σ H' => ∃ (x7 x8 x9 x10 x11 : Option V) (rs : List V) (m : Nat → Nat → Int), σ = [some (.ref a), some (.ref R), x2, x3, x4, x5, x6, x7, x8, x9, x10, x11, none, none, none] ∧ Same H H' ∧ rs.length = n ∧ MatI H' R rs (n + 1) m ∧
          KM.GJ n c (KM.castM m0) (KM.castM m) ∧ ∀ i, i < n → ∀ j, j < n + 1 → (m i j).natAbs < 2 ^ KM.wd c)
        ⟨none, none, none, none, none, ws, m0, rfl, sm, lws, hM, KM.GJ.start n _, hS0⟩ ?_ ?_
      · rintro c σ H2 hc ⟨x7, x8, x9, x10, x11, rs2, m, rfl, sm2, l2, hM2, g, hS⟩
        show gName 7 (.int ((0 : Int) + (c : Int))) _ H2 _
        rw [Int.zero_add]
        have w4223 := KM.wd_le (k := c) (by omega)
        -- there
        refine ⟨_, rfl, _, rfl, R, rs2, rfl, .inl (SqL.of hM2.1), _, _, rfl, ⟨by omega, by omega, by omega, by omega⟩, fun Lt nLt => ?_⟩
        have en : ((rs2.length : Int) - (c : Int)).toNat = n - c := by omega
        rw [en]
        refine lc_range (lo := (c : Int)) (n := n - c) (fun i H' => ∃ ds : List Nat, Same H2 H' ∧ H' Lt = some (.lst (il ds)) ∧ (∀ d ∈ ds, c ≤ d ∧ d < n ∧ m d c ≠ 0) ∧ (∀ k, c ≤ k → k < c + i → m k c ≠ 0 → k ∈ ds) ∧ ds.length ≤ i)
          ⟨[], same_new nLt, upd_same, fun d h => by simp at h, fun k h1 h2 => by omega, Nat.le_refl _⟩ ?_ ?_
        · rintro i H3 hi ⟨ds, s3, hLt, hd1, hd2, lds⟩
          show gName 10 (.int ((c : Int) + (i : Int))) _ H3 _
          rw [← Int.natCast_add]
          have hM3 := hM2.same s3
          obtain ⟨v, hv, nv, l, rfl, hl⟩ := hM3.row (i := c + i) (by omega)
          refine ⟨rfl, _, rfl, _, rfl, R, _, _, _, rfl, rfl, SqL.of hM3.1, atI_nat hv, _, rfl, l, _, _, _, rfl, rfl, SqL.of hl, atI_nat (rl_at _ (show c < n + 1 by omega)), rfl, _, rfl, ?_⟩
          by_cases h0 : m (c + i) c = 0
          · refine iteBF (by simp [h0]) ⟨ds, s3, hLt, hd1, fun k h1 h2 h3 => ?_, by omega⟩
            by_cases e : k = c + i
            · rw [e] at h3; exact absurd h0 h3
            · exact hd2 k h1 (by omega) h3
          · refine iteBT (by simp [h0]) ⟨_, rfl, _, hLt, by rw [il_len]; exact small1000 (by omega), ds ++ [c + i], Same.mut s3 nLt, by rw [upd_same, il_snoc], fun d hd => ?_, fun k h1 h2 h3 => ?_, by rw [List.length_append, List.length_singleton]; omega⟩
            · rcases List.mem_append.mp hd with hd | hd
              · exact hd1 d hd
              · rw [List.mem_singleton.mp hd]; exact ⟨by omega, by omega, h0⟩
            · by_cases e : k = c + i
              · simp [e]
              · simp [hd2 k h1 (by omega) h3]
        rintro H3 ⟨ds, s3, hLt, hd1, hd2, lds⟩
        -- if there == []
        refine ⟨_, rfl, Nat.zero_le _, fun E nE => ?_⟩
        have k4 := same_new (o := .lst []) nE
        refine ⟨.list (ds.map fun (i : Nat) => PyData.int (i : Int)), .list [], .lst (SqL.of (k4 _ _ hLt)) (il_dp ds), .lst (SqL.of upd_same) .nil, lst_shaped ds, lst_shaped [], _, rfl, ?_⟩
        have s4 := s3.trans k4
        have hLt4 := k4 _ _ hLt
        generalize upd H3 E (.lst []) = H4 at s4 hLt4
        have sm4 := sm2.trans s4
        cases ds with
        | nil =>
          refine iteBT rfl ?_
          refine q2 H4 sm4 (KM.gj_null okM (N := KM.castM m0) (m := KM.castM m) (k := c) (by rw [hT]; exact hMat) (by rw [hT, hn]; exact g) (by rw [hT, hn]; exact hc) fun i h1 h2 => ?_)
          rw [hT, hn] at h2
          have h0 : m i c = 0 := by
            apply Classical.byContradiction
            intro h0
            have := hd2 i h1 (by omega) h0
            simp at this
          show ((m i c : Int) : Rat) = 0
          rw [h0]; rfl
        | cons d ds =>
          refine iteBF rfl ?_
          obtain ⟨hcd, hdn, hp⟩ := hd1 d (by simp)
          have hM4 := hM2.same s4
          obtain ⟨vd, hvd, nvd, rd⟩ := hM4.row (i := d) (by omega)
          obtain ⟨vc, hvc, nvc, rc⟩ := hM4.row (i := c) (by omega)
          have hd0 : (il (d :: ds))[0]? = some (.int (d : Int)) := rfl
          refine ⟨_, rfl, _, rfl, Lt, _, _, _, rfl, rfl, SqL.of hLt4, atI_nat (j := 0) hd0, R, _, _, _, rfl, rfl, SqL.of hM4.1, atI_nat hvd, _, rfl, _, rfl, R, _, _, _, rfl, rfl, SqL.of hM4.1, atI_nat hvc, by show 2 ≤ sizeLine; decide, fun tp ntp => ?_⟩
          have k1 := same_new (o := .tup [vd, vc]) ntp
          have hM5 := hM4.same k1
          have sm5 := sm4.trans k1
          have hT5 : upd H4 tp (.tup [vd, vc]) tp = some (.tup [vd, vc]) := upd_same
          have rd5 := rd.same k1
          have rc5 := rc.same k1
          have hLt5 := k1 _ _ hLt4
          generalize upd H4 tp (.tup [vd, vc]) = H5 at hM5 sm5 hT5 rd5 rc5 hLt5
          have ixc : ixN rs2.length (c : Int) = some c := ixN_nat (by omega)
          have hM6 := hM5.set (k := c) nvd rd5
          have ixd : ixN (rs2.set c vd).length (d : Int) = some d := ixN_nat (by rw [List.length_set]; omega)
          have hM7 := hM6.set (k := d) nvc (rc5.upd nvc)
          have nLtR : Lt ≠ R := fun e => by rw [e, hM2.1] at nLt; cases nLt
          have hLt6 : upd H5 R (.lst (rs2.set c vd)) Lt = some (.lst (il (d :: ds))) := by rw [upd_ne nLtR]; exact hLt5
          refine ⟨tp, _, rfl, SqT.of hT5, rfl, _, _, rfl, _, rfl, _, rfl, R, rs2, _, c, rfl, rfl, hM5.1, ixc, _, _, rfl, _, rfl, _, rfl, Lt, _, _, _, rfl, rfl, SqL.of hLt6, atI_nat (j := 0) hd0, R, _, _, d, rfl, rfl, hM6.1, ixd, rfl, ?_⟩
          have sm7 : Same H (upd (upd H5 R (.lst (rs2.set c vd))) R (.lst ((rs2.set c vd).set d vc))) := Same.mut (Same.mut sm5 nRH) nRH
          have l7 : ((rs2.set c vd).set d vc).length = n := by rw [List.length_set, List.length_set, l2]
          have hM8 : MatI (upd (upd H5 R (.lst (rs2.set c vd))) R (.lst ((rs2.set c vd).set d vc))) R ((rs2.set c vd).set d vc) (n + 1) (fun i => m (KM.sw c d i)) := by
            refine hM7.congr fun i j hi hj => ?_
            unfold KM.sw
            by_cases e1 : i = d
            · rw [if_pos e1]
              by_cases e2 : i = c
              · rw [if_pos e2, ← e1, e2]
              · rw [if_neg e2, if_pos e1]
            · rw [if_neg e1]
              by_cases e2 : i = c
              · rw [if_pos e2, if_pos e2]
              · rw [if_neg e2, if_neg e2, if_neg e1]
          generalize upd (upd H5 R (.lst (rs2.set c vd))) R (.lst ((rs2.set c vd).set d vc)) = H8 at sm7 hM8
          generalize (rs2.set c vd).set d vc = rs8 at l7 hM8
          clear hM7 hM6 hM5 rd5 rc5 hT5 k1
          -- head
          obtain ⟨v8, hv8, nv8, lh, rfl, hlh⟩ := hM8.row (i := c) (by omega)
          rw [KM.sw_left] at hlh
          have nlhR : lh ≠ R := fun e => nv8 (by rw [e])
          refine ⟨_, rfl, _, rfl, R, _, _, _, rfl, rfl, SqL.of hM8.1, atI_nat hv8, ?_⟩
          refine ⟨_, rfl, R, rs8, rfl, .inl (SqL.of hM8.1), _, rfl, by omega, by omega, ?_⟩
          rw [Int.toNat_natCast, l7]
          have hSd : ∀ j, j < n + 1 → (m d j).natAbs < 2 ^ KM.wd c := hS d hdn
          have hSs : ∀ t, t < n → ∀ j, j < n + 1 → (m (KM.sw c d t) j).natAbs < 2 ^ KM.wd c := fun t ht => hS _ (KM.sw_lt hc hdn ht)
          refine for_range (lo := 0) (n := n) (fun t σ H' => ∃ (x10 x11 : Option V) (rs : List V) (m' : Nat → Nat → Int), σ = [some (.ref a), some (.ref R), x2, x3, x4, x5, x6, some (.int (c : Int)), some (.ref Lt), some (.ref lh), x10, x11, none, none, none] ∧ Same H H' ∧ rs.length = n ∧ MatI H' R rs (n + 1) m' ∧
              H' lh = some (.lst (rl (n + 1) (m d))) ∧ (∀ i, i < n → (i < t ∨ i = c) → KM.RD n c d (KM.wd c) m i (m' i)) ∧ ∀ i, i < n → ¬ (i < t ∨ i = c) → m' i = m (KM.sw c d i))
            ⟨x10, x11, rs8, _, rfl, sm7, l7, hM8, hlh, fun i hi h => ?_, fun i hi h => rfl⟩ ?_ ?_
          · rcases h with h | h
            · omega
            · subst h
              show KM.RD n i d (KM.wd i) m i (m (KM.sw i d i))
              rw [KM.sw_left]
              exact KM.RD.piv hSd
          · rintro t σ H9 ht ⟨x10, x11, rs9, m', rfl, sm9, l9, hM9, hh9, hdone, hnot⟩
            show gName 10 (.int ((0 : Int) + (t : Int))) _ H9 _
            rw [Int.zero_add]
            obtain ⟨vt, hvt, nvt, lt, rfl, hlt⟩ := hM9.row (i := t) (by omega)
            refine ⟨_, rfl, _, rfl, R, _, _, _, rfl, rfl, SqL.of hM9.1, atI_nat hvt, _, rfl, lt, _, _, _, rfl, rfl, SqL.of hlt, atI_nat (rl_at _ (show c < n + 1 by omega)), ?_⟩
            refine ⟨_, rfl, _, rfl, rfl, _, rfl, ?_⟩
            have skip : KM.RD n c d (KM.wd c) m t (m' t) → ∃ (x10' x11' : Option V) (rs : List V) (m'' : Nat → Nat → Int), [some (V.ref a), some (.ref R), x2, x3, x4, x5, x6, some (.int (c : Int)), some (.ref Lt), some (.ref lh), some (.int (t : Int)), some (.int (m' t c)), none, none, none] = [some (V.ref a), some (.ref R), x2, x3, x4, x5, x6, some (.int (c : Int)), some (.ref Lt), some (.ref lh), x10', x11', none, none, none] ∧ Same H H9 ∧ rs.length = n ∧ MatI H9 R rs (n + 1) m'' ∧
                H9 lh = some (.lst (rl (n + 1) (m d))) ∧ (∀ i, i < n → (i < t + 1 ∨ i = c) → KM.RD n c d (KM.wd c) m i (m'' i)) ∧ ∀ i, i < n → ¬ (i < t + 1 ∨ i = c) → m'' i = m (KM.sw c d i) := by
              intro hrd
              refine ⟨_, _, rs9, m', rfl, sm9, l9, hM9, hh9, fun i hi h => ?_, fun i hi h => hnot i hi (by omega)⟩
              by_cases e : i = t
              · rw [e]; exact hrd
              · exact hdone i hi (by omega)
            by_cases htc : t = c
            · refine iteBF (by simp [htc]) (iteF (skip (hdone t ht (.inr htc))))
            · refine iteBT (by simp; omega) ?_
              have hm't := hnot t ht (by omega)
              refine ⟨_, rfl, rfl, _, rfl, ?_⟩
              by_cases h0 : m' t c = 0
              · refine iteBF (by simp [h0]) (skip ?_)
                rw [hm't]
                rw [hm't] at h0
                exact KM.RD.skip htc h0 (hSs t ht)
              · refine iteBT (by simp [h0]) ?_
                refine ⟨_, rfl, lh, _, rfl, .inl (SqL.of hh9), _, rfl, by rw [rl_len]; omega, by rw [rl_len]; omega, fun L nL => ?_⟩
                rw [rl_len, Int.toNat_natCast]
                have hSt : ∀ j, j < n + 1 → (m' t j).natAbs < 2 ^ KM.wd c := by rw [hm't]; exact hSs t ht
                have wpos : 0 < KM.wd c := by cases c <;> simp [KM.wd]
                refine lc_range (lo := 0) (n := n + 1) (fun k H' => Same H9 H' ∧ H' L = some (.lst (rl k fun j => m' t j * m d c - m' t c * m d j))) ⟨same_new nL, upd_same⟩ ?_ ?_
                · rintro k H10 hk ⟨s10, hL10⟩
                  show gName 13 (.int ((0 : Int) + (k : Int))) _ H10 _
                  rw [Int.zero_add]
                  have hM10 := hM9.same s10
                  have hlt10 := s10 _ _ hlt
                  have hh10 := s10 _ _ hh9
                  refine ⟨rfl, _, rfl, _, rfl, R, _, _, _, rfl, rfl, SqL.of hM10.1, atI_nat hvt, _, rfl, lt, _, _, _, rfl, rfl, SqL.of hlt10, atI_nat (rl_at _ hk), _, rfl, _, rfl, lh, _, _, _, rfl, rfl, SqL.of hh10, atI_nat (rl_at _ (show c < n + 1 by omega)), _, _, rfl, rfl,
                    wide_mul (hSt k hk) (hSd c (by omega)) wpos wpos (by omega), _, rfl, _, rfl, _, rfl, lh, _, _, _, rfl, rfl, SqL.of hh10, atI_nat (rl_at _ hk), _, _, rfl, rfl, wide_mul (hSt c (by omega)) (hSd k hk) wpos wpos (by omega), _, _, rfl, rfl, _, hL10, by rw [rl_len]; exact small1000 (by omega), Same.mut s10 nL, ?_⟩
                  rw [upd_same, rl_snoc]
                · rintro H10 ⟨s10, hL10⟩
                  have hM10 := hM9.same s10
                  have nLR : L ≠ R := fun e => by rw [e, hM9.1] at nL; cases nL
                  refine ⟨_, n + 1, _, rfl, ⟨L, rfl, hL10⟩, by omega, fun j hj => ?_, fun H11 z gz cc s11 hz hcc he hR => ?_⟩
                  · refine Nat.lt_of_lt_of_le (KM.cross_small (hSt j hj) (hSd c (by omega)) (hSt c (by omega)) (hSd j hj)) (Nat.pow_le_pow_right (show 0 < 2 by decide) (by omega))
                  · have hM11 := hM10.same s11
                    have nz : z ≠ .ref R := hR R (by rw [hM10.1]; intro q; cases q) (fun e => nLR (V.ref.inj e))
                    have hh11 := s11 _ _ (s10 _ _ hh9)
                    refine ⟨_, rfl, _, rfl, R, rs9, _, t, rfl, rfl, hM11.1, ixN_nat (by omega), _, _, rs9.set t z, _, rfl, Same.mut ((sm9.trans s10).trans s11) nRH, by rw [List.length_set, l9], hM11.set (k := t) nz hz, by rw [upd_ne nlhR]; exact hh11, fun i hi h => ?_, fun i hi h => ?_⟩
                    · by_cases e : i = t
                      · rw [if_pos e, e]
                        refine KM.RD.sub htc hc hp hcc (fun j hj => ?_) (hSs t ht) hSd
                        have := he j hj
                        rw [hm't] at this
                        exact this
                      · rw [if_neg e]
                        exact hdone i hi (by omega)
                    · rw [if_neg (by omega)]
                      exact hnot i hi (by omega)
          · rintro σ H9 ⟨x10, x11, rs9, m', rfl, sm9, l9, hM9, hh9, hdone, hnot⟩
            exact ⟨_, _, _, x10, x11, rs9, m', rfl, sm9, l9, hM9, KM.RD.gj g hc hcd hdn hp fun i hi => hdone i hi (.inl hi), fun i hi j hj => (hdone i hi (.inl hi)).size j hj⟩
      · rintro σ H2 ⟨x7, x8, x9, x10, x11, rs2, m, rfl, sm2, l2, hM2, g, hS⟩
        have w4223 := KM.wd_le n6
        have hpiv : ∀ i, i < n → m i i ≠ 0 := fun i hi z => g.piv i hi (show ((m i i : Int) : Rat) = 0 by rw [z]; rfl)
        have eval_ : ∀ i, i < n → Rat.divInt (m i n) (m i i) = KM.castM m i n / KM.castM m i i := fun i hi => Rat.divInt_eq_div _ _
        -- found
        refine ⟨_, rfl, R, rs2, rfl, .inl (SqL.of hM2.1), _, rfl, by omega, by omega, fun L nL => ?_⟩
        rw [Int.toNat_natCast, l2]
        refine lc_range (lo := 0) (n := n) (fun i H' => ∃ ws : List V, Same H2 H' ∧ H' L = some (.lst ws) ∧ ws.length = i ∧ ∀ (k : Nat) (y : V), ws[k]? = some y → FrA K H' y (KM.castM m k n / KM.castM m k k)) ⟨[], same_new nL, upd_same, rfl, fun k y h => by simp at h⟩ ?_ ?_
        · rintro i H3 hi ⟨zs, s3, hL3, lzs, hzs⟩
          show gName 10 (.int ((0 : Int) + (i : Int))) _ H3 _
          rw [Int.zero_add]
          have hM3 := hM2.same s3
          obtain ⟨v, hv, nv, l, rfl, hl⟩ := hM3.row (i := i) (by omega)
          have elast : atI (rl (n + 1) (m i)) (-1 : Int) = some (.int (m i n)) := by
            have e1 : ixN (rl (n + 1) (m i)).length (-1 : Int) = some n := by
              rw [rl_len]
              unfold ixN
              rw [if_neg (by omega), if_pos (by omega)]
              congr 1
              omega
            unfold atI
            rw [e1]
            exact rl_at _ (by omega)
          refine ⟨rfl, _, rfl, _, rfl, R, _, _, _, rfl, rfl, SqL.of hM3.1, atI_nat hv, 1, rfl, l, _, _, _, rfl, rfl, SqL.of hl, elast, _, rfl, _, rfl, R, _, _, _, rfl, rfl, SqL.of hM3.1, atI_nat hv, _, rfl, l, _, _, _, rfl, rfl, SqL.of hl, atI_nat (rl_at _ (show i < n + 1 by omega)), ?_⟩
          refine ⟨_, _, rfl, hpiv i hi, Nat.lt_of_lt_of_le (hS i hi i (by omega)) (Nat.pow_le_pow_right (show 0 < 2 by decide) (by omega)), fun H4 z s4 hz => ?_⟩
          rw [eval_ i hi] at hz
          have hL4 := s4 _ _ hL3
          have gl : Tup H4 (upd H4 L (.lst (zs ++ [z]))) := tup_lst hL4
          refine ⟨zs, hL4, small1000 (by omega), zs ++ [z], Same.mut (s3.trans s4) nL, upd_same, by simp [lzs], fun k y hk => ?_⟩
          by_cases hkl : k < zs.length
          · rw [List.getElem?_append_left hkl] at hk
            exact ((hzs k y hk).keep (same_tup s4)).keep gl
          · rw [List.getElem?_append_right (by omega)] at hk
            have e : k = i := by
              have := (List.getElem?_eq_some_iff.mp hk).1
              simp at this
              omega
            subst e
            rw [lzs, Nat.sub_self] at hk
            cases hk
            exact hz.keep gl
        · rintro H3 ⟨zs, s3, hL3, lzs, hzs⟩
          refine ⟨L, zs, rfl, .inl ⟨SqL.of hL3, fun tt ntt => ?_⟩⟩
          have k4 := same_new (o := .tup zs) ntt
          have sm4 := (sm2.trans s3).trans k4
          have hzs4 : ∀ (i : Nat) (y : V), zs[i]? = some y → FrA K (upd H3 tt (.tup zs)) y (KM.castM m i n / KM.castM m i i) := fun i y h => (hzs i y h).keep (same_tup k4)
          have hT4 : upd H3 tt (.tup zs) tt = some (.tup zs) := upd_same
          generalize upd H3 tt (.tup zs) = H4 at sm4 hzs4 hT4
          -- any below 0
          refine ⟨_, rfl, tt, rfl, ⟨_, SqT.of hT4⟩, fun L2 nL2 => ?_⟩
          refine lc_tup (K := K) (a := tt) (xs := zs) (fun i H' => Same H4 H' ∧ H' L2 = some (.lst (((List.range i).map fun j => decide (KM.castM m j n / KM.castM m j j < 0)).map V.bl))) ⟨same_new nL2, upd_same⟩ (fun i H' _ ⟨s5, _⟩ => SqT.of (s5 _ _ hT4)) ?_ ?_
          · rintro i x H5 hi ⟨s5, hL2⟩
            have hin := (List.getElem?_eq_some_iff.mp hi).1
            obtain ⟨ax, rfl, tx⟩ := (hzs4 i x hi).keep (same_tup s5)
            have ed : decide ((KM.castM m i n / KM.castM m i i).num < 0) = decide (KM.castM m i n / KM.castM m i i < 0) := decide_eq_decide.mpr (neg_num _)
            refine ⟨rfl, _, rfl, ax, _, _, _, rfl, rfl, tx.sq, atI_nat (j := 0) rfl, (KM.castM m i n / KM.castM m i i).num, 0, rfl, rfl, _, hL2, ?_, Same.mut s5 nL2, ?_⟩
            · rw [List.length_map, List.length_map, List.length_range]
              exact small1000 (by omega)
            · rw [upd_same, List.range_succ, List.map_append, List.map_append]
              show some (HO.lst (_ ++ [V.bl (decide ((KM.castM m i n / KM.castM m i i).num < 0))])) = some (HO.lst (_ ++ [V.bl (decide (KM.castM m i n / KM.castM m i i < 0))]))
              rw [ed]
          · rintro H5 ⟨s5, hL2⟩
            refine ⟨L2, _, rfl, SqL.of hL2, _, rfl, ?_⟩
            have sm5 := sm4.trans s5
            refine ite2 (fun hc => ?_) (fun hc => ?_)
            · obtain ⟨bb, hb1, hb2⟩ := List.any_eq_true.mp hc
              obtain ⟨j, hj, rfl⟩ := List.mem_map.mp hb1
              have hj := List.mem_range.mp hj
              have hneg : KM.castM m j n / KM.castM m j j < 0 := of_decide_eq_true hb2
              refine q2 H5 sm5 ?_
              refine KM.gj_neg okM (N := KM.castM m0) (m := KM.castM m) (by rw [hT]; exact hMat) (by rw [hT, hn]; exact g) ⟨j, by rw [hT, hn]; omega, ?_⟩
              rw [hT, hn]
              exact hneg
            · have nn : ∀ j, j < n → 0 ≤ KM.castM m j n / KM.castM m j j := by
                intro j hj
                apply Classical.byContradiction
                intro hlt
                refine hc (List.any_eq_true.mpr ⟨true, List.mem_map.mpr ⟨j, List.mem_range.mpr (by omega), decide_eq_true (by grind)⟩, rfl⟩)
              refine ⟨_, rfl, q1 H5 (.ref tt) (fun i => KM.castM m i n / KM.castM m i i) sm5 ?_ ⟨tt, zs, rfl, .inl (s5 _ _ hT4), lzs, fun i y h => (hzs4 i y h).keep (same_tup s5)⟩ ?_⟩
              · have := KM.gj_some okM (N := KM.castM m0) (m := KM.castM m) (by rw [hT]; exact hMat) (by rw [hT, hn]; exact g) (fun j hj => by
                  rw [hT, hn] at hj ⊢
                  exact nn j hj)
                rw [hT, hn] at this
                exact this
              · have h0 : 0 < n := by omega
                have hs1 : (m 0 n).natAbs < 2 ^ 4223 := Nat.lt_of_lt_of_le (hS 0 h0 n (by omega)) (Nat.pow_le_pow_right (show 0 < 2 by decide) w4223)
                have hs2 : (m 0 0).natAbs < 2 ^ 4223 := Nat.lt_of_lt_of_le (hS 0 h0 0 (by omega)) (Nat.pow_le_pow_right (show 0 < 2 by decide) w4223)
                show KM.Small 4223 (KM.castM m 0 n / KM.castM m 0 0)
                rw [← eval_ 0 h0]
                exact ⟨Nat.lt_of_le_of_lt (KM.divInt_num_le _ _) hs1, Nat.lt_of_le_of_lt (KM.divInt_den_le (hpiv 0 h0)) hs2⟩
/-! ### _law_total -/
abbrev sLTotal : Stmt := topS 55
theorem scLTotal : FnScope ["_law_machine_here", "_law_found"] ["_law_machine_here"] (defScope sLTotal) := ⟨rfl, rfl, rfl, by decide +kernel, rfl, by decide +kernel, by decide +kernel⟩
def spLTotal (K : PySem.W.Frag) : Sp := fun vs H Q _ => ∃ (v : V) (M : Mach), vs = [v] ∧ MachA K H v M ∧ KM.Valid M ∧ M.rows.length ≤ 6 ∧ ∀ (H' : Hp) (z : V) (r : Option Rat), Same H H' → KM.IsTot M r → OFrA K H' z r → oSmall 4223 r → Q z H'
theorem ok_ltotal (D : At K mg "_law_total" sLTotal ["_law_machine_here"]) (OT : Ok P w K mg base 1 "_law_trim" ["_law_machine_here"] (spTrim K)) (OW : Ok P w K mg base 3 "_law_worths" ["_law_small"] (spLWorths K)) :
    Ok P w K mg base 4 "_law_total" ["_law_machine_here"] (spLTotal K) := by
  refine D.ok scLTotal (fun vs H Q E h => ?_) (fun f cdv A outer s H vs Q E hr h => ?_)
  · obtain ⟨v, M, rfl, _⟩ := h; rfl
  · obtain ⟨v, M, rfl, hM, ok, n6, q⟩ := h
    refine ⟨_, pss_cons (ps_set (i := 1) scLTotal.nd rfl (Or.inl rfl) (pe_fn OW hr (pa_cons (pe_fn OT (hr.mono (by decide)) (pa_cons (pv 0) pa_nil)) pa_nil)))
      (pss_one (ps_ret (pe_ifExp (pt_cmpR op_isN (pv 1) pe_non (nomark _)) pe_non (pe_ix ix_tup (pv 1) pe_int (fun _ _ => rfl))))), ?_⟩
    refine ⟨_, rfl, v, M, rfl, hM, ok, fun H2 z s2 hz => ?_⟩
    refine ⟨z, M, rfl, hz, ok, Nat.le_trans (KM.trim_rows_le ok) n6, fun H3 y x s3 h1 h2 h3 => ?_, fun H3 s3 h1 => ?_⟩
    · obtain ⟨t, xs, rfl, ht, lx, hx⟩ := h2
      have r1 := (KM.trim_valid ok).rows1
      obtain ⟨y0, hy0⟩ : ∃ y0, xs[0]? = some y0 := ⟨_, List.getElem?_eq_getElem (by omega)⟩
      refine ⟨_, rfl, rfl, _, rfl, iteDN (by intro z; cases z) ?_⟩
      exact ⟨_, rfl, t, _, _, _, rfl, rfl, ht.sq, atI_nat (j := 0) hy0, q H3 y0 (some (x 0)) (s2.trans s3) h1 (hx 0 y0 hy0) (fun r h => by cases h; exact h3)⟩
    · exact ⟨_, rfl, rfl, _, rfl, iteD rfl (q H3 .non none (s2.trans s3) h1 rfl (fun r h => by cases h))⟩
end
end KW

set_option Elab.async false
set_option linter.all false
set_option maxRecDepth 100000
set_option maxHeartbeats 4000000
/-! law. -/
namespace KW
open PySem PySem.Spec PyProof.Rows L2 KR KP
open KM (Mach All2)
theorem pss_read {X : Cx} {ss : List Stmt} {t t' : TS} (h : PSs X ss t) (hh : ∀ D σ H, t' D σ H → t D σ H) : PSs X ss t' := ⟨fun pins s σ H D I q => h.run pins s σ H D I (hh D σ H q)⟩
/-! ### a total as data -/
def oD : Option Rat → PyData
  | none => .none
  | some r => frD r
theorem oD_shaped : ∀ r, SeqAt.shaped (oD r) = true
  | none => rfl
  | some r => frD_shaped r
theorem oD_eqv (x y : Option Rat) : PyData.eqv (oD x) (oD y) = decide (x = y) := by
  cases x with
  | none => cases y with
    | none => rfl
    | some y => rfl
  | some x => cases y with
    | none => rfl
    | some y =>
      show PyData.eqv (frD x) (frD y) = _
      rw [frD_eqv]
      exact decide_eq_decide.mpr ⟨fun h => by rw [h], fun h => Option.some.inj h⟩
theorem OFrA.dp {K : PySem.W.Frag} {H : Hp} {v : V} {r : Option Rat} (h : OFrA K H v r) : Dp K H v (oD r) := by
  cases r with
  | none =>
    obtain rfl : v = .non := h
    exact .non
  | some r => exact FrA.dp h
def rNeO (K : PySem.W.Frag) : R2 := fun x y H Q => ∃ r q, OFrA K H x r ∧ OFrA K H y q ∧ Q (.bl (!decide (r = q))) H
def rEqO (K : PySem.W.Frag) : R2 := fun x y H Q => ∃ r q, OFrA K H x r ∧ OFrA K H y q ∧ Q (.bl (decide (r = q))) H
theorem op_neO {X : Cx} (hu : X.A.units + 64 < cLine) : OpR X (compareOp .NotEq) (rNeO X.K) := fun pins s σ H x y v u Q I rx ry h => by
  obtain ⟨r, q, h1, h2, h3⟩ := h
  exact op_neD hu pins s σ H x y v u Q I rx ry ⟨oD r, oD q, OFrA.dp h1, OFrA.dp h2, oD_shaped r, oD_shaped q, by rw [oD_eqv]; exact h3⟩
theorem op_eqO {X : Cx} (hu : X.A.units + 64 < cLine) : OpR X (compareOp .Eq) (rEqO X.K) := fun pins s σ H x y v u Q I rx ry h => by
  obtain ⟨r, q, h1, h2, h3⟩ := h
  exact op_eqD hu pins s σ H x y v u Q I rx ry ⟨oD r, oD q, OFrA.dp h1, OFrA.dp h2, oD_shaped r, oD_shaped q, by rw [oD_eqv]; exact h3⟩
/-! ### the machines are such as the program takes -/
theorem later_valid {M : Mach} (D : Drawn M) : KM.Valid (KM.later M) := by
  obtain ⟨V, few, ends⟩ := D
  have len : (KM.later M).rows.length = M.rows.length := List.length_map ..
  refine ⟨V.size1, V.size8, by rw [len]; exact V.rows1, by rw [len]; exact V.rows30, fun r h => ?_, fun r h e he => ?_, fun r h m s hm => ?_⟩
  · obtain ⟨r', h1, rfl⟩ := List.mem_map.mp h
    exact V.len r' h1
  · obtain ⟨r', h1, rfl⟩ := List.mem_map.mp h
    have he : r'.fin.map (· + 1) = some e := he
    cases hf : r'.fin with
    | none => rw [hf] at he; cases he
    | some x =>
      rw [hf] at he
      have he : x + 1 = e := Option.some.inj he
      have := ends r' h1 x hf
      omega
  · obtain ⟨r', h1, rfl⟩ := List.mem_map.mp h
    rw [len]
    exact V.mores r' h1 m s hm
theorem pad_len (n : Nat) (l : List KM.Step) (h : l.length ≤ n) : (KM.padTo n l).length = n := by
  unfold KM.padTo
  rw [List.length_append, List.length_replicate]
  omega
theorem pad_mem {n : Nat} {l : List KM.Step} {p : Nat × Nat} (h : some p ∈ KM.padTo n l) : some p ∈ l := by
  unfold KM.padTo at h
  rcases List.mem_append.mp h with h | h
  · exact h
  · have := List.eq_of_mem_replicate h
    cases this
theorem moved_mem {k : Nat} {l : List KM.Step} {m s : Nat} (h : some (m, s) ∈ l.map (KM.movedStep k)) : ∃ j, some (m, j) ∈ l ∧ s = j + k := by
  obtain ⟨st, h1, h2⟩ := List.mem_map.mp h
  cases st with
  | none => cases h2
  | some p =>
    have h2 : some (p.1, p.2 + k) = some (m, s) := h2
    cases h2
    exact ⟨p.2, h1, rfl⟩
theorem under_valid {A B : Mach} (DA : Drawn A) (DB : Drawn B) {m0 m1 : Nat} (h0 : m0 ≤ 60) (h1 : m1 ≤ 60) : KM.Valid (KM.under A B m0 m1) := by
  obtain ⟨VA, fewA, _⟩ := DA
  obtain ⟨VB, fewB, _⟩ := DB
  have rA := VA.rows1
  have rB := VB.rows1
  have sA := VA.size8
  have sB := VB.size8
  have len : (KM.under A B m0 m1).rows.length = A.rows.length + B.rows.length + 1 := by
    show (List.length (_ :: _)) = _
    rw [List.length_cons, List.length_map, List.length_append, List.length_map, List.length_map]
  have mem : ∀ r ∈ (KM.under A B m0 m1).rows, r = KM.underHead m0 m1 A.rows.length ∨ (∃ r' ∈ A.rows, r = KM.padRow 8 (KM.movedRow 1 r')) ∨ ∃ r' ∈ B.rows, r = KM.padRow 8 (KM.movedRow (1 + A.rows.length) r') := by
    intro r h
    rcases List.mem_cons.mp h with h | h
    · exact .inl h
    · obtain ⟨r1, h1, rfl⟩ := List.mem_map.mp h
      rcases List.mem_append.mp h1 with h1 | h1
      · obtain ⟨r2, h2, rfl⟩ := List.mem_map.mp h1
        exact .inr (.inl ⟨r2, h2, rfl⟩)
      · obtain ⟨r2, h2, rfl⟩ := List.mem_map.mp h1
        exact .inr (.inr ⟨r2, h2, rfl⟩)
  refine ⟨by show 1 ≤ 8; decide, by show 8 ≤ 8; decide, by rw [len]; omega, by rw [len]; omega, fun r h => ?_, fun r h e he => ?_, fun r h m s hm => ?_⟩
  · show r.steps.length = 8
    rcases mem r h with rfl | ⟨r', h', rfl⟩ | ⟨r', h', rfl⟩
    · rfl
    · refine pad_len 8 _ ?_
      show (r'.steps.map _).length ≤ 8
      rw [List.length_map, VA.len r' h']; exact sA
    · refine pad_len 8 _ ?_
      show (r'.steps.map _).length ≤ 8
      rw [List.length_map, VB.len r' h']; exact sB
  · rcases mem r h with rfl | ⟨r', h', rfl⟩ | ⟨r', h', rfl⟩
    · cases he
    · exact VA.fins r' h' e he
    · exact VB.fins r' h' e he
  · rw [len]
    rcases mem r h with rfl | ⟨r', h', rfl⟩ | ⟨r', h', rfl⟩
    · rcases List.mem_cons.mp hm with hm | hm
      · cases hm; exact ⟨h0, by omega⟩
      · rcases List.mem_cons.mp hm with hm | hm
        · cases hm; exact ⟨h1, by omega⟩
        · have := List.eq_of_mem_replicate hm
          cases this
    · obtain ⟨j, hj, rfl⟩ := moved_mem (pad_mem hm)
      have := VA.mores r' h' m j hj
      omega
    · obtain ⟨j, hj, rfl⟩ := moved_mem (pad_mem hm)
      have := VB.mores r' h' m j hj
      omega
theorem behind_valid {A B : Mach} (DA : Drawn A) (DB : Drawn B) (s7 : A.size ≤ 7) : KM.Valid (KM.behind A B) := by
  obtain ⟨VA, fewA, endsA⟩ := DA
  obtain ⟨VB, fewB, _⟩ := DB
  have rA := VA.rows1
  have rB := VB.rows1
  have sB := VB.size8
  have len : (KM.behind A B).rows.length = A.rows.length + B.rows.length := by
    show (List.length (_ ++ _)) = _
    rw [List.length_append, List.length_map, List.length_map, List.length_map]
  have mem : ∀ r ∈ (KM.behind A B).rows, (∃ r' ∈ A.rows, r = KM.behindRow A.rows.length r') ∨ ∃ r' ∈ B.rows, r = KM.padRow 8 (KM.movedRow A.rows.length r') := by
    intro r h
    rcases List.mem_append.mp h with h | h
    · obtain ⟨r2, h2, rfl⟩ := List.mem_map.mp h
      exact .inl ⟨r2, h2, rfl⟩
    · obtain ⟨r1, h1, rfl⟩ := List.mem_map.mp h
      obtain ⟨r2, h2, rfl⟩ := List.mem_map.mp h1
      exact .inr ⟨r2, h2, rfl⟩
  refine ⟨by show 1 ≤ 8; decide, by show 8 ≤ 8; decide, by rw [len]; omega, by rw [len]; omega, fun r h => ?_, fun r h e he => ?_, fun r h m s hm => ?_⟩
  · show r.steps.length = 8
    rcases mem r h with ⟨r', h', rfl⟩ | ⟨r', h', rfl⟩
    · show (KM.padTo 7 r'.steps ++ [_]).length = 8
      rw [List.length_append, pad_len 7 _ (by rw [VA.len r' h']; exact s7)]; rfl
    · refine pad_len 8 _ ?_
      show (r'.steps.map _).length ≤ 8
      rw [List.length_map, VB.len r' h']; exact sB
  · rcases mem r h with ⟨r', h', rfl⟩ | ⟨r', h', rfl⟩
    · cases he
    · exact VB.fins r' h' e he
  · rw [len]
    rcases mem r h with ⟨r', h', rfl⟩ | ⟨r', h', rfl⟩
    · rcases List.mem_append.mp hm with hm | hm
      · have := VA.mores r' h' m s (pad_mem hm)
        omega
      · have hm := List.mem_singleton.mp hm
        cases hf : r'.fin with
        | none => rw [hf] at hm; cases hm
        | some e =>
          rw [hf] at hm
          have hm : some (m, s) = some (e, A.rows.length) := hm
          cases hm
          have := endsA r' h' m hf
          omega
    · obtain ⟨j, hj, rfl⟩ := moved_mem (pad_mem hm)
      have := VB.mores r' h' m j hj
      omega
/-! ### what the totals are -/
def oMul : Option Rat → Option Rat → Option Rat
  | some x, some y => if x = 0 ∨ y = 0 then some 0 else some (x * y)
  | some x, none => if x = 0 then some 0 else none
  | none, some y => if y = 0 then some 0 else none
  | none, none => none
theorem co_of_tot {M : Mach} (V : KM.Valid M) {r : Option Rat} (h : KM.IsTot M r) : KM.Co M 0 ↔ r ≠ some 0 := by
  constructor
  · rintro hc rfl
    have := KM.tot_co h hc
    exact absurd this (by decide)
  · intro hr
    apply Classical.byContradiction
    intro hc
    exact hr (h.unique V (KM.tot_no hc))
theorem under_tot {A B : Mach} (VA : KM.Valid A) (VB : KM.Valid B) {m0 m1 : Nat} {r s : Option Rat} (hA : KM.IsTot A r) (hB : KM.IsTot B s) : KM.IsTot (KM.under A B m0 m1) (oAdd (r.map fun q => KM.half m0 * q) (s.map fun q => KM.half m1 * q)) := by
  cases r with
  | none => exact KM.under_noneA VA VB hA
  | some r => cases s with
    | none => exact KM.under_noneB VA VB hB
    | some s => exact KM.under_some VA VB hA hB
/-- the law's three ways -/
theorem behind_zero {A B : Mach} (VA : KM.Valid A) (VB : KM.Valid B) {r s : Option Rat} (hA : KM.IsTot A r) (hB : KM.IsTot B s) (h : r = some 0 ∨ s = some 0) : KM.IsTot (KM.behind A B) (some 0) := by
  refine KM.behind_nought VA VB fun ⟨cA, cB⟩ => ?_
  rcases h with h | h
  · exact (co_of_tot VA hA).mp cA h
  · exact (co_of_tot VB hB).mp cB h
theorem behind_none {A B : Mach} (VA : KM.Valid A) (VB : KM.Valid B) {r s : Option Rat} (hA : KM.IsTot A r) (hB : KM.IsTot B s) (h1 : r ≠ some 0) (h2 : s ≠ some 0) (h : r = none ∨ s = none) : KM.IsTot (KM.behind A B) none := by
  have cA := (co_of_tot VA hA).mpr h1
  have cB := (co_of_tot VB hB).mpr h2
  rcases h with rfl | rfl
  · exact KM.behind_noneA VA VB cA cB hA
  · exact KM.behind_noneB VA VB cA hB
theorem behind_prod {A B : Mach} (VA : KM.Valid A) (VB : KM.Valid B) {r s : Rat} (hA : KM.IsTot A (some r)) (hB : KM.IsTot B (some s)) (h1 : some r ≠ some 0) (h2 : some s ≠ some 0) : KM.IsTot (KM.behind A B) (some (r * s)) :=
  KM.behind_some VA VB ((co_of_tot VA hA).mpr h1) ((co_of_tot VB hB).mpr h2) hA hB
section
variable {P : Program} {w : World} {K : PySem.W.Frag} {mg : Str → Option Value} {base : Heap} {aN aO : Addr}
abbrev sLaw : Stmt := topS 63
abbrev nLaw : List Str := ["_law_script", "_law_pot_here", "_law_one", "_law_other", "_law_first", "_law_second", "_law_mores", "_law_told", "_law_due", "_law_twice_here"]
theorem scLaw : FnScope nLaw ["_law_script"] (defScope sLaw) := ⟨rfl, rfl, rfl, by decide +kernel, rfl, by decide +kernel, by decide +kernel⟩
def spLaw (K : PySem.W.Frag) : Sp := fun vs H Q _ => ∃ (a : Addr) (ns : List Int), vs = [.ref a] ∧ SqL K H a (ns.map V.int) ∧ ∀ H', Q (.bl true) H'
/-- from the twice-standing machine on -/
def tTail (K : PySem.W.Frag) : TS := fun D σ H => ∃ (x0 x3 x5 x6 x7 x8 : Option V) (p g s : Addr) (v1 z1 : V) (A : Mach) (r1 : Option Rat), σ = [x0, some (.ref p), some v1, x3, some z1, x5, x6, x7, x8, none] ∧ Pot H p g s ∧ MachA K H v1 A ∧ Drawn A ∧ KM.IsTot A r1 ∧ OFrA K H z1 r1 ∧ ∀ H', D.rt (.bl true) H'
theorem ok_law {f0 : Addr} {fd0 : FuncData} (F : Fun K "law" "law" sLaw f0 fd0) (T : Txt K mg aN aO)
    (O1 : Ok P w K mg base 1 "_law_pot" ["_law_script"] (spLPot K))
    (O2 : Ok P w K mg base 3 "_law_machine" ["_law_pot_here", "_law_most", "_law_mores"] (spLMachine K))
    (O3 : Ok P w K mg base 3 "_law_menu" ["_law_pot_here"] spLMenu)
    (O4 : Ok P w K mg base 4 "_law_total" ["_law_machine_here"] (spLTotal K))
    (O5 : Ok P w K mg base 8 "total" ["machine"] (spTotal K))
    (O6 : Ok P w K mg base 1 "_law_later" ["_law_machine_here"] (spLLater K))
    (O7 : Ok P w K mg base 3 "_law_part" ["_law_one", "_law_more"] (spLPart K))
    (O8 : Ok P w K mg base 1 "_law_draw" ["_law_pot_here", "_law_many"] spLDraw)
    (O9 : Ok P w K mg base 2 "_law_any" ["_law_pot_here", "_law_items"] spLAny)
    (O10 : Ok P w K mg base 2 "_law_under" ["_law_one", "_law_other", "_law_mores"] (spLUnder K))
    (O11 : Ok P w K mg base 4 "_law_sum" ["_law_one", "_law_other"] (spLSum K))
    (O12 : Ok P w K mg base 2 "_law_behind" ["_law_one", "_law_other"] (spLBehind K))
    (O13 : Ok P w K mg base 2 "_law_reduced" ["_law_top", "_law_bottom"] (spFraction K))
    (O14 : Ok P w K mg base 2 "_law_twice" ["_law_pot_here", "_law_machine_here"] (spLTwice K))
    (O15 : Ok P w K mg base 8 "worths" ["machine"] (spWorths K)) : FnOk P w K mg base CX0 9 f0 fd0 ["_law_script"] (spLaw K) := by
  refine F.ok scLaw (fun vs H Q E h => ?_) (fun cdv A outer s H vs Q E hr h => ?_)
  · obtain ⟨a, ns, rfl, _⟩ := h; rfl
  · obtain ⟨a, ns, rfl, ha, q⟩ := h
    have nd := scLaw.nd
    have hr1 := hr.mono (show 1 ≤ 8 by decide)
    have hr2 := hr.mono (show 2 ≤ 8 by decide)
    have hr3 := hr.mono (show 3 ≤ 8 by decide)
    have hr4 := hr.mono (show 4 ≤ 8 by decide)
    refine ⟨_, pss_cons (ps_set (i := 1) nd rfl (Or.inl rfl) (pe_fn O1 hr1 (pa_cons (pv 0) pa_nil)))
      (pss_cons (ps_par (i := 2) (j := 3) rfl nd rfl rfl (by decide) rfl rfl (pa_cons (pe_fn O2 hr3 (pa_cons (pv 1) (pa_cons pe_int (pa_cons (pe_fn O3 hr3 (pa_cons (pv 1) pa_nil)) pa_nil)))) (pa_cons (pe_fn O2 hr3 (pa_cons (pv 1) (pa_cons pe_int (pa_cons (pe_fn O3 hr3 (pa_cons (pv 1) pa_nil)) pa_nil)))) pa_nil)) rfl)
      (pss_cons (ps_par (i := 4) (j := 5) rfl nd rfl rfl (by decide) rfl rfl (pa_cons (pe_fn O4 hr4 (pa_cons (pv 2) pa_nil)) (pa_cons (pe_fn O4 hr4 (pa_cons (pv 3) pa_nil)) pa_nil)) rfl)
      (pss_cons (ps_if (pt_cmpR (op_neO hr.units) (pe_fn O5 hr (pa_cons (pe_fn O6 hr1 (pa_cons (pv 2) pa_nil)) pa_nil)) (pe_fn O7 hr3 (pa_cons (pv 4) (pa_cons pe_int pa_nil))) (nomark _)) (pss_one (ps_ret pe_bl)) pss_nil)
      (pss_cons (ps_set (i := 6) nd rfl (Or.inl rfl) (pe_lst (pa_cons (pe_fn O8 hr1 (pa_cons (pv 1) (pa_cons pe_int pa_nil))) (pa_cons (pe_fn O9 hr2 (pa_cons (pv 1) (pa_cons (pe_lst (pa_cons pe_int (pa_cons pe_int (pa_cons pe_int (pa_cons pe_int pa_nil))))) pa_nil))) pa_nil))))
      (pss_cons (ps_if (pt_cmpR (op_neO hr.units) (pe_fn O5 hr (pa_cons (pe_fn O10 hr2 (pa_cons (pv 2) (pa_cons (pv 3) (pa_cons (pv 6) pa_nil)))) pa_nil))
          (pe_fn O11 hr4 (pa_cons (pe_fn O7 hr3 (pa_cons (pv 4) (pa_cons (pe_ix ix_list (pv 6) pe_int (fun _ _ => rfl)) pa_nil))) (pa_cons (pe_fn O7 hr3 (pa_cons (pv 5) (pa_cons (pe_ix ix_list (pv 6) pe_int (fun _ _ => rfl)) pa_nil))) pa_nil))) (nomark _)) (pss_one (ps_ret pe_bl)) pss_nil)
      (pss_cons (ps_if (pt_cmpR op_lt (pe_ix ix_tup (pv 2) pe_int (fun _ _ => rfl)) pe_int (nomark _))
        (pss_cons (ps_set (i := 7) nd rfl (Or.inl rfl) (pe_fn O5 hr (pa_cons (pe_fn O12 hr2 (pa_cons (pv 2) (pa_cons (pv 3) pa_nil))) pa_nil)))
        (pss_cons (ps_if (PW.pt (pw_or (pt_cmpR (op_eqO hr.units) (pv 4) (pe_tup (pa_cons pe_int (pa_cons pe_int pa_nil))) (nomark _)) (pw_or1 (pt_cmpR (op_eqO hr.units) (pv 5) (pe_tup (pa_cons pe_int (pa_cons pe_int pa_nil))) (nomark _)))))
            (pss_one (ps_set (i := 8) nd rfl (Or.inl rfl) (pe_tup (pa_cons pe_int (pa_cons pe_int pa_nil)))))
            (pss_one (ps_if (PW.pt (pw_or (pt_cmpR op_isN (pv 4) pe_non (nomark _)) (pw_or1 (pt_cmpR op_isN (pv 5) pe_non (nomark _)))))
              (pss_one (ps_set (i := 8) nd rfl (Or.inl rfl) pe_non))
              (pss_one (ps_set (i := 8) nd rfl (Or.inl rfl) (pe_fn O13 hr2 (pa_cons (pe_op op_mulW (pe_ix ix_tup (pv 4) pe_int (fun _ _ => rfl)) (pe_ix ix_tup (pv 5) pe_int (fun _ _ => rfl))) (pa_cons (pe_op op_mulW (pe_ix ix_tup (pv 4) pe_int (fun _ _ => rfl)) (pe_ix ix_tup (pv 5) pe_int (fun _ _ => rfl))) pa_nil))))))))
        (pss_one (ps_if (pt_cmpR (op_neO hr.units) (pv 7) (pv 8) (nomark _)) (pss_one (ps_ret pe_bl)) pss_nil)))) pss_nil)
      (pss_read (t' := tTail K) (pss_cons (ps_set (i := 9) nd rfl (Or.inl rfl) (pe_fn O14 hr2 (pa_cons (pv 1) (pa_cons (pv 2) pa_nil))))
        (pss_cons (ps_if (pt_cmpR (op_neO hr.units) (pe_fn O5 hr (pa_cons (pv 9) pa_nil)) (pv 4) (nomark _)) (pss_one (ps_ret pe_bl)) pss_nil)
        (pss_one (ps_ret (pe_ifExp (pt_cmpR op_isN (pv 4) pe_non (nomark _)) (pe_cmpR op_isN (pe_fn O15 hr (pa_cons (pv 9) pa_nil)) pe_non (nomark _))
          (pe_cmpR (op_eqO hr.units) (pe_ix ix_tup (pe_fn O15 hr (pa_cons (pv 9) pa_nil)) pe_int (fun _ _ => rfl)) (pv 4) (nomark _))))))) (fun D σ H h => by
        obtain ⟨x0, x3, x5, x6, x7, x8, p, g, s, v1, z1, A, r1, rfl, hP, hM, DA, hT, hZ, q⟩ := h
        refine ⟨_, rfl, _, rfl, p, g, s, v1, A, rfl, hP, hM, DA.ok, fun H2 z Dm f2 P2 hz tw => ?_⟩
        have hZ2 := hZ.keep (Fr.tup hP f2)
        have few := DA.few
        have VD := twice_valid DA.ok tw (by omega)
        have hTD := tw.tot DA.ok VD hT
        refine ⟨_, rfl, z, Dm, rfl, hz, VD, fun H3 y r s3 h1 h2 => ⟨_, rfl, r, r1, h2, hZ2.keep (same_tup s3), _, rfl, ?_⟩⟩
        have er := h1.unique VD hTD
        refine iteBF (by rw [er]; simp) ?_
        have hZ3 := hZ2.keep (same_tup s3)
        have hz3 := hz.keep (same_tup s3)
        cases r1 with
        | none =>
          obtain rfl : z1 = .non := hZ
          refine ⟨_, rfl, rfl, _, rfl, iteD rfl ?_⟩
          exact ⟨_, rfl, z, Dm, rfl, hz3, VD, fun H4 zz x s4 h4 _ => (by have := h4.unique VD hTD; cases this), fun H4 s4 _ => ⟨rfl, qB rfl (q H4)⟩⟩
        | some r1 =>
          obtain ⟨az, rfl, taz⟩ := id hZ3
          refine ⟨_, rfl, rfl, _, rfl, iteDN (by intro z; cases z) ?_⟩
          refine ⟨_, rfl, z, Dm, rfl, hz3, VD, fun H4 zz x s4 h4 h5 => ?_, fun H4 s4 h4 => (by have := h4.unique VD hTD; cases this)⟩
          have ex := h4.unique VD hTD
          obtain ⟨t, xs, rfl, ht, lx, hx⟩ := h5
          have r1' := (KM.trim_valid VD).rows1
          obtain ⟨y0, hy0⟩ : ∃ y0, xs[0]? = some y0 := ⟨_, List.getElem?_eq_getElem (by omega)⟩
          exact ⟨t, _, _, _, rfl, rfl, ht.sq, atI_nat (j := 0) hy0, _, rfl, some (x 0), some r1, hx 0 y0 hy0, OFrA.keep (r := some r1) (same_tup s4) hZ3, qB ex (q H4)⟩)))))))), ?_⟩
    refine ⟨_, rfl, a, ns, rfl, ha, fun H1 p g s0 P1 => ?_⟩
    -- the machines
    refine ⟨_, rfl, _, rfl, p, g, s0, rfl, P1, fun H2 b ms f2 P2 hb nbp nbg nbs m0 m1000 m60 => ⟨p, g, s0, b, ms, rfl, P2, hb, nbp, nbg, nbs, m0, m1000, m60, fun H3 v1 A f3 P3 hA DA => ?_⟩⟩
    refine ⟨_, rfl, _, rfl, p, g, s0, rfl, P3, fun H4 b' ms' f4 P4 hb' nbp' nbg' nbs' m0' m1000' m60' => ⟨p, g, s0, b', ms', rfl, P4, hb', nbp', nbg', nbs', m0', m1000', m60', fun H5 v2 B f5 P5 hB DB => ?_⟩⟩
    refine ⟨_, _, rfl, ?_⟩
    have hA5 := hA.keep (Fr.tup P3 (f4.trans f5))
    -- the totals
    refine ⟨_, rfl, v1, A, rfl, hA5, DA.ok, DA.few, fun H6 z1 r1 s6 t1 o1 sm1 => ⟨_, rfl, v2, B, rfl, hB.keep (same_tup s6), DB.ok, DB.few, fun H7 z2 r2 s7 t2 o2 sm2 => ⟨_, _, rfl, ?_⟩⟩⟩
    have s57 := s6.trans s7
    have hA7 := hA5.keep (same_tup s57)
    have hB7 := hB.keep (same_tup s57)
    have o1_7 := o1.keep (same_tup s7)
    have P7 := P5.same s57
    have hsm : ∀ {r : Option Rat} {m : Nat}, oSmall 4223 r → m ≤ 60 → oSmall 4500 (r.map fun q => KM.half m * q) := by
      intro r m h hm x hx
      cases r with
      | none => cases hx
      | some r =>
        have hx : KM.half m * r = x := Option.some.inj hx
        rw [← hx]
        exact small_mono (small_mul (KM.half_small hm) (h r rfl)) (by decide)
    have up : ∀ {r : Option Rat}, oSmall 4223 r → oSmall 4400 r := fun h r hr => small_mono (h r hr) (by decide)
    -- the later ends
    refine ⟨_, rfl, v1, A, rfl, hA7, DA.ok, fun H8 z s8 hz => ⟨z, KM.later A, rfl, hz, later_valid DA, fun H9 y r s9 h1 h2 => ?_⟩⟩
    refine ⟨_, rfl, z1, r1, 1, rfl, o1_7.keep (same_tup (s8.trans s9)), up sm1, by decide, fun H10 u s10 hu => ⟨r, _, h2.keep (same_tup s10), hu, _, rfl, ?_⟩⟩
    refine iteBF (by rw [h1.unique (later_valid DA) (KM.later_tot t1)]; simp) ?_
    have s710 := (s8.trans s9).trans s10
    have P10 := P7.same s710
    have hA10 := hA7.keep (same_tup s710)
    have hB10 := hB7.keep (same_tup s710)
    have o1_10 := o1_7.keep (same_tup s710)
    have o2_10 := o2.keep (same_tup s710)
    clear h1 h2 hz hu
    -- mores
    refine ⟨_, rfl, p, g, s0, 4, rfl, P10, by decide, by decide, fun H11 m0 f11 P11 hm0 => ?_⟩
    refine ⟨_, rfl, by show 4 ≤ sizeLine; decide, fun l nl => ?_⟩
    have cl := P11.ne nl
    refine ⟨p, g, s0, l, _, rfl, P11.new nl, upd_same, cl.1, cl.2.1, by simp, by simp, fun H12 x f12 P12 hx => ?_⟩
    have f1012 := (f11.trans (same_fr (same_new nl))).trans f12
    obtain ⟨m1, rfl, hm1⟩ : ∃ m1 : Nat, x = .int (m1 : Int) ∧ m1 ≤ 60 := by
      simp only [List.mem_cons, List.not_mem_nil, or_false] at hx
      rcases hx with rfl | rfl | rfl | rfl
      · exact ⟨0, rfl, by decide⟩
      · exact ⟨1, rfl, by decide⟩
      · exact ⟨9, rfl, by decide⟩
      · exact ⟨60, rfl, by decide⟩
    refine ⟨by show 2 ≤ sizeLine; decide, fun L nL => ?_⟩
    have k13 := same_new (o := .lst [.int (m0 : Int), .int (m1 : Int)]) nL
    have g13 := (Fr.tup P10 f1012).trans (same_tup k13)
    have P13 := P12.same k13
    have hL13 : upd H12 L (.lst [.int (m0 : Int), .int (m1 : Int)]) L = some (.lst [.int (m0 : Int), .int (m1 : Int)]) := upd_same
    generalize upd H12 L (.lst [.int (m0 : Int), .int (m1 : Int)]) = H13 at g13 P13 hL13
    have hA13 := hA10.keep g13
    have hB13 := hB10.keep g13
    have o1_13 := o1_10.keep g13
    have o2_13 := o2_10.keep g13
    -- under a first letter
    have VU := under_valid DA DB (m0 := m0) (m1 := m1) (by omega) hm1
    refine ⟨_, rfl, _, rfl, _, rfl, v1, v2, L, A, B, m0, m1, rfl, hA13, hB13, DA.ok, DB.ok, hL13, fun H14 z s14 hz => ⟨z, KM.under A B m0 m1, rfl, hz, VU, fun H15 y r s15 h1 h2 => ?_⟩⟩
    have s1315 := s14.trans s15
    refine ⟨_, rfl, _, rfl, L, _, _, _, rfl, rfl, SqL.of (s1315 _ _ hL13), atI_nat (j := 0) rfl, z1, r1, m0, rfl, o1_13.keep (same_tup s1315), up sm1, by omega, fun H16 u1 s16 hu1 => ?_⟩
    have s1316 := s1315.trans s16
    refine ⟨_, rfl, _, rfl, L, _, _, _, rfl, rfl, SqL.of (s1316 _ _ hL13), atI_nat (j := 1) rfl, z2, r2, m1, rfl, o2_13.keep (same_tup s1316), up sm2, hm1, fun H17 u2 s17 hu2 => ?_⟩
    refine ⟨u1, u2, _, _, rfl, hu1.keep (same_tup s17), hu2, hsm sm1 (by omega), hsm sm2 hm1, fun H18 zz s18 hzz => ⟨r, _, h2.keep (same_tup ((s16.trans s17).trans s18)), hzz, _, rfl, ?_⟩⟩
    refine iteBF (by rw [h1.unique VU (under_tot DA.ok DB.ok t1 t2)]; simp) ?_
    have s1318 := (s1316.trans s17).trans s18
    have P18 := P13.same s1318
    have hA18 := hA13.keep (same_tup s1318)
    have hB18 := hB13.keep (same_tup s1318)
    have o1_18 := o1_13.keep (same_tup s1318)
    have o2_18 := o2_13.keep (same_tup s1318)
    clear h1 h2 hz hu1 hu2 hzz
    -- one behind the other
    obtain ⟨aA, uA, rfl, tA, _⟩ := id hA18
    refine ⟨_, rfl, aA, _, _, _, rfl, rfl, tA.sq, atI_nat (j := 0) rfl, (A.size : Int), 8, rfl, rfl, _, rfl, ?_⟩
    refine ite2 (fun hc => ?_) (fun hc => ?_)
    · have sz7 : A.size ≤ 7 := by have : (A.size : Int) < 8 := of_decide_eq_true hc; omega
      have VB := behind_valid DA DB sz7
      refine ⟨_, rfl, _, rfl, .ref aA, v2, A, B, rfl, hA18, hB18, DA.ok, DB.ok, sz7, fun H19 z s19 hz => ⟨z, KM.behind A B, rfl, hz, VB, fun H20 told rT s20 h1 h2 => ?_⟩⟩
      have s1820 := s19.trans s20
      have P20 := P18.same s1820
      have hA20 := hA18.keep (same_tup s1820)
      have o1_20 := o1_18.keep (same_tup s1820)
      have o2_20 := o2_18.keep (same_tup s1820)
      refine ⟨_, rfl, by show 2 ≤ sizeLine; decide, fun tz ntz => ?_⟩
      have k1 := same_new (o := .tup [.int 0, .int 1]) ntz
      refine ⟨r1, some 0, o1_20.keep (same_tup k1), ⟨tz, rfl, .inl upd_same⟩, _, rfl, ?_⟩
      by_cases e1 : r1 = some 0
      · refine iteD e1 (iteT ?_)
        have eT := h1.unique VB (behind_zero DA.ok DB.ok t1 t2 (.inl e1))
        refine ⟨by show 2 ≤ sizeLine; decide, fun td ntd => ?_⟩
        have kd := k1.trans (same_new (o := .tup [.int 0, .int 1]) ntd)
        have hd : OFrA K (upd (upd H20 tz (.tup [.int 0, .int 1])) td (.tup [.int 0, .int 1])) (.ref td) (some 0) := ⟨td, rfl, .inl upd_same⟩
        refine ⟨_, rfl, _, rfl, rT, _, OFrA.keep (same_tup kd) h2, hd, _, rfl, iteBF (by rw [eT]; simp) ?_⟩
        exact ⟨_, _, _, _, _, _, p, g, s0, _, z1, A, _, rfl, (P20.same kd), MachA.keep (same_tup kd) hA20, DA, t1, OFrA.keep (same_tup kd) o1_20, q⟩
      · refine iteDN e1 ⟨_, rfl, by show 2 ≤ sizeLine; decide, fun tz2 ntz2 => ?_⟩
        have k2 := k1.trans (same_new (o := .tup [.int 0, .int 1]) ntz2)
        refine ⟨r2, some 0, o2_20.keep (same_tup k2), ⟨tz2, rfl, .inl upd_same⟩, _, rfl, ?_⟩
        by_cases e2 : r2 = some 0
        · refine iteD e2 ?_
          have eT := h1.unique VB (behind_zero DA.ok DB.ok t1 t2 (.inr e2))
          refine ⟨by show 2 ≤ sizeLine; decide, fun td ntd => ?_⟩
          have kd := k2.trans (same_new (o := .tup [.int 0, .int 1]) ntd)
          have hd : OFrA K (upd (upd (upd H20 tz (.tup [.int 0, .int 1])) tz2 (.tup [.int 0, .int 1])) td (.tup [.int 0, .int 1])) (.ref td) (some 0) := ⟨td, rfl, .inl upd_same⟩
          refine ⟨_, rfl, _, rfl, rT, _, OFrA.keep (same_tup kd) h2, hd, _, rfl, iteBF (by rw [eT]; simp) ?_⟩
          exact ⟨_, _, _, _, _, _, p, g, s0, _, z1, A, _, rfl, (P20.same kd), MachA.keep (same_tup kd) hA20, DA, t1, OFrA.keep (same_tup kd) o1_20, q⟩
        · refine iteDN e2 ?_
          have hdN : OFrA K (upd (upd H20 tz (.tup [.int 0, .int 1])) tz2 (.tup [.int 0, .int 1])) .non none := rfl
          cases r1 with
          | none =>
            have eT := h1.unique VB (behind_none DA.ok DB.ok t1 t2 e1 e2 (.inl rfl))
            have ez : z1 = .non := o1_20
            refine ⟨_, rfl, rfl, _, rfl, iteD ez (iteT ?_)⟩
            refine ⟨_, rfl, _, rfl, rT, _, OFrA.keep (same_tup k2) h2, hdN, _, rfl, iteBF (by rw [eT]; simp) ?_⟩
            exact ⟨_, _, _, _, _, _, p, g, s0, _, z1, A, _, rfl, (P20.same k2), MachA.keep (same_tup k2) hA20, DA, t1, OFrA.keep (same_tup k2) o1_20, q⟩
          | some x =>
            obtain ⟨az, rfl, taz⟩ := id (o1_20.keep (same_tup k2))
            refine ⟨_, rfl, rfl, _, rfl, iteDN (by intro z; cases z) ?_⟩
            cases r2 with
            | none =>
              have eT := h1.unique VB (behind_none DA.ok DB.ok t1 t2 e1 e2 (.inr rfl))
              have ez : z2 = .non := o2_20
              refine ⟨_, rfl, rfl, _, rfl, iteD ez ?_⟩
              refine ⟨_, rfl, _, rfl, rT, _, OFrA.keep (same_tup k2) h2, hdN, _, rfl, iteBF (by rw [eT]; simp) ?_⟩
              exact ⟨_, _, _, _, _, _, p, g, s0, _, _, A, _, rfl, (P20.same k2), MachA.keep (same_tup k2) hA20, DA, t1, OFrA.keep (same_tup k2) o1_20, q⟩
            | some y =>
              have eT := h1.unique VB (behind_prod DA.ok DB.ok t1 t2 e1 e2)
              obtain ⟨ay, rfl, tay⟩ := id (o2_20.keep (same_tup k2))
              refine ⟨_, rfl, rfl, _, rfl, iteDN (by intro z; cases z) ?_⟩
              obtain ⟨x1, x2⟩ := small_bits (sm1 x rfl)
              obtain ⟨y1, y2⟩ := small_bits (sm2 y rfl)
              refine ⟨_, rfl, az, _, _, _, rfl, rfl, taz.sq, atI_nat (j := 0) rfl, _, rfl, ay, _, _, _, rfl, rfl, tay.sq, atI_nat (j := 0) rfl, _, _, rfl, rfl, wide_mul x1 y1 (by decide) (by decide) (by decide), ?_⟩
              refine ⟨_, rfl, az, _, _, _, rfl, rfl, taz.sq, atI_nat (j := 1) rfl, _, rfl, ay, _, _, _, rfl, rfl, tay.sq, atI_nat (j := 1) rfl, _, _, rfl, rfl, wide_mul x2 y2 (by decide) (by decide) (by decide), ?_⟩
              refine ⟨_, _, rfl, Int.mul_ne_zero (den_ne x) (den_ne y), Nat.lt_of_lt_of_le (wide_lt x2 y2) (Nat.pow_le_pow_right (by decide) (by decide)), fun Hz due sz hdue => ?_⟩
              have e : x * y = Rat.divInt (x.num * y.num) ((x.den : Int) * (y.den : Int)) := by
                rw [Rat.mul_def', ← Int.natCast_mul, Rat.divInt_ofNat]
              rw [← e] at hdue
              have kd := k2.trans sz
              have hd : OFrA K Hz due (some (x * y)) := hdue
              refine ⟨_, rfl, _, rfl, rT, _, OFrA.keep (same_tup kd) h2, hd, _, rfl, iteBF (by rw [eT]; simp) ?_⟩
              exact ⟨_, _, _, _, _, _, p, g, s0, _, _, A, _, rfl, (P20.same kd), MachA.keep (same_tup kd) hA20, DA, t1, OFrA.keep (same_tup kd) o1_20, q⟩
    · exact ⟨_, _, _, _, _, _, p, g, s0, _, z1, A, _, rfl, P18, hA18, DA, t1, o1_18, q⟩
end
end KW

set_option Elab.async false
set_option linter.all false
set_option maxRecDepth 100000
set_option maxHeartbeats 4000000
/-! The join: every def by its promise; what the top has left. -/
namespace KW
open PySem PySem.Spec PyProof.Rows L2 KR KP
open KM (Mach All2)
theorem at_mk {K : PySem.W.Frag} {h : Heap} {mg : Str → Option Value} {x : Str} {st : Stmt} {ps : List Str} {f : Addr} {od an : Option Addr} {sl : Array (Option Value)} {oc kV dc pm cd ct : Value} (X : K.In h) (G : h.Ns mainGlobals mg)
    (a : PySem.W.nsIn K mainGlobals x = some (some (.ref f))) (l : K.lookup f = some ⟨oc, od, .func (PySem.W.fnOf x x (defArgs st) (defBody st) (defScope st) .none kV dc pm an cd ct), sl⟩) (c : PySem.W.codeIn K cd x = true) (k : PySem.W.keepIn K (.ref f) = true)
    (b : ∀ (F : Fun K x x st f (PySem.W.fnOf x x (defArgs st) (defBody st) (defScope st) .none kV dc pm an cd ct)), Binds K (PySem.W.fnOf x x (defArgs st) (defBody st) (defScope st) .none kV dc pm an cd ct) ps []) : At K mg x st ps :=
  ⟨f, _, PySem.W.mg_of X G a, fun_mk (st := st) l c k, b (fun_mk (st := st) l c k)⟩
theorem txt_mk {K : PySem.W.Frag} {h : Heap} {mg : Str → Option Value} {aN aO : Addr} {dN dO : Option Addr} {sN sO : Array (Option Value)} {tN0 tN1 tO0 tO1 t1 t2 t3 t4 t5 : Tok} {nN nO : Nat} (X : K.In h) (G : h.Ns mainGlobals mg)
    (z_len : PySem.W.nsIn K mainGlobals "len" = some none)
    (z_range : PySem.W.nsIn K mainGlobals "range" = some none)
    (z_isinstance : PySem.W.nsIn K mainGlobals "isinstance" = some none)
    (z_all : PySem.W.nsIn K mainGlobals "all" = some none)
    (z_any : PySem.W.nsIn K mainGlobals "any" = some none)
    (z_tuple : PySem.W.nsIn K mainGlobals "tuple" = some none)
    (z_list : PySem.W.nsIn K mainGlobals "list" = some none)
    (z_sorted : PySem.W.nsIn K mainGlobals "sorted" = some none)
    (z_enumerate : PySem.W.nsIn K mainGlobals "enumerate" = some none)
    (z_zip : PySem.W.nsIn K mainGlobals "zip" = some none)
    (z_abs : PySem.W.nsIn K mainGlobals "abs" = some none)
    (z_int : PySem.W.nsIn K mainGlobals "int" = some none)
    (z_sum : PySem.W.nsIn K mainGlobals "sum" = some none)
    (z_dict : PySem.W.nsIn K mainGlobals "dict" = some none)
    (z_bool : PySem.W.nsIn K mainGlobals "bool" = some none)
    (z_gcd : PySem.W.nsIn K mainGlobals "gcd" = some (some (.builtin "math.gcd")))
    (z_N : PySem.W.nsIn K mainGlobals "NOUGHT" = some (some (.ref aN))) (z_lN : K.lookup aN = some ⟨.type "tuple", dN, .seq #[.int 0 tN0, .int 1 tN1] nN, sN⟩)
    (z_O : PySem.W.nsIn K mainGlobals "ONE" = some (some (.ref aO))) (z_lO : K.lookup aO = some ⟨.type "tuple", dO, .seq #[.int 1 tO0, .int 1 tO1] nO, sO⟩)
    (z_MOST_SIZE : PySem.W.nsIn K mainGlobals "MOST_SIZE" = some (some (.int 8 t1)))
    (z_MOST_STATES : PySem.W.nsIn K mainGlobals "MOST_STATES" = some (some (.int 30 t2)))
    (z_MOST_MORE : PySem.W.nsIn K mainGlobals "MOST_MORE" = some (some (.int 60 t3)))
    (z_SIZE : PySem.W.nsIn K mainGlobals "SIZE" = some (some (.int 0 t4)))
    (z_ROWS : PySem.W.nsIn K mainGlobals "ROWS" = some (some (.int 1 t5)))
    : Txt K mg aN aO :=
  { len := PySem.W.mg_none_of X G z_len, range := PySem.W.mg_none_of X G z_range, isinstance := PySem.W.mg_none_of X G z_isinstance, all_ := PySem.W.mg_none_of X G z_all, any_ := PySem.W.mg_none_of X G z_any, tuple := PySem.W.mg_none_of X G z_tuple, list := PySem.W.mg_none_of X G z_list, sorted := PySem.W.mg_none_of X G z_sorted, enumerate := PySem.W.mg_none_of X G z_enumerate, zip := PySem.W.mg_none_of X G z_zip, abs_ := PySem.W.mg_none_of X G z_abs, int_ := PySem.W.mg_none_of X G z_int, sum_ := PySem.W.mg_none_of X G z_sum, dict_ := PySem.W.mg_none_of X G z_dict, bool_ := PySem.W.mg_none_of X G z_bool
    gcd := PySem.W.mg_of X G z_gcd
    nought := ⟨_, PySem.W.mg_of X G z_N, rfl⟩
    noughtT := ⟨_, _, _, z_lN, rfl, rfl, by show 2 ≤ sizeLine; decide, .cons ⟨_, rfl⟩ (.cons ⟨_, rfl⟩ .nil)⟩
    one := ⟨_, PySem.W.mg_of X G z_O, rfl⟩
    oneT := ⟨_, _, _, z_lO, rfl, rfl, by show 2 ≤ sizeLine; decide, .cons ⟨_, rfl⟩ (.cons ⟨_, rfl⟩ .nil)⟩
    msize := ⟨_, PySem.W.mg_of X G z_MOST_SIZE, _, rfl⟩
    mstates := ⟨_, PySem.W.mg_of X G z_MOST_STATES, _, rfl⟩
    mmore := ⟨_, PySem.W.mg_of X G z_MOST_MORE, _, rfl⟩
    size := ⟨_, PySem.W.mg_of X G z_SIZE, _, rfl⟩
    rows := ⟨_, PySem.W.mg_of X G z_ROWS, _, rfl⟩
  }
theorem all_mk {l : PySem.W.OpenLaw} {w : World} {K : PySem.W.Frag} {h : Heap} {mg : Str → Option Value} {fa f0 aN aO : Addr} {od an : Option Addr} {sl : Array (Option Value)} {oc kV dc pm cd ct : Value} (X : K.In h) (G : h.Ns mainGlobals mg) (hfa : mg "law" = some (.ref fa))
    (T : Txt K mg aN aO)
    (D_is_integer : At K mg "is_integer" sIsInt ["thing"])
    (D_is_between : At K mg "is_between" sIsBetween ["thing", "least", "most"])
    (D_is_index : At K mg "is_index" sIsIndex ["thing", "many"])
    (D_is_tuple_of : At K mg "is_tuple_of" sIsTupleOf ["thing", "many"])
    (D_is_size : At K mg "is_size" sIsSize ["thing"])
    (D_is_step : At K mg "is_step" sIsStep ["thing", "states"])
    (D_is_row : At K mg "is_row" sIsRow ["thing", "size", "states"])
    (D_is_machine : At K mg "is_machine" sIsMachine ["thing"])
    (D_check_machine : At K mg "check_machine" sCheckMachine ["thing"])
    (D_fraction : At K mg "fraction" sFraction ["top", "bottom"])
    (D_minus : At K mg "minus" sMinus ["one", "other"])
    (D_times : At K mg "times" sTimes ["one", "other"])
    (D_divided : At K mg "divided" sDivided ["one", "other"])
    (D_is_less : At K mg "is_less" sIsLess ["one", "other"])
    (D_half_to : At K mg "half_to" sHalfTo ["many"])
    (D_reached : At K mg "reached" sReached ["machine"])
    (D_ending : At K mg "ending" sEnding ["machine"])
    (D_raw_trimmed : At K mg "raw_trimmed" sRawTrimmed ["machine"])
    (D_less_times : At K mg "less_times" sLessTimes ["row", "other", "factor"])
    (D_first_with : At K mg "first_with" sFirstWith ["rows", "column", "begin"])
    (D_solved : At K mg "solved" sSolved ["rows", "many"])
    (D_rests : At K mg "rests" sRests ["machine"])
    (D_raw_worths : At K mg "raw_worths" sRawWorths ["machine"])
    (D_worths : At K mg "worths" sWorths ["machine"])
    (D_raw_total : At K mg "raw_total" sRawTotal ["machine"])
    (D_total : At K mg "total" sTotal ["machine"])
    (D__law_pot : At K mg "_law_pot" sLPot ["_law_script"])
    (D__law_draw : At K mg "_law_draw" sLDraw ["_law_pot_here", "_law_many"])
    (D__law_any : At K mg "_law_any" sLAny ["_law_pot_here", "_law_items"])
    (D__law_power : At K mg "_law_power" sLPower ["_law_many"])
    (D__law_menu : At K mg "_law_menu" sLMenu ["_law_pot_here"])
    (D__law_machine : At K mg "_law_machine" sLMachine ["_law_pot_here", "_law_most", "_law_mores"])
    (D__law_gcd : At K mg "_law_gcd" sLGcd ["_law_one", "_law_other"])
    (D__law_reduced : At K mg "_law_reduced" sLReduced ["_law_top", "_law_bottom"])
    (D__law_plus : At K mg "_law_plus" sLPlus ["_law_one", "_law_other"])
    (D__law_sum : At K mg "_law_sum" sLSum ["_law_one", "_law_other"])
    (D__law_part : At K mg "_law_part" sLPart ["_law_one", "_law_more"])
    (D__law_moved : At K mg "_law_moved" sLMoved ["_law_rows", "_law_many"])
    (D__law_later : At K mg "_law_later" sLLater ["_law_machine_here"])
    (D__law_under : At K mg "_law_under" sLUnder ["_law_one", "_law_other", "_law_mores"])
    (D__law_behind : At K mg "_law_behind" sLBehind ["_law_one", "_law_other"])
    (D__law_twice : At K mg "_law_twice" sLTwice ["_law_pot_here", "_law_machine_here"])
    (D__law_trim : At K mg "_law_trim" sLTrim ["_law_machine_here"])
    (D__law_lighter : At K mg "_law_lighter" sLLighter ["_law_row"])
    (D__law_worths : At K mg "_law_worths" sLWorths ["_law_small"])
    (D__law_total : At K mg "_law_total" sLTotal ["_law_machine_here"])
    (la : PySem.W.nsIn K mainGlobals "law" = some (some (.ref f0))) (ll : K.lookup f0 = some ⟨oc, od, .func (PySem.W.fnOf "law" "law" (defArgs sLaw) (defBody sLaw) (defScope sLaw) .none kV dc pm an cd ct), sl⟩) (lc : PySem.W.codeIn K cd "law" = true) (lk : PySem.W.keepIn K (.ref f0) = true) :
    ∃ fd : FuncData, (∀ (s : Shared) (v : Value), BindsTo s fd ⟨[v], []⟩ [("_law_script", v)]) ∧ ∀ base : Heap, K.In base → base.Ns mainGlobals mg → FnOk l.prog w K mg base CX0 9 fa fd ["_law_script"] (spLaw K) := by
  have e := hfa.symm.trans (PySem.W.mg_of X G la)
  cases e
  refine ⟨PySem.W.fnOf "law" "law" (defArgs sLaw) (defBody sLaw) (defScope sLaw) .none kV dc pm an cd ct, fun s v => .of_eq rfl, fun base _ _ => ?_⟩
  have O_is_integer := ok_is_integer (P := l.prog) (w := w) (base := base) T D_is_integer
  have O_is_between := ok_is_between (P := l.prog) (w := w) (base := base) D_is_between (by assumption)
  have O_is_index := ok_is_index (P := l.prog) (w := w) (base := base) D_is_index (by assumption)
  have O_is_tuple_of := ok_is_tuple_of (P := l.prog) (w := w) (base := base) T D_is_tuple_of
  have O_is_size := ok_is_size (P := l.prog) (w := w) (base := base) T D_is_size (by assumption)
  have O_is_step := ok_is_step (P := l.prog) (w := w) (base := base) T D_is_step (by assumption) (by assumption) (by assumption)
  have O_is_row := ok_is_row (P := l.prog) (w := w) (base := base) T D_is_row (by assumption) (by assumption) (by assumption)
  have O_is_machine := ok_is_machine (P := l.prog) (w := w) (base := base) T D_is_machine (by assumption) (by assumption) (by assumption)
  have O_check_machine := ok_check_machine (P := l.prog) (w := w) (base := base) D_check_machine (by assumption)
  have O_fraction := ok_fraction (P := l.prog) (w := w) (base := base) T D_fraction
  have O_minus := ok_minus (P := l.prog) (w := w) (base := base) D_minus (by assumption)
  have O_times := ok_times (P := l.prog) (w := w) (base := base) D_times (by assumption)
  have O_divided := ok_divided (P := l.prog) (w := w) (base := base) D_divided (by assumption)
  have O_is_less := ok_is_less (P := l.prog) (w := w) (base := base) D_is_less
  have O_half_to := ok_half_to (P := l.prog) (w := w) (base := base) D_half_to
  have O_reached := ok_reached (P := l.prog) (w := w) (base := base) T D_reached
  have O_ending := ok_ending (P := l.prog) (w := w) (base := base) T D_ending
  have O_raw_trimmed := ok_raw_trimmed (P := l.prog) (w := w) (base := base) T D_raw_trimmed (by assumption) (by assumption)
  have O_less_times := ok_less_times (P := l.prog) (w := w) (base := base) T D_less_times (by assumption) (by assumption)
  have O_first_with := ok_first_with (P := l.prog) (w := w) (base := base) T D_first_with
  have O_solved := ok_solved (P := l.prog) (w := w) (base := base) T D_solved (by assumption) (by assumption) (by assumption)
  have O_rests := ok_rests (P := l.prog) (w := w) (base := base) T D_rests (by assumption) (by assumption)
  have O_raw_worths := ok_raw_worths (P := l.prog) (w := w) (base := base) T D_raw_worths (by assumption) (by assumption) (by assumption)
  have O_worths := ok_worths (P := l.prog) (w := w) (base := base) D_worths (by assumption) (by assumption) (by assumption)
  have O_raw_total := ok_raw_total (P := l.prog) (w := w) (base := base) D_raw_total (by assumption) (by assumption)
  have O_total := ok_total (P := l.prog) (w := w) (base := base) D_total (by assumption) (by assumption)
  have O__law_pot := ok_lpot (P := l.prog) (w := w) (base := base) T D__law_pot
  have O__law_draw := ok_ldraw (P := l.prog) (w := w) (base := base) T D__law_draw
  have O__law_any := ok_lany (P := l.prog) (w := w) (base := base) T D__law_any (by assumption)
  have O__law_power := ok_lpower (P := l.prog) (w := w) (base := base) T D__law_power
  have O__law_menu := ok_lmenu (P := l.prog) (w := w) (base := base) T D__law_menu (by assumption)
  have O__law_machine := ok_lmachine (P := l.prog) (w := w) (base := base) T D__law_machine (by assumption) (by assumption)
  have O__law_gcd := ok_lgcd (P := l.prog) (w := w) (base := base) T D__law_gcd
  have O__law_reduced := ok_lreduced (P := l.prog) (w := w) (base := base) D__law_reduced (by assumption)
  have O__law_plus := ok_lplus (P := l.prog) (w := w) (base := base) D__law_plus (by assumption)
  have O__law_sum := ok_lsum (P := l.prog) (w := w) (base := base) D__law_sum (by assumption)
  have O__law_part := ok_lpart (P := l.prog) (w := w) (base := base) D__law_part (by assumption) (by assumption)
  have O__law_moved := ok_lmoved (P := l.prog) (w := w) (base := base) T D__law_moved
  have O__law_later := ok_llater (P := l.prog) (w := w) (base := base) T D__law_later
  have O__law_under := ok_lunder (P := l.prog) (w := w) (base := base) T D__law_under (by assumption)
  have O__law_behind := ok_lbehind (P := l.prog) (w := w) (base := base) T D__law_behind (by assumption)
  have O__law_twice := ok_ltwice (P := l.prog) (w := w) (base := base) T D__law_twice (by assumption)
  have O__law_trim := ok_ltrim (P := l.prog) (w := w) (base := base) T D__law_trim
  have O__law_lighter := ok_llighter (P := l.prog) (w := w) (base := base) T D__law_lighter (by assumption)
  have O__law_worths := ok_lworths (P := l.prog) (w := w) (base := base) T D__law_worths (by assumption) (by assumption) (by assumption)
  have O__law_total := ok_ltotal (P := l.prog) (w := w) (base := base) D__law_total (by assumption) (by assumption)
  exact ok_law (fun_mk (st := sLaw) ll lc lk) T (by assumption) (by assumption) (by assumption) (by assumption) (by assumption) (by assumption) (by assumption) (by assumption) (by assumption) (by assumption) (by assumption) (by assumption) (by assumption) (by assumption) (by assumption)
theorem walk {l : PySem.W.OpenLaw} {q : Program} {loose : List Str} {XP : (Str → Option Value) → Heap → Prop} {YP : World → Heap → Prop} {d : DefRec} {K : Params → PySem.W.Frag} (hn : l.most = some 63) (hdf : d.params.defaults = [])
    (hY : ∀ (w : World) (h : Heap), YP w h → (K w.params).In h)
    (F : ∀ (w : World) (mg : Str → Option Value) (fa : Addr) (h : Heap), (K w.params).In h → h.Ns mainGlobals mg → mg d.name = some (.ref fa) →
      ∃ fd : FuncData, (∀ (s : Shared) (u : Value), BindsTo s fd ⟨[u], []⟩ [("_law_script", u)]) ∧ ∀ base : Heap, (K w.params).In base → base.Ns mainGlobals mg → FnOk l.prog w (K w.params) mg base CX0 9 fa fd ["_law_script"] (spLaw (K w.params))) :
    PySem.W.WalkO q loose XP YP l.row.toRowW d [] (fun f vs => PySem.call f vs) :=
  L2.walk_of (n := 63) (k := 9) (x := "_law_script") (CX := fun _ => CX0) (sp := fun w => spLaw (K w.params)) hn (by decide) hdf ⟨rfl, by decide, by decide⟩ hY F (fun _ _ a ns _ _ hS => ⟨a, ns, rfl, hS, fun _ => rfl⟩) fun _ _ _ _ _ z => z
end KW

open PySem PySem.W PyProof.Rows in
set_option maxRecDepth 100000 in
set_option maxHeartbeats 0 in
theorem PySem.Challenge.cw_keptlengths_k14_whole_sums_of_machines_b_holds : PySem.Challenge.rw_keptlengths_k14_whole_sums_of_machines_b.Holds := by
  w_on; o_law; k_head; (case hw => w_witness2)
  k_fill
  refine KW.walk (l := PySem.Challenge.rw_keptlengths_k14_whole_sums_of_machines_b) rfl rfl (fun w h Y => PySem.W.kIn_of Y) ?F
  case F =>
    intro w mg fa h KX G hmg
    refine' KW.all_mk KX G hmg ?T ?D_is_integer ?D_is_between ?D_is_index ?D_is_tuple_of ?D_is_size ?D_is_step ?D_is_row ?D_is_machine ?D_check_machine ?D_fraction ?D_minus ?D_times ?D_divided ?D_is_less ?D_half_to ?D_reached ?D_ending ?D_raw_trimmed ?D_less_times ?D_first_with ?D_solved ?D_rests ?D_raw_worths ?D_worths ?D_raw_total ?D_total ?D__law_pot ?D__law_draw ?D__law_any ?D__law_power ?D__law_menu ?D__law_machine ?D__law_gcd ?D__law_reduced ?D__law_plus ?D__law_sum ?D__law_part ?D__law_moved ?D__law_later ?D__law_under ?D__law_behind ?D__law_twice ?D__law_trim ?D__law_lighter ?D__law_worths ?D__law_total ?la ?ll ?lc ?lk
    case T =>
      refine' KW.txt_mk KX G ?z_len ?z_range ?z_isinstance ?z_all ?z_any ?z_tuple ?z_list ?z_sorted ?z_enumerate ?z_zip ?z_abs ?z_int ?z_sum ?z_dict ?z_bool ?z_gcd ?z_N ?z_lN ?z_O ?z_lO ?z_MOST_SIZE ?z_MOST_STATES ?z_MOST_MORE ?z_SIZE ?z_ROWS
      (case z_len => k_is)
      (case z_range => k_is)
      (case z_isinstance => k_is)
      (case z_all => k_is)
      (case z_any => k_is)
      (case z_tuple => k_is)
      (case z_list => k_is)
      (case z_sorted => k_is)
      (case z_enumerate => k_is)
      (case z_zip => k_is)
      (case z_abs => k_is)
      (case z_int => k_is)
      (case z_sum => k_is)
      (case z_dict => k_is)
      (case z_bool => k_is)
      (case z_gcd => k_is)
      (case z_N => k_is)
      (case z_lN => k_is)
      (case z_O => k_is)
      (case z_lO => k_is)
      (case z_MOST_SIZE => k_is)
      (case z_MOST_STATES => k_is)
      (case z_MOST_MORE => k_is)
      (case z_SIZE => k_is)
      (case z_ROWS => k_is)
    case D_is_integer =>
      refine' KW.at_mk KX G ?a ?l ?c ?k (fun F => F.binds (ps := ["thing"]) fun _ _ _ _ _ _ us hl => match us, hl with | [_], _ => rfl)
      (case a => k_is)
      (case l => k_is)
      (case c => k_is)
      (case k => k_is)
    case D_is_between =>
      refine' KW.at_mk KX G ?a ?l ?c ?k (fun F => F.binds (ps := ["thing", "least", "most"]) fun _ _ _ _ _ _ us hl => match us, hl with | [_, _, _], _ => rfl)
      (case a => k_is)
      (case l => k_is)
      (case c => k_is)
      (case k => k_is)
    case D_is_index =>
      refine' KW.at_mk KX G ?a ?l ?c ?k (fun F => F.binds (ps := ["thing", "many"]) fun _ _ _ _ _ _ us hl => match us, hl with | [_, _], _ => rfl)
      (case a => k_is)
      (case l => k_is)
      (case c => k_is)
      (case k => k_is)
    case D_is_tuple_of =>
      refine' KW.at_mk KX G ?a ?l ?c ?k (fun F => F.binds (ps := ["thing", "many"]) fun _ _ _ _ _ _ us hl => match us, hl with | [_, _], _ => rfl)
      (case a => k_is)
      (case l => k_is)
      (case c => k_is)
      (case k => k_is)
    case D_is_size =>
      refine' KW.at_mk KX G ?a ?l ?c ?k (fun F => F.binds (ps := ["thing"]) fun _ _ _ _ _ _ us hl => match us, hl with | [_], _ => rfl)
      (case a => k_is)
      (case l => k_is)
      (case c => k_is)
      (case k => k_is)
    case D_is_step =>
      refine' KW.at_mk KX G ?a ?l ?c ?k (fun F => F.binds (ps := ["thing", "states"]) fun _ _ _ _ _ _ us hl => match us, hl with | [_, _], _ => rfl)
      (case a => k_is)
      (case l => k_is)
      (case c => k_is)
      (case k => k_is)
    case D_is_row =>
      refine' KW.at_mk KX G ?a ?l ?c ?k (fun F => F.binds (ps := ["thing", "size", "states"]) fun _ _ _ _ _ _ us hl => match us, hl with | [_, _, _], _ => rfl)
      (case a => k_is)
      (case l => k_is)
      (case c => k_is)
      (case k => k_is)
    case D_is_machine =>
      refine' KW.at_mk KX G ?a ?l ?c ?k (fun F => F.binds (ps := ["thing"]) fun _ _ _ _ _ _ us hl => match us, hl with | [_], _ => rfl)
      (case a => k_is)
      (case l => k_is)
      (case c => k_is)
      (case k => k_is)
    case D_check_machine =>
      refine' KW.at_mk KX G ?a ?l ?c ?k (fun F => F.binds (ps := ["thing"]) fun _ _ _ _ _ _ us hl => match us, hl with | [_], _ => rfl)
      (case a => k_is)
      (case l => k_is)
      (case c => k_is)
      (case k => k_is)
    case D_fraction =>
      refine' KW.at_mk KX G ?a ?l ?c ?k (fun F => F.binds (ps := ["top", "bottom"]) fun _ _ _ _ _ _ us hl => match us, hl with | [_, _], _ => rfl)
      (case a => k_is)
      (case l => k_is)
      (case c => k_is)
      (case k => k_is)
    case D_minus =>
      refine' KW.at_mk KX G ?a ?l ?c ?k (fun F => F.binds (ps := ["one", "other"]) fun _ _ _ _ _ _ us hl => match us, hl with | [_, _], _ => rfl)
      (case a => k_is)
      (case l => k_is)
      (case c => k_is)
      (case k => k_is)
    case D_times =>
      refine' KW.at_mk KX G ?a ?l ?c ?k (fun F => F.binds (ps := ["one", "other"]) fun _ _ _ _ _ _ us hl => match us, hl with | [_, _], _ => rfl)
      (case a => k_is)
      (case l => k_is)
      (case c => k_is)
      (case k => k_is)
    case D_divided =>
      refine' KW.at_mk KX G ?a ?l ?c ?k (fun F => F.binds (ps := ["one", "other"]) fun _ _ _ _ _ _ us hl => match us, hl with | [_, _], _ => rfl)
      (case a => k_is)
      (case l => k_is)
      (case c => k_is)
      (case k => k_is)
    case D_is_less =>
      refine' KW.at_mk KX G ?a ?l ?c ?k (fun F => F.binds (ps := ["one", "other"]) fun _ _ _ _ _ _ us hl => match us, hl with | [_, _], _ => rfl)
      (case a => k_is)
      (case l => k_is)
      (case c => k_is)
      (case k => k_is)
    case D_half_to =>
      refine' KW.at_mk KX G ?a ?l ?c ?k (fun F => F.binds (ps := ["many"]) fun _ _ _ _ _ _ us hl => match us, hl with | [_], _ => rfl)
      (case a => k_is)
      (case l => k_is)
      (case c => k_is)
      (case k => k_is)
    case D_reached =>
      refine' KW.at_mk KX G ?a ?l ?c ?k (fun F => F.binds (ps := ["machine"]) fun _ _ _ _ _ _ us hl => match us, hl with | [_], _ => rfl)
      (case a => k_is)
      (case l => k_is)
      (case c => k_is)
      (case k => k_is)
    case D_ending =>
      refine' KW.at_mk KX G ?a ?l ?c ?k (fun F => F.binds (ps := ["machine"]) fun _ _ _ _ _ _ us hl => match us, hl with | [_], _ => rfl)
      (case a => k_is)
      (case l => k_is)
      (case c => k_is)
      (case k => k_is)
    case D_raw_trimmed =>
      refine' KW.at_mk KX G ?a ?l ?c ?k (fun F => F.binds (ps := ["machine"]) fun _ _ _ _ _ _ us hl => match us, hl with | [_], _ => rfl)
      (case a => k_is)
      (case l => k_is)
      (case c => k_is)
      (case k => k_is)
    case D_less_times =>
      refine' KW.at_mk KX G ?a ?l ?c ?k (fun F => F.binds (ps := ["row", "other", "factor"]) fun _ _ _ _ _ _ us hl => match us, hl with | [_, _, _], _ => rfl)
      (case a => k_is)
      (case l => k_is)
      (case c => k_is)
      (case k => k_is)
    case D_first_with =>
      refine' KW.at_mk KX G ?a ?l ?c ?k (fun F => F.binds (ps := ["rows", "column", "begin"]) fun _ _ _ _ _ _ us hl => match us, hl with | [_, _, _], _ => rfl)
      (case a => k_is)
      (case l => k_is)
      (case c => k_is)
      (case k => k_is)
    case D_solved =>
      refine' KW.at_mk KX G ?a ?l ?c ?k (fun F => F.binds (ps := ["rows", "many"]) fun _ _ _ _ _ _ us hl => match us, hl with | [_, _], _ => rfl)
      (case a => k_is)
      (case l => k_is)
      (case c => k_is)
      (case k => k_is)
    case D_rests =>
      refine' KW.at_mk KX G ?a ?l ?c ?k (fun F => F.binds (ps := ["machine"]) fun _ _ _ _ _ _ us hl => match us, hl with | [_], _ => rfl)
      (case a => k_is)
      (case l => k_is)
      (case c => k_is)
      (case k => k_is)
    case D_raw_worths =>
      refine' KW.at_mk KX G ?a ?l ?c ?k (fun F => F.binds (ps := ["machine"]) fun _ _ _ _ _ _ us hl => match us, hl with | [_], _ => rfl)
      (case a => k_is)
      (case l => k_is)
      (case c => k_is)
      (case k => k_is)
    case D_worths =>
      refine' KW.at_mk KX G ?a ?l ?c ?k (fun F => F.binds (ps := ["machine"]) fun _ _ _ _ _ _ us hl => match us, hl with | [_], _ => rfl)
      (case a => k_is)
      (case l => k_is)
      (case c => k_is)
      (case k => k_is)
    case D_raw_total =>
      refine' KW.at_mk KX G ?a ?l ?c ?k (fun F => F.binds (ps := ["machine"]) fun _ _ _ _ _ _ us hl => match us, hl with | [_], _ => rfl)
      (case a => k_is)
      (case l => k_is)
      (case c => k_is)
      (case k => k_is)
    case D_total =>
      refine' KW.at_mk KX G ?a ?l ?c ?k (fun F => F.binds (ps := ["machine"]) fun _ _ _ _ _ _ us hl => match us, hl with | [_], _ => rfl)
      (case a => k_is)
      (case l => k_is)
      (case c => k_is)
      (case k => k_is)
    case D__law_pot =>
      refine' KW.at_mk KX G ?a ?l ?c ?k (fun F => F.binds (ps := ["_law_script"]) fun _ _ _ _ _ _ us hl => match us, hl with | [_], _ => rfl)
      (case a => k_is)
      (case l => k_is)
      (case c => k_is)
      (case k => k_is)
    case D__law_draw =>
      refine' KW.at_mk KX G ?a ?l ?c ?k (fun F => F.binds (ps := ["_law_pot_here", "_law_many"]) fun _ _ _ _ _ _ us hl => match us, hl with | [_, _], _ => rfl)
      (case a => k_is)
      (case l => k_is)
      (case c => k_is)
      (case k => k_is)
    case D__law_any =>
      refine' KW.at_mk KX G ?a ?l ?c ?k (fun F => F.binds (ps := ["_law_pot_here", "_law_items"]) fun _ _ _ _ _ _ us hl => match us, hl with | [_, _], _ => rfl)
      (case a => k_is)
      (case l => k_is)
      (case c => k_is)
      (case k => k_is)
    case D__law_power =>
      refine' KW.at_mk KX G ?a ?l ?c ?k (fun F => F.binds (ps := ["_law_many"]) fun _ _ _ _ _ _ us hl => match us, hl with | [_], _ => rfl)
      (case a => k_is)
      (case l => k_is)
      (case c => k_is)
      (case k => k_is)
    case D__law_menu =>
      refine' KW.at_mk KX G ?a ?l ?c ?k (fun F => F.binds (ps := ["_law_pot_here"]) fun _ _ _ _ _ _ us hl => match us, hl with | [_], _ => rfl)
      (case a => k_is)
      (case l => k_is)
      (case c => k_is)
      (case k => k_is)
    case D__law_machine =>
      refine' KW.at_mk KX G ?a ?l ?c ?k (fun F => F.binds (ps := ["_law_pot_here", "_law_most", "_law_mores"]) fun _ _ _ _ _ _ us hl => match us, hl with | [_, _, _], _ => rfl)
      (case a => k_is)
      (case l => k_is)
      (case c => k_is)
      (case k => k_is)
    case D__law_gcd =>
      refine' KW.at_mk KX G ?a ?l ?c ?k (fun F => F.binds (ps := ["_law_one", "_law_other"]) fun _ _ _ _ _ _ us hl => match us, hl with | [_, _], _ => rfl)
      (case a => k_is)
      (case l => k_is)
      (case c => k_is)
      (case k => k_is)
    case D__law_reduced =>
      refine' KW.at_mk KX G ?a ?l ?c ?k (fun F => F.binds (ps := ["_law_top", "_law_bottom"]) fun _ _ _ _ _ _ us hl => match us, hl with | [_, _], _ => rfl)
      (case a => k_is)
      (case l => k_is)
      (case c => k_is)
      (case k => k_is)
    case D__law_plus =>
      refine' KW.at_mk KX G ?a ?l ?c ?k (fun F => F.binds (ps := ["_law_one", "_law_other"]) fun _ _ _ _ _ _ us hl => match us, hl with | [_, _], _ => rfl)
      (case a => k_is)
      (case l => k_is)
      (case c => k_is)
      (case k => k_is)
    case D__law_sum =>
      refine' KW.at_mk KX G ?a ?l ?c ?k (fun F => F.binds (ps := ["_law_one", "_law_other"]) fun _ _ _ _ _ _ us hl => match us, hl with | [_, _], _ => rfl)
      (case a => k_is)
      (case l => k_is)
      (case c => k_is)
      (case k => k_is)
    case D__law_part =>
      refine' KW.at_mk KX G ?a ?l ?c ?k (fun F => F.binds (ps := ["_law_one", "_law_more"]) fun _ _ _ _ _ _ us hl => match us, hl with | [_, _], _ => rfl)
      (case a => k_is)
      (case l => k_is)
      (case c => k_is)
      (case k => k_is)
    case D__law_moved =>
      refine' KW.at_mk KX G ?a ?l ?c ?k (fun F => F.binds (ps := ["_law_rows", "_law_many"]) fun _ _ _ _ _ _ us hl => match us, hl with | [_, _], _ => rfl)
      (case a => k_is)
      (case l => k_is)
      (case c => k_is)
      (case k => k_is)
    case D__law_later =>
      refine' KW.at_mk KX G ?a ?l ?c ?k (fun F => F.binds (ps := ["_law_machine_here"]) fun _ _ _ _ _ _ us hl => match us, hl with | [_], _ => rfl)
      (case a => k_is)
      (case l => k_is)
      (case c => k_is)
      (case k => k_is)
    case D__law_under =>
      refine' KW.at_mk KX G ?a ?l ?c ?k (fun F => F.binds (ps := ["_law_one", "_law_other", "_law_mores"]) fun _ _ _ _ _ _ us hl => match us, hl with | [_, _, _], _ => rfl)
      (case a => k_is)
      (case l => k_is)
      (case c => k_is)
      (case k => k_is)
    case D__law_behind =>
      refine' KW.at_mk KX G ?a ?l ?c ?k (fun F => F.binds (ps := ["_law_one", "_law_other"]) fun _ _ _ _ _ _ us hl => match us, hl with | [_, _], _ => rfl)
      (case a => k_is)
      (case l => k_is)
      (case c => k_is)
      (case k => k_is)
    case D__law_twice =>
      refine' KW.at_mk KX G ?a ?l ?c ?k (fun F => F.binds (ps := ["_law_pot_here", "_law_machine_here"]) fun _ _ _ _ _ _ us hl => match us, hl with | [_, _], _ => rfl)
      (case a => k_is)
      (case l => k_is)
      (case c => k_is)
      (case k => k_is)
    case D__law_trim =>
      refine' KW.at_mk KX G ?a ?l ?c ?k (fun F => F.binds (ps := ["_law_machine_here"]) fun _ _ _ _ _ _ us hl => match us, hl with | [_], _ => rfl)
      (case a => k_is)
      (case l => k_is)
      (case c => k_is)
      (case k => k_is)
    case D__law_lighter =>
      refine' KW.at_mk KX G ?a ?l ?c ?k (fun F => F.binds (ps := ["_law_row"]) fun _ _ _ _ _ _ us hl => match us, hl with | [_], _ => rfl)
      (case a => k_is)
      (case l => k_is)
      (case c => k_is)
      (case k => k_is)
    case D__law_worths =>
      refine' KW.at_mk KX G ?a ?l ?c ?k (fun F => F.binds (ps := ["_law_small"]) fun _ _ _ _ _ _ us hl => match us, hl with | [_], _ => rfl)
      (case a => k_is)
      (case l => k_is)
      (case c => k_is)
      (case k => k_is)
    case D__law_total =>
      refine' KW.at_mk KX G ?a ?l ?c ?k (fun F => F.binds (ps := ["_law_machine_here"]) fun _ _ _ _ _ _ us hl => match us, hl with | [_], _ => rfl)
      (case a => k_is)
      (case l => k_is)
      (case c => k_is)
      (case k => k_is)
    (case la => k_is)
    (case ll => k_is)
    (case lc => k_is)
    (case lk => k_is)
