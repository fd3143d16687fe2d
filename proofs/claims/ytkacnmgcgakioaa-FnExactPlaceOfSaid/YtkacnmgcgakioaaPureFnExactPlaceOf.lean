/- PlaceOf of the program returns what the reference's returns, for all five arguments. No condition. -/
import Derived.Test.YtkacnmgcgakioaaPFnExactPlaceOfx1
namespace Go.Proofs.Ytkacnmgcgakioaa.Pure
open Go.RowKit Go.Proofs.Ytkacnmgcgakioaa.PFnExactPlaceOf Go.Proofs.YtkacnmgcgakioaaW.PrintWords Go.Proofs.YtkacnmgcgakioaaW.PrintLast Go.Proofs.YtkacnmgcgakioaaW.PrintMore
set_option linter.unusedVariables false
set_option linter.unusedSimpArgs false

theorem wrap_id {x : Int} (h1 : -9223372036854775808 ≤ x) (h2 : x ≤ 9223372036854775807) : wrap64 x = x := by unfold wrap64; omega
theorem wf_i64 {x : Int} (h : (Lit.int .i64 x).wf = true) : -9223372036854775808 ≤ x ∧ x ≤ 9223372036854775807 := by
  simp [Lit.wf, IntKind.min, IntKind.max, IntKind.bits, IntKind.signed] at h; omega
theorem mul_bounds {a b A B : Int} (h0 : 0 ≤ a) (hA : a ≤ A) (h1 : -B ≤ b) (h2 : b ≤ B) (hB : 0 ≤ B) : -(A * B) ≤ a * b ∧ a * b ≤ A * B := by
  have e1 := Int.mul_le_mul_of_nonneg_left h2 h0
  have e2 := Int.mul_le_mul_of_nonneg_right hA hB
  have e3 := Int.mul_le_mul_of_nonneg_left h1 h0
  have e4 : a * -B = -(a * B) := Int.mul_neg a B
  omega
theorem mul_nonneg' {a b : Int} (h0 : 0 ≤ a) (h1 : 0 ≤ b) : 0 ≤ a * b := Int.mul_nonneg h0 h1
theorem next_nat {j n : Nat} (h : j < n) (hn : n ≤ 4611686018427387904) : wrap64 ((j : Int) + 1) = ((j + 1 : Nat) : Int) := by
  rw [wrap_id (by omega) (by omega)]; omega
theorem rd_nat (l : List Int) (j : Nat) : rd l (j : Int) = l.getD j 0 := by unfold rd; simp
theorem ifp {α : Type} {c : Prop} [Decidable c] {a b : α} (h : c) : (if c then a else b) = a := if_pos h
theorem ifn {α : Type} {c : Prop} [Decidable c] {a b : α} (h : ¬ c) : (if c then a else b) = b := if_neg h
theorem suc_of {k d : Nat} (h : d < k) : ∃ m, k = m + 1 := ⟨k - 1, by omega⟩
theorem getD_lt {α : Type} {l : List α} {j : Nat} {d : α} (h : j < l.length) : l.getD j d = l[j] := by
  rw [List.getD_eq_getElem?_getD, List.getElem?_eq_getElem h]; rfl
theorem drop_cons {α : Type} (l : List α) {j : Nat} (h : j < l.length) (d : α) : l.drop j = l.getD j d :: l.drop (j + 1) := by
  rw [getD_lt h]; exact List.drop_eq_getElem_cons h
theorem up {α : Type} {g : Nat → Option α} (hm : ∀ k, LeO (g k) (g (k + 1))) {k0 : Nat} {r : α} (h : g k0 = some r) : ∀ k, k0 ≤ k → g k = some r := by
  intro k hk
  induction hk with
  | refl => exact h
  | step _ ih => exact hm _ _ ih

theorem spec_in (n lo hi : Int) : spec_l00In.f n lo hi = some (decide (lo ≤ n ∧ n ≤ hi)) := by unfold spec_l00In.f; split <;> simp <;> omega
theorem impl_in (n lo hi : Int) : impl_within.f n lo hi = some (decide (lo ≤ n ∧ n ≤ hi)) := by unfold impl_within.f; split <;> simp <;> omega

theorem max_def (a b : Int) : spec_l00Max.f a b = some (if a > b then a else b) := by unfold spec_l00Max.f; split <;> rfl
theorem min_def (a b : Int) : spec_l00Min.f a b = some (if a < b then a else b) := by unfold spec_l00Min.f; split <;> rfl
theorem FnExactPlaceOf : laws_FnExactPlaceOf.Pure := by
  intro a0 a1 a2 a3 a4 _ _ _ _ _
  refine ⟨3, ?_⟩
  unfold laws_FnExactPlaceOf.f
  have key : ∃ r, spec_PlaceOf.f 3 a0 a1 a2 a3 a4 = some r ∧ impl_PlaceOf.f 3 a0 a1 a2 a3 a4 = some r := by
    unfold spec_PlaceOf.f impl_PlaceOf.f
    simp only [spec_in, impl_in, Option.bind_some, decide_eq_true_eq]
    have bad : spec_PlaceOf.j0 3 a0 a1 a2 a3 a4 true = some (0, 0, 2) ∧ impl_PlaceOf.j0 3 a0 a1 a2 a3 a4 true = some (0, 0, 2) := by
      simp only [spec_PlaceOf.j0, impl_PlaceOf.j0]; simp
    by_cases h0 : 1 ≤ a0 ∧ a0 ≤ 10000
    · rw [if_pos h0, if_pos h0]
      by_cases h1 : 1 ≤ a1 ∧ a1 ≤ 2000
      · rw [if_pos h1, if_pos h1]
        by_cases h2 : 0 ≤ a2 ∧ a2 ≤ 100000
        · rw [if_pos h2, if_pos h2]
          by_cases h3 : 0 ≤ a3 ∧ a3 ≤ 100000
          · rw [if_pos h3, if_pos h3]
            by_cases h4 : 0 ≤ a4 ∧ a4 ≤ 10000
            · have e : (!decide (0 ≤ a4 ∧ a4 ≤ 10000)) = false := by simp [h4]
              rw [e]
              simp only [spec_PlaceOf.j0, impl_PlaceOf.j0]
              rw [if_neg (Bool.false_ne_true), if_neg (Bool.false_ne_true)]
              have m1 := mul_bounds (a := a1) (b := a2 - a3 + a4) (A := 2000) (B := 110000) (by omega) h1.2 (by omega) (by omega) (by omega)
              have m2 := mul_bounds (a := a1) (b := a2 - a3 - a4) (A := 2000) (B := 110000) (by omega) h1.2 (by omega) (by omega) (by omega)
              rw [wrap_id (x := 1000 * a0) (by omega) (by omega), wrap_id (x := a2 - a3) (by omega) (by omega), wrap_id (x := a2 - a3 + a4) (by omega) (by omega), wrap_id (x := a2 - a3 - a4) (by omega) (by omega), wrap_id (x := 2000 * a0) (by omega) (by omega)]
              generalize a1 * (a2 - a3 + a4) = y at *
              generalize a1 * (a2 - a3 - a4) = x at *
              rw [wrap_id (x := x) (by omega) (by omega), wrap_id (x := y) (by omega) (by omega), wrap_id (x := 1000 * a0 + x) (by omega) (by omega), wrap_id (x := 1000 * a0 + y) (by omega) (by omega)]
              by_cases c1 : 1000 * a0 + y ≤ -2000
              · rw [if_pos c1, if_pos c1]; simp only [spec_PlaceOf.j1]; exact ⟨_, rfl, rfl⟩
              · rw [if_neg c1, if_neg c1]
                simp only [spec_PlaceOf.j1]
                by_cases c2 : 1000 * a0 + x > 2000 * a0
                · rw [if_pos (by simpa using c2), if_pos c2]; exact ⟨_, rfl, rfl⟩
                · rw [if_neg (by simpa using c2), if_neg c2]
                  simp only [max_def, min_def, Option.bind_some]
                  unfold impl_divUp.f
                  rw [if_neg (show ¬ (2000 : Int) = 0 by decide)]
                  simp only [Option.bind_some]
                  refine ⟨_, rfl, ?_⟩
                  have q1 : 1000 * a0 + x ≤ 1000000000 := by omega
                  have q2 : 1000 * a0 + y ≤ 1000000000 := by omega
                  generalize 1000 * a0 + x = lo at *
                  generalize 1000 * a0 + y = hi at *
                  have ex : mx lo 0 = if 0 > lo then 0 else lo := by unfold mx; rfl
                  have ey : mx hi 0 = if 0 > hi then 0 else hi := by unfold mx; rfl
                  rw [ex, ey]
                  have bx : 0 ≤ (if 0 > lo then 0 else lo) ∧ (if 0 > lo then 0 else lo) ≤ 1000000000 := by split <;> omega
                  have bY : 0 ≤ (if 0 > hi then 0 else hi) ∧ (if 0 > hi then 0 else hi) ≤ 1000000000 := by split <;> omega
                  generalize (if 0 > lo then 0 else lo) = u at *
                  generalize (if 0 > hi then 0 else hi) = v at *
                  have t1 : Int.tdiv u 2000 = u / 2000 := Int.tdiv_eq_ediv_of_nonneg bx.1
                  have t2 : Int.tdiv (v + 1999) 2000 = (v + 1999) / 2000 := Int.tdiv_eq_ediv_of_nonneg (by omega)
                  rw [wrap_id (x := v + 2000) (by omega) (by omega), wrap_id (x := v + 2000 - 1) (by omega) (by omega), wrap_id (x := v + 1999) (by omega) (by omega), show v + 2000 - 1 = v + 1999 by omega, t1, t2, wrap_id (x := (v + 1999) / 2000) (by omega) (by omega)]
                  have em : mn ((v + 1999) / 2000) a0 = if a0 < (v + 1999) / 2000 then a0 else (v + 1999) / 2000 := by unfold mn; rfl
                  rw [em]
            · have e : (!decide (0 ≤ a4 ∧ a4 ≤ 10000)) = true := by simp only [Bool.not_eq_true', decide_eq_false_iff_not]; exact h4
              rw [e]; exact ⟨_, bad.1, bad.2⟩
          · rw [if_neg h3, if_neg h3]; exact ⟨_, bad.1, bad.2⟩
        · rw [if_neg h2, if_neg h2]; exact ⟨_, bad.1, bad.2⟩
      · rw [if_neg h1, if_neg h1]; exact ⟨_, bad.1, bad.2⟩
    · rw [if_neg h0, if_neg h0]; exact ⟨_, bad.1, bad.2⟩
  obtain ⟨r, h1, h2⟩ := key
  rw [h1, h2]; simp

end Go.Proofs.Ytkacnmgcgakioaa.Pure
