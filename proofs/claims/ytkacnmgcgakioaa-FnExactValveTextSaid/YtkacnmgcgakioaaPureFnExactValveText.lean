/- ValveText of the program returns what the reference's returns, for every valve. No condition. -/
import Derived.Test.YtkacnmgcgakioaaPFnExactValveTextx2
namespace Go.Proofs.Ytkacnmgcgakioaa.Pure
open Go.RowKit Go.Proofs.Ytkacnmgcgakioaa.PFnExactValveText Go.Proofs.YtkacnmgcgakioaaW.PrintWords Go.Proofs.YtkacnmgcgakioaaW.PrintLast Go.Proofs.YtkacnmgcgakioaaW.PrintMore
set_option linter.unusedVariables false
set_option linter.unusedSimpArgs false

theorem wrap_id {x : Int} (h1 : -9223372036854775808 ≤ x) (h2 : x ≤ 9223372036854775807) : wrap64 x = x := by unfold wrap64; omega
theorem wf_i64 {x : Int} (h : (Lit.int .i64 x).wf = true) : -9223372036854775808 ≤ x ∧ x ≤ 9223372036854775807 := by
  simp [Lit.wf, IntKind.min, IntKind.max, IntKind.bits, IntKind.signed] at h; omega
theorem mul_bounds {a b A B : Int} (h0 : 0 ≤ a) (hA : a ≤ A) (h1 : -B ≤ b) (h2 : b ≤ B) (hB : 0 ≤ B) : -(A * B) ≤ a * b ∧ a * b ≤ A * B := by
  have e1 := Int.mul_le_mul_of_nonneg_left h2 h0
  have e2 := Int.mul_le_mul_of_nonneg_right hA hB
  have e3 := Int.mul_le_mul_of_nonneg_left h1 h0
  have e4 : a * -B = -(a * B) := Int.mul_neg a B
  omega
theorem mul_nonneg' {a b : Int} (h0 : 0 ≤ a) (h1 : 0 ≤ b) : 0 ≤ a * b := Int.mul_nonneg h0 h1
theorem next_nat {j n : Nat} (h : j < n) (hn : n ≤ 4611686018427387904) : wrap64 ((j : Int) + 1) = ((j + 1 : Nat) : Int) := by
  rw [wrap_id (by omega) (by omega)]; omega
theorem rd_nat (l : List Int) (j : Nat) : rd l (j : Int) = l.getD j 0 := by unfold rd; simp
theorem ifp {α : Type} {c : Prop} [Decidable c] {a b : α} (h : c) : (if c then a else b) = a := if_pos h
theorem ifn {α : Type} {c : Prop} [Decidable c] {a b : α} (h : ¬ c) : (if c then a else b) = b := if_neg h
theorem suc_of {k d : Nat} (h : d < k) : ∃ m, k = m + 1 := ⟨k - 1, by omega⟩
theorem getD_lt {α : Type} {l : List α} {j : Nat} {d : α} (h : j < l.length) : l.getD j d = l[j] := by
  rw [List.getD_eq_getElem?_getD, List.getElem?_eq_getElem h]; rfl
theorem drop_cons {α : Type} (l : List α) {j : Nat} (h : j < l.length) (d : α) : l.drop j = l.getD j d :: l.drop (j + 1) := by
  rw [getD_lt h]; exact List.drop_eq_getElem_cons h
theorem up {α : Type} {g : Nat → Option α} (hm : ∀ k, LeO (g k) (g (k + 1))) {k0 : Nat} {r : α} (h : g k0 = some r) : ∀ k, k0 ≤ k → g k = some r := by
  intro k hk
  induction hk with
  | refl => exact h
  | step _ ih => exact hm _ _ ih

theorem name_same (s : ByteArray) : ∀ (k : Nat) (i : Int), spec_l01Name.l0 k s i = impl_onlyNameBytes.l0 k s (s.size : Int) i := by
  intro k
  induction k with
  | zero => intro i; simp only [spec_l01Name.l0, impl_onlyNameBytes.l0]
  | succ k ih =>
    intro i
    simp only [spec_l01Name.l0, impl_onlyNameBytes.l0]
    unfold spec_l01Small.f spec_l01Digit.f
    rw [ih]
    generalize impl_onlyNameBytes.l0 k s (s.size : Int) (wrap64 (i + 1)) = e
    generalize bt s i = b
    by_cases h1 : i < (s.size : Int)
    · rw [if_pos h1, if_pos h1, if_pos h1]
      by_cases h2 : 0 ≤ i
      · rw [if_pos h2, if_pos h2]
        by_cases c1 : b < 97
        · rw [if_pos c1, if_neg (by omega)]
          by_cases c2 : b < 48
          · rw [if_pos c2, if_neg (by omega)]; simp
          · rw [if_neg c2, if_pos (by omega)]
            by_cases c3 : b > 57
            · rw [if_pos c3, decide_eq_false (by omega)]; simp
            · rw [if_neg c3, decide_eq_true (by omega)]; simp
        · rw [if_neg c1, if_pos (by omega)]
          by_cases c4 : b > 122
          · rw [if_pos c4, decide_eq_false (by omega), if_pos (by omega), if_neg (by omega), decide_eq_false (by omega), if_pos (by omega)]; simp
          · rw [if_neg c4, decide_eq_true (by omega)]; simp
      · rw [if_neg h2, if_neg h2]
    · rw [if_neg h1, if_neg h1]
theorem name_total (s : ByteArray) (hs : s.size ≤ 35184372088832) : ∀ (d j k : Nat), j + d = s.size → d < k → ∃ r, impl_onlyNameBytes.l0 k s (s.size : Int) (j : Int) = some r := by
  intro d
  induction d with
  | zero =>
    intro j k hj hk
    obtain ⟨k, rfl⟩ := suc_of hk
    simp only [impl_onlyNameBytes.l0]
    rw [if_neg (by omega)]; exact ⟨_, rfl⟩
  | succ d ih =>
    intro j k hj hk
    obtain ⟨k, rfl⟩ := suc_of hk
    obtain ⟨r, hr⟩ := ih (j + 1) k (by omega) (by omega)
    simp only [impl_onlyNameBytes.l0]
    rw [if_pos (by omega), if_pos (by omega), if_pos (by omega), next_nat (n := s.size) (by omega) (by omega), hr]
    split
    · split
      · exact ⟨_, rfl⟩
      · split
        · exact ⟨_, rfl⟩
        · exact ⟨_, rfl⟩
    · split
      · split
        · exact ⟨_, rfl⟩
        · split
          · exact ⟨_, rfl⟩
          · exact ⟨_, rfl⟩
      · exact ⟨_, rfl⟩
/-- A name is one for both. -/
theorem name_both (s : ByteArray) (hs : s.size ≤ 35184372088832) : ∃ b : Bool, (∀ k, s.size + 3 ≤ k → spec_l01Name.f k s = some b) ∧ (∀ k, s.size + 3 ≤ k → impl_IsName.f k s = some b) ∧ (b = true → 1 ≤ s.size ∧ s.size ≤ 10) := by
  obtain ⟨r, hr⟩ := name_total s hs s.size 0 (s.size + 2) (by omega) (by omega)
  have hr3 : impl_onlyNameBytes.l0 (s.size + 3) s (s.size : Int) 0 = some r := impl_onlyNameBytes.mono_l (s.size + 2) s (s.size : Int) 0 r hr
  have hr2 : impl_onlyNameBytes.l0 (s.size + 2) s (s.size : Int) 0 = some r := hr
  have key : ∃ b : Bool, spec_l01Name.f (s.size + 3) s = some b ∧ impl_IsName.f (s.size + 3) s = some b ∧ (b = true → 1 ≤ s.size ∧ s.size ≤ 10) := by
    have bad : spec_l01Name.j0 (s.size + 3) s true = some false := by simp only [spec_l01Name.j0]; simp
    unfold spec_l01Name.f impl_IsName.f impl_onlyNameBytes.f
    by_cases h0 : s.size = 0
    · have e : s.toList = [] := by
        rw [ByteArray.toList_eq]; exact List.eq_nil_of_length_eq_zero (by rw [Array.length_toList]; exact h0)
      rw [if_pos e, if_pos (by omega), bad]; exact ⟨_, rfl, rfl, by simp⟩
    · have e : ¬ s.toList = [] := by
        rw [ByteArray.toList_eq]
        intro h
        have : s.data.toList.length = 0 := by rw [h]; rfl
        rw [Array.length_toList] at this
        exact h0 this
      rw [if_neg e, if_neg (show ¬ (s.size : Int) < 1 by omega)]
      by_cases h1 : (s.size : Int) > 10
      · rw [if_pos h1, if_pos h1, bad]; exact ⟨_, rfl, rfl, by simp⟩
      · rw [if_neg h1, if_neg h1, if_pos (by omega), if_pos (by omega)]
        unfold spec_l01Small.f
        by_cases c1 : bt s 0 < 97
        · rw [if_pos c1, if_neg (by omega)]
          simp only [Option.bind_some, Bool.not_false]
          exact ⟨_, bad, rfl, by simp⟩
        · rw [if_neg c1, if_pos (by omega)]
          by_cases c2 : bt s 0 > 122
          · rw [if_pos c2, decide_eq_false (by omega)]
            simp only [Option.bind_some, Bool.not_false]
            exact ⟨_, bad, rfl, by simp⟩
          · rw [if_neg c2, decide_eq_true (by omega), hr3]
            simp only [Option.bind_some, Bool.not_true]
            refine ⟨r, ?_, rfl, fun _ => by omega⟩
            simp only [spec_l01Name.j0]
            rw [if_neg Bool.false_ne_true, name_same]
            exact hr2
  obtain ⟨b, h1, h2, h3⟩ := key
  exact ⟨b, up (spec_l01Name.mono s) h1, up (impl_IsName.mono s) h2, h3⟩

theorem vtext_size (s p : ByteArray) : (s ++ (⟨#[32]⟩ : ByteArray)).size = s.size + 1 ∧ ((s ++ (⟨#[32]⟩ : ByteArray)) ++ p).size = s.size + 1 + p.size := by
  have e : (⟨#[32]⟩ : ByteArray).size = 1 := rfl
  constructor
  · rw [ByteArray.size_append, e]
  · rw [ByteArray.size_append, ByteArray.size_append, e]
theorem spec_vtext (s p : ByteArray) (t : Bool) (hs : s.size ≤ 10) (hp : p.size ≤ 10) : spec_l18Text.f [(⟨s, p, t⟩ : S31)] = some (((s ++ (⟨#[32]⟩ : ByteArray)) ++ p) ++ (if t = true then (⟨#[32, 116, 111]⟩ : ByteArray) else (⟨#[32, 102, 114, 111, 109]⟩ : ByteArray))) := by
  have e : rd_T31 [(⟨s, p, t⟩ : S31)] 0 = ⟨s, p, t⟩ := rfl
  obtain ⟨e1, e2⟩ := vtext_size s p
  unfold spec_l18Text.f
  rw [if_pos (by simp)]
  simp only [e, e1, e2]
  have h1 : s.size + 1 ≤ 9223372036854775807 := by omega
  have h2 : s.size + 1 + p.size ≤ 9223372036854775807 := by omega
  have h3 : s.size + 1 + p.size + 3 ≤ 9223372036854775807 := by omega
  have h4 : s.size + 1 + p.size + 5 ≤ 9223372036854775807 := by omega
  simp only [h1, h2, h3, h4, if_true]
  cases t <;> rfl
theorem impl_vtext (s p : ByteArray) (t : Bool) (hs : s.size ≤ 10) (hp : p.size ≤ 10) (k : Nat) : impl_ValveText.j0 (k + 1) false s p t = some (((s ++ (⟨#[32]⟩ : ByteArray)) ++ p) ++ (if t = true then (⟨#[32, 116, 111]⟩ : ByteArray) else (⟨#[32, 102, 114, 111, 109]⟩ : ByteArray))) := by
  obtain ⟨e1, e2⟩ := vtext_size s p
  simp only [impl_ValveText.j0]
  rw [if_neg Bool.false_ne_true]
  simp only [e1, e2]
  have h1 : s.size + 1 ≤ 9223372036854775807 := by omega
  have h2 : s.size + 1 + p.size ≤ 9223372036854775807 := by omega
  have h3 : s.size + 1 + p.size + 3 ≤ 9223372036854775807 := by omega
  have h4 : s.size + 1 + p.size + 5 ≤ 9223372036854775807 := by omega
  simp only [h1, h2, h3, h4, if_true]
  cases t <;> rfl
theorem szValve_def (s p : ByteArray) (t : Bool) (hs : s.size ≤ maxLen) (hp : p.size ≤ maxLen) : ∃ r, laws_szValve.f s p t 1048576 = some r ∧ (0 ≤ r → s.size ≤ 1048576 ∧ p.size ≤ 1048576) := by
  unfold laws_szValve.f
  simp only [maxLen] at hs hp
  rw [wrap_id (x := 1048576 - (s.size : Int)) (by omega) (by omega)]
  by_cases c : (1048576 : Int) - (s.size : Int) < 0
  · rw [if_pos c]; exact ⟨-1, rfl, fun h => by omega⟩
  · rw [if_neg c, wrap_id (x := 1048576 - (s.size : Int) - (p.size : Int)) (by omega) (by omega)]
    by_cases c2 : (1048576 : Int) - (s.size : Int) - (p.size : Int) < 0
    · rw [if_pos c2]; exact ⟨-1, rfl, fun h => by omega⟩
    · rw [if_neg c2]; exact ⟨_, rfl, fun h => by omega⟩
theorem FnExactValveText : laws_FnExactValveText.Pure := by
  intro x hx
  obtain ⟨s, p, t⟩ := x
  obtain ⟨hs, hp, _⟩ := hx
  obtain ⟨n, hn⟩ : ∃ n, n = 1048600 := ⟨_, rfl⟩
  refine ⟨n + 1, ?_⟩
  unfold laws_FnExactValveText.f
  obtain ⟨r, r1, r2⟩ := szValve_def s p t hs hp
  simp only [r1, Option.bind_some]
  by_cases h : r < 0
  · rw [if_pos h]
  · rw [if_neg h]
    obtain ⟨q1, q2⟩ := r2 (by omega)
    obtain ⟨a, a1, a2, a3⟩ := name_both s (by omega)
    obtain ⟨b, b1, b2, b3⟩ := name_both p (by omega)
    have bad : impl_ValveText.j0 (n + 1) true s p t = some ⟨#[]⟩ := by simp only [impl_ValveText.j0]; simp
    have key : ∃ u, spec_ValveText.f (n + 1) s p t = some u ∧ impl_ValveText.f (n + 1) s p t = some u := by
      unfold spec_ValveText.f impl_ValveText.f
      simp only [a1 (n + 1) (by omega), a2 (n + 1) (by omega), b1 (n + 1) (by omega), b2 (n + 1) (by omega), Option.bind_some]
      cases a
      · exact ⟨_, rfl, bad⟩
      · cases b
        · exact ⟨_, rfl, bad⟩
        · simp only [if_true, Bool.not_true]
          rw [spec_vtext s p t (a3 rfl).2 (b3 rfl).2, impl_vtext s p t (a3 rfl).2 (b3 rfl).2]
          exact ⟨_, rfl, rfl⟩
    obtain ⟨u, u1, u2⟩ := key
    unfold laws_toValve.f
    simp only [u1, u2, Option.bind_some, if_true]

end Go.Proofs.Ytkacnmgcgakioaa.Pure
