/- Bills grow with heat and power, the heat within some money is the greatest one, and tariffs are restored from their texts. No condition. -/
import Derived.Lib.AtoiTie
import Derived.Lib.AtoiAllCases
import Derived.Test.YtdhpmiocpjpabaaDoorPFnTariffsx11
namespace Go.Proofs.YtdhpmiocpjpabaaDoor.Pure
open Go.RowKit Go.Proofs.YtdhpmiocpjpabaaDoor.PFnTariffs Go.Proofs.YtdhpmiocpjpabaaDoorW.PrintWords Go.Proofs.YtdhpmiocpjpabaaDoorW.PrintLast Go.Proofs.YtdhpmiocpjpabaaDoorW.PrintMore
set_option linter.unusedVariables false
set_option linter.unusedSimpArgs false

theorem wrap_id {x : Int} (h1 : -9223372036854775808 ≤ x) (h2 : x ≤ 9223372036854775807) : wrap64 x = x := by unfold wrap64; omega
theorem mul_bounds {a b A B : Int} (h0 : 0 ≤ a) (hA : a ≤ A) (h1 : -B ≤ b) (h2 : b ≤ B) (hB : 0 ≤ B) : -(A * B) ≤ a * b ∧ a * b ≤ A * B := by
  have e1 := Int.mul_le_mul_of_nonneg_left h2 h0
  have e2 := Int.mul_le_mul_of_nonneg_right hA hB
  have e3 := Int.mul_le_mul_of_nonneg_left h1 h0
  have e4 : a * -B = -(a * B) := Int.mul_neg a B
  omega
theorem mul_nonneg' {a b : Int} (h0 : 0 ≤ a) (h1 : 0 ≤ b) : 0 ≤ a * b := Int.mul_nonneg h0 h1
theorem next_nat {j n : Nat} (h : j < n) (hn : n ≤ 4611686018427387904) : wrap64 ((j : Int) + 1) = ((j + 1 : Nat) : Int) := by
  rw [wrap_id (by omega) (by omega)]; omega
theorem rd_nat (l : List Int) (j : Nat) : rd l (j : Int) = l.getD j 0 := by unfold rd; simp
theorem suc_of {k d : Nat} (h : d < k) : ∃ m, k = m + 1 := ⟨k - 1, by omega⟩
theorem getD_lt {α : Type} {l : List α} {j : Nat} {d : α} (h : j < l.length) : l.getD j d = l[j] := by
  rw [List.getD_eq_getElem?_getD, List.getElem?_eq_getElem h]; rfl
theorem up {α : Type} {g : Nat → Option α} (hm : ∀ k, LeO (g k) (g (k + 1))) {k0 : Nat} {r : α} (h : g k0 = some r) : ∀ k, k0 ≤ k → g k = some r := by
  intro k hk
  induction hk with
  | refl => exact h
  | step _ ih => exact hm _ _ ih

theorem name_same (s : ByteArray) : ∀ (k : Nat) (i : Int), spec_l01Name.l0 k s i = impl_onlyNameBytes.l0 k s (s.size : Int) i := by
  intro k
  induction k with
  | zero => intro i; simp only [spec_l01Name.l0, impl_onlyNameBytes.l0]
  | succ k ih =>
    intro i
    simp only [spec_l01Name.l0, impl_onlyNameBytes.l0]
    unfold spec_l01Small.f spec_l01Digit.f
    rw [ih]
    generalize impl_onlyNameBytes.l0 k s (s.size : Int) (wrap64 (i + 1)) = e
    generalize bt s i = b
    by_cases h1 : i < (s.size : Int)
    · rw [if_pos h1, if_pos h1, if_pos h1]
      by_cases h2 : 0 ≤ i
      · rw [if_pos h2, if_pos h2]
        by_cases c1 : b < 97
        · rw [if_pos c1, if_neg (by omega)]
          by_cases c2 : b < 48
          · rw [if_pos c2, if_neg (by omega)]; simp
          · rw [if_neg c2, if_pos (by omega)]
            by_cases c3 : b > 57
            · rw [if_pos c3, decide_eq_false (by omega)]; simp
            · rw [if_neg c3, decide_eq_true (by omega)]; simp
        · rw [if_neg c1, if_pos (by omega)]
          by_cases c4 : b > 122
          · rw [if_pos c4, decide_eq_false (by omega), if_pos (by omega), if_neg (by omega), decide_eq_false (by omega), if_pos (by omega)]; simp
          · rw [if_neg c4, decide_eq_true (by omega)]; simp
      · rw [if_neg h2, if_neg h2]
    · rw [if_neg h1, if_neg h1]
theorem name_total (s : ByteArray) (hs : s.size ≤ 35184372088832) : ∀ (d j k : Nat), j + d = s.size → d < k → ∃ r, impl_onlyNameBytes.l0 k s (s.size : Int) (j : Int) = some r := by
  intro d
  induction d with
  | zero =>
    intro j k hj hk
    obtain ⟨k, rfl⟩ := suc_of hk
    simp only [impl_onlyNameBytes.l0]
    rw [if_neg (by omega)]; exact ⟨_, rfl⟩
  | succ d ih =>
    intro j k hj hk
    obtain ⟨k, rfl⟩ := suc_of hk
    obtain ⟨r, hr⟩ := ih (j + 1) k (by omega) (by omega)
    simp only [impl_onlyNameBytes.l0]
    rw [if_pos (by omega), if_pos (by omega), if_pos (by omega), next_nat (n := s.size) (by omega) (by omega), hr]
    split
    · split
      · exact ⟨_, rfl⟩
      · split
        · exact ⟨_, rfl⟩
        · exact ⟨_, rfl⟩
    · split
      · split
        · exact ⟨_, rfl⟩
        · split
          · exact ⟨_, rfl⟩
          · exact ⟨_, rfl⟩
      · exact ⟨_, rfl⟩
/-- A name is one for both. -/
theorem name_both (s : ByteArray) (hs : s.size ≤ 35184372088832) : ∃ b : Bool, (∀ k, s.size + 3 ≤ k → spec_l01Name.f k s = some b) ∧ (∀ k, s.size + 3 ≤ k → impl_IsName.f k s = some b) ∧ (b = true → 1 ≤ s.size ∧ s.size ≤ 10) := by
  obtain ⟨r, hr⟩ := name_total s hs s.size 0 (s.size + 2) (by omega) (by omega)
  have hr3 : impl_onlyNameBytes.l0 (s.size + 3) s (s.size : Int) 0 = some r := impl_onlyNameBytes.mono_l (s.size + 2) s (s.size : Int) 0 r hr
  have hr2 : impl_onlyNameBytes.l0 (s.size + 2) s (s.size : Int) 0 = some r := hr
  have key : ∃ b : Bool, spec_l01Name.f (s.size + 3) s = some b ∧ impl_IsName.f (s.size + 3) s = some b ∧ (b = true → 1 ≤ s.size ∧ s.size ≤ 10) := by
    have bad : spec_l01Name.j0 (s.size + 3) s true = some false := by simp only [spec_l01Name.j0]; simp
    unfold spec_l01Name.f impl_IsName.f impl_onlyNameBytes.f
    by_cases h0 : s.size = 0
    · have e : s.toList = [] := by
        rw [ByteArray.toList_eq]; exact List.eq_nil_of_length_eq_zero (by rw [Array.length_toList]; exact h0)
      rw [if_pos e, if_pos (by omega), bad]; exact ⟨_, rfl, rfl, by simp⟩
    · have e : ¬ s.toList = [] := by
        rw [ByteArray.toList_eq]
        intro h
        have : s.data.toList.length = 0 := by rw [h]; rfl
        rw [Array.length_toList] at this
        exact h0 this
      rw [if_neg e, if_neg (show ¬ (s.size : Int) < 1 by omega)]
      by_cases h1 : (s.size : Int) > 10
      · rw [if_pos h1, if_pos h1, bad]; exact ⟨_, rfl, rfl, by simp⟩
      · rw [if_neg h1, if_neg h1, if_pos (by omega), if_pos (by omega)]
        unfold spec_l01Small.f
        by_cases c1 : bt s 0 < 97
        · rw [if_pos c1, if_neg (by omega)]
          simp only [Option.bind_some, Bool.not_false]
          exact ⟨_, bad, rfl, by simp⟩
        · rw [if_neg c1, if_pos (by omega)]
          by_cases c2 : bt s 0 > 122
          · rw [if_pos c2, decide_eq_false (by omega)]
            simp only [Option.bind_some, Bool.not_false]
            exact ⟨_, bad, rfl, by simp⟩
          · rw [if_neg c2, decide_eq_true (by omega), hr3]
            simp only [Option.bind_some, Bool.not_true]
            refine ⟨r, ?_, rfl, fun _ => by omega⟩
            simp only [spec_l01Name.j0]
            rw [if_neg Bool.false_ne_true, name_same]
            exact hr2
  obtain ⟨b, h1, h2, h3⟩ := key
  exact ⟨b, up (spec_l01Name.mono s) h1, up (impl_IsName.mono s) h2, h3⟩

theorem impl_in (n lo hi : Int) : impl_within.f n lo hi = some (decide (lo ≤ n ∧ n ≤ hi)) := by unfold impl_within.f; split <;> simp <;> omega

theorem spec_in (n lo hi : Int) : spec_l00In.f n lo hi = some (decide (lo ≤ n ∧ n ≤ hi)) := by unfold spec_l00In.f; split <;> simp <;> omega

theorem rdll_nat (l : List (List Int)) (j : Nat) : rd_L3 l (j : Int) = l.getD j [] := by unfold rd_L3; simp

def lv0 (L : List (List Int)) (i : Nat) : Int := rd (L.getD i []) 0
def lv1 (L : List (List Int)) (i : Nat) : Int := rd (L.getD i []) 1
def stepOk (L : List (List Int)) (i : Nat) : Bool := decide ((L.getD i []).length = 2) && (decide (0 ≤ lv0 L i ∧ lv0 L i ≤ 1000000) && (decide (0 ≤ lv1 L i ∧ lv1 L i ≤ 10000) && (if i = 0 then decide (lv0 L i = 0) else decide (lv0 L (i - 1) < lv0 L i))))
def allFrom (L : List (List Int)) : Nat → Nat → Bool
  | 0, _ => true
  | d + 1, j => stepOk L j && allFrom L d (j + 1)
theorem spec_lv_l0 (s : ByteArray) (f p : Int) (L : List (List Int)) (hL : L.length ≤ 6) : ∀ (d j k : Nat), j + d = L.length → 2 * d < k → (0 < j → (L.getD (j - 1) []).length = 2) →
    spec_l21Ok.l0 k [(⟨s, f, p, L⟩ : S26)] (j : Int) = some (allFrom L d j) := by
  intro d
  induction d with
  | zero =>
    intro j k hj hk hp
    obtain ⟨k, rfl⟩ := suc_of (show 0 < k by omega)
    simp only [spec_l21Ok.l0, show rd_T26 [(⟨s, f, p, L⟩ : S26)] 0 = ⟨s, f, p, L⟩ from rfl]
    rw [if_pos (by simp), if_neg (by omega)]
    rfl
  | succ d ih =>
    intro j k hj hk hp
    obtain ⟨k, rfl⟩ : ∃ m, k = m + 1 + 1 := ⟨k - 2, by omega⟩
    have bad : spec_l21Ok.j2 (k + 1) [(⟨s, f, p, L⟩ : S26)] (j : Int) true = some false := by simp only [spec_l21Ok.j2]; simp
    have good : spec_l21Ok.j2 (k + 1) [(⟨s, f, p, L⟩ : S26)] (j : Int) false = spec_l21Ok.l0 k [(⟨s, f, p, L⟩ : S26)] ((j + 1 : Nat) : Int) := by
      simp only [spec_l21Ok.j2]
      rw [if_neg Bool.false_ne_true, next_nat (n := L.length) (by omega) (by omega)]
    simp only [spec_l21Ok.l0, show rd_T26 [(⟨s, f, p, L⟩ : S26)] 0 = ⟨s, f, p, L⟩ from rfl]
    rw [if_pos (by simp), if_pos (by omega), if_pos (by omega), rdll_nat]
    unfold allFrom stepOk lv0 lv1
    by_cases hlen : (L.getD j []).length = 2
    · have hr := ih (j + 1) k (by omega) (by omega) (fun _ => hlen)
      rw [if_pos (show ((L.getD j []).length : Int) = 2 by omega), if_pos (show (0 : Int) < ((L.getD j []).length : Int) by omega), if_pos (show (1 : Int) < ((L.getD j []).length : Int) by omega), decide_eq_true hlen, Bool.true_and]
      simp only [spec_in, Option.bind_some]
      generalize hx0 : rd (L.getD j []) 0 = x0
      generalize rd (L.getD j []) 1 = x1
      by_cases hA : 0 ≤ x0 ∧ x0 ≤ 1000000
      · rw [decide_eq_true hA, if_pos rfl, Bool.true_and]
        by_cases hB : 0 ≤ x1 ∧ x1 ≤ 10000
        · rw [decide_eq_true hB, if_pos rfl, Bool.true_and]
          by_cases hz : j = 0
          · rw [if_pos (show (j : Int) = 0 by omega), if_pos hz]
            by_cases h00 : x0 = 0
            · rw [if_pos h00, if_neg (show ¬ (j : Int) > 0 by omega), good, hr, decide_eq_true h00, Bool.true_and]
            · rw [if_neg h00, bad, decide_eq_false h00]; rfl
          · have hpv := hp (by omega)
            rw [if_neg (show ¬ (j : Int) = 0 by omega), if_neg hz, if_pos (show (j : Int) > 0 by omega)]
            have ew : wrap64 ((j : Int) - 1) = ((j - 1 : Nat) : Int) := by rw [wrap_id (by omega) (by omega)]; omega
            rw [ew, rdll_nat, if_pos (show (0 : Int) ≤ ((j - 1 : Nat) : Int) by omega), if_pos (show ((j - 1 : Nat) : Int) < (L.length : Int) by omega), if_pos (show (0 : Int) < ((L.getD (j - 1) []).length : Int) by omega)]
            generalize rd (L.getD (j - 1) []) 0 = y0
            by_cases hc : y0 < x0
            · rw [decide_eq_false (show ¬ y0 ≥ x0 by omega), good, hr, decide_eq_true hc, Bool.true_and]
            · rw [decide_eq_true (show y0 ≥ x0 by omega), bad, decide_eq_false hc]; rfl
        · rw [decide_eq_false hB, if_neg Bool.false_ne_true, bad]; rfl
      · rw [decide_eq_false hA, if_neg Bool.false_ne_true, bad]; rfl
    · rw [if_neg (show ¬ ((L.getD j []).length : Int) = 2 by omega), bad, decide_eq_false hlen]; rfl
theorem impl_lv_l0 (s : ByteArray) (f p : Int) (L : List (List Int)) (hL : L.length ≤ 6) : ∀ (d j k : Nat), j + d = L.length → 2 * d < k → (0 < j → (L.getD (j - 1) []).length = 2) →
    impl_ValidTariff.l0 k L (L.length : Int) (j : Int) s f p L = some (allFrom L d j) := by
  intro d
  induction d with
  | zero =>
    intro j k hj hk hp
    obtain ⟨k, rfl⟩ := suc_of (show 0 < k by omega)
    simp only [impl_ValidTariff.l0]
    rw [if_neg (by omega)]
    rfl
  | succ d ih =>
    intro j k hj hk hp
    obtain ⟨k, rfl⟩ : ∃ m, k = m + 1 + 1 := ⟨k - 2, by omega⟩
    have bad : impl_ValidTariff.j2 (k + 1) L (L.length : Int) (j : Int) true s f p L = some false := by simp only [impl_ValidTariff.j2]; simp
    have good : impl_ValidTariff.j2 (k + 1) L (L.length : Int) (j : Int) false s f p L = impl_ValidTariff.l0 k L (L.length : Int) ((j + 1 : Nat) : Int) s f p L := by
      simp only [impl_ValidTariff.j2]
      rw [if_neg Bool.false_ne_true, next_nat (n := L.length) (by omega) (by omega)]
    simp only [impl_ValidTariff.l0]
    rw [if_pos (by omega), if_pos (by omega), if_pos (by omega), rdll_nat]
    unfold allFrom stepOk lv0 lv1
    by_cases hlen : (L.getD j []).length = 2
    · have hr := ih (j + 1) k (by omega) (by omega) (fun _ => hlen)
      rw [if_pos (show ((L.getD j []).length : Int) = 2 by omega), if_pos (show (0 : Int) < ((L.getD j []).length : Int) by omega), if_pos (show (1 : Int) < ((L.getD j []).length : Int) by omega), decide_eq_true hlen, Bool.true_and]
      simp only [impl_in, Option.bind_some]
      generalize hx0 : rd (L.getD j []) 0 = x0
      generalize rd (L.getD j []) 1 = x1
      by_cases hA : 0 ≤ x0 ∧ x0 ≤ 1000000
      · rw [decide_eq_true hA, if_pos rfl, Bool.true_and]
        by_cases hB : 0 ≤ x1 ∧ x1 ≤ 10000
        · rw [decide_eq_true hB, if_pos rfl, Bool.true_and]
          by_cases hz : j = 0
          · rw [if_pos (show (j : Int) = 0 by omega), if_pos hz]
            by_cases h00 : x0 = 0
            · rw [if_pos h00, if_neg (show ¬ (j : Int) > 0 by omega), good, hr, decide_eq_true h00, Bool.true_and]
            · rw [if_neg h00, bad, decide_eq_false h00]; rfl
          · have hpv := hp (by omega)
            rw [if_neg (show ¬ (j : Int) = 0 by omega), if_neg hz, if_pos (show (j : Int) > 0 by omega)]
            have ew : wrap64 ((j : Int) - 1) = ((j - 1 : Nat) : Int) := by rw [wrap_id (by omega) (by omega)]; omega
            rw [ew, rdll_nat, if_pos (show (0 : Int) ≤ ((j - 1 : Nat) : Int) by omega), if_pos (show ((j - 1 : Nat) : Int) < (L.length : Int) by omega), if_pos (show (0 : Int) < ((L.getD (j - 1) []).length : Int) by omega)]
            generalize rd (L.getD (j - 1) []) 0 = y0
            by_cases hc : y0 < x0
            · rw [decide_eq_false (show ¬ x0 ≤ y0 by omega), good, hr, decide_eq_true hc, Bool.true_and]
            · rw [decide_eq_true (show x0 ≤ y0 by omega), bad, decide_eq_false hc]; rfl
        · rw [decide_eq_false hB, if_neg Bool.false_ne_true, bad]; rfl
      · rw [decide_eq_false hA, if_neg Bool.false_ne_true, bad]; rfl
    · rw [if_neg (show ¬ ((L.getD j []).length : Int) = 2 by omega), bad, decide_eq_false hlen]; rfl
theorem allFrom_at (L : List (List Int)) : ∀ (d j : Nat), allFrom L d j = true → ∀ i, j ≤ i → i < j + d → stepOk L i = true := by
  intro d
  induction d with
  | zero => intro j _ i h1 h2; omega
  | succ d ih =>
    intro j h i h1 h2
    unfold allFrom at h
    rw [Bool.and_eq_true] at h
    by_cases e : i = j
    · subst e; exact h.1
    · exact ih (j + 1) h.2 i (by omega) (by omega)
def TarOk (f p : Int) (L : List (List Int)) : Prop := (0 ≤ f ∧ f ≤ 1000000) ∧ (0 ≤ p ∧ p ≤ 10000) ∧ 1 ≤ L.length ∧ L.length ≤ 6 ∧ ∀ i, i < L.length → (L.getD i []).length = 2 ∧ (0 ≤ lv0 L i ∧ lv0 L i ≤ 1000000) ∧ (0 ≤ lv1 L i ∧ lv1 L i ≤ 10000) ∧ (i = 0 → lv0 L i = 0) ∧ (0 < i → lv0 L (i - 1) < lv0 L i)
theorem tariff_both (s : ByteArray) (f p : Int) (L : List (List Int)) (hs : s.size ≤ 35184372088832) : ∃ v : Bool, (∀ k, s.size + 30 ≤ k → spec_l21Ok.f k [(⟨s, f, p, L⟩ : S26)] = some v) ∧ (∀ k, s.size + 30 ≤ k → impl_ValidTariff.f k s f p L = some v) ∧ (v = true → TarOk f p L ∧ s.size ≤ 10) := by
  obtain ⟨b, n1, n2, n3⟩ := name_both s hs
  have e : rd_T26 [(⟨s, f, p, L⟩ : S26)] 0 = ⟨s, f, p, L⟩ := rfl
  have sbad : ∀ k, spec_l21Ok.j0 (k + 1) [(⟨s, f, p, L⟩ : S26)] true = some false := fun k => by simp only [spec_l21Ok.j0]; simp
  have ibad : ∀ k, impl_ValidTariff.j0 (k + 1) true s f p L = some false := fun k => by simp only [impl_ValidTariff.j0]; simp
  refine ⟨b && (decide (0 ≤ f ∧ f ≤ 1000000) && (decide (0 ≤ p ∧ p ≤ 10000) && (decide (1 ≤ (L.length : Int) ∧ (L.length : Int) ≤ 6) && allFrom L L.length 0))), fun k hk => ?_, fun k hk => ?_, fun h => ?_⟩
  · obtain ⟨k, rfl⟩ := suc_of (show 0 < k by omega)
    unfold spec_l21Ok.f
    rw [if_pos (by simp)]
    simp only [e, spec_in, n1 (k + 1) (by omega), Option.bind_some, sbad]
    cases b
    · rfl
    · cases decide (0 ≤ f ∧ f ≤ 1000000)
      · rfl
      · cases decide (0 ≤ p ∧ p ≤ 10000)
        · rfl
        · simp only [if_true, Bool.true_and]
          by_cases h : 1 ≤ (L.length : Int) ∧ (L.length : Int) ≤ 6
          · rw [decide_eq_true h]
            simp only [Bool.not_true, spec_l21Ok.j0, Bool.true_and]
            rw [if_neg Bool.false_ne_true]
            exact spec_lv_l0 s f p L (by omega) L.length 0 k (by omega) (by omega) (fun h => absurd h (by omega))
          · rw [decide_eq_false h, Bool.not_false, sbad]; rfl
  · obtain ⟨k, rfl⟩ := suc_of (show 0 < k by omega)
    unfold impl_ValidTariff.f
    simp only [impl_in, n2 (k + 1) (by omega), Option.bind_some, ibad]
    cases b
    · rfl
    · cases decide (0 ≤ f ∧ f ≤ 1000000)
      · rfl
      · cases decide (0 ≤ p ∧ p ≤ 10000)
        · rfl
        · simp only [if_true, Bool.true_and]
          by_cases h1 : (L.length : Int) < 1
          · rw [if_pos h1, decide_eq_false (by omega)]; rfl
          · rw [if_neg h1]
            by_cases h2 : (L.length : Int) > 6
            · rw [decide_eq_true h2, ibad, decide_eq_false (by omega)]; rfl
            · rw [decide_eq_false h2, decide_eq_true (by omega)]
              simp only [impl_ValidTariff.j0, Bool.true_and]
              rw [if_neg Bool.false_ne_true]
              exact impl_lv_l0 s f p L (by omega) L.length 0 k (by omega) (by omega) (fun h => absurd h (by omega))
  · simp only [Bool.and_eq_true, decide_eq_true_eq] at h
    obtain ⟨hb, hf, hp, hl, ha⟩ := h
    refine ⟨⟨hf, hp, by omega, by omega, fun i hi => ?_⟩, (n3 hb).2⟩
    have h := allFrom_at L L.length 0 ha i (by omega) (by omega)
    unfold stepOk at h
    simp only [Bool.and_eq_true, decide_eq_true_eq] at h
    obtain ⟨g1, g2, g3, g4⟩ := h
    refine ⟨g1, g2, g3, fun hz => ?_, fun hz => ?_⟩
    · rw [if_pos hz] at g4; exact of_decide_eq_true g4
    · rw [if_neg (by omega)] at g4; exact of_decide_eq_true g4

def tm (e x0 x1 : Int) : Int := (if 0 > e - x0 then 0 else e - x0) * x1
theorem tm_b {e x0 x1 : Int} (h0 : 0 ≤ e) (h1 : e ≤ 1000000) (h2 : 0 ≤ x0) (h4 : 0 ≤ x1) (h5 : x1 ≤ 10000) : 0 ≤ tm e x0 x1 ∧ tm e x0 x1 ≤ 10000000000 := by
  unfold tm
  generalize hg : (if 0 > e - x0 then (0 : Int) else e - x0) = g
  have g0 : 0 ≤ g ∧ g ≤ 1000000 := by rw [← hg]; split <;> omega
  have m := mul_bounds (a := g) (b := x1) (A := 1000000) (B := 10000) g0.1 g0.2 (by omega) h5 (by omega)
  have n := mul_nonneg' g0.1 h4
  omega
theorem smin (a b : Int) : spec_l00Min.f a b = some (if a < b then a else b) := by unfold spec_l00Min.f; split <;> rfl
theorem smax (a b : Int) : spec_l00Max.f a b = some (if a > b then a else b) := by unfold spec_l00Max.f; split <;> rfl
theorem mn_eq (a b : Int) : mn a b = if a < b then a else b := by unfold mn; by_cases h1 : b < a <;> by_cases h2 : a < b <;> simp [h1, h2] <;> omega
theorem mx_eq (a : Int) : mx a 0 = if 0 > a then 0 else a := rfl
theorem cost_step {u y x0 x1 : Int} (h0 : 0 ≤ y) (h1 : y ≤ 1000000) (h2 : 0 ≤ x0) (h3 : x0 ≤ 1000000) (h4 : 0 ≤ x1) (h5 : x1 ≤ 10000) (hu : 0 ≤ u) (hu1 : u ≤ 60000000000) : wrap64 (u + wrap64 ((if 0 > wrap64 (y - x0) then 0 else wrap64 (y - x0)) * x1)) = u + tm y x0 x1 := by
  have tb := tm_b h0 h1 h2 h4 h5
  rw [wrap_id (x := y - x0) (by omega) (by omega)]
  have e : (if 0 > y - x0 then (0 : Int) else y - x0) * x1 = tm y x0 x1 := rfl
  rw [e]
  generalize tm y x0 x1 = z at tb
  rw [wrap_id (x := z) (by omega) (by omega), wrap_id (x := u + z) (by omega) (by omega)]
theorem cost_l0 (s : ByteArray) (f p : Int) (L : List (List Int)) (hT : TarOk f p L) (h : Int) (hh0 : 0 ≤ h) (hh1 : h ≤ 1000000) : ∀ (d j : Nat) (u : Int), j + d = L.length → 0 ≤ u → u ≤ (j : Int) * 10000000000 → ∃ c,
    (∀ k, d < k → spec_l21Cost.l0 k [(⟨s, f, p, L⟩ : S26)] h u (j : Int) = some c) ∧ (∀ k, d < k → impl_Tariff_heatCost.l0 k h u L (L.length : Int) (j : Int) s f p L = some c) ∧ 0 ≤ c ∧ c ≤ 60000000000 := by
  have e : rd_T26 [(⟨s, f, p, L⟩ : S26)] 0 = ⟨s, f, p, L⟩ := rfl
  have ht : (0 : Int) < (([(⟨s, f, p, L⟩ : S26)]).length : Int) := by simp
  obtain ⟨_, _, hl1, hl6, hall⟩ := hT
  intro d
  induction d with
  | zero =>
    intro j u hj hu hu1
    have hj1 : ¬ (j : Int) < (L.length : Int) := by omega
    refine ⟨u, fun k hk => ?_, fun k hk => ?_, by omega, by omega⟩
    · obtain ⟨k, rfl⟩ := suc_of (show 0 < k by omega)
      simp only [spec_l21Cost.l0, e, ht, hj1, if_true, if_false]
    · obtain ⟨k, rfl⟩ := suc_of (show 0 < k by omega)
      simp only [impl_Tariff_heatCost.l0, hj1, if_false]
  | succ d ih =>
    intro j u hj hu hu1
    have hjl : j < L.length := by omega
    have hn := next_nat (j := j) (n := L.length) hjl (by omega)
    have hj0 : (0 : Int) ≤ (j : Int) := by omega
    have hj1 : (j : Int) < (L.length : Int) := by omega
    have hj3 : (0 : Int) ≤ ((j + 1 : Nat) : Int) := by omega
    have hw : wrap64 ((L.length : Int) - 1) = (L.length : Int) - 1 := wrap_id (by omega) (by omega)
    have hu6 : u ≤ 60000000000 := by omega
    have hjd : j + 1 + d = L.length := by omega
    have g1 := (hall j hjl).1
    have hz0 : (0 : Int) < ((L.getD j []).length : Int) := by omega
    have hz1 : (1 : Int) < ((L.getD j []).length : Int) := by omega
    have g2 := (hall j hjl).2.1
    have g3 := (hall j hjl).2.2.1
    unfold lv0 at g2
    unfold lv1 at g3
    by_cases hlast : j + 1 < L.length
    · have n1 := (hall (j + 1) hlast).1
      have hj2 : ((j + 1 : Nat) : Int) < (L.length : Int) := by omega
      have hj4 : (j : Int) < (L.length : Int) - 1 := by omega
      have hz2 : (0 : Int) < ((L.getD (j + 1) []).length : Int) := by omega
      have n2 := (hall (j + 1) hlast).2.1
      unfold lv0 at n2
      have y0 : 0 ≤ (if h < rd (L.getD (j + 1) []) 0 then h else rd (L.getD (j + 1) []) 0) := by split <;> omega
      have y1 : (if h < rd (L.getD (j + 1) []) 0 then h else rd (L.getD (j + 1) []) 0) ≤ 1000000 := by split <;> omega
      have tb := tm_b y0 y1 g2.1 g3.1 g3.2
      have st := cost_step y0 y1 g2.1 g2.2 g3.1 g3.2 hu hu6
      obtain ⟨c, c1, c2, c3, c4⟩ := ih (j + 1) (u + tm (if h < rd (L.getD (j + 1) []) 0 then h else rd (L.getD (j + 1) []) 0) (rd (L.getD j []) 0) (rd (L.getD j []) 1)) hjd (by omega) (by omega)
      refine ⟨c, fun k hk => ?_, fun k hk => ?_, c3, c4⟩
      · obtain ⟨k, rfl⟩ := suc_of (show 0 < k by omega)
        simp only [spec_l21Cost.l0, e, ht, hn, smin, smax, Option.bind_some, rdll_nat, hj0, hj1, hj2, hj3, hz0, hz1, hz2, if_true, st]
        exact c1 k (by omega)
      · obtain ⟨k, rfl⟩ := suc_of (show 0 < k by omega)
        simp only [impl_Tariff_heatCost.l0, hn, hw, mn_eq, mx_eq, rdll_nat, hj0, hj1, hj2, hj3, hj4, hz0, hz1, hz2, if_true, st]
        exact c2 k (by omega)
    · have hj2 : ¬ ((j + 1 : Nat) : Int) < (L.length : Int) := by omega
      have hj4 : ¬ (j : Int) < (L.length : Int) - 1 := by omega
      have tb := tm_b (e := h) (x0 := rd (L.getD j []) 0) (x1 := rd (L.getD j []) 1) hh0 hh1 g2.1 g3.1 g3.2
      have st := cost_step (y := h) hh0 hh1 g2.1 g2.2 g3.1 g3.2 hu hu6
      obtain ⟨c, c1, c2, c3, c4⟩ := ih (j + 1) (u + tm h (rd (L.getD j []) 0) (rd (L.getD j []) 1)) hjd (by omega) (by omega)
      refine ⟨c, fun k hk => ?_, fun k hk => ?_, c3, c4⟩
      · obtain ⟨k, rfl⟩ := suc_of (show 0 < k by omega)
        simp only [spec_l21Cost.l0, e, ht, hn, smax, Option.bind_some, rdll_nat, hj0, hj1, hj2, hj3, hz0, hz1, if_true, if_false, st]
        exact c1 k (by omega)
      · obtain ⟨k, rfl⟩ := suc_of (show 0 < k by omega)
        simp only [impl_Tariff_heatCost.l0, hn, hw, mx_eq, rdll_nat, hj0, hj1, hj4, hz0, hz1, if_true, if_false, st]
        exact c2 k (by omega)
theorem cost_both (s : ByteArray) (f p : Int) (L : List (List Int)) (hT : TarOk f p L) (h : Int) (hh0 : 0 ≤ h) (hh1 : h ≤ 1000000) : ∃ c, (∀ k, 20 ≤ k → spec_l21Cost.f k [(⟨s, f, p, L⟩ : S26)] h = some c) ∧ (∀ k, 20 ≤ k → impl_Tariff_heatCost.f k s f p L h = some c) ∧ 0 ≤ c ∧ c ≤ 60000000000 := by
  obtain ⟨c, c1, c2, c3, c4⟩ := cost_l0 s f p L hT h hh0 hh1 L.length 0 0 (by omega) (by omega) (by omega)
  have hl := hT.2.2.2.1
  exact ⟨c, fun k hk => c1 k (by omega), fun k hk => c2 k (by omega), c3, c4⟩

def rdiv (a b : Int) : Int := if a < 0 then -((b - 2 * a) / (2 * b)) else (2 * a + b) / (2 * b)
theorem rdiv_pos_eq {q r b : Int} (hb : 0 < b) (h0 : 0 ≤ r) (h1 : r < b) : (2 * (b * q + r) + b) / (2 * b) = if r ≥ b - r then q + 1 else q := by
  have e : 2 * (b * q + r) + b = (2 * r + b) + (2 * b) * q := by rw [Int.mul_add, ← Int.mul_assoc]; omega
  rw [e, Int.add_mul_ediv_left _ _ (by omega : (2 * b : Int) ≠ 0)]
  split
  · have : (2 * r + b) / (2 * b) = 1 := by
      have e2 : 2 * r + b = (2 * r - b) + (2 * b) * 1 := by omega
      rw [e2, Int.add_mul_ediv_left _ _ (by omega : (2 * b : Int) ≠ 0), Int.ediv_eq_zero_of_lt (by omega) (by omega)]; rfl
    omega
  · have : (2 * r + b) / (2 * b) = 0 := Int.ediv_eq_zero_of_lt (by omega) (by omega)
    omega
theorem abs_def {a : Int} (h : -9223372036854775807 ≤ a) (h2 : a ≤ 9223372036854775807) : impl_abs.f a = some (if a < 0 then -a else a) := by
  unfold impl_abs.f mx
  rw [wrap_id (by omega) (by omega)]
  split <;> split <;> first | rfl | (simp; omega)
theorem impl_div {a b : Int} (hb : 0 < b) (hb2 : b ≤ 2305843009213693951) (ha : -2305843009213693951 ≤ a) (ha2 : a ≤ 2305843009213693951) : impl_divRound.f a b = some (rdiv a b) := by
  unfold impl_divRound.f
  rw [if_neg (by omega)]
  by_cases h : a < 0
  · have hq0 : a.tdiv b = -((-a) / b) := by rw [← Int.tdiv_eq_ediv_of_nonneg (by omega), Int.neg_tdiv, Int.neg_neg]
    have hr0 : a.tmod b = -((-a) % b) := by rw [← Int.tmod_eq_emod_of_nonneg (by omega), Int.neg_tmod, Int.neg_neg]
    have hr1 := Int.emod_nonneg (-a) (show b ≠ 0 by omega)
    have hr2 := Int.emod_lt_of_pos (-a) hb
    have hd := Int.mul_ediv_add_emod (-a) b
    have hq1 : 0 ≤ (-a) / b := Int.ediv_nonneg (by omega) (by omega)
    have hq2 : (-a) / b ≤ -a := Int.ediv_le_self _ (by omega)
    rw [hq0, hr0]
    generalize (-a) / b = q at *
    generalize (-a) % b = r at *
    rw [abs_def (by omega) (by omega), abs_def (by omega) (by omega)]
    simp only [Option.bind_some]
    have e1 : (if -r < 0 then - -r else -r) = r := by split <;> omega
    have e2 : (if b < 0 then -b else b) = b := by rw [if_neg (by omega)]
    rw [e1, e2, wrap_id (x := b - r) (by omega) (by omega)]
    have hk : rdiv a b = -(if r ≥ b - r then q + 1 else q) := by
      unfold rdiv
      rw [if_pos h, ← rdiv_pos_eq (q := q) hb hr1 hr2, hd]
      congr 2; omega
    rw [hk]
    have w1 : wrap64 (-q) = -q := wrap_id (by omega) (by omega)
    rw [w1]
    by_cases hc : r ≥ b - r
    · rw [if_pos hc, if_pos hc, if_neg (by simp; omega), wrap_id (by omega) (by omega)]
      congr 1; omega
    · rw [if_neg hc, if_neg hc]
  · have hq0 : a.tdiv b = a / b := Int.tdiv_eq_ediv_of_nonneg (by omega)
    have hr0 : a.tmod b = a % b := Int.tmod_eq_emod_of_nonneg (by omega)
    have hr1 := Int.emod_nonneg a (show b ≠ 0 by omega)
    have hr2 := Int.emod_lt_of_pos a hb
    have hd := Int.mul_ediv_add_emod a b
    have hq1 : 0 ≤ a / b := Int.ediv_nonneg (by omega) (by omega)
    have hq2 : a / b ≤ a := Int.ediv_le_self _ (by omega)
    rw [hq0, hr0]
    generalize a / b = q at *
    generalize a % b = r at *
    rw [abs_def (by omega) (by omega), abs_def (by omega) (by omega)]
    simp only [Option.bind_some]
    have e1 : (if r < 0 then - r else r) = r := by rw [if_neg (by omega)]
    have e2 : (if b < 0 then -b else b) = b := by rw [if_neg (by omega)]
    rw [e1, e2, wrap_id (x := b - r) (by omega) (by omega)]
    have hk : rdiv a b = (if r ≥ b - r then q + 1 else q) := by
      unfold rdiv
      rw [if_neg h, ← rdiv_pos_eq (q := q) hb hr1 hr2, hd]
    rw [hk]
    have w1 : wrap64 q = q := wrap_id (by omega) (by omega)
    rw [w1]
    by_cases hc : r ≥ b - r
    · rw [if_pos hc, if_pos hc, if_pos (by simp; omega), wrap_id (by omega) (by omega)]
    · rw [if_neg hc, if_neg hc]
theorem rdiv_nonneg {a b : Int} (ha : 0 ≤ a) (hb : 0 < b) : 0 ≤ rdiv a b := by
  unfold rdiv; rw [if_neg (by omega)]; exact Int.ediv_nonneg (by omega) (by omega)
theorem rdiv_le {a b : Int} (ha : 0 ≤ a) (hb : 0 < b) : rdiv a b ≤ 2 * a + b := by
  unfold rdiv; rw [if_neg (by omega)]; exact Int.ediv_le_self _ (by omega)

theorem spec_div {a b : Int} (hb : 0 < b) (hb2 : b ≤ 2305843009213693951) (ha : -2305843009213693951 ≤ a) (ha2 : a ≤ 2305843009213693951) : spec_l01Div.f a b = some (rdiv a b) := by
  unfold spec_l01Div.f rdiv
  have w2 : wrap64 (2 * b) = 2 * b := wrap_id (by omega) (by omega)
  have h2b : (0 : Int) < 2 * b := by omega
  rw [if_neg (by omega), w2]
  by_cases h : a < 0
  · rw [if_pos h, if_pos h, if_neg (by omega)]
    have e1 : wrap64 (2 * a) = 2 * a := wrap_id (by omega) (by omega)
    have e2 : wrap64 (b - 2 * a) = b - 2 * a := wrap_id (by omega) (by omega)
    rw [e1, e2, Int.tdiv_eq_ediv_of_nonneg (by omega)]
    have b1 : 0 ≤ (b - 2 * a) / (2 * b) := Int.ediv_nonneg (by omega) (by omega)
    have b2 : (b - 2 * a) / (2 * b) ≤ b - 2 * a := Int.ediv_le_self _ (by omega)
    have e3 : wrap64 ((b - 2 * a) / (2 * b)) = (b - 2 * a) / (2 * b) := wrap_id (by omega) (by omega)
    have e4 : wrap64 (-((b - 2 * a) / (2 * b))) = -((b - 2 * a) / (2 * b)) := wrap_id (by omega) (by omega)
    rw [e3, e4]
  · rw [if_neg h, if_neg h, if_neg (by omega)]
    have e1 : wrap64 (2 * a) = 2 * a := wrap_id (by omega) (by omega)
    have e2 : wrap64 (2 * a + b) = 2 * a + b := wrap_id (by omega) (by omega)
    rw [e1, e2, Int.tdiv_eq_ediv_of_nonneg (by omega)]
    have b1 : 0 ≤ (2 * a + b) / (2 * b) := Int.ediv_nonneg (by omega) (by omega)
    have b2 : (2 * a + b) / (2 * b) ≤ 2 * a + b := Int.ediv_le_self _ (by omega)
    rw [wrap_id (by omega) (by omega)]

theorem spec_tbill (s : ByteArray) (f p : Int) (L : List (List Int)) (k : Nat) (h q c : Int) (hf : 0 ≤ f ∧ f ≤ 1000000) (hp : 0 ≤ p ∧ p ≤ 10000) (hq : 0 ≤ q ∧ q ≤ 10000) (hc : spec_l21Cost.f k [(⟨s, f, p, L⟩ : S26)] h = some c) (c0 : 0 ≤ c) (c1 : c ≤ 60000000000) : spec_l21Bill.f k [(⟨s, f, p, L⟩ : S26)] h q = some (f + p * q + rdiv c 100) := by
  have e : rd_T26 [(⟨s, f, p, L⟩ : S26)] 0 = ⟨s, f, p, L⟩ := rfl
  have m := mul_bounds (a := p) (b := q) (A := 10000) (B := 10000) hp.1 hp.2 (by omega) hq.2 (by omega)
  have n := mul_nonneg' hp.1 hq.1
  have r0 := rdiv_nonneg (b := 100) c0 (by omega)
  have r1 := rdiv_le (b := 100) c0 (by omega)
  unfold spec_l21Bill.f
  rw [if_pos (by simp), hc]
  simp only [Option.bind_some, e]
  rw [spec_div (by omega) (by omega) (by omega) (by omega)]
  simp only [Option.bind_some]
  rw [wrap_id (x := p * q) (by omega) (by omega), wrap_id (x := f + p * q) (by omega) (by omega), wrap_id (by omega) (by omega)]
theorem impl_tbill (s : ByteArray) (f p : Int) (L : List (List Int)) (k : Nat) (h q c : Int) (hf : 0 ≤ f ∧ f ≤ 1000000) (hp : 0 ≤ p ∧ p ≤ 10000) (hq : 0 ≤ q ∧ q ≤ 10000) (hc : impl_Tariff_heatCost.f k s f p L h = some c) (c0 : 0 ≤ c) (c1 : c ≤ 60000000000) : impl_Tariff_bill.f k s f p L h q = some (f + p * q + rdiv c 100) := by
  have m := mul_bounds (a := p) (b := q) (A := 10000) (B := 10000) hp.1 hp.2 (by omega) hq.2 (by omega)
  have n := mul_nonneg' hp.1 hq.1
  have r0 := rdiv_nonneg (b := 100) c0 (by omega)
  have r1 := rdiv_le (b := 100) c0 (by omega)
  unfold impl_Tariff_bill.f
  rw [hc]
  simp only [Option.bind_some]
  rw [impl_div (by omega) (by omega) (by omega) (by omega)]
  simp only [Option.bind_some]
  rw [wrap_id (x := p * q) (by omega) (by omega), wrap_id (x := f + p * q) (by omega) (by omega), wrap_id (by omega) (by omega)]
theorem bill_both (s : ByteArray) (f p : Int) (L : List (List Int)) (hT : TarOk f p L) (h q : Int) (hh : 0 ≤ h ∧ h ≤ 1000000) (hq : 0 ≤ q ∧ q ≤ 10000) : ∃ c, (∀ k, 20 ≤ k → spec_l21Bill.f k [(⟨s, f, p, L⟩ : S26)] h q = some c) ∧ (∀ k, 20 ≤ k → impl_Tariff_bill.f k s f p L h q = some c) ∧ 0 ≤ c ∧ c ≤ 200000000000 := by
  obtain ⟨c, c1, c2, c3, c4⟩ := cost_both s f p L hT h hh.1 hh.2
  have m := mul_bounds (a := p) (b := q) (A := 10000) (B := 10000) hT.2.1.1 hT.2.1.2 (by omega) hq.2 (by omega)
  have n := mul_nonneg' hT.2.1.1 hq.1
  have r0 := rdiv_nonneg (b := 100) c3 (by omega)
  have r1 := rdiv_le (b := 100) c3 (by omega)
  have hf := hT.1
  exact ⟨_, fun k hk => spec_tbill s f p L k h q c hT.1 hT.2.1 hq (c1 k hk) c3 c4, fun k hk => impl_tbill s f p L k h q c hT.1 hT.2.1 hq (c2 k hk) c3 c4, by omega, by omega⟩
theorem spec_tpeak (x : Int) : spec_l21Peak.f x = some (decide (0 ≤ x ∧ x ≤ 10000)) := by unfold spec_l21Peak.f; rw [spec_in]; rfl

theorem tm_mono {e e' x0 x1 : Int} (h : e ≤ e') (h1 : 0 ≤ x1) : tm e x0 x1 ≤ tm e' x0 x1 := by
  unfold tm
  exact Int.mul_le_mul_of_nonneg_right (by split <;> split <;> omega) h1
theorem cost_step2 {u u' y y' x0 x1 J J1 : Int} (hy0 : 0 ≤ y) (hyy : y ≤ y') (hy1 : y' ≤ 1000000) (h2 : 0 ≤ x0) (h3 : x0 ≤ 1000000) (h4 : 0 ≤ x1) (h5 : x1 ≤ 10000) (hu : 0 ≤ u) (huu : u ≤ u') (hJ : u' ≤ J * 10000000000) (hJ5 : J ≤ 5) (hJ1 : J1 = J + 1) :
    wrap64 (u + wrap64 ((if 0 > wrap64 (y - x0) then 0 else wrap64 (y - x0)) * x1)) = u + tm y x0 x1 ∧ wrap64 (u' + wrap64 ((if 0 > wrap64 (y' - x0) then 0 else wrap64 (y' - x0)) * x1)) = u' + tm y' x0 x1 ∧ 0 ≤ u + tm y x0 x1 ∧ u + tm y x0 x1 ≤ u' + tm y' x0 x1 ∧ u' + tm y' x0 x1 ≤ J1 * 10000000000 := by
  have b1 := tm_b (e := y) (x0 := x0) (x1 := x1) hy0 (by omega) h2 h4 h5
  have b2 := tm_b (e := y') (x0 := x0) (x1 := x1) (by omega) hy1 h2 h4 h5
  have b3 := tm_mono (x0 := x0) hyy h4
  refine ⟨cost_step hy0 (by omega) h2 h3 h4 h5 hu (by omega), cost_step (by omega) hy1 h2 h3 h4 h5 (by omega) (by omega), by omega, by omega, by omega⟩
theorem min_step {h h' n : Int} (h0 : 0 ≤ h) (hh : h ≤ h') (h1 : h' ≤ 1000000) (n0 : 0 ≤ n) : 0 ≤ (if h < n then h else n) ∧ (if h < n then h else n) ≤ (if h' < n then h' else n) ∧ (if h' < n then h' else n) ≤ 1000000 := by
  refine ⟨by split <;> omega, by split <;> split <;> omega, by split <;> omega⟩
theorem cost_mono (s : ByteArray) (f p : Int) (L : List (List Int)) (hT : TarOk f p L) (h h' : Int) (hh0 : 0 ≤ h) (hhh : h ≤ h') (hh1 : h' ≤ 1000000) : ∀ (d j : Nat) (u u' : Int), j + d = L.length → 0 ≤ u → u ≤ u' → u' ≤ (j : Int) * 10000000000 → ∃ c c',
    (∀ k, d < k → spec_l21Cost.l0 k [(⟨s, f, p, L⟩ : S26)] h u (j : Int) = some c) ∧ (∀ k, d < k → spec_l21Cost.l0 k [(⟨s, f, p, L⟩ : S26)] h' u' (j : Int) = some c') ∧ c ≤ c' := by
  have e : rd_T26 [(⟨s, f, p, L⟩ : S26)] 0 = ⟨s, f, p, L⟩ := rfl
  have ht : (0 : Int) < (([(⟨s, f, p, L⟩ : S26)]).length : Int) := by simp
  obtain ⟨_, _, hl1, hl6, hall⟩ := hT
  intro d
  induction d with
  | zero =>
    intro j u u' hj hu huu hu1
    have hj1 : ¬ (j : Int) < (L.length : Int) := by omega
    refine ⟨u, u', fun k hk => ?_, fun k hk => ?_, huu⟩
    · obtain ⟨k, rfl⟩ := suc_of (show 0 < k by omega)
      simp only [spec_l21Cost.l0, e, ht, hj1, if_true, if_false]
    · obtain ⟨k, rfl⟩ := suc_of (show 0 < k by omega)
      simp only [spec_l21Cost.l0, e, ht, hj1, if_true, if_false]
  | succ d ih =>
    intro j u u' hj hu huu hu1
    have hjl : j < L.length := by omega
    have hj0 : (0 : Int) ≤ (j : Int) := by omega
    have hj1 : (j : Int) < (L.length : Int) := by omega
    have hj3 : (0 : Int) ≤ ((j + 1 : Nat) : Int) := by omega
    have hJ5 : (j : Int) ≤ 5 := by omega
    have hJ1 : ((j + 1 : Nat) : Int) = (j : Int) + 1 := by omega
    have hjd : j + 1 + d = L.length := by omega
    have g1 := (hall j hjl).1
    have hz0 : (0 : Int) < ((L.getD j []).length : Int) := by omega
    have hz1 : (1 : Int) < ((L.getD j []).length : Int) := by omega
    have g2 : 0 ≤ rd (L.getD j []) 0 ∧ rd (L.getD j []) 0 ≤ 1000000 := (hall j hjl).2.1
    have g3 : 0 ≤ rd (L.getD j []) 1 ∧ rd (L.getD j []) 1 ≤ 10000 := (hall j hjl).2.2.1
    clear g1
    have hLb : L.length ≤ 4611686018427387904 := Nat.le_trans hl6 (by decide)
    have hn := next_nat (j := j) (n := L.length) hjl hLb
    by_cases hlast : j + 1 < L.length
    · have hj2 : ((j + 1 : Nat) : Int) < (L.length : Int) := by clear g2 g3 hn; omega
      have n1 := (hall (j + 1) hlast).1
      have hz2 : (0 : Int) < ((L.getD (j + 1) []).length : Int) := by clear g2 g3 hn; omega
      have n2 : 0 ≤ rd (L.getD (j + 1) []) 0 := (hall (j + 1) hlast).2.1.1
      obtain ⟨y0, y1, y2⟩ := min_step (n := rd (L.getD (j + 1) []) 0) hh0 hhh hh1 n2
      obtain ⟨st, st', m1, m2, m3⟩ := cost_step2 y0 y1 y2 g2.1 g2.2 g3.1 g3.2 hu huu hu1 hJ5 hJ1
      obtain ⟨c, c', c1, c2, c3⟩ := ih (j + 1) _ _ hjd m1 m2 m3
      clear g2 g3 n1 n2 y0 y1 y2 m1 m2 m3
      refine ⟨c, c', fun k hk => ?_, fun k hk => ?_, c3⟩
      · obtain ⟨k, rfl⟩ : ∃ m, k = m + 1 := ⟨k - 1, by clear hn st st'; omega⟩
        have hk1 : d < k := by clear hn st st'; omega
        simp only [spec_l21Cost.l0, e, ht, hn, smin, smax, Option.bind_some, rdll_nat, hj0, hj1, hj2, hj3, hz0, hz1, hz2, if_true, st]
        exact c1 k hk1
      · obtain ⟨k, rfl⟩ : ∃ m, k = m + 1 := ⟨k - 1, by clear hn st st'; omega⟩
        have hk1 : d < k := by clear hn st st'; omega
        simp only [spec_l21Cost.l0, e, ht, hn, smin, smax, Option.bind_some, rdll_nat, hj0, hj1, hj2, hj3, hz0, hz1, hz2, if_true, st']
        exact c2 k hk1
    · have hj2 : ¬ ((j + 1 : Nat) : Int) < (L.length : Int) := by clear g2 g3 hn; omega
      obtain ⟨st, st', m1, m2, m3⟩ := cost_step2 hh0 hhh hh1 g2.1 g2.2 g3.1 g3.2 hu huu hu1 hJ5 hJ1
      obtain ⟨c, c', c1, c2, c3⟩ := ih (j + 1) _ _ hjd m1 m2 m3
      clear g2 g3 m1 m2 m3
      refine ⟨c, c', fun k hk => ?_, fun k hk => ?_, c3⟩
      · obtain ⟨k, rfl⟩ : ∃ m, k = m + 1 := ⟨k - 1, by clear hn st st'; omega⟩
        have hk1 : d < k := by clear hn st st'; omega
        simp only [spec_l21Cost.l0, e, ht, hn, smax, Option.bind_some, rdll_nat, hj0, hj1, hj2, hj3, hz0, hz1, if_true, if_false, st]
        exact c1 k hk1
      · obtain ⟨k, rfl⟩ : ∃ m, k = m + 1 := ⟨k - 1, by clear hn st st'; omega⟩
        have hk1 : d < k := by clear hn st st'; omega
        simp only [spec_l21Cost.l0, e, ht, hn, smax, Option.bind_some, rdll_nat, hj0, hj1, hj2, hj3, hz0, hz1, if_true, if_false, st']
        exact c2 k hk1
def tbl (s : ByteArray) (f p : Int) (L : List (List Int)) (h q : Int) : Int := (impl_Tariff_bill.f 20 s f p L h q).getD 0
theorem tbl_spec (s : ByteArray) (f p : Int) (L : List (List Int)) (hT : TarOk f p L) (h q : Int) (hh : 0 ≤ h ∧ h ≤ 1000000) (hq : 0 ≤ q ∧ q ≤ 10000) : (∀ k, 20 ≤ k → spec_l21Bill.f k [(⟨s, f, p, L⟩ : S26)] h q = some (tbl s f p L h q)) ∧ (∀ k, 20 ≤ k → impl_Tariff_bill.f k s f p L h q = some (tbl s f p L h q)) ∧ 0 ≤ tbl s f p L h q ∧ tbl s f p L h q ≤ 200000000000 := by
  obtain ⟨c, c1, c2, c3, c4⟩ := bill_both s f p L hT h q hh hq
  have e : tbl s f p L h q = c := by unfold tbl; rw [c2 20 (by omega)]; rfl
  rw [e]; exact ⟨c1, c2, c3, c4⟩
theorem rdiv_mono {a b : Int} (h0 : 0 ≤ a) (h : a ≤ b) : rdiv a 100 ≤ rdiv b 100 := by
  unfold rdiv
  rw [if_neg (by omega), if_neg (by omega)]
  exact Int.ediv_le_ediv (by omega) (by omega)
theorem tbl_mono (s : ByteArray) (f p : Int) (L : List (List Int)) (hT : TarOk f p L) (h h' q : Int) (hh0 : 0 ≤ h) (hhh : h ≤ h') (hh1 : h' ≤ 1000000) (hq : 0 ≤ q ∧ q ≤ 10000) : tbl s f p L h q ≤ tbl s f p L h' q := by
  obtain ⟨c, c', m1, m2, m3⟩ := cost_mono s f p L hT h h' hh0 hhh hh1 L.length 0 0 0 (by omega) (by omega) (by omega) (by omega)
  obtain ⟨d, d1, _, d3, d4⟩ := cost_both s f p L hT h hh0 (by omega)
  obtain ⟨d', e1, _, e3, e4⟩ := cost_both s f p L hT h' (by omega) hh1
  have hl := hT.2.2.2.1
  have a1 : spec_l21Cost.f 20 [(⟨s, f, p, L⟩ : S26)] h = some c := m1 20 (by omega)
  have a2 : spec_l21Cost.f 20 [(⟨s, f, p, L⟩ : S26)] h' = some c' := m2 20 (by omega)
  have i1 : c = d := Option.some.inj (a1.symm.trans (d1 20 (by omega)))
  have i2 : c' = d' := Option.some.inj (a2.symm.trans (e1 20 (by omega)))
  subst i1
  subst i2
  have b1 := spec_tbill s f p L 20 h q c hT.1 hT.2.1 hq a1 d3 d4
  have b2 := spec_tbill s f p L 20 h' q c' hT.1 hT.2.1 hq a2 e3 e4
  have j1 := Option.some.inj (b1.symm.trans ((tbl_spec s f p L hT h q ⟨hh0, by omega⟩ hq).1 20 (by omega)))
  have j2 := Option.some.inj (b2.symm.trans ((tbl_spec s f p L hT h' q ⟨by omega, hh1⟩ hq).1 20 (by omega)))
  have := rdiv_mono d3 m3
  omega

theorem tcode {s : ByteArray} {f p : Int} {L : List (List Int)} {v : Bool} {k : Nat} (h : impl_ValidTariff.f (k + 1) s f p L = some v) (x y : Int) : impl_Tariff_code.f (k + 1) s f p L x y = some (if v = true then (if (0 ≤ x ∧ x ≤ 1000000) ∧ (0 ≤ y ∧ y ≤ 10000) then 0 else 2) else 1) := by
  unfold impl_Tariff_code.f
  simp only [h, impl_in, Option.bind_some]
  cases v
  · rfl
  · by_cases h1 : 0 ≤ x ∧ x ≤ 1000000
    · by_cases h2 : 0 ≤ y ∧ y ≤ 10000
      · rw [decide_eq_true h1, decide_eq_true h2]; simp [h1, h2]
      · rw [decide_eq_true h1, decide_eq_false h2]; simp [h2]
    · rw [decide_eq_false h1]; simp [h1]

def en (L : List (List Int)) (h : Int) (j : Nat) : Int := if j + 1 < L.length then (if h < lv0 L (j + 1) then h else lv0 L (j + 1)) else h
def cs (L : List (List Int)) (h : Int) : Nat → Nat → Int
  | 0, _ => 0
  | d + 1, j => tm (en L h j) (lv0 L j) (lv1 L j) + cs L h d (j + 1)
def pr (L : List (List Int)) (h : Int) : Nat → Nat → Int → Int
  | 0, _, u => u
  | d + 1, j, u => pr L h d (j + 1) (if lv0 L j ≤ h then lv1 L j else u)
theorem en_b {f p : Int} {L : List (List Int)} (hT : TarOk f p L) {h : Int} (h0 : 0 ≤ h) (h1 : h ≤ 1000000) {j : Nat} (hj : j < L.length) : 0 ≤ en L h j ∧ en L h j ≤ h := by
  unfold en
  by_cases c : j + 1 < L.length
  · rw [if_pos c]
    have := (hT.2.2.2.2 (j + 1) c).2.1.1
    split <;> omega
  · rw [if_neg c]
    omega
theorem cost_exact (s : ByteArray) (f p : Int) (L : List (List Int)) (hT : TarOk f p L) (h : Int) (hh0 : 0 ≤ h) (hh1 : h ≤ 1000000) : ∀ (d j : Nat) (u : Int), j + d = L.length → 0 ≤ u → u ≤ (j : Int) * 10000000000 →
    (∀ k, d < k → impl_Tariff_heatCost.l0 k h u L (L.length : Int) (j : Int) s f p L = some (u + cs L h d j)) := by
  obtain ⟨_, _, hl1, hl6, hall⟩ := id hT
  intro d
  induction d with
  | zero =>
    intro j u hj hu hu1 k hk
    have hj1 : ¬ (j : Int) < (L.length : Int) := by omega
    obtain ⟨k, rfl⟩ := suc_of (show 0 < k by omega)
    simp only [impl_Tariff_heatCost.l0, hj1, if_false]
    rw [show cs L h 0 j = 0 from rfl, Int.add_zero]
  | succ d ih =>
    intro j u hj hu hu1 k hk
    have hjl : j < L.length := by omega
    have hn := next_nat (j := j) (n := L.length) hjl (by omega)
    have hj0 : (0 : Int) ≤ (j : Int) := by omega
    have hj1 : (j : Int) < (L.length : Int) := by omega
    have hj3 : (0 : Int) ≤ ((j + 1 : Nat) : Int) := by omega
    have hw : wrap64 ((L.length : Int) - 1) = (L.length : Int) - 1 := wrap_id (by omega) (by omega)
    have hu6 : u ≤ 60000000000 := by omega
    have hjd : j + 1 + d = L.length := by omega
    have g1 := (hall j hjl).1
    have hz0 : (0 : Int) < ((L.getD j []).length : Int) := by omega
    have hz1 : (1 : Int) < ((L.getD j []).length : Int) := by omega
    have g2 := (hall j hjl).2.1
    have g3 := (hall j hjl).2.2.1
    have eb := en_b hT hh0 hh1 hjl
    have ec : cs L h (d + 1) j = tm (en L h j) (lv0 L j) (lv1 L j) + cs L h d (j + 1) := rfl
    rw [ec, ← Int.add_assoc]
    unfold lv0 at g2
    unfold lv1 at g3
    by_cases hlast : j + 1 < L.length
    · have n1 := (hall (j + 1) hlast).1
      have hj2 : ((j + 1 : Nat) : Int) < (L.length : Int) := by omega
      have hj4 : (j : Int) < (L.length : Int) - 1 := by omega
      have hz2 : (0 : Int) < ((L.getD (j + 1) []).length : Int) := by omega
      have ee : en L h j = (if h < rd (L.getD (j + 1) []) 0 then h else rd (L.getD (j + 1) []) 0) := by unfold en; rw [if_pos hlast]; rfl
      rw [ee] at eb ⊢
      have y1 : (if h < rd (L.getD (j + 1) []) 0 then h else rd (L.getD (j + 1) []) 0) ≤ 1000000 := Int.le_trans eb.2 hh1
      have tb := tm_b eb.1 y1 g2.1 g3.1 g3.2
      have st := cost_step eb.1 y1 g2.1 g2.2 g3.1 g3.2 hu hu6
      have c2 := ih (j + 1) (u + tm (if h < rd (L.getD (j + 1) []) 0 then h else rd (L.getD (j + 1) []) 0) (rd (L.getD j []) 0) (rd (L.getD j []) 1)) hjd (by omega) (by omega)
      obtain ⟨k, rfl⟩ := suc_of (show 0 < k by omega)
      simp only [impl_Tariff_heatCost.l0, hn, hw, mn_eq, mx_eq, rdll_nat, hj0, hj1, hj2, hj3, hj4, hz0, hz1, hz2, if_true, st]
      exact c2 k (by omega)
    · have hj2 : ¬ ((j + 1 : Nat) : Int) < (L.length : Int) := by omega
      have hj4 : ¬ (j : Int) < (L.length : Int) - 1 := by omega
      have ee : en L h j = h := by unfold en; rw [if_neg hlast]
      rw [ee]
      have tb := tm_b (e := h) (x0 := rd (L.getD j []) 0) (x1 := rd (L.getD j []) 1) hh0 hh1 g2.1 g3.1 g3.2
      have st := cost_step (y := h) hh0 hh1 g2.1 g2.2 g3.1 g3.2 hu hu6
      have c2 := ih (j + 1) (u + tm h (rd (L.getD j []) 0) (rd (L.getD j []) 1)) hjd (by omega) (by omega)
      obtain ⟨k, rfl⟩ := suc_of (show 0 < k by omega)
      simp only [impl_Tariff_heatCost.l0, hn, hw, mx_eq, rdll_nat, hj0, hj1, hj4, hz0, hz1, if_true, if_false, st]
      exact c2 k (by omega)
theorem price_exact (f p : Int) (L : List (List Int)) (hT : TarOk f p L) (h : Int) : ∀ (d j : Nat) (u : Int), j + d = L.length → ∀ k, d < k → impl_NextPrice.l0 k h u L (L.length : Int) (j : Int) = some (pr L h d j u, 0) := by
  obtain ⟨_, _, hl1, hl6, hall⟩ := hT
  intro d
  induction d with
  | zero =>
    intro j u hj k hk
    obtain ⟨k, rfl⟩ := suc_of (show 0 < k by omega)
    simp only [impl_NextPrice.l0]
    rw [if_neg (by omega)]
    rfl
  | succ d ih =>
    intro j u hj k hk
    obtain ⟨g1, _, _, _, _⟩ := hall j (by omega)
    have hn := next_nat (j := j) (n := L.length) (by omega) (by omega)
    obtain ⟨k, rfl⟩ := suc_of (show 0 < k by omega)
    have c2 := ih (j + 1) (if lv0 L j ≤ h then lv1 L j else u) (by omega) k (by omega)
    have ep : pr L h (d + 1) j u = pr L h d (j + 1) (if lv0 L j ≤ h then lv1 L j else u) := rfl
    rw [ep]
    simp only [impl_NextPrice.l0, hn, rdll_nat]
    rw [if_pos (by omega), if_pos (by omega), if_pos (by omega), if_pos (by omega)]
    have e0 : rd (L.getD j []) 0 = lv0 L j := rfl
    have e1 : rd (L.getD j []) 1 = lv1 L j := rfl
    rw [e0, e1]
    by_cases hc : lv0 L j ≤ h
    · rw [if_pos hc] at c2 ⊢
      rw [if_pos (by omega)]
      rw [if_pos hc]
      exact c2
    · rw [if_neg hc] at c2 ⊢
      rw [if_neg hc]
      exact c2
theorem tm_zero {e a b : Int} (h : e ≤ a) : tm e a b = 0 := by
  unfold tm
  have e0 : (if 0 > e - a then (0 : Int) else e - a) = 0 := by split <;> omega
  rw [e0, Int.zero_mul]
theorem tm_next {e a b : Int} (h : a ≤ e) : tm (e + 1) a b = tm e a b + b := by
  unfold tm
  rw [if_neg (by omega), if_neg (by omega), show e + 1 - a = (e - a) + 1 by omega, Int.add_mul, Int.one_mul]
theorem cs_far {f p : Int} {L : List (List Int)} (hT : TarOk f p L) {h : Int} (h0 : 0 ≤ h) (h1 : h + 1 ≤ 1000000) : ∀ (d j : Nat) (u : Int), j + d = L.length → (0 < d → h < lv0 L j) → cs L (h + 1) d j = cs L h d j ∧ pr L h d j u = u := by
  intro d
  induction d with
  | zero => intro j u _ _; exact ⟨rfl, rfl⟩
  | succ d ih =>
    intro j u hj hlt
    have hlt := hlt (by omega)
    have b1 := en_b hT (show 0 ≤ h + 1 by omega) h1 (show j < L.length by omega)
    have b2 := en_b hT h0 (by omega) (show j < L.length by omega)
    have hn : 0 < d → h < lv0 L (j + 1) := fun hd => by
      have := (hT.2.2.2.2 (j + 1) (by omega)).2.2.2.2 (by omega)
      rw [show j + 1 - 1 = j by omega] at this
      omega
    obtain ⟨i1, i2⟩ := ih (j + 1) u (by omega) hn
    have e1 : cs L (h + 1) (d + 1) j = tm (en L (h + 1) j) (lv0 L j) (lv1 L j) + cs L (h + 1) d (j + 1) := rfl
    have e2 : cs L h (d + 1) j = tm (en L h j) (lv0 L j) (lv1 L j) + cs L h d (j + 1) := rfl
    have e3 : pr L h (d + 1) j u = pr L h d (j + 1) (if lv0 L j ≤ h then lv1 L j else u) := rfl
    rw [e1, e2, e3, i1, tm_zero (show en L (h + 1) j ≤ lv0 L j by omega), tm_zero (show en L h j ≤ lv0 L j by omega), if_neg (show ¬ lv0 L j ≤ h by omega)]
    exact ⟨rfl, i2⟩
theorem cs_near {f p : Int} {L : List (List Int)} (hT : TarOk f p L) {h : Int} (h0 : 0 ≤ h) (h1 : h + 1 ≤ 1000000) : ∀ (d j : Nat) (u : Int), j + d = L.length → 0 < d → lv0 L j ≤ h → cs L (h + 1) d j = cs L h d j + pr L h d j u := by
  intro d
  induction d with
  | zero => intro j u _ h _; omega
  | succ d ih =>
    intro j u hj _ hle
    have e1 : cs L (h + 1) (d + 1) j = tm (en L (h + 1) j) (lv0 L j) (lv1 L j) + cs L (h + 1) d (j + 1) := rfl
    have e2 : cs L h (d + 1) j = tm (en L h j) (lv0 L j) (lv1 L j) + cs L h d (j + 1) := rfl
    have e3 : pr L h (d + 1) j u = pr L h d (j + 1) (if lv0 L j ≤ h then lv1 L j else u) := rfl
    rw [e1, e2, e3, if_pos hle]
    by_cases hl : j + 1 < L.length
    · have q1 : en L (h + 1) j = if h + 1 < lv0 L (j + 1) then h + 1 else lv0 L (j + 1) := by unfold en; rw [if_pos hl]
      have q2 : en L h j = if h < lv0 L (j + 1) then h else lv0 L (j + 1) := by unfold en; rw [if_pos hl]
      by_cases c : lv0 L (j + 1) ≤ h
      · have i := ih (j + 1) (lv1 L j) (by omega) (by omega) c
        rw [q1, q2, if_neg (by omega), if_neg (by omega), i]
        omega
      · obtain ⟨i1, i2⟩ := cs_far hT h0 h1 d (j + 1) (lv1 L j) (by omega) (fun _ => by omega)
        have q3 : en L (h + 1) j = h + 1 := by rw [q1]; split <;> omega
        have q4 : en L h j = h := by rw [q2, if_pos (by omega)]
        rw [q3, q4, i1, i2, tm_next hle]
        omega
    · have hd : d = 0 := by omega
      subst hd
      have q3 : en L (h + 1) j = h + 1 := by unfold en; rw [if_neg hl]
      have q4 : en L h j = h := by unfold en; rw [if_neg hl]
      rw [q3, q4, tm_next hle]
      show _ + 0 = _ + 0 + lv1 L j
      omega
def costs (L : List (List Int)) (h : Int) : Int := cs L h L.length 0
def price (L : List (List Int)) (h : Int) : Int := pr L h L.length 0 0
theorem cost_next {f p : Int} {L : List (List Int)} (hT : TarOk f p L) {h : Int} (h0 : 0 ≤ h) (h1 : h + 1 ≤ 1000000) : costs L (h + 1) = costs L h + price L h := by
  have hz := (hT.2.2.2.2 0 hT.2.2.1).2.2.2.1 rfl
  exact cs_near hT h0 h1 L.length 0 0 (by omega) hT.2.2.1 (by omega)
theorem cost_val (s : ByteArray) (f p : Int) (L : List (List Int)) (hT : TarOk f p L) (h : Int) (h0 : 0 ≤ h) (h1 : h ≤ 1000000) (k : Nat) (hk : 20 ≤ k) : impl_Tariff_heatCost.f k s f p L h = some (costs L h) ∧ 0 ≤ costs L h ∧ costs L h ≤ 60000000000 := by
  have hl := hT.2.2.2.1
  have e := cost_exact s f p L hT h h0 h1 L.length 0 0 (by omega) (by omega) (by omega) k (by omega)
  have e2 : impl_Tariff_heatCost.f k s f p L h = some (0 + cs L h L.length 0) := e
  rw [Int.zero_add] at e2
  obtain ⟨c, _, c2, c3, c4⟩ := cost_both s f p L hT h h0 h1
  have := (c2 k hk).symm.trans e2
  have := Option.some.inj this
  unfold costs
  exact ⟨e2, by omega, by omega⟩
theorem tbl_val (s : ByteArray) (f p : Int) (L : List (List Int)) (hT : TarOk f p L) (h q : Int) (h0 : 0 ≤ h) (h1 : h ≤ 1000000) (hq : 0 ≤ q ∧ q ≤ 10000) : tbl s f p L h q = f + p * q + rdiv (costs L h) 100 := by
  obtain ⟨c1, c2, c3⟩ := cost_val s f p L hT h h0 h1 20 (Nat.le_refl _)
  have b := impl_tbill s f p L 20 h q (costs L h) hT.1 hT.2.1 hq c1 c2 c3
  exact Option.some.inj (((tbl_spec s f p L hT h q ⟨h0, h1⟩ hq).2.1 20 (Nat.le_refl _)).symm.trans b)

/-! The source that the draws read. -/
theorem wf_u8 {x : Int} (h : (Lit.int .u8 x).wf = true) : 0 ≤ x ∧ x ≤ 255 := by
  simp [Lit.wf, IntKind.min, IntKind.max, IntKind.bits, IntKind.signed] at h; omega
def bytes (l : List Int) : Prop := ∀ x ∈ l, (Lit.int .u8 x).wf = true
theorem and_b (x : Int) : 0 ≤ Go.bits .and .u64 x 255 ∧ Go.bits .and .u64 x 255 ≤ 255 := by
  unfold Go.bits
  simp only [BitVec.toNat_and]
  have h : (BitVec.ofInt IntKind.u64.bits x).toNat &&& (BitVec.ofInt IntKind.u64.bits 255).toNat ≤ 255 := Nat.le_trans Nat.and_le_right (by decide)
  generalize (BitVec.ofInt IntKind.u64.bits x).toNat &&& (BitVec.ofInt IntKind.u64.bits 255).toNat = n at *
  have e : IntKind.u64.wrap (n : Int) = (n : Int) := by
    unfold IntKind.wrap
    simp [IntKind.bits, IntKind.signed]
    omega
  rw [e]; omega
theorem and_w (x : Int) : wrap64 (Go.bits .and .u64 x 255) = Go.bits .and .u64 x 255 := by
  have b := and_b x
  exact wrap_id (by omega) (by omega)
theorem src_next (L : List Int) (hL : bytes L) (i s : Int) (h0 : 0 ≤ i) (h1 : i ≤ 1000000) : ∃ v s', spec_l00Src_next.f L i s = some (v, i + 1, s') ∧ 0 ≤ v ∧ v ≤ 255 := by
  unfold spec_l00Src_next.f
  rw [wrap_id (x := i + 1) (by omega) (by omega)]
  by_cases c : i < (L.length : Int)
  · obtain ⟨n, rfl⟩ : ∃ n : Nat, i = n := ⟨i.toNat, by omega⟩
    have hb : 0 ≤ L.getD n 0 ∧ L.getD n 0 ≤ 255 := by rw [getD_lt (by omega)]; exact wf_u8 (hL _ (List.getElem_mem (by omega)))
    rw [if_pos c, if_pos h0, if_pos (by omega), rd_nat, wrap_id (x := L.getD n 0) (by omega) (by omega)]
    exact ⟨_, _, rfl, hb.1, hb.2⟩
  · rw [if_neg c, if_neg (by omega)]
    rw [and_w]
    exact ⟨_, _, rfl, (and_b _).1, (and_b _).2⟩
theorem src_pick (L : List Int) (hL : bytes L) (i s n : Int) (h0 : 0 ≤ i) (h1 : i ≤ 900000) : ∃ v j s', spec_l00Src_pick.f L i s n = some (v, j, s') ∧ (0 ≤ v ∧ (1 < n → v < n)) ∧ i ≤ j ∧ j ≤ i + 2 := by
  unfold spec_l00Src_pick.f
  by_cases c : n ≤ 1
  · rw [if_pos c]; exact ⟨_, _, _, rfl, ⟨by omega, fun h => by omega⟩, by omega, by omega⟩
  · rw [if_neg c]
    obtain ⟨v, s1, e1, v0, v1⟩ := src_next L hL i s h0 (by omega)
    rw [e1, Option.bind_some]
    simp only []
    by_cases d : n > 200
    · obtain ⟨w, s2, e2, w0, w1⟩ := src_next L hL (i + 1) s1 (by omega) (by omega)
      rw [if_pos d, e2, Option.bind_some]
      simp only []
      rw [if_neg (by omega), wrap_id (x := v * 256) (by omega) (by omega), wrap_id (x := v * 256 + w) (by omega) (by omega), Int.tmod_eq_emod_of_nonneg (by omega)]
      exact ⟨_, _, _, rfl, ⟨Int.emod_nonneg _ (by omega), fun _ => Int.emod_lt_of_pos _ (by omega)⟩, by omega, by omega⟩
    · rw [if_neg d, if_neg (by omega), Int.tmod_eq_emod_of_nonneg v0]
      exact ⟨_, _, _, rfl, ⟨Int.emod_nonneg _ (by omega), fun _ => Int.emod_lt_of_pos _ (by omega)⟩, by omega, by omega⟩

theorem pick_at (L : List Int) (hL : bytes L) (i s n : Int) (hn : 1 < n) (h0 : 0 ≤ i) (h1 : i ≤ 900000) : ∃ v j s', spec_l00Src_pick.f L i s n = some (v, j, s') ∧ (0 ≤ v ∧ v < n) ∧ 0 ≤ j ∧ j ≤ i + 2 := by
  obtain ⟨v, j, s', e, h, a, b⟩ := src_pick L hL i s n h0 h1
  exact ⟨v, j, s', e, ⟨h.1, h.2 hn⟩, by omega, b⟩
def levOk (L : List (List Int)) (c : Int) : Prop := ∀ i, i < L.length → (L.getD i []).length = 2 ∧ (0 ≤ lv0 L i ∧ lv0 L i < c) ∧ (100 ≤ lv1 L i ∧ lv1 L i ≤ 1599) ∧ (i = 0 → lv0 L i = 0) ∧ (0 < i → lv0 L (i - 1) < lv0 L i)
theorem getD_snoc {L : List (List Int)} {x : List Int} {i : Nat} (h : i < L.length) : (L ++ [x]).getD i [] = L.getD i [] := by
  rw [List.getD_eq_getElem?_getD, List.getD_eq_getElem?_getD, List.getElem?_append_left h]
theorem getD_snoc_last {L : List (List Int)} {x : List Int} : (L ++ [x]).getD L.length [] = x := by
  rw [List.getD_eq_getElem?_getD, List.getElem?_append_right (Nat.le_refl _)]; simp
theorem levOk_snoc {L : List (List Int)} {c a b d : Int} (h : levOk L c) (ha : 0 ≤ a) (hc : c ≤ a) (hd : a < d) (hz : L.length = 0 → a = 0) (hb0 : 100 ≤ b) (hb1 : b ≤ 1599) : levOk (L ++ [[a, b]]) d := by
  intro i hi
  rw [List.length_append, List.length_singleton] at hi
  by_cases e : i < L.length
  · obtain ⟨h1, h2, h3, h4, h5⟩ := h i e
    unfold lv0 lv1 at *
    rw [getD_snoc e]
    refine ⟨h1, ⟨h2.1, by omega⟩, h3, h4, fun hp => ?_⟩
    rw [getD_snoc (show i - 1 < L.length by omega)]
    exact h5 hp
  · have e2 : i = L.length := by omega
    subst e2
    unfold lv0 lv1
    rw [getD_snoc_last]
    refine ⟨rfl, ⟨ha, hd⟩, ⟨hb0, hb1⟩, fun hp => hz hp, fun hp => ?_⟩
    rw [getD_snoc (show L.length - 1 < L.length by omega)]
    have := (h (L.length - 1) (by omega)).2.1.2
    unfold lv0 at this
    show _ < a
    omega
theorem draw_l0 (B : List Int) (hB : bytes B) (q : ByteArray) (f p : Int) : ∀ (d : Nat) (a i s : Int) (L : List (List Int)), L.length + d ≤ 5 → levOk L a → 0 ≤ a → (L.length = 0 → a = 0) → (0 < L.length ∨ 0 < d) → a ≤ (L.length : Int) * 1000 → 0 ≤ i → i + 10 * (d : Int) ≤ 800000 →
    ∃ L', (∀ k, d < k → ∃ j s', spec_l21Draw.l0 k a ((d : Int) - 1) B i s q f p L = some (q, f, p, L', j, s')) ∧ levOk L' 6000 ∧ 1 ≤ L'.length ∧ L'.length ≤ 5 := by
  intro d
  induction d with
  | zero =>
    intro a i s L hl hL ha hz hne ha2 h0 h1
    refine ⟨L, fun k hk => ⟨i, s, ?_⟩, fun j hj => ?_, by omega, by omega⟩
    · obtain ⟨k, rfl⟩ := suc_of hk
      simp only [spec_l21Draw.l0]
      rw [if_neg (by omega)]
    · obtain ⟨g1, g2, g3⟩ := hL j hj
      exact ⟨g1, ⟨g2.1, by omega⟩, g3⟩
  | succ d ih =>
    intro a i s L hl hL ha hz hne ha2 h0 h1
    obtain ⟨v, i1, s1, e1, v1, k1, k2⟩ := pick_at B hB i s 1500 (by omega) h0 (by omega)
    obtain ⟨u, i2, s2, e2, u1, m1, m2⟩ := pick_at B hB i1 s1 900 (by omega) k1 (by omega)
    have hs := levOk_snoc (b := 100 + v) (d := a + (1 + u)) hL ha (by omega) (by omega) hz (by omega) (by omega)
    obtain ⟨L', a1, a2, a3, a4⟩ := ih (a + (1 + u)) i2 s2 (L ++ [[a, 100 + v]]) (by simp; omega) hs (by omega) (fun h => by simp at h) (Or.inl (by simp)) (by simp; omega) m1 (by omega)
    refine ⟨L', fun k hk => ?_, a2, a3, a4⟩
    obtain ⟨k, rfl⟩ := suc_of (show 0 < k by omega)
    obtain ⟨j, s', a1⟩ := a1 k (by omega)
    refine ⟨j, s', ?_⟩
    simp only [spec_l21Draw.l0]
    rw [if_pos (by omega), e1, Option.bind_some]
    simp only
    rw [if_pos (by omega), e2, Option.bind_some]
    simp only
    rw [wrap_id (x := 1 + u) (by omega) (by omega), wrap_id (x := a + (1 + u)) (by omega) (by omega), wrap_id (x := 100 + v) (by omega) (by omega), wrap_id (x := ((d + 1 : Nat) : Int) - 1 - 1) (by omega) (by omega), show ((d + 1 : Nat) : Int) - 1 - 1 = (d : Int) - 1 by omega]
    exact a1
structure Drawn (s : ByteArray) (f p : Int) (L : List (List Int)) : Prop where
  name : s = ⟨#[104, 111, 109, 101]⟩ ∨ s = ⟨#[102, 105, 114, 109]⟩ ∨ s = ⟨#[110, 105, 103, 104, 116]⟩
  fix : 0 ≤ f ∧ f ≤ 8900
  pow : 0 ≤ p ∧ p ≤ 590
  len : 1 ≤ L.length ∧ L.length ≤ 5
  lev : levOk L 6000
theorem draw_tar (B : List Int) (hB : bytes B) : ∃ s f p L, (∀ k, 10 ≤ k → spec_R8Tariff.f k B = some (s, f, p, L)) ∧ Drawn s f p L := by
  obtain ⟨v, i0, s0, e0, v1, k1, k2⟩ := pick_at B hB 0 0 (([(⟨#[104, 111, 109, 101]⟩ : ByteArray), (⟨#[102, 105, 114, 109]⟩ : ByteArray), (⟨#[110, 105, 103, 104, 116]⟩ : ByteArray)] : List ByteArray).length : Int) (by decide) (by omega) (by omega)
  obtain ⟨f, i1, s1, e1, f1, m1, m2⟩ := pick_at B hB i0 s0 90 (by omega) k1 (by omega)
  obtain ⟨p, i2, s2, e2, p1, n1, n2⟩ := pick_at B hB i1 s1 60 (by omega) m1 (by omega)
  obtain ⟨c, i3, s3, e3, c1, o1, o2⟩ := pick_at B hB i2 s2 4 (by omega) n1 (by omega)
  obtain ⟨d, rfl⟩ : ∃ d : Nat, c = (d : Int) := ⟨c.toNat, by omega⟩
  have hnil : levOk [] 0 := fun i hi => absurd hi (by simp)
  have name : ∃ q, spec_l00Src_text.f B 0 0 ([(⟨#[104, 111, 109, 101]⟩ : ByteArray), (⟨#[102, 105, 114, 109]⟩ : ByteArray), (⟨#[110, 105, 103, 104, 116]⟩ : ByteArray)] : List ByteArray) = some (q, i0, s0) ∧ (q = ⟨#[104, 111, 109, 101]⟩ ∨ q = ⟨#[102, 105, 114, 109]⟩ ∨ q = ⟨#[110, 105, 103, 104, 116]⟩) := by
    unfold spec_l00Src_text.f
    rw [e0, Option.bind_some]
    simp only
    have v3 : v < 3 := v1.2
    rw [if_pos v1.1, if_pos v1.2]
    refine ⟨_, rfl, ?_⟩
    have : v = 0 ∨ v = 1 ∨ v = 2 := by omega
    rcases this with rfl | rfl | rfl
    · exact Or.inl rfl
    · exact Or.inr (Or.inl rfl)
    · exact Or.inr (Or.inr rfl)
  obtain ⟨q, q1, q2⟩ := name
  obtain ⟨L', a1, a2, a3, a4⟩ := draw_l0 B hB q (100 * f) (10 * p) (d + 1) 0 i3 s3 [] (by simp; omega) hnil (by omega) (fun _ => rfl) (Or.inr (by omega)) (by simp) o1 (by omega)
  refine ⟨q, 100 * f, 10 * p, L', fun k hk => ?_, q2, ⟨by omega, by omega⟩, ⟨by omega, by omega⟩, ⟨a3, a4⟩, a2⟩
  obtain ⟨j, s', a1⟩ := a1 k (by omega)
  unfold spec_R8Tariff.f spec_l00From.f spec_l21Draw.f
  rw [Option.bind_some]
  simp only
  rw [q1, Option.bind_some]
  simp only
  rw [e1, Option.bind_some]
  simp only
  rw [e2, Option.bind_some]
  simp only
  rw [e3, Option.bind_some]
  simp only
  rw [wrap_id (x := 100 * f) (by omega) (by omega), wrap_id (x := 10 * p) (by omega) (by omega), show ((d : Nat) : Int) = ((d + 1 : Nat) : Int) - 1 by omega, a1, Option.bind_some]

def tv (x : S26) : Bool := (impl_ValidTariff.f 1048620 x.f0 x.f1 x.f2 x.f3).getD false
theorem tv_spec (x : S26) (hs : x.f0.size ≤ 1048576) : (∀ k, 1048620 ≤ k → spec_l21Ok.f k [x] = some (tv x)) ∧ (∀ k, 1048620 ≤ k → impl_ValidTariff.f k x.f0 x.f1 x.f2 x.f3 = some (tv x)) ∧ (tv x = true → TarOk x.f1 x.f2 x.f3) := by
  obtain ⟨v, v1, v2, v3⟩ := tariff_both x.f0 x.f1 x.f2 x.f3 (by omega)
  have e : tv x = v := by unfold tv; rw [v2 1048620 (by omega)]; rfl
  exact ⟨fun k hk => by rw [e]; exact v1 k (by omega), fun k hk => by rw [e]; exact v2 k (by omega), fun h => (v3 (e ▸ h)).1⟩

def tb (x : S26) (h q : Int) : Int := (impl_Tariff_bill.f 20 x.f0 x.f1 x.f2 x.f3 h q).getD 0
theorem tb_spec (x : S26) (hT : TarOk x.f1 x.f2 x.f3) (h q : Int) (hh : 0 ≤ h ∧ h ≤ 1000000) (hq : 0 ≤ q ∧ q ≤ 10000) : (∀ k, 20 ≤ k → spec_l21Bill.f k [x] h q = some (tb x h q)) ∧ (∀ k, 20 ≤ k → impl_Tariff_bill.f k x.f0 x.f1 x.f2 x.f3 h q = some (tb x h q)) ∧ 0 ≤ tb x h q ∧ tb x h q ≤ 200000000000 := by
  obtain ⟨c, c1, c2, c3, c4⟩ := bill_both x.f0 x.f1 x.f2 x.f3 hT h q hh hq
  have e : tb x h q = c := by unfold tb; rw [c2 20 (by omega)]; rfl
  rw [e]; exact ⟨c1, c2, c3, c4⟩

theorem spec_heat (x : Int) : spec_l21Heat.f x = some (decide (0 ≤ x ∧ x ≤ 1000000)) := by unfold spec_l21Heat.f; rw [spec_in]; rfl

theorem r8At_v (l : List Int) (h : bytes l) (i m : Int) (hi : 0 ≤ i) (hm : 1 < m) : ∃ v, laws_r8At.f l i m = some v ∧ 0 ≤ v ∧ v < m := by
  unfold laws_r8At.f
  rw [if_neg (by omega)]
  by_cases hl : i ≥ (l.length : Int)
  · rw [if_pos hl]; exact ⟨0, rfl, by omega, by omega⟩
  · obtain ⟨n, rfl⟩ : ∃ n : Nat, i = n := ⟨i.toNat, by omega⟩
    have hb : 0 ≤ l.getD n 0 ∧ l.getD n 0 ≤ 255 := by rw [getD_lt (by omega)]; exact wf_u8 (h _ (List.getElem_mem (by omega)))
    have e1 := Int.emod_nonneg (l.getD n 0) (show m ≠ 0 by omega)
    have e2 := Int.emod_lt_of_pos (l.getD n 0) (show 0 < m by omega)
    rw [if_neg hl, if_pos (by omega), if_pos (by omega), if_neg (by omega), rd_nat, wrap_id (by omega) (by omega), Int.tmod_eq_emod_of_nonneg hb.1]
    exact ⟨_, rfl, e1, e2⟩
theorem r8Wide_v (l : List Int) (h : bytes l) (i m : Int) (hi : 0 ≤ i) (hi2 : i ≤ 1000) (hm : 1 < m) : ∃ v, laws_r8Wide.f l i m = some v ∧ 0 ≤ v ∧ v < m := by
  obtain ⟨a, a1, a2, a3⟩ := r8At_v l h i 256 hi (by omega)
  obtain ⟨b, b1, b2, b3⟩ := r8At_v l h (i + 1) 256 (by omega) (by omega)
  unfold laws_r8Wide.f
  rw [wrap_id (x := i + 1) (by omega) (by omega), a1, b1]
  simp only [Option.bind_some]
  rw [if_neg (by omega), wrap_id (x := 256 * a) (by omega) (by omega), wrap_id (x := 256 * a + b) (by omega) (by omega), Int.tmod_eq_emod_of_nonneg (by omega)]
  exact ⟨_, rfl, Int.emod_nonneg _ (by omega), Int.emod_lt_of_pos _ (by omega)⟩
theorem allFrom_of (L : List (List Int)) : ∀ (d j : Nat), (∀ i, j ≤ i → i < j + d → stepOk L i = true) → allFrom L d j = true := by
  intro d
  induction d with
  | zero => intro j _; rfl
  | succ d ih =>
    intro j h
    unfold allFrom
    rw [h j (by omega) (by omega), ih (j + 1) (fun i h1 h2 => h i (by omega) (by omega))]
    rfl
theorem Drawn.tar {s : ByteArray} {f p : Int} {L : List (List Int)} (h : Drawn s f p L) : TarOk f p L := by
  obtain ⟨_, hf, hp, hl, hv⟩ := h
  refine ⟨⟨hf.1, by omega⟩, ⟨hp.1, by omega⟩, hl.1, by omega, fun i hi => ?_⟩
  obtain ⟨g1, g2, g3, g4, g5⟩ := hv i hi
  exact ⟨g1, ⟨g2.1, by omega⟩, ⟨by omega, by omega⟩, g4, g5⟩
theorem Drawn.size {s : ByteArray} {f p : Int} {L : List (List Int)} (h : Drawn s f p L) : s.size ≤ 5 := by
  rcases h.name with rfl | rfl | rfl <;> decide
theorem names_ok {s : ByteArray} (h : s = ⟨#[104, 111, 109, 101]⟩ ∨ s = ⟨#[102, 105, 114, 109]⟩ ∨ s = ⟨#[110, 105, 103, 104, 116]⟩) (k : Nat) (hk : 20 ≤ k) : spec_l01Name.f k s = some true := by
  have hs : s.size ≤ 5 := by rcases h with rfl | rfl | rfl <;> decide
  obtain ⟨b, n1, _, _⟩ := name_both s (by omega)
  have e : spec_l01Name.f 20 s = some true := by rcases h with rfl | rfl | rfl <;> kernel_rfl
  have e2 := n1 20 (by omega)
  rw [e] at e2
  rw [n1 k (by omega)]
  exact e2.symm
theorem Drawn.ok {s : ByteArray} {f p : Int} {L : List (List Int)} (h : Drawn s f p L) : tv ⟨s, f, p, L⟩ = true := by
  have hT := h.tar
  have hs := h.size
  have v1 := (tv_spec ⟨s, f, p, L⟩ (by show s.size ≤ _; omega)).1 1048620 (Nat.le_refl _)
  have e : rd_T26 [(⟨s, f, p, L⟩ : S26)] 0 = ⟨s, f, p, L⟩ := rfl
  obtain ⟨k, hk⟩ : ∃ k, 1048620 = k + 1 := ⟨1048619, rfl⟩
  have g : spec_l21Ok.f 1048620 [(⟨s, f, p, L⟩ : S26)] = some true := by
    rw [hk]
    unfold spec_l21Ok.f
    rw [if_pos (by simp)]
    simp only [e, spec_in, names_ok h.name (k + 1) (by omega), Option.bind_some, if_true]
    rw [decide_eq_true hT.1, decide_eq_true hT.2.1, decide_eq_true (show 1 ≤ (L.length : Int) ∧ (L.length : Int) ≤ 6 by have := h.len; omega)]
    simp only [if_true, Bool.not_true, spec_l21Ok.j0]
    rw [if_neg Bool.false_ne_true]
    have e2 := spec_lv_l0 s f p L hT.2.2.2.1 L.length 0 k (by omega) (by have := h.len; omega) (fun h => absurd h (by omega))
    rw [allFrom_of L L.length 0 (fun i _ hi => by
      obtain ⟨g1, g2, g3, g4, g5⟩ := hT.2.2.2.2 i (by omega)
      unfold stepOk
      rw [decide_eq_true g1, decide_eq_true g2, decide_eq_true g3]
      by_cases hz : i = 0
      · rw [if_pos hz, decide_eq_true (g4 hz)]; rfl
      · rw [if_neg hz, decide_eq_true (g5 (by omega))]; rfl)] at e2
    exact e2
  rw [g] at v1
  injection v1 with v1
  exact v1.symm
theorem bill_val (x : S26) (hs : x.f0.size ≤ 1048576) (hv : tv x = true) (h q : Int) (hh : 0 ≤ h ∧ h ≤ 1000000) (hq : 0 ≤ q ∧ q ≤ 10000) (k : Nat) (hk : 1048620 ≤ k) : spec_BillOf.f k x.f0 x.f1 x.f2 x.f3 h q = some (tb x h q, 0) := by
  obtain ⟨v1, _, v3⟩ := tv_spec x hs
  have b := (tb_spec x (v3 hv) h q hh hq).1 k (by omega)
  have ex : (⟨x.f0, x.f1, x.f2, x.f3⟩ : S26) = x := rfl
  unfold spec_BillOf.f spec_l21Ask.f
  rw [ex, v1 k hk, hv, spec_heat, spec_tpeak, decide_eq_true hh, decide_eq_true hq]
  simp only [Option.bind_some, if_true]
  rw [b, Option.bind_some]

theorem dd_small {m : Nat} (h : m < 10) : Lib.decDigits m = [UInt8.ofNat (48 + m)] := by
  rw [Lib.decDigits, dif_pos h]
theorem dd_big {m : Nat} (h : ¬ m < 10) : Lib.decDigits m = Lib.decDigits (m / 10) ++ [UInt8.ofNat (48 + m % 10)] := by
  rw [Lib.decDigits, dif_neg h]
theorem dd_len : ∀ (j m : Nat), m < 10 ^ (j + 1) → (Lib.decDigits m).length ≤ j + 1 := by
  intro j
  induction j with
  | zero => intro m h; rw [dd_small (by simpa using h)]; exact Nat.le_refl _
  | succ j ih =>
    intro m h
    by_cases c : m < 10
    · rw [dd_small c]; simp
    · rw [dd_big c, List.length_append, List.length_singleton]
      have := ih (m / 10) (by rw [Nat.pow_succ] at h; omega)
      omega
theorem itoa_len (n : Int) (h0 : 0 ≤ n) (h1 : n ≤ 1000000000000) : (Lib.itoa n).length ≤ 13 := by
  unfold Lib.itoa
  rw [if_neg (by omega)]
  exact dd_len 12 _ (by omega)

/-! Pieces between bytes of one kind. -/
def spl (c : UInt8) : List UInt8 → List (List UInt8)
  | [] => [[]]
  | b :: l => if b = c then [] :: spl c l else match spl c l with
    | [] => [[b]]
    | h :: t => (b :: h) :: t
theorem spl_hit (c : UInt8) (l : List UInt8) : spl c (c :: l) = [] :: spl c l := by rw [spl, if_pos rfl]
theorem spl_cons {c b : UInt8} (h : b ≠ c) {l x : List UInt8} {t : List (List UInt8)} (hx : spl c l = x :: t) : spl c (b :: l) = (b :: x) :: t := by rw [spl, if_neg h, hx]
theorem spl_some (c : UInt8) : ∀ l, ∃ x t, spl c l = x :: t
  | [] => ⟨[], [], rfl⟩
  | b :: l => by
    by_cases h : b = c
    · subst h; exact ⟨_, _, spl_hit _ _⟩
    · obtain ⟨x, t, e⟩ := spl_some c l
      exact ⟨_, _, spl_cons h e⟩
theorem tl (s : ByteArray) : s.toList = s.data.toList := ByteArray.toList_eq ..
theorem bt_T (s : ByteArray) (i : Nat) (h : i < s.data.toList.length) : bt s (i : Int) = ((s.data.toList[i]).toNat : Int) := by
  have hs : i < s.size := by rw [Array.length_toList] at h; exact h
  unfold bt
  rw [dif_pos (by simpa using hs)]
  simp only [Int.toNat_natCast, Array.getElem_toList]
  rfl
theorem spl_pre (c : UInt8) : ∀ (U V x : List UInt8) (t : List (List UInt8)), (∀ b ∈ U, b ≠ c) → spl c V = x :: t → spl c (U ++ V) = (U ++ x) :: t := by
  intro U
  induction U with
  | nil => intro V x t _ h; exact h
  | cons b U ih =>
    intro V x t hU h
    exact spl_cons (hU b (by simp)) (ih V x t (fun z hz => hU z (by simp [hz])) h)
theorem spl_end (c : UInt8) (U : List UInt8) (hU : ∀ b ∈ U, b ≠ c) : spl c U = [U] := by
  have h := spl_pre c U [] [] [] hU rfl
  rw [List.append_nil] at h
  exact h
theorem spl_at (c : UInt8) (U V : List UInt8) (hU : ∀ b ∈ U, b ≠ c) : spl c (U ++ c :: V) = U :: spl c V := by
  have h := spl_pre c U (c :: V) [] (spl c V) hU (spl_hit _ _)
  rw [List.append_nil] at h
  exact h
theorem spl_len (c : UInt8) : ∀ l, (spl c l).length = l.count c + 1
  | [] => rfl
  | b :: l => by
    obtain ⟨y, t, e⟩ := spl_some c l
    have ih := spl_len c l
    by_cases h : b = c
    · subst h
      rw [spl_hit, List.count_cons_self, List.length_cons, ih]
    · rw [spl_cons h e, List.count_cons_of_ne h, ← ih, e]
      rfl
theorem splitK_le (c : UInt8) : ∀ (n : Nat) (l : List UInt8), ∀ x ∈ Lib.splitK [c] 0 n l, x.length ≤ l.length
  | 0, l => fun x hx => by
    rw [show Lib.splitK [c] 0 0 l = [l] from rfl, List.mem_singleton] at hx
    rw [hx]; exact Nat.le_refl _
  | n + 1, l => fun x hx => by
    rw [Lib.splitK] at hx
    split at hx
    · rw [List.mem_singleton] at hx
      rw [hx]; exact Nat.le_refl _
    · rcases List.mem_cons.1 hx with rfl | hx
      · rw [List.length_take]; omega
      · have := splitK_le c n _ x hx
        rw [List.length_drop] at this
        omega
theorem splitK_ge (c : UInt8) : ∀ (s : List UInt8) (n : Nat), s.count c ≤ n → Lib.splitK [c] 0 n s = spl c s
  | [], n => fun _ => by
    cases n with
    | zero => rfl
    | succ n =>
      have e : Lib.index [] [c] = -1 := by rw [Lib.index_one]; rfl
      rw [Lib.splitK, e, if_pos (by decide)]
      rfl
  | b :: l, n => fun hn => by
    by_cases h : b = c
    · subst h
      rw [List.count_cons_self] at hn
      obtain ⟨n, rfl⟩ := suc_of (show 0 < n by omega)
      have ih := splitK_ge b l n (by omega)
      rw [spl_hit, ← ih]
      have e : Lib.index (b :: l) [b] = 0 := by rw [Lib.index_one, Lib.indexByte, if_pos (by simp)]
      rw [Lib.splitK, e, if_neg (by decide)]
      rfl
    · rw [List.count_cons_of_ne h] at hn
      have ih := splitK_ge c l n hn
      cases n with
      | zero =>
        have e : spl c l = [l] := ih.symm
        rw [spl_cons h e]; rfl
      | succ k =>
        by_cases hm : Lib.indexByte l c = -1
        · have e1 : Lib.index l [c] = -1 := by rw [Lib.index_one, hm]
          have e2 : Lib.index (b :: l) [c] = -1 := by rw [Lib.index_one, Lib.indexByte, if_neg (by simpa using h), hm, if_pos (by decide)]
          rw [Lib.splitK, e1, if_pos (by decide)] at ih
          rw [Lib.splitK, e2, if_pos (by decide), spl_cons h ih.symm]
        · have hge := Lib.indexByte_ge l c
          obtain ⟨i, hi⟩ : ∃ i : Nat, Lib.indexByte l c = (i : Int) := ⟨(Lib.indexByte l c).toNat, by omega⟩
          have e1 : Lib.index l [c] = (i : Int) := by rw [Lib.index_one, hi]
          have e2 : Lib.index (b :: l) [c] = ((i + 1 : Nat) : Int) := by
            rw [Lib.index_one, Lib.indexByte, if_neg (by simpa using h), hi, if_neg (by simp)]; rfl
          have m1 : ¬ (((i : Int) == -1) = true) := by simp
          have m2 : ¬ ((((i + 1 : Nat) : Int) == -1) = true) := by
            intro q; have := beq_iff_eq.1 q; omega
          rw [Lib.splitK, e1, if_neg m1, Int.toNat_natCast] at ih
          rw [Lib.splitK, e2, if_neg m2, Int.toNat_natCast, spl_cons h ih.symm]
          rfl
theorem ex_data (s : ByteArray) (a b : Nat) : (s.extract a b).data.toList = (s.data.toList.drop a).take (b - a) := by
  rw [Lib.extract_data]
theorem ixb_at (c : UInt8) (V : List UInt8) : ∀ U : List UInt8, (∀ b ∈ U, b ≠ c) → Lib.indexByte (U ++ c :: V) c = (U.length : Int)
  | [], _ => by rw [List.nil_append, Lib.indexByte, if_pos (by simp)]; rfl
  | b :: U, h => by
    have ih := ixb_at c V U (fun x hx => h x (by simp [hx]))
    have hb := h b (by simp)
    rw [List.cons_append, Lib.indexByte, if_neg (by simpa using hb), ih, if_neg (by intro q; have := beq_iff_eq.1 q; omega)]
    simp
theorem imp_cut (c : UInt8) (s : ByteArray) (hs : s.size ≤ 1048576) : ∃ a b f, strings_Cut.f s ⟨#[c]⟩ = some (a, b, f) ∧ a.size ≤ s.size ∧ b.size ≤ s.size ∧ ∀ U V, (∀ x ∈ U, x ≠ c) → s.data.toList = U ++ c :: V → a.data.toList = U ∧ b.data.toList = V := by
  have hT : s.data.toList.length = s.size := Array.length_toList ..
  have e0 : stringslite_Index.f s ⟨#[c]⟩ = some (Lib.indexByte s.data.toList c) := rfl
  have e1 : ((⟨#[c]⟩ : ByteArray).size : Int) = 1 := rfl
  unfold strings_Cut.f stringslite_Cut.f
  rw [e0, e1, Option.bind_some]
  have hge := Lib.indexByte_ge s.data.toList c
  by_cases hm : Lib.indexByte s.data.toList c = -1
  · rw [hm, if_neg (by decide), Option.bind_some]
    refine ⟨_, _, _, rfl, Nat.le_refl _, Nat.zero_le _, fun U V hU he => ?_⟩
    have := ixb_at c V U hU
    rw [← he, hm] at this
    omega
  · obtain ⟨i, hi⟩ : ∃ i : Nat, Lib.indexByte s.data.toList c = (i : Int) := ⟨(Lib.indexByte s.data.toList c).toNat, by omega⟩
    obtain ⟨h1, h2⟩ := Lib.indexByte_some hi
    have hil : i < s.data.toList.length := by
      rcases Nat.lt_or_ge i s.data.toList.length with q | q
      · exact q
      · rw [List.getElem?_eq_none q] at h1; cases h1
    rw [hi, next_nat (n := s.size) (by omega) (by omega), if_pos (by omega), if_pos (by omega), if_pos (by omega), if_pos (by omega), if_pos (by omega), Option.bind_some, Int.toNat_natCast, Int.toNat_natCast]
    refine ⟨_, _, _, rfl, ?_, ?_, fun U V hU he => ?_⟩
    · simp only [ByteArray.size_extract]; omega
    · simp only [ByteArray.size_extract]; omega
    · have hl := ixb_at c V U hU
      rw [← he, hi] at hl
      have hl : i = U.length := by omega
      have hV : s.data.toList.drop (i + 1) = V := by
        rw [he, hl, show U.length + 1 = U.length + 1 from rfl, ← List.drop_drop, List.drop_left]
        rfl
      rw [ex_data, ex_data, hV, List.drop_zero, Nat.sub_zero, he, hl, List.take_left]
      refine ⟨rfl, List.take_of_length_le ?_⟩
      rw [← hV, List.length_drop, hT]; omega
theorem imp_splitn (s : ByteArray) (hs : s.size ≤ 1048576) : ∃ P, strings_SplitN.f s ⟨#[32]⟩ 9 = some P ∧ 1 ≤ P.length ∧ P.length ≤ 9 ∧ P.length ≤ s.size + 1 ∧ (∀ x ∈ P, x.size ≤ s.size) ∧ ((spl 32 s.data.toList).length ≤ 9 → P.map (·.data.toList) = spl 32 s.data.toList) := by
  have hT : s.data.toList.length = s.size := Array.length_toList ..
  obtain ⟨n, hn⟩ : ∃ n, min 9 (s.size + 1) - 1 = n := ⟨_, rfl⟩
  have hd := Lib.splitB_data ⟨#[32]⟩ 0 n s
  have hd : (Lib.splitB ⟨#[32]⟩ 0 n s).map (·.data.toList) = Lib.splitK [32] 0 n s.data.toList := hd
  have hle := Lib.splitB_length_le ⟨#[32]⟩ 0 n s
  refine ⟨Lib.splitB ⟨#[32]⟩ 0 n s, ?_, ?_, by omega, by omega, fun x hx => ?_, fun hl => ?_⟩
  · unfold strings_SplitN.f
    rw [if_pos ⟨by rw [tl], rfl, by omega⟩, hn]
  · rw [show (Lib.splitB ⟨#[32]⟩ 0 n s).length = ((Lib.splitB ⟨#[32]⟩ 0 n s).map (·.data.toList)).length by rw [List.length_map], hd]
    cases n with
    | zero => exact Nat.le_refl _
    | succ n =>
      rw [Lib.splitK]
      split
      · exact Nat.le_refl _
      · simp
  · have := splitK_le 32 n s.data.toList x.data.toList (by rw [← hd]; exact List.mem_map.2 ⟨x, hx, rfl⟩)
    have hx2 : x.data.toList.length = x.size := Array.length_toList ..
    omega
  · rw [spl_len] at hl
    have hc := List.count_le_length (a := (32 : UInt8)) (l := s.data.toList)
    rw [hd]
    exact splitK_ge 32 s.data.toList n (by omega)

theorem dv_of {d : Nat} (h : d < 10) : Lib.digitVal (UInt8.ofNat (48 + d)) = some d := (by decide : ∀ d : Fin 10, Lib.digitVal (UInt8.ofNat (48 + d.val)) = some d.val) ⟨d, h⟩
theorem df_app : ∀ (A B : List UInt8) (a : Nat), Lib.decFrom a (A ++ B) = (Lib.decFrom a A).bind fun x => Lib.decFrom x B
  | [], B, a => rfl
  | b :: A, B, a => by
    rw [List.cons_append, Lib.decFrom, Lib.decFrom]
    cases Lib.digitVal b with
    | none => rfl
    | some d => exact df_app A B _
theorem df_one (b : UInt8) (a : Nat) : Lib.decFrom a [b] = (Lib.digitVal b).map fun d => a * 10 + d := by
  rw [Lib.decFrom]
  cases Lib.digitVal b <;> rfl
theorem df_dd : ∀ (j m : Nat), m < 10 ^ (j + 1) → Lib.decFrom 0 (Lib.decDigits m) = some m := by
  intro j
  induction j with
  | zero =>
    intro m h
    have h : m < 10 := by simpa using h
    rw [dd_small h, df_one, dv_of h]
    simp
  | succ j ih =>
    intro m h
    by_cases c : m < 10
    · rw [dd_small c, df_one, dv_of c]
      simp
    · rw [dd_big c, df_app, ih (m / 10) (by rw [Nat.pow_succ] at h; omega), Option.bind_some, df_one, dv_of (by omega)]
      show some (m / 10 * 10 + m % 10) = some m
      congr 1
      omega
theorem dd_digits : ∀ (j m : Nat), m < 10 ^ (j + 1) → ∀ b ∈ Lib.decDigits m, 48 ≤ b.toNat ∧ b.toNat ≤ 57 := by
  have one : ∀ d : Fin 10, 48 ≤ (UInt8.ofNat (48 + d.val)).toNat ∧ (UInt8.ofNat (48 + d.val)).toNat ≤ 57 := by decide
  intro j
  induction j with
  | zero =>
    intro m h b hb
    have h : m < 10 := by simpa using h
    rw [dd_small h, List.mem_singleton] at hb
    rw [hb]
    exact one ⟨m, h⟩
  | succ j ih =>
    intro m h b hb
    by_cases c : m < 10
    · rw [dd_small c, List.mem_singleton] at hb
      rw [hb]
      exact one ⟨m, c⟩
    · rw [dd_big c, List.mem_append, List.mem_singleton] at hb
      rcases hb with hb | hb
      · exact ih (m / 10) (by rw [Nat.pow_succ] at h; omega) b hb
      · rw [hb]
        exact one ⟨m % 10, by omega⟩
theorem itoa_nat (m : Nat) : Lib.itoa (m : Int) = Lib.decDigits m := by
  unfold Lib.itoa
  rw [if_neg (by omega), Int.toNat_natCast]

theorem imp_dec_all (n : Int) (h0 : -9223372036854775808 ≤ n) (h1 : n ≤ 9223372036854775807) : impl_Decimal.f n = some ⟨(Lib.itoa n).toArray⟩ := by
  unfold impl_Decimal.f strconv_FormatInt_42.f
  rw [if_pos ⟨rfl, h0, h1⟩]
  rfl
theorem readdec_total (s : ByteArray) (hs : s.size ≤ 1048576) : ∃ v b, impl_ReadDecimal.f s = some (v, b) := by
  unfold impl_ReadDecimal.f
  rw [if_pos (by omega)]
  rcases hP : Lib.parseIntB 64 s.data.toList with v | _ | _
  · skip
    simp only
    rw [Lib.parseIntB_64] at hP
    obtain ⟨h0, h1⟩ := Lib.atoiAll_bounds hP
    split
    · exact ⟨_, _, rfl⟩
    · rw [imp_dec_all v h0 h1, Option.bind_some]
      split
      · exact ⟨_, _, rfl⟩
      · exact ⟨_, _, rfl⟩
  · exact ⟨_, _, rfl⟩
  · exact ⟨_, _, rfl⟩
theorem readdec_itoa (s : ByteArray) (hs : s.size ≤ 1048576) (n : Int) (h0 : 0 ≤ n) (h1 : n ≤ 1000000000000) (he : s.data.toList = Lib.itoa n) : impl_ReadDecimal.f s = some (n, true) := by
  obtain ⟨m, rfl⟩ : ∃ m : Nat, n = (m : Int) := ⟨n.toNat, by omega⟩
  have hd := df_dd 12 m (by omega)
  have hl := dd_len 12 m (by omega)
  have hg := dd_digits 12 m (by omega)
  have hi := imp_dec_all (m : Int) (by omega) (by omega)
  rw [itoa_nat] at he hi
  unfold impl_ReadDecimal.f
  rw [if_pos (by omega), he]
  have hne : Lib.decDigits m ≠ [] := by
    intro e
    by_cases c : m < 10
    · rw [dd_small c] at e; cases e
    · rw [dd_big c] at e; simp at e
  have hP : Lib.parseIntB 64 (Lib.decDigits m) = .ok (m : Int) := by
    rw [Lib.parseIntB_64, Lib.atoiAll_short _ (by omega)]
    match Lib.decDigits m, hne, hd, hg with
    | b :: r, _, hd, hg =>
      have hb := hg b (by simp)
      have e1 : ¬ (b == 45) = true := by intro q; rw [beq_iff_eq] at q; rw [q] at hb; exact absurd hb (by decide)
      have e2 : ¬ (b == 43) = true := by intro q; rw [beq_iff_eq] at q; rw [q] at hb; exact absurd hb (by decide)
      rw [Lib.atoi, if_neg e1, if_neg e2, Lib.decNat, if_neg (by simp), hd]
      rfl
  have hT : Lib.trimPrefix (Lib.decDigits m) [45] = Lib.decDigits m := by
    match Lib.decDigits m, hne, hg with
    | b :: r, _, hg =>
      have hb := hg b (by simp)
      unfold Lib.trimPrefix Lib.hasPrefix
      rw [if_neg]
      intro q
      simp at q
      rw [← q] at hb
      exact absurd hb (by decide)
  rw [hP]
  simp only
  rw [hT, if_neg (by omega), hi, Option.bind_some, if_pos]
  rw [beq_iff_eq, tl, tl, he]

theorem ba_ext {x y : ByteArray} (h : x.data.toList = y.data.toList) : x = y := by
  cases x with | mk a =>
  cases y with | mk b =>
  have : a = b := Array.toList_inj.mp h
  rw [this]
def pairT (x : List Int) : List UInt8 := 32 :: (Lib.itoa (rd x 0) ++ 58 :: Lib.itoa (rd x 1))
def rowsT : List (List Int) → List UInt8
  | [] => []
  | x :: r => pairT x ++ rowsT r
def headT (s : ByteArray) (f p : Int) : List UInt8 := s.data.toList ++ 32 :: (Lib.itoa f ++ 43 :: Lib.itoa p)
theorem imp_dec (n : Int) (h0 : 0 ≤ n) (h1 : n ≤ 1000000000000) : impl_Decimal.f n = some ⟨(Lib.itoa n).toArray⟩ := imp_dec_all n (by omega) (by omega)
theorem sz_mk (l : List UInt8) : (⟨l.toArray⟩ : ByteArray).size = l.length := by simp [ByteArray.size]
theorem sz_one (b : UInt8) : (⟨#[b]⟩ : ByteArray).size = 1 := rfl
theorem app_T (a b : ByteArray) : (a ++ b).data.toList = a.data.toList ++ b.data.toList := by
  rw [ByteArray.data_append, Array.toList_append]
theorem rows_imp (L : List (List Int)) (hL : L.length ≤ 6) (hx : ∀ i, i < L.length → (L.getD i []).length = 2 ∧ (0 ≤ lv0 L i ∧ lv0 L i ≤ 1000000) ∧ (0 ≤ lv1 L i ∧ lv1 L i ≤ 10000)) :
    ∀ (d i : Nat) (A : ByteArray) (k : Nat), i + d = L.length → A.size + d * 100 ≤ 10000000 → 200 + d < k →
    impl_TariffText.l0 k A L (L.length : Int) (i : Int) = some ⟨(A.data.toList ++ rowsT (L.drop i)).toArray⟩ := by
  intro d
  induction d with
  | zero =>
    intro i A k hi _ hk
    obtain ⟨k, rfl⟩ := suc_of hk
    have e : L.drop i = [] := List.drop_of_length_le (by omega)
    have eA : (⟨(A.data.toList ++ rowsT (L.drop i)).toArray⟩ : ByteArray) = A := by
      rw [e]
      refine ba_ext ?_
      simp [rowsT]
    rw [eA, impl_TariffText.l0.eq_def]
    simp only []
    rw [if_neg (by omega)]
  | succ d ih =>
    intro i A k hi hA hk
    obtain ⟨k, rfl⟩ := suc_of hk
    have c2 : (i : Int) < (L.length : Int) := by omega
    have c3 : (0 : Int) ≤ (i : Int) := by omega
    have c1 : (0 : Int) < ((1 : Nat) : Int) := by omega
    have hil : i < L.length := by omega
    have hnx : wrap64 ((i : Int) + 1) = ((i + 1 : Nat) : Int) := next_nat (n := 6) (by omega) (by omega)
    obtain ⟨h2, ⟨a0, a1⟩, ⟨b0, b1⟩⟩ := hx i hil
    have c4 : (0 : Int) < ((L.getD i []).length : Int) := by rw [h2]; decide
    have c5 : (1 : Int) < ((L.getD i []).length : Int) := by rw [h2]; decide
    have r1 : rd_L3 L (i : Int) = L.getD i [] := by unfold rd_L3; rw [Int.toNat_natCast]
    have i0 := imp_dec (lv0 L i) a0 (Int.le_trans a1 (by decide))
    have i1 := imp_dec (lv1 L i) b0 (Int.le_trans b1 (by decide))
    have n0 := itoa_len (lv0 L i) a0 (Int.le_trans a1 (by decide))
    have n1 := itoa_len (lv1 L i) b0 (Int.le_trans b1 (by decide))
    clear a0 a1 b0 b1
    have ep : pairT (L.getD i []) = 32 :: (Lib.itoa (lv0 L i) ++ 58 :: Lib.itoa (lv1 L i)) := rfl
    have g0 : rd (L.getD i []) 0 = lv0 L i := rfl
    have g1 : rd (L.getD i []) 1 = lv1 L i := rfl
    rw [← g0] at i0 n0 ep
    rw [← g1] at i1 n1 ep
    clear g0 g1
    obtain ⟨t0, e0⟩ : ∃ t, Lib.itoa (rd (L.getD i []) 0) = t := ⟨_, rfl⟩
    obtain ⟨t1, e1⟩ : ∃ t, Lib.itoa (rd (L.getD i []) 1) = t := ⟨_, rfl⟩
    rw [e0] at i0 n0 ep
    rw [e1] at i1 n1 ep
    have ed : L.drop i = L.getD i [] :: L.drop (i + 1) := by
      rw [List.drop_eq_getElem_cons (show i < L.length by omega), List.getD_eq_getElem?_getD, List.getElem?_eq_getElem (by omega)]
      rfl
    obtain ⟨B, hB⟩ : ∃ B : ByteArray, B = A ++ ((((⟨#[32]⟩ : ByteArray) ++ ⟨t0.toArray⟩) ++ (⟨#[58]⟩ : ByteArray)) ++ ⟨t1.toArray⟩) := ⟨_, rfl⟩
    have hBd : B.data.toList = A.data.toList ++ pairT (L.getD i []) := by
      rw [hB]
      simp only [app_T]
      rw [ep]
      simp
    have hBs : B.size ≤ A.size + 28 := by
      rw [hB]
      simp only [ByteArray.size_append, sz_mk, sz_one, List.length_singleton]
      omega
    have q2 := ih (i + 1) B k (by omega) (by omega) (by omega)
    rw [hBd, List.append_assoc] at q2
    have ee : pairT (L.getD i []) ++ rowsT (L.drop (i + 1)) = rowsT (L.drop i) := by rw [ed]; rfl
    rw [ee] at q2
    have z : ∀ l : List UInt8, (⟨l.toArray⟩ : ByteArray).size = l.length := sz_mk
    rw [impl_TariffText.l0.eq_def]
    simp only []
    rw [r1, i0, i1, if_pos c2, if_pos c3, if_pos c2, if_pos c4, Option.bind_some, if_pos (by rw [z]; omega), if_pos (by simp only [ByteArray.size_append, sz_mk, sz_one, List.length_singleton]; omega), if_pos c5, Option.bind_some, if_pos (by simp only [ByteArray.size_append, sz_mk, sz_one, List.length_singleton]; omega), if_pos (by simp only [ByteArray.size_append, sz_mk, sz_one, List.length_singleton]; omega), ← hB, hnx]
    exact q2
theorem text_imp (s : ByteArray) (f p : Int) (L : List (List Int)) (ht : TarOk f p L) (hs : s.size ≤ 10) (k : Nat) (hk : 1000 ≤ k) :
    (∀ v, impl_ValidTariff.f k s f p L = some v → v = true → impl_TariffText.f k s f p L = some ⟨(headT s f p ++ rowsT L).toArray⟩) := by
  obtain ⟨⟨f0, f1⟩, ⟨p0, p1⟩, _, l6, hx⟩ := ht
  have i0 := imp_dec f f0 (by omega)
  have i1 := imp_dec p p0 (by omega)
  have n0 := itoa_len f f0 (by omega)
  have n1 := itoa_len p p0 (by omega)
  obtain ⟨B, hB⟩ : ∃ B : ByteArray, B = (((s ++ (⟨#[32]⟩ : ByteArray)) ++ ⟨(Lib.itoa f).toArray⟩) ++ (⟨#[43]⟩ : ByteArray)) ++ ⟨(Lib.itoa p).toArray⟩ := ⟨_, rfl⟩
  have hBd : B.data.toList = headT s f p := by
    rw [hB]
    simp only [app_T]
    unfold headT
    simp
  have hBs : B.size ≤ 100 := by
    rw [hB]
    simp only [ByteArray.size_append, sz_mk, sz_one, List.length_singleton]
    omega
  have q2 := rows_imp L l6 (fun i hi => ⟨(hx i hi).1, (hx i hi).2.1, (hx i hi).2.2.1⟩) L.length 0 B k (by omega) (by omega) (by omega)
  rw [hBd, List.drop_zero] at q2
  intro v hv hv2
  unfold impl_TariffText.f
  rw [hv, hv2, Option.bind_some, if_pos rfl, i0, i1, if_pos (by omega), Option.bind_some, if_pos (by simp only [ByteArray.size_append, sz_mk, sz_one, List.length_singleton]; omega), if_pos (by simp only [ByteArray.size_append, sz_mk, sz_one, List.length_singleton]; omega), Option.bind_some, if_pos (by simp only [ByteArray.size_append, sz_mk, sz_one, List.length_singleton]; omega), ← hB]
  exact q2

abbrev RT := ByteArray × Int × Int × List (List Int) × Bool
def noT : RT := (⟨#[]⟩, 0, 0, [], false)
def rowB (x : List Int) : List UInt8 := Lib.itoa (rd x 0) ++ 58 :: Lib.itoa (rd x 1)
def textT (n : ByteArray) (f p : Int) (L : List (List Int)) : List UInt8 := headT n f p ++ rowsT L
def GoodT (n : ByteArray) (f p : Int) (L : List (List Int)) : Prop := (∀ k, 2000000 ≤ k → spec_l21Ok.f k [(⟨n, f, p, L⟩ : S26)] = some true) ∧ (∀ k, 2000000 ≤ k → impl_ValidTariff.f k n f p L = some true) ∧ TarOk f p L ∧ n.size ≤ 10 ∧ ∀ b ∈ n.data.toList, b ≠ 32
theorem name_no32_l0 (s : ByteArray) (hs : s.size ≤ 1048576) : ∀ (k i : Nat), spec_l01Name.l0 k s (i : Int) = some true → ∀ j, i ≤ j → (h : j < s.data.toList.length) → s.data.toList[j] ≠ 32 := by
  have hT : s.data.toList.length = s.size := Array.length_toList ..
  intro k
  induction k with
  | zero => intro i h; rw [spec_l01Name.l0.eq_def] at h; cases h
  | succ k ih =>
    intro i h j hij hj
    rw [spec_l01Name.l0.eq_def] at h
    simp only at h
    rw [if_pos (by omega), if_pos (by omega), next_nat (n := s.size) (by omega) (by omega), bt_T s i (by omega)] at h
    by_cases e : i = j
    · subst e
      intro q
      rw [q] at h
      have e1 : spec_l01Small.f (((32 : UInt8).toNat : Nat) : Int) = some false := by decide
      have e2 : spec_l01Digit.f (((32 : UInt8).toNat : Nat) : Int) = some false := by decide
      rw [e1, Option.bind_some, if_neg Bool.false_ne_true, e2, Option.bind_some, if_neg Bool.false_ne_true] at h
      cases h
    · refine ih (i + 1) ?_ j (by omega) hj
      generalize ((s.data.toList[i]'(by omega)).toNat : Int) = b at h
      unfold spec_l01Small.f spec_l01Digit.f at h
      generalize spec_l01Name.l0 k s ((i + 1 : Nat) : Int) = R at h ⊢
      split at h
      · rw [Option.bind_some] at h
        split at h
        · exact h
        · split at h
          · rw [Option.bind_some] at h
            split at h
            · exact h
            · cases h
          · rw [Option.bind_some, if_neg Bool.false_ne_true] at h
            cases h
      · rw [Option.bind_some, if_neg Bool.false_ne_true] at h
        split at h
        · rw [Option.bind_some] at h
          split at h
          · exact h
          · cases h
        · rw [Option.bind_some, if_neg Bool.false_ne_true] at h
          cases h
theorem name_no32 (s : ByteArray) (hs : s.size ≤ 1048576) (k : Nat) (h : spec_l01Name.f k s = some true) : ∀ b ∈ s.data.toList, b ≠ 32 := by
  have key : ∀ k x, spec_l01Name.j0 k s x = some true → ∀ b ∈ s.data.toList, b ≠ 32 := by
    intro k x h
    cases k with
    | zero => rw [spec_l01Name.j0.eq_def] at h; cases h
    | succ k =>
      rw [spec_l01Name.j0.eq_def] at h
      simp only at h
      split at h
      · cases h
      · intro b hb
        obtain ⟨j, hj, rfl⟩ := List.mem_iff_getElem.1 hb
        exact name_no32_l0 s hs k 0 h j (Nat.zero_le _) hj
  unfold spec_l01Name.f at h
  split at h
  · exact key _ _ h
  · split at h
    · exact key _ _ h
    · split at h
      · cases hv : spec_l01Small.f (bt s 0) with
        | none => rw [hv] at h; cases h
        | some v => rw [hv] at h; exact key _ _ h
      · cases h
theorem ok_name (n : ByteArray) (hn : n.size ≤ 1048576) (f p : Int) (L : List (List Int)) (k : Nat) (h : spec_l21Ok.f k [(⟨n, f, p, L⟩ : S26)] = some true) : ∀ b ∈ n.data.toList, b ≠ 32 := by
  have r0 : (rd_T26 [(⟨n, f, p, L⟩ : S26)] 0).f0 = n := rfl
  unfold spec_l21Ok.f at h
  rw [r0, if_pos (by simp)] at h
  cases hv : spec_l01Name.f k n with
  | none => rw [hv] at h; cases h
  | some v =>
    cases v with
    | true => exact name_no32 n hn k hv
    | false =>
      rw [hv, Option.bind_some, if_neg Bool.false_ne_true] at h
      cases k with
      | zero => rw [spec_l21Ok.j0.eq_def] at h; cases h
      | succ k =>
        rw [spec_l21Ok.j0.eq_def] at h
        simp only at h
        rw [if_pos (by trivial)] at h
        cases h
theorem good_cases (n : ByteArray) (f p : Int) (L : List (List Int)) (hn : n.size ≤ 1048576) : GoodT n f p L ∨ ((∀ k, 2000000 ≤ k → spec_l21Ok.f k [(⟨n, f, p, L⟩ : S26)] = some false) ∧ (∀ k, 2000000 ≤ k → impl_ValidTariff.f k n f p L = some false)) := by
  obtain ⟨v, v1, v2, v3⟩ := tariff_both n f p L (by omega)
  cases v with
  | true =>
    have w1 : ∀ k, 2000000 ≤ k → spec_l21Ok.f k [(⟨n, f, p, L⟩ : S26)] = some true := fun k hk => v1 k (by omega)
    exact Or.inl ⟨w1, fun k hk => v2 k (by omega), (v3 rfl).1, (v3 rfl).2, ok_name n hn f p L _ (w1 2000000 (Nat.le_refl _))⟩
  | false => exact Or.inr ⟨fun k hk => v1 k (by omega), fun k hk => v2 k (by omega)⟩
theorem text_cases (n : ByteArray) (f p : Int) (L : List (List Int)) (hn : n.size ≤ 1048576) : ∃ T : ByteArray, (∀ k, 2000000 ≤ k → impl_TariffText.f k n f p L = some T) ∧ ((GoodT n f p L ∧ T.data.toList = textT n f p L) ∨ (¬ GoodT n f p L ∧ T.data.toList = [])) := by
  rcases good_cases n f p L hn with hg | ⟨h1, h2⟩
  · refine ⟨⟨(textT n f p L).toArray⟩, fun k hk => ?_, Or.inl ⟨hg, rfl⟩⟩
    exact text_imp n f p L hg.2.2.1 hg.2.2.2.1 k (by omega) true (hg.2.1 k hk) rfl
  · refine ⟨⟨#[]⟩, fun k hk => ?_, Or.inr ⟨fun hg => ?_, rfl⟩⟩
    · unfold impl_TariffText.f
      rw [h2 k hk]
      rfl
    · have := (h2 2000000 (Nat.le_refl _)).symm.trans (hg.2.1 2000000 (Nat.le_refl _))
      cases this
theorem itoa_digits (n : Int) (h0 : 0 ≤ n) (h1 : n ≤ 1000000000000) : ∀ b ∈ Lib.itoa n, 48 ≤ b.toNat ∧ b.toNat ≤ 57 := by
  obtain ⟨m, rfl⟩ : ∃ m : Nat, n = (m : Int) := ⟨n.toNat, by omega⟩
  rw [itoa_nat]
  exact dd_digits 12 m (by omega)
theorem itoa_no (c : UInt8) (hc : c.toNat < 48 ∨ 57 < c.toNat) (n : Int) (h0 : 0 ≤ n) (h1 : n ≤ 1000000000000) : ∀ b ∈ Lib.itoa n, b ≠ c := by
  intro b hb e
  have := itoa_digits n h0 h1 b hb
  rw [e] at this
  omega
theorem pair_no32 (c : UInt8) (hc : c ≠ 32) (u v : Int) (hu : 0 ≤ u ∧ u ≤ 1000000000000) (hv : 0 ≤ v ∧ v ≤ 1000000000000) : ∀ b ∈ Lib.itoa u ++ c :: Lib.itoa v, b ≠ 32 := by
  intro b hb
  rw [List.mem_append, List.mem_cons] at hb
  rcases hb with hb | hb | hb
  · exact itoa_no 32 (by decide) u hu.1 hu.2 b hb
  · rw [hb]; exact hc
  · exact itoa_no 32 (by decide) v hv.1 hv.2 b hb
theorem spl_rows : ∀ (L : List (List Int)) (y : List UInt8), (∀ b ∈ y, b ≠ 32) → (∀ x ∈ L, ∀ b ∈ rowB x, b ≠ 32) → spl 32 (y ++ rowsT L) = y :: L.map rowB
  | [], y, hy, _ => by
    rw [show rowsT [] = [] from rfl, List.append_nil]
    exact spl_end 32 y hy
  | x :: L, y, hy, hL => by
    have ih := spl_rows L (rowB x) (hL x (by simp)) (fun z hz => hL z (by simp [hz]))
    rw [show rowsT (x :: L) = 32 :: (rowB x ++ rowsT L) from rfl, spl_at 32 y _ hy, ih]
    rfl
theorem text_spl (n : ByteArray) (f p : Int) (L : List (List Int)) (hg : GoodT n f p L) : spl 32 (textT n f p L) = n.data.toList :: (Lib.itoa f ++ 43 :: Lib.itoa p) :: L.map rowB := by
  obtain ⟨_, _, ⟨f0, p0, _, _, hx⟩, _, hb⟩ := hg
  have e : textT n f p L = n.data.toList ++ 32 :: ((Lib.itoa f ++ 43 :: Lib.itoa p) ++ rowsT L) := by
    unfold textT headT
    simp
  rw [e, spl_at 32 _ _ hb, spl_rows L _ (pair_no32 43 (by decide) f p ⟨f0.1, by omega⟩ ⟨p0.1, by omega⟩) (fun x hx2 => ?_)]
  obtain ⟨i, hi, rfl⟩ := List.mem_iff_getElem.1 hx2
  obtain ⟨_, ⟨a0, a1⟩, ⟨b0, b1⟩, _⟩ := hx i hi
  unfold lv0 at a0 a1
  unfold lv1 at b0 b1
  rw [getD_lt hi] at a0 a1 b0 b1
  exact pair_no32 58 (by decide) _ _ ⟨a0, Int.le_trans a1 (by decide)⟩ ⟨b0, Int.le_trans b1 (by decide)⟩
theorem two_of {x : List Int} (h : x.length = 2) : x = [rd x 0, rd x 1] := by
  match x, h with
  | [a, b], _ => rfl

theorem good_rows {n : ByteArray} {f p : Int} {L : List (List Int)} (hg : GoodT n f p L) : ∀ x ∈ L, x.length = 2 ∧ (0 ≤ rd x 0 ∧ rd x 0 ≤ 1000000000000) ∧ (0 ≤ rd x 1 ∧ rd x 1 ≤ 1000000000000) := by
  intro x hx2
  obtain ⟨_, _, ⟨_, _, _, _, hx⟩, _, _⟩ := hg
  obtain ⟨i, hi, rfl⟩ := List.mem_iff_getElem.1 hx2
  obtain ⟨l2, ⟨a0, a1⟩, ⟨b0, b1⟩, _⟩ := hx i hi
  unfold lv0 at a0 a1
  unfold lv1 at b0 b1
  rw [getD_lt hi] at a0 a1 b0 b1 l2
  exact ⟨l2, ⟨a0, Int.le_trans a1 (by decide)⟩, ⟨b0, Int.le_trans b1 (by decide)⟩⟩
theorem rdo_nat (P : List ByteArray) (i : Nat) (h : i < P.length) : rdOf ByteArray.empty P (i : Int) = P[i] := by
  unfold rdOf
  rw [Int.toNat_natCast]
  exact getD_lt h
theorem impl_rows (s : ByteArray) (hs0 : 0 < s.size) (one two : Bool) (P : List ByteArray) (hP : ∀ x ∈ P, x.size ≤ 1048576) (hl : P.length ≤ 9) (n : ByteArray) (hn : n.size ≤ 1048576) (f p : Int) : ∀ (d i : Nat) (A : List (List Int)) (k : Nat), i + d = P.length → A.length ≤ i → 2000000 + d < k →
    ∃ r : RT, impl_ReadTariff.l0 k s one two P (P.length : Int) (i : Int) n f p A = some r ∧ (r = noT ∨ ∃ L, r = (n, f, p, L, true) ∧ GoodT n f p L ∧ textT n f p L = s.data.toList) ∧
      ∀ X, (P.drop i).map (·.data.toList) = X.map rowB → GoodT n f p (A ++ X) → one = true → two = true → textT n f p (A ++ X) = s.data.toList → r = (n, f, p, A ++ X, true) := by
  have hT : s.data.toList.length = s.size := Array.length_toList ..
  intro d
  induction d with
  | zero =>
    intro i A k hi hA hk
    obtain ⟨k, rfl⟩ := suc_of (show 0 < k by omega)
    have e : P.drop i = [] := List.drop_of_length_le (by omega)
    rw [impl_ReadTariff.l0.eq_def]
    simp only
    rw [if_neg (by omega), e]
    cases one with
    | false =>
      rw [if_neg Bool.false_ne_true]
      exact ⟨_, rfl, Or.inl rfl, fun X _ _ h => (by cases h)⟩
    | true =>
      cases two with
      | false =>
        rw [if_pos rfl, if_neg Bool.false_ne_true]
        exact ⟨_, rfl, Or.inl rfl, fun X _ _ _ h => (by cases h)⟩
      | true =>
        obtain ⟨T, t1, t2⟩ := text_cases n f p A hn
        rw [if_pos rfl, if_pos rfl, t1 k (by omega), Option.bind_some, tl, tl]
        have nilX : ∀ X : List (List Int), ([] : List ByteArray).map (·.data.toList) = X.map rowB → X = [] := fun X hX => by
          match X, hX with
          | [], _ => rfl
        rcases t2 with ⟨hg, ht⟩ | ⟨hg, ht⟩
        · rw [ht]
          by_cases q : textT n f p A = s.data.toList
          · rw [if_pos q]
            refine ⟨_, rfl, Or.inr ⟨A, rfl, hg, q⟩, fun X hX _ _ _ _ => ?_⟩
            rw [nilX X hX, List.append_nil]
          · rw [if_neg q]
            refine ⟨_, rfl, Or.inl rfl, fun X hX _ _ _ q2 => ?_⟩
            rw [nilX X hX, List.append_nil] at q2
            exact absurd q2 q
        · rw [ht, if_neg (fun q => by rw [← q] at hT; simp at hT; omega)]
          refine ⟨_, rfl, Or.inl rfl, fun X hX hg2 _ _ _ => ?_⟩
          rw [nilX X hX, List.append_nil] at hg2
          exact absurd hg2 hg
  | succ d ih =>
    intro i A k hi hA hk
    obtain ⟨k, rfl⟩ := suc_of (show 0 < k by omega)
    have hil : i < P.length := by omega
    have ed : P.drop i = P[i] :: P.drop (i + 1) := List.drop_eq_getElem_cons hil
    have hPi := hP P[i] (List.getElem_mem _)
    obtain ⟨a, b, g, c1, c2, c3, c4⟩ := imp_cut 58 P[i] hPi
    obtain ⟨u, x, n1⟩ := readdec_total a (by omega)
    obtain ⟨v, y, m1⟩ := readdec_total b (by omega)
    rw [impl_ReadTariff.l0.eq_def]
    simp only
    rw [if_pos (by omega), if_pos (by omega), if_pos (by omega), rdo_nat P i hil, c1, Option.bind_some]
    simp only
    rw [n1, Option.bind_some, m1, Option.bind_some]
    simp only
    have comp : ∀ z : List Int, z.length = 2 ∧ (0 ≤ rd z 0 ∧ rd z 0 ≤ 1000000000000) ∧ (0 ≤ rd z 1 ∧ rd z 1 ≤ 1000000000000) → P[i].data.toList = rowB z → [u, v] = z ∧ x = true ∧ y = true := by
      intro z hz e
      obtain ⟨d1, d2⟩ := c4 (Lib.itoa (rd z 0)) (Lib.itoa (rd z 1)) (itoa_no 58 (by decide) _ hz.2.1.1 hz.2.1.2) e
      have e1 := readdec_itoa a (by omega) (rd z 0) hz.2.1.1 hz.2.1.2 d1
      have e2 := readdec_itoa b (by omega) (rd z 1) hz.2.2.1 hz.2.2.2 d2
      rw [n1] at e1
      rw [m1] at e2
      obtain ⟨e1, e3⟩ := Prod.mk.inj (Option.some.inj e1)
      obtain ⟨e2, e4⟩ := Prod.mk.inj (Option.some.inj e2)
      exact ⟨by rw [two_of hz.1, e1, e2], e3, e4⟩
    have bad : x = false ∨ y = false → ∃ r : RT, (some ((⟨#[]⟩ : ByteArray), (0 : Int), (0 : Int), ([] : List (List Int)), false) : Option RT) = some r ∧ (r = noT ∨ ∃ L, r = (n, f, p, L, true) ∧ GoodT n f p L ∧ textT n f p L = s.data.toList) ∧
      ∀ X, (P.drop i).map (·.data.toList) = X.map rowB → GoodT n f p (A ++ X) → one = true → two = true → textT n f p (A ++ X) = s.data.toList → r = (n, f, p, A ++ X, true) := by
      intro hxy
      refine ⟨_, rfl, Or.inl rfl, fun Y hY hg _ _ _ => ?_⟩
      rw [ed] at hY
      match Y, hY with
      | z :: Y, hY =>
        rw [List.map_cons, List.map_cons] at hY
        obtain ⟨_, h1, h2⟩ := comp z (good_rows hg z (by simp)) (List.cons.inj hY).1
        rcases hxy with h | h
        · rw [h] at h1; cases h1
        · rw [h] at h2; cases h2
    cases x with
    | false => rw [if_neg Bool.false_ne_true]; exact bad (Or.inl rfl)
    | true =>
      rw [if_pos rfl]
      cases y with
      | false => rw [if_neg Bool.false_ne_true]; exact bad (Or.inr rfl)
      | true =>
        rw [if_pos rfl, if_pos (by omega), next_nat (n := 9) (by omega) (by omega)]
        obtain ⟨r, r1, r2, r3⟩ := ih (i + 1) (A ++ [[u, v]]) k (by omega) (by simp; omega) (by omega)
        refine ⟨r, r1, r2, fun Y hY hg h1 h2 ht => ?_⟩
        rw [ed] at hY
        match Y, hY with
        | z :: Y, hY =>
          rw [List.map_cons, List.map_cons] at hY
          obtain ⟨e2, _⟩ := comp z (good_rows hg z (by simp)) (List.cons.inj hY).1
          subst e2
          have := r3 Y (List.cons.inj hY).2 (by rw [List.append_assoc]; exact hg) h1 h2 (by rw [List.append_assoc]; exact ht)
          rw [List.append_assoc] at this
          exact this
theorem impl_read (s : ByteArray) (hs : s.size ≤ 1048576) (k : Nat) (hk : 4000000 ≤ k) : ∃ r : RT, impl_ReadTariff.f k s = some r ∧ (r = noT ∨ ∃ n f p L, r = (n, f, p, L, true) ∧ GoodT n f p L ∧ textT n f p L = s.data.toList) ∧
    ∀ n f p L, GoodT n f p L → textT n f p L = s.data.toList → r = (n, f, p, L, true) := by
  have hT : s.data.toList.length = s.size := Array.length_toList ..
  obtain ⟨P, p1, _, p9, pz, pl, p2⟩ := imp_splitn s hs
  have comp : ∀ n f p L, GoodT n f p L → textT n f p L = s.data.toList → P.map (·.data.toList) = n.data.toList :: (Lib.itoa f ++ 43 :: Lib.itoa p) :: L.map rowB := by
    intro n f p L hg e
    have hL := hg.2.2.1.2.2.2.1
    have h := text_spl n f p L hg
    rw [e] at h
    rw [p2 (by rw [h]; simp only [List.length_cons, List.length_map]; omega), h]
  unfold impl_ReadTariff.f
  rw [p1, Option.bind_some]
  by_cases h3 : P.length < 2
  · rw [if_pos (by omega)]
    refine ⟨_, rfl, Or.inl rfl, fun n f p L hg e => ?_⟩
    have h := congrArg List.length (comp n f p L hg e)
    simp only [List.length_map, List.length_cons] at h
    omega
  · match P, h3, p9, pz, pl, comp with
    | [_], h3, _, _, _, _ => exact absurd (show 1 < 2 by decide) h3
    | a :: w :: R, h3, p9, pz, pl, comp =>
      have e0 : rdOf ByteArray.empty (a :: w :: R) 0 = a := rfl
      have e1 : rdOf ByteArray.empty (a :: w :: R) 1 = w := rfl
      have e2 : ((a :: w :: R).length : Int) = (R.length : Int) + 2 := by simp only [List.length_cons]; omega
      have e3 : (a :: w :: R).drop 2 = R := rfl
      simp only [List.length_cons] at p9 pz
      have pa := pl a (by simp)
      have pw := pl w (by simp)
      obtain ⟨x, y, g, c1, c2, c3, c4⟩ := imp_cut 43 w (by omega)
      obtain ⟨f, one, n1⟩ := readdec_total x (by omega)
      obtain ⟨p, two, m1⟩ := readdec_total y (by omega)
      rw [e0, e1, e2, e3, if_neg (by omega), if_pos (by omega), c1, Option.bind_some]
      simp only
      rw [n1, Option.bind_some, m1, Option.bind_some, if_pos (by omega), if_pos (by omega), Option.bind_some]
      simp only
      obtain ⟨r, r1, r2, r3⟩ := impl_rows s (by omega) one two R (fun z hz => by have := pl z (by simp [hz]); omega) (by omega) a (by omega) f p R.length 0 [] k (by omega) (Nat.zero_le _) (by omega)
      refine ⟨r, r1, ?_, fun n' f' p' L hg e => ?_⟩
      · rcases r2 with r2 | ⟨L, y1, y2, y3⟩
        · exact Or.inl r2
        · exact Or.inr ⟨a, f, p, L, y1, y2, y3⟩
      · have h := comp n' f' p' L hg e
        rw [List.map_cons, List.map_cons] at h
        obtain ⟨h1, hB⟩ := List.cons.inj h
        obtain ⟨h2, hC⟩ := List.cons.inj hB
        have hok := hg.2.2.1
        have hf : 0 ≤ f' ∧ f' ≤ 1000000000000 := ⟨hok.1.1, by have := hok.1.2; omega⟩
        have hp : 0 ≤ p' ∧ p' ≤ 1000000000000 := ⟨hok.2.1.1, by have := hok.2.1.2; omega⟩
        obtain ⟨d1, d2⟩ := c4 _ _ (itoa_no 43 (by decide) f' hf.1 hf.2) h2
        have k1 := readdec_itoa x (by omega) f' hf.1 hf.2 d1
        have k2 := readdec_itoa y (by omega) p' hp.1 hp.2 d2
        rw [n1] at k1
        rw [m1] at k2
        obtain ⟨k1, k3⟩ := Prod.mk.inj (Option.some.inj k1)
        obtain ⟨k2, k4⟩ := Prod.mk.inj (Option.some.inj k2)
        have e6 : a = n' := ba_ext h1
        subst k1
        subst k2
        subst e6
        exact r3 L (by rw [List.drop_zero]; exact hC) (by rw [List.nil_append]; exact hg) k3 k4 (by rw [List.nil_append]; exact e)

theorem search_spec (p : Int → Option Bool) (P : Int → Bool) (n : Int) (hp : ∀ y, 0 ≤ y → y < n → p y = some (P y)) (hm : ∀ y z, 0 ≤ y → y ≤ z → z < n → P y = true → P z = true) : ∀ (d : Nat) (i j : Int) (k : Nat), 0 ≤ i → i ≤ j → j ≤ n → (j - i).toNat ≤ d → d < k → (∀ y, 0 ≤ y → y < i → P y = false) → (∀ y, j ≤ y → y < n → P y = true) →
    ∃ r, searchO p k i j = some r ∧ 0 ≤ r ∧ r ≤ n ∧ (∀ y, 0 ≤ y → y < r → P y = false) ∧ (∀ y, r ≤ y → y < n → P y = true) := by
  intro d
  induction d with
  | zero =>
    intro i j k h0 h1 h2 hd hk a b
    obtain ⟨k, rfl⟩ := suc_of hk
    have e : i = j := by omega
    subst e
    simp only [searchO]
    rw [if_neg (by omega)]
    exact ⟨i, rfl, h0, h2, a, b⟩
  | succ d ih =>
    intro i j k h0 h1 h2 hd hk a b
    obtain ⟨k, rfl⟩ := suc_of hk
    by_cases e : i < j
    · simp only [searchO]
      rw [if_pos e, hp _ (by omega) (by omega), Option.bind_some]
      cases c : P ((i + j) / 2) with
      | true =>
        rw [if_pos rfl]
        exact ih i ((i + j) / 2) k h0 (by omega) (by omega) (by omega) (by omega) a (fun y hy1 hy2 => hm _ y (by omega) hy1 hy2 c)
      | false =>
        rw [if_neg Bool.false_ne_true]
        refine ih ((i + j) / 2 + 1) j k (by omega) (by omega) h2 (by omega) (by omega) (fun y hy1 hy2 => ?_) b
        cases g : P y with
        | false => rfl
        | true => have := hm y ((i + j) / 2) hy1 (by omega) (by omega) g; rw [c] at this; cases this
    · have e2 : i = j := by omega
      subst e2
      simp only [searchO]
      rw [if_neg (by omega)]
      exact ⟨i, rfl, h0, h2, a, b⟩
theorem first_spec (p : Int → Option Bool) (P : Int → Bool) (lo hi : Int) (h0 : -1000000000000 ≤ lo) (h1 : lo ≤ hi + 1) (h2 : hi ≤ 1000000000000) (hp : ∀ y, lo ≤ y → y ≤ hi → p y = some (P y)) (hm : ∀ y z, lo ≤ y → y ≤ z → z ≤ hi → P y = true → P z = true) (k : Nat) (hk : (hi + 1 - lo).toNat < k) :
    ∃ r, firstO p k lo hi = some (r, decide (r ≤ hi)) ∧ lo ≤ r ∧ r ≤ hi + 1 ∧ (∀ y, lo ≤ y → y < r → P y = false) ∧ (∀ y, r ≤ y → y ≤ hi → P y = true) := by
  unfold firstO
  rw [wrap_id (x := hi - lo) (by omega) (by omega), wrap_id (x := hi - lo + 1) (by omega) (by omega), if_pos (by omega)]
  obtain ⟨r, r1, r2, r3, r4, r5⟩ := search_spec (fun i => p (wrap64 (lo + i))) (fun i => P (lo + i)) (hi - lo + 1) (fun y a b => by rw [wrap_id (x := lo + y) (by omega) (by omega)]; exact hp _ (by omega) (by omega)) (fun y z a b c d => hm _ _ (by omega) (by omega) (by omega) d) (hi - lo + 1).toNat 0 (hi - lo + 1) k (by omega) (by omega) (by omega) (by omega) (by omega) (fun y a b => by omega) (fun y a b => by omega)
  refine ⟨lo + r, ?_, by omega, by omega, fun y a b => ?_, fun y a b => ?_⟩
  · rw [r1, Option.bind_some, wrap_id (x := lo + r) (by omega) (by omega)]
    by_cases c : r < hi - lo + 1
    · rw [decide_eq_true c, decide_eq_true (show lo + r ≤ hi by omega)]
    · rw [decide_eq_false c, decide_eq_false (show ¬ lo + r ≤ hi by omega)]
  · have := r4 (y - lo) (by omega) (by omega); rwa [show lo + (y - lo) = y by omega] at this
  · have := r5 (y - lo) (by omega) (by omega); rwa [show lo + (y - lo) = y by omega] at this

theorem code_ok {s : ByteArray} {f p : Int} {L : List (List Int)} {k : Nat} (h : impl_ValidTariff.f (k + 1) s f p L = some true) (x y : Int) (hx : 0 ≤ x ∧ x ≤ 1000000) (hy : 0 ≤ y ∧ y ≤ 10000) : impl_Tariff_code.f (k + 1) s f p L x y = some 0 := by
  rw [tcode h x y, if_pos rfl, if_pos ⟨hx, hy⟩]
theorem bill_imp (s : ByteArray) (f p : Int) (L : List (List Int)) (hT : TarOk f p L) (k : Nat) (hv : impl_ValidTariff.f (k + 1) s f p L = some true) (h q : Int) (hh : 0 ≤ h ∧ h ≤ 1000000) (hq : 0 ≤ q ∧ q ≤ 10000) (hk : 20 ≤ k) : impl_BillOf.f (k + 1) s f p L h q = some (tbl s f p L h q, 0) := by
  unfold impl_BillOf.f
  rw [code_ok hv h q hh hq, Option.bind_some, if_pos rfl, (tbl_spec s f p L hT h q hh hq).2.1 (k + 1) (by omega), Option.bind_some]
theorem cost_imp (s : ByteArray) (f p : Int) (L : List (List Int)) (hT : TarOk f p L) (k : Nat) (hv : impl_ValidTariff.f (k + 1) s f p L = some true) (h : Int) (hh : 0 ≤ h ∧ h ≤ 1000000) (hk : 20 ≤ k) : impl_HeatCost.f (k + 1) s f p L h = some (costs L h, 0) := by
  unfold impl_HeatCost.f
  rw [code_ok hv h 0 hh (by omega), Option.bind_some, if_pos rfl, (cost_val s f p L hT h hh.1 hh.2 (k + 1) (by omega)).1, Option.bind_some]
theorem price_imp (s : ByteArray) (f p : Int) (L : List (List Int)) (hT : TarOk f p L) (k : Nat) (hv : impl_ValidTariff.f (k + 1) s f p L = some true) (h : Int) (hh : 0 ≤ h ∧ h ≤ 1000000) (hk : 20 ≤ k) : impl_NextPrice.f (k + 1) s f p L h = some (price L h, 0) := by
  have hl := hT.2.2.2.1
  unfold impl_NextPrice.f
  rw [code_ok hv h 0 hh (by omega), Option.bind_some, if_pos rfl]
  exact price_exact f p L hT h L.length 0 0 (by omega) (k + 1) (by omega)
theorem within_imp (s : ByteArray) (f p : Int) (L : List (List Int)) (hT : TarOk f p L) (k : Nat) (hv : impl_ValidTariff.f (k + 1) s f p L = some true) (c q : Int) (hc : 0 ≤ c ∧ c ≤ 1000000000000) (hq : 0 ≤ q ∧ q ≤ 10000) (hk : 1100000 ≤ k) :
    (impl_HeatWithin.f (k + 1) s f p L c q = some (0, 3) ∧ tbl s f p L 0 q > c) ∨ ∃ m, impl_HeatWithin.f (k + 1) s f p L c q = some (m, 0) ∧ 0 ≤ m ∧ m ≤ 1000000 ∧ tbl s f p L m q ≤ c ∧ (m < 1000000 → tbl s f p L (m + 1) q > c) := by
  unfold impl_HeatWithin.f
  rw [code_ok hv 0 q (by omega) hq, Option.bind_some, if_pos rfl, impl_in, decide_eq_true hc, Option.bind_some, if_pos rfl]
  unfold impl_firstIn_c30.f
  obtain ⟨r, r1, r2, r3, r4, r5⟩ := first_spec (fun y => impl_HeatWithin_1.f (k + 1) y [(⟨s, f, p, L⟩ : S26)] [q] [c]) (fun y => decide (tbl s f p L y q > c)) 0 1000000 (by omega) (by omega) (by omega) (fun y a b => by
    have e1 : rd_T26 [(⟨s, f, p, L⟩ : S26)] 0 = ⟨s, f, p, L⟩ := rfl
    have e2 : rd [q] 0 = q := rfl
    have e3 : rd [c] 0 = c := rfl
    unfold impl_HeatWithin_1.f
    rw [e1, e2, e3, if_pos (by simp), if_pos (by simp), (tbl_spec s f p L hT y q ⟨a, b⟩ hq).2.1 (k + 1) (by omega), Option.bind_some, if_pos (by simp)]) (fun y z a b d g => by
    have := tbl_mono s f p L hT y z q a b d hq
    have := of_decide_eq_true g
    exact decide_eq_true (by omega)) (k + 1) (by omega)
  rw [r1]
  simp only [Option.bind_some, decide_eq_true_eq]
  by_cases e : r ≤ 1000000
  · rw [if_pos e, wrap_id (x := r - 1) (by omega) (by omega)]
    unfold impl_orNotFound.f
    by_cases h0 : r > 0
    · rw [decide_eq_true h0, if_pos rfl]
      refine Or.inr ⟨r - 1, rfl, by omega, by omega, ?_, fun _ => ?_⟩
      · have := of_decide_eq_false (r4 (r - 1) (by omega) (by omega))
        omega
      · have := of_decide_eq_true (r5 (r - 1 + 1) (by omega) (by omega))
        exact this
    · rw [decide_eq_false h0, if_neg Bool.false_ne_true]
      refine Or.inl ⟨rfl, ?_⟩
      exact of_decide_eq_true (r5 0 (by omega) (by omega))
  · rw [if_neg e]
    refine Or.inr ⟨1000000, rfl, by omega, by omega, ?_, fun h => by omega⟩
    have := of_decide_eq_false (r4 1000000 (by omega) (by omega))
    omega
theorem div_imp (c : Int) (h0 : 0 ≤ c) (h1 : c ≤ 60000000000) : spec_DivRound.f c 100 = some (rdiv c 100) := by
  unfold spec_DivRound.f
  rw [if_neg (by decide), spec_in, decide_eq_true (by omega), Option.bind_some, if_pos rfl, spec_in, decide_eq_true (by omega), Option.bind_some, if_pos rfl, spec_div (by omega) (by omega) (by omega) (by omega), Option.bind_some]
theorem rows_len : ∀ (L : List (List Int)), (∀ x ∈ L, (0 ≤ rd x 0 ∧ rd x 0 ≤ 1000000000000) ∧ (0 ≤ rd x 1 ∧ rd x 1 ≤ 1000000000000)) → (rowsT L).length ≤ 28 * L.length
  | [], _ => Nat.le_refl _
  | x :: L, h => by
    have ih := rows_len L (fun z hz => h z (by simp [hz]))
    have hx := h x (by simp)
    have n0 := itoa_len (rd x 0) hx.1.1 hx.1.2
    have n1 := itoa_len (rd x 1) hx.2.1 hx.2.2
    rw [show rowsT (x :: L) = 32 :: ((Lib.itoa (rd x 0) ++ 58 :: Lib.itoa (rd x 1)) ++ rowsT L) from rfl]
    simp only [List.length_append, List.length_cons]
    omega
theorem FnTariffs : laws_FnTariffs.Pure := by
  intro C M _ _ hC _ _ hM
  obtain ⟨n, hn⟩ : ∃ n, n = 5000000 := ⟨_, rfl⟩
  refine ⟨n + 1 + 1 + 1 + 1 + 1 + 1 + 1, ?_⟩
  unfold laws_FnTariffs.f
  have lb : ∃ z, laws_r8Long.f C M = some z := by
    unfold laws_r8Long.f
    split
    · exact ⟨_, rfl⟩
    · exact ⟨_, rfl⟩
  obtain ⟨z, hz⟩ := lb
  rw [hz, Option.bind_some]
  cases z
  case true => rw [if_pos rfl]
  rw [if_neg Bool.false_ne_true, laws_FnTariffs.j0.eq_def]
  simp only
  obtain ⟨s, f, p, L, d1, D1⟩ := draw_tar C hC
  obtain ⟨h, h1, h2, h3⟩ := r8Wide_v M hM 0 4000 (by omega) (by omega) (by omega)
  obtain ⟨q, q1, q2, q3⟩ := r8At_v M hM 2 60 (by omega) (by omega)
  obtain ⟨c, c1, c2, c3⟩ := r8Wide_v M hM 3 60000 (by omega) (by omega) (by omega)
  have z1 := D1.size
  have hT := D1.tar
  have hv := (tv_spec ⟨s, f, p, L⟩ (by show s.size ≤ _; omega)).2.1
  rw [D1.ok] at hv
  have hv : ∀ k, 1048620 ≤ k → impl_ValidTariff.f k s f p L = some true := hv
  have hg : GoodT s f p L := by
    rcases good_cases s f p L (by omega) with hg | ⟨_, hb⟩
    · exact hg
    · have := (hv 2000000 (by omega)).symm.trans (hb 2000000 (Nat.le_refl _))
      cases this
  obtain ⟨T, t1, t2⟩ := text_cases s f p L (by omega)
  have t2 : T.data.toList = textT s f p L := by
    rcases t2 with t2 | t2
    · exact t2.2
    · exact absurd hg t2.1
  have hts : T.size ≤ 1048576 := by
    have hT2 : T.data.toList.length = T.size := Array.length_toList ..
    have hs2 : s.data.toList.length = s.size := Array.length_toList ..
    have hl := hg.2.2.1.2.2.2.1
    have hr := rows_len L (fun x hx => (good_rows hg x hx).2)
    have n0 := itoa_len f hT.1.1 (by have := hT.1.2; omega)
    have n1 := itoa_len p hT.2.1.1 (by have := hT.2.1.2; omega)
    rw [t2] at hT2
    unfold textT headT at hT2
    simp only [List.length_append, List.length_cons] at hT2
    omega
  obtain ⟨r, r1, _, r3⟩ := impl_read T hts (n + 1 + 1 + 1 + 1 + 1 + 1) (by omega)
  rw [r3 s f p L hg t2.symm] at r1
  have cv := cost_val s f p L hT h (by omega) (by omega) 20 (by omega)
  have cn := cost_next hT (h := h) (by omega) (by omega)
  have cv2 := cost_val s f p L hT (h + 1) (by omega) (by omega) 20 (by omega)
  have tv1 := tbl_val s f p L hT h q (by omega) (by omega) (by omega)
  have tv3 := tbl_val s f p L hT h (q + 1) (by omega) (by omega) (by omega)
  have tb1 := (tbl_spec s f p L hT h q (by omega) (by omega)).2.2
  have tm2 := tbl_mono s f p L hT h (h + 1) q (by omega) (by omega) (by omega) (by omega)
  have pq := mul_bounds (a := p) (b := q) (A := 10000) (B := 10000) hT.2.1.1 hT.2.1.2 (by omega) (by omega) (by omega)
  have pq1 : p * (q + 1) = p * q + p := by rw [Int.mul_add, Int.mul_one]
  have hf := hT.1
  have hp := hT.2.1
  have rd0 := rdiv_nonneg (a := costs L h) (b := 100) cv.2.1 (by omega)
  have rd1 := rdiv_le (a := costs L h) (b := 100) cv.2.1 (by omega)
  rw [d1 _ (by omega), Option.bind_some, h1, Option.bind_some, q1, Option.bind_some]
  simp only
  rw [wrap_id (x := h + 1) (by omega) (by omega), wrap_id (x := q + 1) (by omega) (by omega), bill_imp s f p L hT _ (hv _ (by omega)) h q (by omega) (by omega) (by omega), Option.bind_some, bill_imp s f p L hT _ (hv _ (by omega)) (h + 1) q (by omega) (by omega) (by omega), Option.bind_some, bill_imp s f p L hT _ (hv _ (by omega)) h (q + 1) (by omega) (by omega) (by omega), Option.bind_some,
    cost_imp s f p L hT _ (hv _ (by omega)) h (by omega) (by omega), Option.bind_some, cost_imp s f p L hT _ (hv _ (by omega)) (h + 1) (by omega) (by omega), Option.bind_some, price_imp s f p L hT _ (hv _ (by omega)) h (by omega) (by omega), Option.bind_some, t1 _ (by omega), Option.bind_some, r1, Option.bind_some]
  simp only
  rw [if_pos trivial, if_pos trivial, if_pos trivial, if_neg (by omega), wrap_id (x := tbl s f p L h q + p) (by omega) (by omega), if_pos (by rw [tv3, tv1, pq1]; omega), if_pos trivial, if_pos trivial, if_pos trivial, wrap_id (x := costs L (h + 1) - costs L h) (by omega) (by omega), if_pos (by omega), if_pos trivial, t1 _ (by omega), Option.bind_some, Option.bind_some, if_pos rfl, div_imp _ cv.2.1 cv.2.2, Option.bind_some,
    wrap_id (x := p * q) (by omega) (by omega), wrap_id (x := f + p * q) (by omega) (by omega), wrap_id (x := f + p * q + rdiv (costs L h) 100) (by omega) (by omega), ← tv1]
  have ee : (tbl s f p L h q != tbl s f p L h q) = false := by simp
  rw [ee, laws_FnTariffs.j1.eq_def]
  simp only
  rw [if_neg Bool.false_ne_true, laws_FnTariffs.j2.eq_def]
  simp only
  rw [c1, Option.bind_some]
  have bv : ∀ y, 0 ≤ y → y ≤ 1000000 → ∀ k, 1048620 ≤ k → spec_BillOf.f k s f p L y q = some (tbl s f p L y q, 0) := fun y y0 y1 k hk => bill_val ⟨s, f, p, L⟩ (by show s.size ≤ _; omega) D1.ok y q ⟨y0, y1⟩ (by omega) k hk
  rcases within_imp s f p L hT (n + 1 + 1 + 1) (hv _ (by omega)) c q (by omega) (by omega) (by omega) with ⟨w1, w2⟩ | ⟨m, w1, w2, w3, w4, w5⟩
  · rw [w1, Option.bind_some]
    simp only
    rw [if_neg (by decide), bv 0 (by omega) (by omega) _ (by omega), Option.bind_some]
    simp only
    rw [if_pos trivial, if_pos trivial, decide_eq_true w2]
  · rw [w1, Option.bind_some]
    simp only
    rw [if_pos trivial, laws_FnTariffs.j3.eq_def]
    simp only
    rw [bv m w2 w3 _ (by omega), Option.bind_some]
    simp only
    rw [if_pos trivial, if_neg (by omega), if_neg (by omega), decide_eq_false (by omega), laws_FnTariffs.j4.eq_def]
    simp only
    rw [if_neg Bool.false_ne_true, laws_FnTariffs.j5.eq_def]
    simp only
    by_cases e : m = 1000000
    · rw [if_pos e]
    · rw [if_neg e, laws_FnTariffs.j6.eq_def]
      simp only
      rw [wrap_id (x := m + 1) (by omega) (by omega), bv (m + 1) (by omega) (by omega) _ (by omega), Option.bind_some]
      simp only
      rw [if_pos trivial, decide_eq_true (w5 (by omega))]

end Go.Proofs.YtdhpmiocpjpabaaDoor.Pure
