/- HeatWithin of the program returns what the reference's returns, for every tariff, money and power. No condition. -/
import Derived.Test.YtdafonbeinildaaPFnExactHeatWithinx8
namespace Go.Proofs.Ytdafonbeinildaa.Pure
open Go.RowKit Go.Proofs.Ytdafonbeinildaa.PFnExactHeatWithin Go.Proofs.YtdafonbeinildaaW.PrintWords Go.Proofs.YtdafonbeinildaaW.PrintLast Go.Proofs.YtdafonbeinildaaW.PrintMore
set_option linter.unusedVariables false
set_option linter.unusedSimpArgs false

theorem wrap_id {x : Int} (h1 : -9223372036854775808 ≤ x) (h2 : x ≤ 9223372036854775807) : wrap64 x = x := by unfold wrap64; omega
theorem wf_i64 {x : Int} (h : (Lit.int .i64 x).wf = true) : -9223372036854775808 ≤ x ∧ x ≤ 9223372036854775807 := by
  simp [Lit.wf, IntKind.min, IntKind.max, IntKind.bits, IntKind.signed] at h; omega
theorem mul_bounds {a b A B : Int} (h0 : 0 ≤ a) (hA : a ≤ A) (h1 : -B ≤ b) (h2 : b ≤ B) (hB : 0 ≤ B) : -(A * B) ≤ a * b ∧ a * b ≤ A * B := by
  have e1 := Int.mul_le_mul_of_nonneg_left h2 h0
  have e2 := Int.mul_le_mul_of_nonneg_right hA hB
  have e3 := Int.mul_le_mul_of_nonneg_left h1 h0
  have e4 : a * -B = -(a * B) := Int.mul_neg a B
  omega
theorem mul_nonneg' {a b : Int} (h0 : 0 ≤ a) (h1 : 0 ≤ b) : 0 ≤ a * b := Int.mul_nonneg h0 h1
theorem next_nat {j n : Nat} (h : j < n) (hn : n ≤ 4611686018427387904) : wrap64 ((j : Int) + 1) = ((j + 1 : Nat) : Int) := by
  rw [wrap_id (by omega) (by omega)]; omega
theorem rd_nat (l : List Int) (j : Nat) : rd l (j : Int) = l.getD j 0 := by unfold rd; simp
theorem ifp {α : Type} {c : Prop} [Decidable c] {a b : α} (h : c) : (if c then a else b) = a := if_pos h
theorem ifn {α : Type} {c : Prop} [Decidable c] {a b : α} (h : ¬ c) : (if c then a else b) = b := if_neg h
theorem suc_of {k d : Nat} (h : d < k) : ∃ m, k = m + 1 := ⟨k - 1, by omega⟩
theorem getD_lt {α : Type} {l : List α} {j : Nat} {d : α} (h : j < l.length) : l.getD j d = l[j] := by
  rw [List.getD_eq_getElem?_getD, List.getElem?_eq_getElem h]; rfl
theorem drop_cons {α : Type} (l : List α) {j : Nat} (h : j < l.length) (d : α) : l.drop j = l.getD j d :: l.drop (j + 1) := by
  rw [getD_lt h]; exact List.drop_eq_getElem_cons h
theorem up {α : Type} {g : Nat → Option α} (hm : ∀ k, LeO (g k) (g (k + 1))) {k0 : Nat} {r : α} (h : g k0 = some r) : ∀ k, k0 ≤ k → g k = some r := by
  intro k hk
  induction hk with
  | refl => exact h
  | step _ ih => exact hm _ _ ih

theorem name_same (s : ByteArray) : ∀ (k : Nat) (i : Int), spec_l01Name.l0 k s i = impl_onlyNameBytes.l0 k s (s.size : Int) i := by
  intro k
  induction k with
  | zero => intro i; simp only [spec_l01Name.l0, impl_onlyNameBytes.l0]
  | succ k ih =>
    intro i
    simp only [spec_l01Name.l0, impl_onlyNameBytes.l0]
    unfold spec_l01Small.f spec_l01Digit.f
    rw [ih]
    generalize impl_onlyNameBytes.l0 k s (s.size : Int) (wrap64 (i + 1)) = e
    generalize bt s i = b
    by_cases h1 : i < (s.size : Int)
    · rw [if_pos h1, if_pos h1, if_pos h1]
      by_cases h2 : 0 ≤ i
      · rw [if_pos h2, if_pos h2]
        by_cases c1 : b < 97
        · rw [if_pos c1, if_neg (by omega)]
          by_cases c2 : b < 48
          · rw [if_pos c2, if_neg (by omega)]; simp
          · rw [if_neg c2, if_pos (by omega)]
            by_cases c3 : b > 57
            · rw [if_pos c3, decide_eq_false (by omega)]; simp
            · rw [if_neg c3, decide_eq_true (by omega)]; simp
        · rw [if_neg c1, if_pos (by omega)]
          by_cases c4 : b > 122
          · rw [if_pos c4, decide_eq_false (by omega), if_pos (by omega), if_neg (by omega), decide_eq_false (by omega), if_pos (by omega)]; simp
          · rw [if_neg c4, decide_eq_true (by omega)]; simp
      · rw [if_neg h2, if_neg h2]
    · rw [if_neg h1, if_neg h1]
theorem name_total (s : ByteArray) (hs : s.size ≤ 35184372088832) : ∀ (d j k : Nat), j + d = s.size → d < k → ∃ r, impl_onlyNameBytes.l0 k s (s.size : Int) (j : Int) = some r := by
  intro d
  induction d with
  | zero =>
    intro j k hj hk
    obtain ⟨k, rfl⟩ := suc_of hk
    simp only [impl_onlyNameBytes.l0]
    rw [if_neg (by omega)]; exact ⟨_, rfl⟩
  | succ d ih =>
    intro j k hj hk
    obtain ⟨k, rfl⟩ := suc_of hk
    obtain ⟨r, hr⟩ := ih (j + 1) k (by omega) (by omega)
    simp only [impl_onlyNameBytes.l0]
    rw [if_pos (by omega), if_pos (by omega), if_pos (by omega), next_nat (n := s.size) (by omega) (by omega), hr]
    split
    · split
      · exact ⟨_, rfl⟩
      · split
        · exact ⟨_, rfl⟩
        · exact ⟨_, rfl⟩
    · split
      · split
        · exact ⟨_, rfl⟩
        · split
          · exact ⟨_, rfl⟩
          · exact ⟨_, rfl⟩
      · exact ⟨_, rfl⟩
/-- A name is one for both. -/
theorem name_both (s : ByteArray) (hs : s.size ≤ 35184372088832) : ∃ b : Bool, (∀ k, s.size + 3 ≤ k → spec_l01Name.f k s = some b) ∧ (∀ k, s.size + 3 ≤ k → impl_IsName.f k s = some b) ∧ (b = true → 1 ≤ s.size ∧ s.size ≤ 10) := by
  obtain ⟨r, hr⟩ := name_total s hs s.size 0 (s.size + 2) (by omega) (by omega)
  have hr3 : impl_onlyNameBytes.l0 (s.size + 3) s (s.size : Int) 0 = some r := impl_onlyNameBytes.mono_l (s.size + 2) s (s.size : Int) 0 r hr
  have hr2 : impl_onlyNameBytes.l0 (s.size + 2) s (s.size : Int) 0 = some r := hr
  have key : ∃ b : Bool, spec_l01Name.f (s.size + 3) s = some b ∧ impl_IsName.f (s.size + 3) s = some b ∧ (b = true → 1 ≤ s.size ∧ s.size ≤ 10) := by
    have bad : spec_l01Name.j0 (s.size + 3) s true = some false := by simp only [spec_l01Name.j0]; simp
    unfold spec_l01Name.f impl_IsName.f impl_onlyNameBytes.f
    by_cases h0 : s.size = 0
    · have e : s.toList = [] := by
        rw [ByteArray.toList_eq]; exact List.eq_nil_of_length_eq_zero (by rw [Array.length_toList]; exact h0)
      rw [if_pos e, if_pos (by omega), bad]; exact ⟨_, rfl, rfl, by simp⟩
    · have e : ¬ s.toList = [] := by
        rw [ByteArray.toList_eq]
        intro h
        have : s.data.toList.length = 0 := by rw [h]; rfl
        rw [Array.length_toList] at this
        exact h0 this
      rw [if_neg e, if_neg (show ¬ (s.size : Int) < 1 by omega)]
      by_cases h1 : (s.size : Int) > 10
      · rw [if_pos h1, if_pos h1, bad]; exact ⟨_, rfl, rfl, by simp⟩
      · rw [if_neg h1, if_neg h1, if_pos (by omega), if_pos (by omega)]
        unfold spec_l01Small.f
        by_cases c1 : bt s 0 < 97
        · rw [if_pos c1, if_neg (by omega)]
          simp only [Option.bind_some, Bool.not_false]
          exact ⟨_, bad, rfl, by simp⟩
        · rw [if_neg c1, if_pos (by omega)]
          by_cases c2 : bt s 0 > 122
          · rw [if_pos c2, decide_eq_false (by omega)]
            simp only [Option.bind_some, Bool.not_false]
            exact ⟨_, bad, rfl, by simp⟩
          · rw [if_neg c2, decide_eq_true (by omega), hr3]
            simp only [Option.bind_some, Bool.not_true]
            refine ⟨r, ?_, rfl, fun _ => by omega⟩
            simp only [spec_l01Name.j0]
            rw [if_neg Bool.false_ne_true, name_same]
            exact hr2
  obtain ⟨b, h1, h2, h3⟩ := key
  exact ⟨b, up (spec_l01Name.mono s) h1, up (impl_IsName.mono s) h2, h3⟩

theorem impl_in (n lo hi : Int) : impl_within.f n lo hi = some (decide (lo ≤ n ∧ n ≤ hi)) := by unfold impl_within.f; split <;> simp <;> omega

theorem spec_in (n lo hi : Int) : spec_l00In.f n lo hi = some (decide (lo ≤ n ∧ n ≤ hi)) := by unfold spec_l00In.f; split <;> simp <;> omega

theorem rdll_nat (l : List (List Int)) (j : Nat) : rd_L1 l (j : Int) = l.getD j [] := by unfold rd_L1; simp
theorem szII_l0 (l : List (List Int)) (hl : l.length ≤ 1048576) (hi : ∀ x ∈ l, x.length ≤ 9223372036854775807) : ∀ (d j k : Nat) (n : Int), j + d = l.length → d < k → 0 ≤ n → n ≤ 1048576 → ∃ r, laws_szInt64SS.l0 k l n (j : Int) = some r ∧ r ≤ n ∧ (0 ≤ r → ∀ i, j ≤ i → i < l.length → (l.getD i []).length ≤ 1048576) := by
  intro d
  induction d with
  | zero =>
    intro j k n hj hk h0 h1
    obtain ⟨k, rfl⟩ := suc_of hk
    simp only [laws_szInt64SS.l0]
    rw [if_neg (by omega)]
    exact ⟨n, rfl, by omega, fun _ i hi1 hi2 => by omega⟩
  | succ d ih =>
    intro j k n hj hk h0 h1
    obtain ⟨k, rfl⟩ := suc_of hk
    simp only [laws_szInt64SS.l0]
    rw [if_pos (by omega), if_pos (by omega), rdll_nat]
    have hx := hi (l.getD j []) (by rw [getD_lt (by omega)]; exact List.getElem_mem _)
    unfold laws_szInt64S.f
    rw [wrap_id (x := n - ((l.getD j []).length : Int)) (by omega) (by omega)]
    by_cases c : n - ((l.getD j []).length : Int) < 0
    · rw [if_pos c]
      simp only [Option.bind_some]
      rw [if_pos (by omega)]
      exact ⟨-1, rfl, by omega, fun h => by omega⟩
    · rw [if_neg c]
      simp only [Option.bind_some]
      rw [if_neg c, next_nat (n := l.length) (by omega) (by omega)]
      obtain ⟨r, h2, h3, h4⟩ := ih (j + 1) k (n - ((l.getD j []).length : Int)) (by omega) (by omega) (by omega) (by omega)
      refine ⟨r, h2, by omega, fun hr i hi1 hi2 => ?_⟩
      by_cases e : i = j
      · subst e; omega
      · exact h4 hr i (by omega) hi2
theorem szII (l : List (List Int)) (hl : l.length ≤ 9223372036854775807) (hi : ∀ x ∈ l, x.length ≤ 9223372036854775807) (k : Nat) (hk : 1048576 < k) : ∃ r, laws_szInt64SS.f k l 1048576 = some r ∧ (0 ≤ r → l.length ≤ 1048576 ∧ ∀ x ∈ l, x.length ≤ 1048576) := by
  unfold laws_szInt64SS.f
  rw [wrap_id (x := 1048576 - (l.length : Int)) (by omega) (by omega)]
  by_cases c : (1048576 : Int) - (l.length : Int) < 0
  · rw [if_pos c]; exact ⟨-1, rfl, fun h => by omega⟩
  · rw [if_neg c]
    obtain ⟨r, h2, _, h4⟩ := szII_l0 l (by omega) hi l.length 0 k (1048576 - (l.length : Int)) (by omega) (by omega) (by omega) (by omega)
    refine ⟨r, h2, fun hr => ⟨by omega, fun x hx => ?_⟩⟩
    obtain ⟨i, hi1, rfl⟩ := List.mem_iff_getElem.1 hx
    have := h4 hr i (by omega) hi1
    rwa [getD_lt hi1] at this

def lv0 (L : List (List Int)) (i : Nat) : Int := rd (L.getD i []) 0
def lv1 (L : List (List Int)) (i : Nat) : Int := rd (L.getD i []) 1
def stepOk (L : List (List Int)) (i : Nat) : Bool := decide ((L.getD i []).length = 2) && (decide (0 ≤ lv0 L i ∧ lv0 L i ≤ 1000000) && (decide (0 ≤ lv1 L i ∧ lv1 L i ≤ 10000) && (if i = 0 then decide (lv0 L i = 0) else decide (lv0 L (i - 1) < lv0 L i))))
def allFrom (L : List (List Int)) : Nat → Nat → Bool
  | 0, _ => true
  | d + 1, j => stepOk L j && allFrom L d (j + 1)
theorem spec_lv_l0 (s : ByteArray) (f p : Int) (L : List (List Int)) (hL : L.length ≤ 6) : ∀ (d j k : Nat), j + d = L.length → 2 * d < k → (0 < j → (L.getD (j - 1) []).length = 2) →
    spec_l21Ok.l0 k [(⟨s, f, p, L⟩ : S27)] (j : Int) = some (allFrom L d j) := by
  intro d
  induction d with
  | zero =>
    intro j k hj hk hp
    obtain ⟨k, rfl⟩ := suc_of (show 0 < k by omega)
    simp only [spec_l21Ok.l0, show rd_T27 [(⟨s, f, p, L⟩ : S27)] 0 = ⟨s, f, p, L⟩ from rfl]
    rw [if_pos (by simp), if_neg (by omega)]
    rfl
  | succ d ih =>
    intro j k hj hk hp
    obtain ⟨k, rfl⟩ : ∃ m, k = m + 1 + 1 := ⟨k - 2, by omega⟩
    have bad : spec_l21Ok.j2 (k + 1) [(⟨s, f, p, L⟩ : S27)] (j : Int) true = some false := by simp only [spec_l21Ok.j2]; simp
    have good : spec_l21Ok.j2 (k + 1) [(⟨s, f, p, L⟩ : S27)] (j : Int) false = spec_l21Ok.l0 k [(⟨s, f, p, L⟩ : S27)] ((j + 1 : Nat) : Int) := by
      simp only [spec_l21Ok.j2]
      rw [if_neg Bool.false_ne_true, next_nat (n := L.length) (by omega) (by omega)]
    simp only [spec_l21Ok.l0, show rd_T27 [(⟨s, f, p, L⟩ : S27)] 0 = ⟨s, f, p, L⟩ from rfl]
    rw [if_pos (by simp), if_pos (by omega), if_pos (by omega), rdll_nat]
    unfold allFrom stepOk lv0 lv1
    by_cases hlen : (L.getD j []).length = 2
    · have hr := ih (j + 1) k (by omega) (by omega) (fun _ => hlen)
      rw [if_pos (show ((L.getD j []).length : Int) = 2 by omega), if_pos (show (0 : Int) < ((L.getD j []).length : Int) by omega), if_pos (show (1 : Int) < ((L.getD j []).length : Int) by omega), decide_eq_true hlen, Bool.true_and]
      simp only [spec_in, Option.bind_some]
      generalize hx0 : rd (L.getD j []) 0 = x0
      generalize rd (L.getD j []) 1 = x1
      by_cases hA : 0 ≤ x0 ∧ x0 ≤ 1000000
      · rw [decide_eq_true hA, if_pos rfl, Bool.true_and]
        by_cases hB : 0 ≤ x1 ∧ x1 ≤ 10000
        · rw [decide_eq_true hB, if_pos rfl, Bool.true_and]
          by_cases hz : j = 0
          · rw [if_pos (show (j : Int) = 0 by omega), if_pos hz]
            by_cases h00 : x0 = 0
            · rw [if_pos h00, if_neg (show ¬ (j : Int) > 0 by omega), good, hr, decide_eq_true h00, Bool.true_and]
            · rw [if_neg h00, bad, decide_eq_false h00]; rfl
          · have hpv := hp (by omega)
            rw [if_neg (show ¬ (j : Int) = 0 by omega), if_neg hz, if_pos (show (j : Int) > 0 by omega)]
            have ew : wrap64 ((j : Int) - 1) = ((j - 1 : Nat) : Int) := by rw [wrap_id (by omega) (by omega)]; omega
            rw [ew, rdll_nat, if_pos (show (0 : Int) ≤ ((j - 1 : Nat) : Int) by omega), if_pos (show ((j - 1 : Nat) : Int) < (L.length : Int) by omega), if_pos (show (0 : Int) < ((L.getD (j - 1) []).length : Int) by omega)]
            generalize rd (L.getD (j - 1) []) 0 = y0
            by_cases hc : y0 < x0
            · rw [decide_eq_false (show ¬ y0 ≥ x0 by omega), good, hr, decide_eq_true hc, Bool.true_and]
            · rw [decide_eq_true (show y0 ≥ x0 by omega), bad, decide_eq_false hc]; rfl
        · rw [decide_eq_false hB, if_neg Bool.false_ne_true, bad]; rfl
      · rw [decide_eq_false hA, if_neg Bool.false_ne_true, bad]; rfl
    · rw [if_neg (show ¬ ((L.getD j []).length : Int) = 2 by omega), bad, decide_eq_false hlen]; rfl
theorem impl_lv_l0 (s : ByteArray) (f p : Int) (L : List (List Int)) (hL : L.length ≤ 6) : ∀ (d j k : Nat), j + d = L.length → 2 * d < k → (0 < j → (L.getD (j - 1) []).length = 2) →
    impl_ValidTariff.l0 k L (L.length : Int) (j : Int) s f p L = some (allFrom L d j) := by
  intro d
  induction d with
  | zero =>
    intro j k hj hk hp
    obtain ⟨k, rfl⟩ := suc_of (show 0 < k by omega)
    simp only [impl_ValidTariff.l0]
    rw [if_neg (by omega)]
    rfl
  | succ d ih =>
    intro j k hj hk hp
    obtain ⟨k, rfl⟩ : ∃ m, k = m + 1 + 1 := ⟨k - 2, by omega⟩
    have bad : impl_ValidTariff.j2 (k + 1) L (L.length : Int) (j : Int) true s f p L = some false := by simp only [impl_ValidTariff.j2]; simp
    have good : impl_ValidTariff.j2 (k + 1) L (L.length : Int) (j : Int) false s f p L = impl_ValidTariff.l0 k L (L.length : Int) ((j + 1 : Nat) : Int) s f p L := by
      simp only [impl_ValidTariff.j2]
      rw [if_neg Bool.false_ne_true, next_nat (n := L.length) (by omega) (by omega)]
    simp only [impl_ValidTariff.l0]
    rw [if_pos (by omega), if_pos (by omega), if_pos (by omega), rdll_nat]
    unfold allFrom stepOk lv0 lv1
    by_cases hlen : (L.getD j []).length = 2
    · have hr := ih (j + 1) k (by omega) (by omega) (fun _ => hlen)
      rw [if_pos (show ((L.getD j []).length : Int) = 2 by omega), if_pos (show (0 : Int) < ((L.getD j []).length : Int) by omega), if_pos (show (1 : Int) < ((L.getD j []).length : Int) by omega), decide_eq_true hlen, Bool.true_and]
      simp only [impl_in, Option.bind_some]
      generalize hx0 : rd (L.getD j []) 0 = x0
      generalize rd (L.getD j []) 1 = x1
      by_cases hA : 0 ≤ x0 ∧ x0 ≤ 1000000
      · rw [decide_eq_true hA, if_pos rfl, Bool.true_and]
        by_cases hB : 0 ≤ x1 ∧ x1 ≤ 10000
        · rw [decide_eq_true hB, if_pos rfl, Bool.true_and]
          by_cases hz : j = 0
          · rw [if_pos (show (j : Int) = 0 by omega), if_pos hz]
            by_cases h00 : x0 = 0
            · rw [if_pos h00, if_neg (show ¬ (j : Int) > 0 by omega), good, hr, decide_eq_true h00, Bool.true_and]
            · rw [if_neg h00, bad, decide_eq_false h00]; rfl
          · have hpv := hp (by omega)
            rw [if_neg (show ¬ (j : Int) = 0 by omega), if_neg hz, if_pos (show (j : Int) > 0 by omega)]
            have ew : wrap64 ((j : Int) - 1) = ((j - 1 : Nat) : Int) := by rw [wrap_id (by omega) (by omega)]; omega
            rw [ew, rdll_nat, if_pos (show (0 : Int) ≤ ((j - 1 : Nat) : Int) by omega), if_pos (show ((j - 1 : Nat) : Int) < (L.length : Int) by omega), if_pos (show (0 : Int) < ((L.getD (j - 1) []).length : Int) by omega)]
            generalize rd (L.getD (j - 1) []) 0 = y0
            by_cases hc : y0 < x0
            · rw [decide_eq_false (show ¬ x0 ≤ y0 by omega), good, hr, decide_eq_true hc, Bool.true_and]
            · rw [decide_eq_true (show x0 ≤ y0 by omega), bad, decide_eq_false hc]; rfl
        · rw [decide_eq_false hB, if_neg Bool.false_ne_true, bad]; rfl
      · rw [decide_eq_false hA, if_neg Bool.false_ne_true, bad]; rfl
    · rw [if_neg (show ¬ ((L.getD j []).length : Int) = 2 by omega), bad, decide_eq_false hlen]; rfl
theorem allFrom_at (L : List (List Int)) : ∀ (d j : Nat), allFrom L d j = true → ∀ i, j ≤ i → i < j + d → stepOk L i = true := by
  intro d
  induction d with
  | zero => intro j _ i h1 h2; omega
  | succ d ih =>
    intro j h i h1 h2
    unfold allFrom at h
    rw [Bool.and_eq_true] at h
    by_cases e : i = j
    · subst e; exact h.1
    · exact ih (j + 1) h.2 i (by omega) (by omega)
def TarOk (f p : Int) (L : List (List Int)) : Prop := (0 ≤ f ∧ f ≤ 1000000) ∧ (0 ≤ p ∧ p ≤ 10000) ∧ 1 ≤ L.length ∧ L.length ≤ 6 ∧ ∀ i, i < L.length → (L.getD i []).length = 2 ∧ (0 ≤ lv0 L i ∧ lv0 L i ≤ 1000000) ∧ (0 ≤ lv1 L i ∧ lv1 L i ≤ 10000) ∧ (i = 0 → lv0 L i = 0) ∧ (0 < i → lv0 L (i - 1) < lv0 L i)
theorem tariff_both (s : ByteArray) (f p : Int) (L : List (List Int)) (hs : s.size ≤ 35184372088832) : ∃ v : Bool, (∀ k, s.size + 30 ≤ k → spec_l21Ok.f k [(⟨s, f, p, L⟩ : S27)] = some v) ∧ (∀ k, s.size + 30 ≤ k → impl_ValidTariff.f k s f p L = some v) ∧ (v = true → TarOk f p L ∧ s.size ≤ 10) := by
  obtain ⟨b, n1, n2, n3⟩ := name_both s hs
  have e : rd_T27 [(⟨s, f, p, L⟩ : S27)] 0 = ⟨s, f, p, L⟩ := rfl
  have sbad : ∀ k, spec_l21Ok.j0 (k + 1) [(⟨s, f, p, L⟩ : S27)] true = some false := fun k => by simp only [spec_l21Ok.j0]; simp
  have ibad : ∀ k, impl_ValidTariff.j0 (k + 1) true s f p L = some false := fun k => by simp only [impl_ValidTariff.j0]; simp
  refine ⟨b && (decide (0 ≤ f ∧ f ≤ 1000000) && (decide (0 ≤ p ∧ p ≤ 10000) && (decide (1 ≤ (L.length : Int) ∧ (L.length : Int) ≤ 6) && allFrom L L.length 0))), fun k hk => ?_, fun k hk => ?_, fun h => ?_⟩
  · obtain ⟨k, rfl⟩ := suc_of (show 0 < k by omega)
    unfold spec_l21Ok.f
    rw [if_pos (by simp)]
    simp only [e, spec_in, n1 (k + 1) (by omega), Option.bind_some, sbad]
    cases b
    · rfl
    · cases decide (0 ≤ f ∧ f ≤ 1000000)
      · rfl
      · cases decide (0 ≤ p ∧ p ≤ 10000)
        · rfl
        · simp only [if_true, Bool.true_and]
          by_cases h : 1 ≤ (L.length : Int) ∧ (L.length : Int) ≤ 6
          · rw [decide_eq_true h]
            simp only [Bool.not_true, spec_l21Ok.j0, Bool.true_and]
            rw [if_neg Bool.false_ne_true]
            exact spec_lv_l0 s f p L (by omega) L.length 0 k (by omega) (by omega) (fun h => absurd h (by omega))
          · rw [decide_eq_false h, Bool.not_false, sbad]; rfl
  · obtain ⟨k, rfl⟩ := suc_of (show 0 < k by omega)
    unfold impl_ValidTariff.f
    simp only [impl_in, n2 (k + 1) (by omega), Option.bind_some, ibad]
    cases b
    · rfl
    · cases decide (0 ≤ f ∧ f ≤ 1000000)
      · rfl
      · cases decide (0 ≤ p ∧ p ≤ 10000)
        · rfl
        · simp only [if_true, Bool.true_and]
          by_cases h1 : (L.length : Int) < 1
          · rw [if_pos h1, decide_eq_false (by omega)]; rfl
          · rw [if_neg h1]
            by_cases h2 : (L.length : Int) > 6
            · rw [decide_eq_true h2, ibad, decide_eq_false (by omega)]; rfl
            · rw [decide_eq_false h2, decide_eq_true (by omega)]
              simp only [impl_ValidTariff.j0, Bool.true_and]
              rw [if_neg Bool.false_ne_true]
              exact impl_lv_l0 s f p L (by omega) L.length 0 k (by omega) (by omega) (fun h => absurd h (by omega))
  · simp only [Bool.and_eq_true, decide_eq_true_eq] at h
    obtain ⟨hb, hf, hp, hl, ha⟩ := h
    refine ⟨⟨hf, hp, by omega, by omega, fun i hi => ?_⟩, (n3 hb).2⟩
    have h := allFrom_at L L.length 0 ha i (by omega) (by omega)
    unfold stepOk at h
    simp only [Bool.and_eq_true, decide_eq_true_eq] at h
    obtain ⟨g1, g2, g3, g4⟩ := h
    refine ⟨g1, g2, g3, fun hz => ?_, fun hz => ?_⟩
    · rw [if_pos hz] at g4; exact of_decide_eq_true g4
    · rw [if_neg (by omega)] at g4; exact of_decide_eq_true g4

def tm (e x0 x1 : Int) : Int := (if 0 > e - x0 then 0 else e - x0) * x1
theorem tm_b {e x0 x1 : Int} (h0 : 0 ≤ e) (h1 : e ≤ 1000000) (h2 : 0 ≤ x0) (h4 : 0 ≤ x1) (h5 : x1 ≤ 10000) : 0 ≤ tm e x0 x1 ∧ tm e x0 x1 ≤ 10000000000 := by
  unfold tm
  generalize hg : (if 0 > e - x0 then (0 : Int) else e - x0) = g
  have g0 : 0 ≤ g ∧ g ≤ 1000000 := by rw [← hg]; split <;> omega
  have m := mul_bounds (a := g) (b := x1) (A := 1000000) (B := 10000) g0.1 g0.2 (by omega) h5 (by omega)
  have n := mul_nonneg' g0.1 h4
  omega
theorem smin (a b : Int) : spec_l00Min.f a b = some (if a < b then a else b) := by unfold spec_l00Min.f; split <;> rfl
theorem smax (a b : Int) : spec_l00Max.f a b = some (if a > b then a else b) := by unfold spec_l00Max.f; split <;> rfl
theorem mn_eq (a b : Int) : mn a b = if a < b then a else b := by unfold mn; by_cases h1 : b < a <;> by_cases h2 : a < b <;> simp [h1, h2] <;> omega
theorem mx_eq (a : Int) : mx a 0 = if 0 > a then 0 else a := rfl
theorem cost_step {u y x0 x1 : Int} (h0 : 0 ≤ y) (h1 : y ≤ 1000000) (h2 : 0 ≤ x0) (h3 : x0 ≤ 1000000) (h4 : 0 ≤ x1) (h5 : x1 ≤ 10000) (hu : 0 ≤ u) (hu1 : u ≤ 60000000000) : wrap64 (u + wrap64 ((if 0 > wrap64 (y - x0) then 0 else wrap64 (y - x0)) * x1)) = u + tm y x0 x1 := by
  have tb := tm_b h0 h1 h2 h4 h5
  rw [wrap_id (x := y - x0) (by omega) (by omega)]
  have e : (if 0 > y - x0 then (0 : Int) else y - x0) * x1 = tm y x0 x1 := rfl
  rw [e]
  generalize tm y x0 x1 = z at tb
  rw [wrap_id (x := z) (by omega) (by omega), wrap_id (x := u + z) (by omega) (by omega)]
theorem cost_l0 (s : ByteArray) (f p : Int) (L : List (List Int)) (hT : TarOk f p L) (h : Int) (hh0 : 0 ≤ h) (hh1 : h ≤ 1000000) : ∀ (d j : Nat) (u : Int), j + d = L.length → 0 ≤ u → u ≤ (j : Int) * 10000000000 → ∃ c,
    (∀ k, d < k → spec_l21Cost.l0 k [(⟨s, f, p, L⟩ : S27)] h u (j : Int) = some c) ∧ (∀ k, d < k → impl_Tariff_heatCost.l0 k h u L (L.length : Int) (j : Int) s f p L = some c) ∧ 0 ≤ c ∧ c ≤ 60000000000 := by
  have e : rd_T27 [(⟨s, f, p, L⟩ : S27)] 0 = ⟨s, f, p, L⟩ := rfl
  have ht : (0 : Int) < (([(⟨s, f, p, L⟩ : S27)]).length : Int) := by simp
  obtain ⟨_, _, hl1, hl6, hall⟩ := hT
  intro d
  induction d with
  | zero =>
    intro j u hj hu hu1
    have hj1 : ¬ (j : Int) < (L.length : Int) := by omega
    refine ⟨u, fun k hk => ?_, fun k hk => ?_, by omega, by omega⟩
    · obtain ⟨k, rfl⟩ := suc_of (show 0 < k by omega)
      simp only [spec_l21Cost.l0, e, ht, hj1, if_true, if_false]
    · obtain ⟨k, rfl⟩ := suc_of (show 0 < k by omega)
      simp only [impl_Tariff_heatCost.l0, hj1, if_false]
  | succ d ih =>
    intro j u hj hu hu1
    have hjl : j < L.length := by omega
    have hn := next_nat (j := j) (n := L.length) hjl (by omega)
    have hj0 : (0 : Int) ≤ (j : Int) := by omega
    have hj1 : (j : Int) < (L.length : Int) := by omega
    have hj3 : (0 : Int) ≤ ((j + 1 : Nat) : Int) := by omega
    have hw : wrap64 ((L.length : Int) - 1) = (L.length : Int) - 1 := wrap_id (by omega) (by omega)
    have hu6 : u ≤ 60000000000 := by omega
    have hjd : j + 1 + d = L.length := by omega
    have g1 := (hall j hjl).1
    have hz0 : (0 : Int) < ((L.getD j []).length : Int) := by omega
    have hz1 : (1 : Int) < ((L.getD j []).length : Int) := by omega
    have g2 := (hall j hjl).2.1
    have g3 := (hall j hjl).2.2.1
    unfold lv0 at g2
    unfold lv1 at g3
    by_cases hlast : j + 1 < L.length
    · have n1 := (hall (j + 1) hlast).1
      have hj2 : ((j + 1 : Nat) : Int) < (L.length : Int) := by omega
      have hj4 : (j : Int) < (L.length : Int) - 1 := by omega
      have hz2 : (0 : Int) < ((L.getD (j + 1) []).length : Int) := by omega
      have n2 := (hall (j + 1) hlast).2.1
      unfold lv0 at n2
      have y0 : 0 ≤ (if h < rd (L.getD (j + 1) []) 0 then h else rd (L.getD (j + 1) []) 0) := by split <;> omega
      have y1 : (if h < rd (L.getD (j + 1) []) 0 then h else rd (L.getD (j + 1) []) 0) ≤ 1000000 := by split <;> omega
      have tb := tm_b y0 y1 g2.1 g3.1 g3.2
      have st := cost_step y0 y1 g2.1 g2.2 g3.1 g3.2 hu hu6
      obtain ⟨c, c1, c2, c3, c4⟩ := ih (j + 1) (u + tm (if h < rd (L.getD (j + 1) []) 0 then h else rd (L.getD (j + 1) []) 0) (rd (L.getD j []) 0) (rd (L.getD j []) 1)) hjd (by omega) (by omega)
      refine ⟨c, fun k hk => ?_, fun k hk => ?_, c3, c4⟩
      · obtain ⟨k, rfl⟩ := suc_of (show 0 < k by omega)
        simp only [spec_l21Cost.l0, e, ht, hn, smin, smax, Option.bind_some, rdll_nat, hj0, hj1, hj2, hj3, hz0, hz1, hz2, if_true, st]
        exact c1 k (by omega)
      · obtain ⟨k, rfl⟩ := suc_of (show 0 < k by omega)
        simp only [impl_Tariff_heatCost.l0, hn, hw, mn_eq, mx_eq, rdll_nat, hj0, hj1, hj2, hj3, hj4, hz0, hz1, hz2, if_true, st]
        exact c2 k (by omega)
    · have hj2 : ¬ ((j + 1 : Nat) : Int) < (L.length : Int) := by omega
      have hj4 : ¬ (j : Int) < (L.length : Int) - 1 := by omega
      have tb := tm_b (e := h) (x0 := rd (L.getD j []) 0) (x1 := rd (L.getD j []) 1) hh0 hh1 g2.1 g3.1 g3.2
      have st := cost_step (y := h) hh0 hh1 g2.1 g2.2 g3.1 g3.2 hu hu6
      obtain ⟨c, c1, c2, c3, c4⟩ := ih (j + 1) (u + tm h (rd (L.getD j []) 0) (rd (L.getD j []) 1)) hjd (by omega) (by omega)
      refine ⟨c, fun k hk => ?_, fun k hk => ?_, c3, c4⟩
      · obtain ⟨k, rfl⟩ := suc_of (show 0 < k by omega)
        simp only [spec_l21Cost.l0, e, ht, hn, smax, Option.bind_some, rdll_nat, hj0, hj1, hj2, hj3, hz0, hz1, if_true, if_false, st]
        exact c1 k (by omega)
      · obtain ⟨k, rfl⟩ := suc_of (show 0 < k by omega)
        simp only [impl_Tariff_heatCost.l0, hn, hw, mx_eq, rdll_nat, hj0, hj1, hj4, hz0, hz1, if_true, if_false, st]
        exact c2 k (by omega)
theorem cost_both (s : ByteArray) (f p : Int) (L : List (List Int)) (hT : TarOk f p L) (h : Int) (hh0 : 0 ≤ h) (hh1 : h ≤ 1000000) : ∃ c, (∀ k, 20 ≤ k → spec_l21Cost.f k [(⟨s, f, p, L⟩ : S27)] h = some c) ∧ (∀ k, 20 ≤ k → impl_Tariff_heatCost.f k s f p L h = some c) ∧ 0 ≤ c ∧ c ≤ 60000000000 := by
  obtain ⟨c, c1, c2, c3, c4⟩ := cost_l0 s f p L hT h hh0 hh1 L.length 0 0 (by omega) (by omega) (by omega)
  have hl := hT.2.2.2.1
  exact ⟨c, fun k hk => c1 k (by omega), fun k hk => c2 k (by omega), c3, c4⟩

def rdiv (a b : Int) : Int := if a < 0 then -((b - 2 * a) / (2 * b)) else (2 * a + b) / (2 * b)
theorem rdiv_pos_eq {q r b : Int} (hb : 0 < b) (h0 : 0 ≤ r) (h1 : r < b) : (2 * (b * q + r) + b) / (2 * b) = if r ≥ b - r then q + 1 else q := by
  have e : 2 * (b * q + r) + b = (2 * r + b) + (2 * b) * q := by rw [Int.mul_add, ← Int.mul_assoc]; omega
  rw [e, Int.add_mul_ediv_left _ _ (by omega : (2 * b : Int) ≠ 0)]
  split
  · have : (2 * r + b) / (2 * b) = 1 := by
      have e2 : 2 * r + b = (2 * r - b) + (2 * b) * 1 := by omega
      rw [e2, Int.add_mul_ediv_left _ _ (by omega : (2 * b : Int) ≠ 0), Int.ediv_eq_zero_of_lt (by omega) (by omega)]; rfl
    omega
  · have : (2 * r + b) / (2 * b) = 0 := Int.ediv_eq_zero_of_lt (by omega) (by omega)
    omega
theorem abs_def {a : Int} (h : -9223372036854775807 ≤ a) (h2 : a ≤ 9223372036854775807) : impl_abs.f a = some (if a < 0 then -a else a) := by
  unfold impl_abs.f mx
  rw [wrap_id (by omega) (by omega)]
  split <;> split <;> first | rfl | (simp; omega)
theorem impl_div {a b : Int} (hb : 0 < b) (hb2 : b ≤ 2305843009213693951) (ha : -2305843009213693951 ≤ a) (ha2 : a ≤ 2305843009213693951) : impl_divRound.f a b = some (rdiv a b) := by
  unfold impl_divRound.f
  rw [if_neg (by omega)]
  by_cases h : a < 0
  · have hq0 : a.tdiv b = -((-a) / b) := by rw [← Int.tdiv_eq_ediv_of_nonneg (by omega), Int.neg_tdiv, Int.neg_neg]
    have hr0 : a.tmod b = -((-a) % b) := by rw [← Int.tmod_eq_emod_of_nonneg (by omega), Int.neg_tmod, Int.neg_neg]
    have hr1 := Int.emod_nonneg (-a) (show b ≠ 0 by omega)
    have hr2 := Int.emod_lt_of_pos (-a) hb
    have hd := Int.mul_ediv_add_emod (-a) b
    have hq1 : 0 ≤ (-a) / b := Int.ediv_nonneg (by omega) (by omega)
    have hq2 : (-a) / b ≤ -a := Int.ediv_le_self _ (by omega)
    rw [hq0, hr0]
    generalize (-a) / b = q at *
    generalize (-a) % b = r at *
    rw [abs_def (by omega) (by omega), abs_def (by omega) (by omega)]
    simp only [Option.bind_some]
    have e1 : (if -r < 0 then - -r else -r) = r := by split <;> omega
    have e2 : (if b < 0 then -b else b) = b := by rw [if_neg (by omega)]
    rw [e1, e2, wrap_id (x := b - r) (by omega) (by omega)]
    have hk : rdiv a b = -(if r ≥ b - r then q + 1 else q) := by
      unfold rdiv
      rw [if_pos h, ← rdiv_pos_eq (q := q) hb hr1 hr2, hd]
      congr 2; omega
    rw [hk]
    have w1 : wrap64 (-q) = -q := wrap_id (by omega) (by omega)
    rw [w1]
    by_cases hc : r ≥ b - r
    · rw [if_pos hc, if_pos hc, if_neg (by simp; omega), wrap_id (by omega) (by omega)]
      congr 1; omega
    · rw [if_neg hc, if_neg hc]
  · have hq0 : a.tdiv b = a / b := Int.tdiv_eq_ediv_of_nonneg (by omega)
    have hr0 : a.tmod b = a % b := Int.tmod_eq_emod_of_nonneg (by omega)
    have hr1 := Int.emod_nonneg a (show b ≠ 0 by omega)
    have hr2 := Int.emod_lt_of_pos a hb
    have hd := Int.mul_ediv_add_emod a b
    have hq1 : 0 ≤ a / b := Int.ediv_nonneg (by omega) (by omega)
    have hq2 : a / b ≤ a := Int.ediv_le_self _ (by omega)
    rw [hq0, hr0]
    generalize a / b = q at *
    generalize a % b = r at *
    rw [abs_def (by omega) (by omega), abs_def (by omega) (by omega)]
    simp only [Option.bind_some]
    have e1 : (if r < 0 then - r else r) = r := by rw [if_neg (by omega)]
    have e2 : (if b < 0 then -b else b) = b := by rw [if_neg (by omega)]
    rw [e1, e2, wrap_id (x := b - r) (by omega) (by omega)]
    have hk : rdiv a b = (if r ≥ b - r then q + 1 else q) := by
      unfold rdiv
      rw [if_neg h, ← rdiv_pos_eq (q := q) hb hr1 hr2, hd]
    rw [hk]
    have w1 : wrap64 q = q := wrap_id (by omega) (by omega)
    rw [w1]
    by_cases hc : r ≥ b - r
    · rw [if_pos hc, if_pos hc, if_pos (by simp; omega), wrap_id (by omega) (by omega)]
    · rw [if_neg hc, if_neg hc]
theorem rdiv_nonneg {a b : Int} (ha : 0 ≤ a) (hb : 0 < b) : 0 ≤ rdiv a b := by
  unfold rdiv; rw [if_neg (by omega)]; exact Int.ediv_nonneg (by omega) (by omega)
theorem rdiv_le {a b : Int} (ha : 0 ≤ a) (hb : 0 < b) : rdiv a b ≤ 2 * a + b := by
  unfold rdiv; rw [if_neg (by omega)]; exact Int.ediv_le_self _ (by omega)

theorem spec_div {a b : Int} (hb : 0 < b) (hb2 : b ≤ 2305843009213693951) (ha : -2305843009213693951 ≤ a) (ha2 : a ≤ 2305843009213693951) : spec_l01Div.f a b = some (rdiv a b) := by
  unfold spec_l01Div.f rdiv
  have w2 : wrap64 (2 * b) = 2 * b := wrap_id (by omega) (by omega)
  have h2b : (0 : Int) < 2 * b := by omega
  rw [if_neg (by omega), w2]
  by_cases h : a < 0
  · rw [if_pos h, if_pos h, if_neg (by omega)]
    have e1 : wrap64 (2 * a) = 2 * a := wrap_id (by omega) (by omega)
    have e2 : wrap64 (b - 2 * a) = b - 2 * a := wrap_id (by omega) (by omega)
    rw [e1, e2, Int.tdiv_eq_ediv_of_nonneg (by omega)]
    have b1 : 0 ≤ (b - 2 * a) / (2 * b) := Int.ediv_nonneg (by omega) (by omega)
    have b2 : (b - 2 * a) / (2 * b) ≤ b - 2 * a := Int.ediv_le_self _ (by omega)
    have e3 : wrap64 ((b - 2 * a) / (2 * b)) = (b - 2 * a) / (2 * b) := wrap_id (by omega) (by omega)
    have e4 : wrap64 (-((b - 2 * a) / (2 * b))) = -((b - 2 * a) / (2 * b)) := wrap_id (by omega) (by omega)
    rw [e3, e4]
  · rw [if_neg h, if_neg h, if_neg (by omega)]
    have e1 : wrap64 (2 * a) = 2 * a := wrap_id (by omega) (by omega)
    have e2 : wrap64 (2 * a + b) = 2 * a + b := wrap_id (by omega) (by omega)
    rw [e1, e2, Int.tdiv_eq_ediv_of_nonneg (by omega)]
    have b1 : 0 ≤ (2 * a + b) / (2 * b) := Int.ediv_nonneg (by omega) (by omega)
    have b2 : (2 * a + b) / (2 * b) ≤ 2 * a + b := Int.ediv_le_self _ (by omega)
    rw [wrap_id (by omega) (by omega)]

theorem spec_tbill (s : ByteArray) (f p : Int) (L : List (List Int)) (k : Nat) (h q c : Int) (hf : 0 ≤ f ∧ f ≤ 1000000) (hp : 0 ≤ p ∧ p ≤ 10000) (hq : 0 ≤ q ∧ q ≤ 10000) (hc : spec_l21Cost.f k [(⟨s, f, p, L⟩ : S27)] h = some c) (c0 : 0 ≤ c) (c1 : c ≤ 60000000000) : spec_l21Bill.f k [(⟨s, f, p, L⟩ : S27)] h q = some (f + p * q + rdiv c 100) := by
  have e : rd_T27 [(⟨s, f, p, L⟩ : S27)] 0 = ⟨s, f, p, L⟩ := rfl
  have m := mul_bounds (a := p) (b := q) (A := 10000) (B := 10000) hp.1 hp.2 (by omega) hq.2 (by omega)
  have n := mul_nonneg' hp.1 hq.1
  have r0 := rdiv_nonneg (b := 100) c0 (by omega)
  have r1 := rdiv_le (b := 100) c0 (by omega)
  unfold spec_l21Bill.f
  rw [if_pos (by simp), hc]
  simp only [Option.bind_some, e]
  rw [spec_div (by omega) (by omega) (by omega) (by omega)]
  simp only [Option.bind_some]
  rw [wrap_id (x := p * q) (by omega) (by omega), wrap_id (x := f + p * q) (by omega) (by omega), wrap_id (by omega) (by omega)]
theorem impl_tbill (s : ByteArray) (f p : Int) (L : List (List Int)) (k : Nat) (h q c : Int) (hf : 0 ≤ f ∧ f ≤ 1000000) (hp : 0 ≤ p ∧ p ≤ 10000) (hq : 0 ≤ q ∧ q ≤ 10000) (hc : impl_Tariff_heatCost.f k s f p L h = some c) (c0 : 0 ≤ c) (c1 : c ≤ 60000000000) : impl_Tariff_bill.f k s f p L h q = some (f + p * q + rdiv c 100) := by
  have m := mul_bounds (a := p) (b := q) (A := 10000) (B := 10000) hp.1 hp.2 (by omega) hq.2 (by omega)
  have n := mul_nonneg' hp.1 hq.1
  have r0 := rdiv_nonneg (b := 100) c0 (by omega)
  have r1 := rdiv_le (b := 100) c0 (by omega)
  unfold impl_Tariff_bill.f
  rw [hc]
  simp only [Option.bind_some]
  rw [impl_div (by omega) (by omega) (by omega) (by omega)]
  simp only [Option.bind_some]
  rw [wrap_id (x := p * q) (by omega) (by omega), wrap_id (x := f + p * q) (by omega) (by omega), wrap_id (by omega) (by omega)]
theorem bill_both (s : ByteArray) (f p : Int) (L : List (List Int)) (hT : TarOk f p L) (h q : Int) (hh : 0 ≤ h ∧ h ≤ 1000000) (hq : 0 ≤ q ∧ q ≤ 10000) : ∃ c, (∀ k, 20 ≤ k → spec_l21Bill.f k [(⟨s, f, p, L⟩ : S27)] h q = some c) ∧ (∀ k, 20 ≤ k → impl_Tariff_bill.f k s f p L h q = some c) ∧ 0 ≤ c ∧ c ≤ 200000000000 := by
  obtain ⟨c, c1, c2, c3, c4⟩ := cost_both s f p L hT h hh.1 hh.2
  have m := mul_bounds (a := p) (b := q) (A := 10000) (B := 10000) hT.2.1.1 hT.2.1.2 (by omega) hq.2 (by omega)
  have n := mul_nonneg' hT.2.1.1 hq.1
  have r0 := rdiv_nonneg (b := 100) c3 (by omega)
  have r1 := rdiv_le (b := 100) c3 (by omega)
  have hf := hT.1
  exact ⟨_, fun k hk => spec_tbill s f p L k h q c hT.1 hT.2.1 hq (c1 k hk) c3 c4, fun k hk => impl_tbill s f p L k h q c hT.1 hT.2.1 hq (c2 k hk) c3 c4, by omega, by omega⟩
theorem spec_tpeak (x : Int) : spec_l21Peak.f x = some (decide (0 ≤ x ∧ x ≤ 10000)) := by unfold spec_l21Peak.f; rw [spec_in]; rfl

theorem toI_l0 (l : List Int) (hl : l.length ≤ 35184372088832) : ∀ (d j k : Nat) (m : List Int), j + d = l.length → d < k → m.length = l.length → (∀ i, i < j → m[i]? = l[i]?) → laws_toInt64S.l0 k l m (j : Int) = some l := by
  intro d
  induction d with
  | zero =>
    intro j k m hj hk hm hp
    obtain ⟨k, rfl⟩ := suc_of hk
    simp only [laws_toInt64S.l0]
    rw [if_neg (by omega)]
    congr 1
    apply List.ext_getElem?
    intro i
    by_cases hi : i < j
    · exact hp i hi
    · rw [List.getElem?_eq_none (by omega), List.getElem?_eq_none (by omega)]
  | succ d ih =>
    intro j k m hj hk hm hp
    obtain ⟨k, rfl⟩ := suc_of hk
    simp only [laws_toInt64S.l0]
    rw [if_pos (by omega), if_pos (by omega), if_pos (by omega), next_nat (n := l.length) (by omega) (by omega)]
    refine ih (j + 1) k _ (by omega) (by omega) (by simpa using hm) (fun i hi => ?_)
    rw [Int.toNat_natCast, rd_nat, List.getElem?_set]
    by_cases e : j = i
    · subst e
      rw [if_pos rfl, if_pos (by omega), getD_lt (by omega), List.getElem?_eq_getElem (by omega)]
    · rw [if_neg e]; exact hp i (by omega)
theorem toI (l : List Int) (hl : l.length ≤ 35184372088832) (k : Nat) (hk : l.length < k) : laws_toInt64S.f k l = some l := by
  unfold laws_toInt64S.f
  rw [if_pos (by omega), if_pos (by omega)]
  exact toI_l0 l hl l.length 0 k _ (by omega) hk (by simp) (fun i hi => absurd hi (by omega))

theorem eqI_l0 (l : List Int) (hl : l.length ≤ 35184372088832) : ∀ (d j k : Nat), j + d = l.length → d < k → laws_eqInt64S.l0 k l l (j : Int) = some true := by
  intro d
  induction d with
  | zero =>
    intro j k hj hk
    obtain ⟨k, rfl⟩ := suc_of hk
    simp only [laws_eqInt64S.l0]
    rw [if_neg (by omega)]
  | succ d ih =>
    intro j k hj hk
    obtain ⟨k, rfl⟩ := suc_of hk
    simp only [laws_eqInt64S.l0]
    rw [if_pos (by omega), if_pos (by omega), if_pos (by omega), if_pos trivial, next_nat (n := l.length) (by omega) (by omega)]
    exact ih (j + 1) k (by omega) (by omega)
theorem eqI (l : List Int) (hl : l.length ≤ 35184372088832) (k : Nat) (hk : l.length < k) : laws_eqInt64S.f k l l = some true := by
  unfold laws_eqInt64S.f
  rw [if_pos rfl]
  exact eqI_l0 l hl l.length 0 k (by omega) hk

theorem toII_l0 (l : List (List Int)) (hl : l.length ≤ 1048576) (hi : ∀ x ∈ l, x.length ≤ 1048576) : ∀ (d j k : Nat) (m : List (List Int)), j + d = l.length → d + 1048577 < k → m.length = l.length → (∀ i, i < j → m[i]? = l[i]?) → laws_toInt64SS.l0 k l m (j : Int) = some l := by
  intro d
  induction d with
  | zero =>
    intro j k m hj hk hm hp
    obtain ⟨k, rfl⟩ := suc_of hk
    simp only [laws_toInt64SS.l0]
    rw [if_neg (by omega)]
    congr 1
    apply List.ext_getElem?
    intro i
    by_cases hi : i < j
    · exact hp i hi
    · rw [List.getElem?_eq_none (by omega), List.getElem?_eq_none (by omega)]
  | succ d ih =>
    intro j k m hj hk hm hp
    obtain ⟨k, rfl⟩ := suc_of hk
    have hx := hi (l.getD j []) (by rw [getD_lt (by omega)]; exact List.getElem_mem _)
    simp only [laws_toInt64SS.l0]
    rw [if_pos (by omega), if_pos (by omega), rdll_nat, toI _ (by omega) k (by omega)]
    simp only [Option.bind_some]
    rw [if_pos (by omega), next_nat (n := l.length) (by omega) (by omega)]
    refine ih (j + 1) k _ (by omega) (by omega) (by simpa using hm) (fun i hi => ?_)
    rw [Int.toNat_natCast, List.getElem?_set]
    by_cases e : j = i
    · subst e
      rw [if_pos rfl, if_pos (by omega), getD_lt (by omega), List.getElem?_eq_getElem (by omega)]
    · rw [if_neg e]; exact hp i (by omega)
theorem toII (l : List (List Int)) (hl : l.length ≤ 1048576) (hi : ∀ x ∈ l, x.length ≤ 1048576) (k : Nat) (hk : 2097154 < k) : laws_toInt64SS.f k l = some l := by
  unfold laws_toInt64SS.f
  rw [if_pos (by omega), if_pos (by omega)]
  exact toII_l0 l hl hi l.length 0 k _ (by omega) (by omega) (by simp) (fun i hi => absurd hi (by omega))
theorem eqII_l0 (l : List (List Int)) (hl : l.length ≤ 1048576) (hi : ∀ x ∈ l, x.length ≤ 1048576) : ∀ (d j k : Nat), j + d = l.length → d + 1048577 < k → laws_eqInt64SS.l0 k l l (j : Int) = some true := by
  intro d
  induction d with
  | zero =>
    intro j k hj hk
    obtain ⟨k, rfl⟩ := suc_of hk
    simp only [laws_eqInt64SS.l0]
    rw [if_neg (by omega)]
  | succ d ih =>
    intro j k hj hk
    obtain ⟨k, rfl⟩ := suc_of hk
    have hx := hi (l.getD j []) (by rw [getD_lt (by omega)]; exact List.getElem_mem _)
    simp only [laws_eqInt64SS.l0]
    rw [if_pos (by omega), if_pos (by omega), if_pos (by omega), rdll_nat, eqI _ (by omega) k (by omega)]
    simp only [Option.bind_some, if_true]
    rw [next_nat (n := l.length) (by omega) (by omega)]
    exact ih (j + 1) k (by omega) (by omega)
theorem eqII (l : List (List Int)) (hl : l.length ≤ 1048576) (hi : ∀ x ∈ l, x.length ≤ 1048576) (k : Nat) (hk : 2097154 < k) : laws_eqInt64SS.f k l l = some true := by
  unfold laws_eqInt64SS.f
  rw [if_pos rfl]
  exact eqII_l0 l hl hi l.length 0 k (by omega) (by omega)

theorem szTariff (s : ByteArray) (f p : Int) (l : List (List Int)) (hs : s.size ≤ maxLen) (hl : l.length ≤ 9223372036854775807) (hi : ∀ x ∈ l, x.length ≤ 9223372036854775807) (n : Int) (hn : 0 ≤ n) (hn2 : n ≤ 1048576) (k : Nat) (hk : 1048576 < k) :
    ∃ r, laws_szTariff.f k s f p l n = some r ∧ r ≤ n ∧ -1 ≤ r ∧ (0 ≤ r → s.size ≤ 1048576 ∧ l.length ≤ 1048576 ∧ ∀ x ∈ l, x.length ≤ 1048576) := by
  unfold laws_szTariff.f laws_szInt64SS.f
  simp only [maxLen] at hs
  rw [wrap_id (x := n - (s.size : Int)) (by omega) (by omega)]
  by_cases c : n - (s.size : Int) < 0
  · rw [if_pos c]; exact ⟨-1, rfl, by omega, by omega, fun h => by omega⟩
  · rw [if_neg c, wrap_id (x := n - (s.size : Int) - (l.length : Int)) (by omega) (by omega)]
    by_cases c2 : n - (s.size : Int) - (l.length : Int) < 0
    · rw [if_pos c2]; exact ⟨-1, rfl, by omega, by omega, fun h => by omega⟩
    · rw [if_neg c2]
      obtain ⟨r, h2, h3, h4⟩ := szII_l0 l (by omega) hi l.length 0 k (n - (s.size : Int) - (l.length : Int)) (by omega) (by omega) (by omega) (by omega)
      have h2' : laws_szInt64SS.l0 k l (n - (s.size : Int) - (l.length : Int)) 0 = some r := h2
      rw [h2']
      simp only [Option.bind_some]
      by_cases c3 : r < 0
      · rw [if_pos c3]; exact ⟨-1, rfl, by omega, by omega, fun h => by omega⟩
      · rw [if_neg c3]
        refine ⟨r, rfl, by omega, by omega, fun hr => ⟨by omega, by omega, fun x hx => ?_⟩⟩
        obtain ⟨i, hi1, rfl⟩ := List.mem_iff_getElem.1 hx
        have := h4 hr i (by omega) hi1
        rwa [getD_lt hi1] at this
theorem toTariff (s : ByteArray) (f p : Int) (l : List (List Int)) (hl : l.length ≤ 1048576) (hi : ∀ x ∈ l, x.length ≤ 1048576) (k : Nat) (hk : 2097154 < k) : laws_toTariff.f k s f p l = some (s, f, p, l) := by
  unfold laws_toTariff.f
  rw [toII l hl hi k hk]; rfl
theorem eqTariff (s : ByteArray) (f p : Int) (l : List (List Int)) (hl : l.length ≤ 1048576) (hi : ∀ x ∈ l, x.length ≤ 1048576) (k : Nat) (hk : 2097154 < k) : laws_eqTariff.f k s f p l s f p l = some true := by
  unfold laws_eqTariff.f
  rw [if_pos rfl, if_pos rfl, if_pos rfl, eqII l hl hi k hk]; rfl

theorem tm_mono {e e' x0 x1 : Int} (h : e ≤ e') (h1 : 0 ≤ x1) : tm e x0 x1 ≤ tm e' x0 x1 := by
  unfold tm
  exact Int.mul_le_mul_of_nonneg_right (by split <;> split <;> omega) h1
theorem cost_step2 {u u' y y' x0 x1 J J1 : Int} (hy0 : 0 ≤ y) (hyy : y ≤ y') (hy1 : y' ≤ 1000000) (h2 : 0 ≤ x0) (h3 : x0 ≤ 1000000) (h4 : 0 ≤ x1) (h5 : x1 ≤ 10000) (hu : 0 ≤ u) (huu : u ≤ u') (hJ : u' ≤ J * 10000000000) (hJ5 : J ≤ 5) (hJ1 : J1 = J + 1) :
    wrap64 (u + wrap64 ((if 0 > wrap64 (y - x0) then 0 else wrap64 (y - x0)) * x1)) = u + tm y x0 x1 ∧ wrap64 (u' + wrap64 ((if 0 > wrap64 (y' - x0) then 0 else wrap64 (y' - x0)) * x1)) = u' + tm y' x0 x1 ∧ 0 ≤ u + tm y x0 x1 ∧ u + tm y x0 x1 ≤ u' + tm y' x0 x1 ∧ u' + tm y' x0 x1 ≤ J1 * 10000000000 := by
  have b1 := tm_b (e := y) (x0 := x0) (x1 := x1) hy0 (by omega) h2 h4 h5
  have b2 := tm_b (e := y') (x0 := x0) (x1 := x1) (by omega) hy1 h2 h4 h5
  have b3 := tm_mono (x0 := x0) hyy h4
  refine ⟨cost_step hy0 (by omega) h2 h3 h4 h5 hu (by omega), cost_step (by omega) hy1 h2 h3 h4 h5 (by omega) (by omega), by omega, by omega, by omega⟩
theorem min_step {h h' n : Int} (h0 : 0 ≤ h) (hh : h ≤ h') (h1 : h' ≤ 1000000) (n0 : 0 ≤ n) : 0 ≤ (if h < n then h else n) ∧ (if h < n then h else n) ≤ (if h' < n then h' else n) ∧ (if h' < n then h' else n) ≤ 1000000 := by
  refine ⟨by split <;> omega, by split <;> split <;> omega, by split <;> omega⟩
theorem cost_mono (s : ByteArray) (f p : Int) (L : List (List Int)) (hT : TarOk f p L) (h h' : Int) (hh0 : 0 ≤ h) (hhh : h ≤ h') (hh1 : h' ≤ 1000000) : ∀ (d j : Nat) (u u' : Int), j + d = L.length → 0 ≤ u → u ≤ u' → u' ≤ (j : Int) * 10000000000 → ∃ c c',
    (∀ k, d < k → spec_l21Cost.l0 k [(⟨s, f, p, L⟩ : S27)] h u (j : Int) = some c) ∧ (∀ k, d < k → spec_l21Cost.l0 k [(⟨s, f, p, L⟩ : S27)] h' u' (j : Int) = some c') ∧ c ≤ c' := by
  have e : rd_T27 [(⟨s, f, p, L⟩ : S27)] 0 = ⟨s, f, p, L⟩ := rfl
  have ht : (0 : Int) < (([(⟨s, f, p, L⟩ : S27)]).length : Int) := by simp
  obtain ⟨_, _, hl1, hl6, hall⟩ := hT
  intro d
  induction d with
  | zero =>
    intro j u u' hj hu huu hu1
    have hj1 : ¬ (j : Int) < (L.length : Int) := by omega
    refine ⟨u, u', fun k hk => ?_, fun k hk => ?_, huu⟩
    · obtain ⟨k, rfl⟩ := suc_of (show 0 < k by omega)
      simp only [spec_l21Cost.l0, e, ht, hj1, if_true, if_false]
    · obtain ⟨k, rfl⟩ := suc_of (show 0 < k by omega)
      simp only [spec_l21Cost.l0, e, ht, hj1, if_true, if_false]
  | succ d ih =>
    intro j u u' hj hu huu hu1
    have hjl : j < L.length := by omega
    have hj0 : (0 : Int) ≤ (j : Int) := by omega
    have hj1 : (j : Int) < (L.length : Int) := by omega
    have hj3 : (0 : Int) ≤ ((j + 1 : Nat) : Int) := by omega
    have hJ5 : (j : Int) ≤ 5 := by omega
    have hJ1 : ((j + 1 : Nat) : Int) = (j : Int) + 1 := by omega
    have hjd : j + 1 + d = L.length := by omega
    have g1 := (hall j hjl).1
    have hz0 : (0 : Int) < ((L.getD j []).length : Int) := by omega
    have hz1 : (1 : Int) < ((L.getD j []).length : Int) := by omega
    have g2 : 0 ≤ rd (L.getD j []) 0 ∧ rd (L.getD j []) 0 ≤ 1000000 := (hall j hjl).2.1
    have g3 : 0 ≤ rd (L.getD j []) 1 ∧ rd (L.getD j []) 1 ≤ 10000 := (hall j hjl).2.2.1
    clear g1
    have hLb : L.length ≤ 4611686018427387904 := Nat.le_trans hl6 (by decide)
    have hn := next_nat (j := j) (n := L.length) hjl hLb
    by_cases hlast : j + 1 < L.length
    · have hj2 : ((j + 1 : Nat) : Int) < (L.length : Int) := by clear g2 g3 hn; omega
      have n1 := (hall (j + 1) hlast).1
      have hz2 : (0 : Int) < ((L.getD (j + 1) []).length : Int) := by clear g2 g3 hn; omega
      have n2 : 0 ≤ rd (L.getD (j + 1) []) 0 := (hall (j + 1) hlast).2.1.1
      obtain ⟨y0, y1, y2⟩ := min_step (n := rd (L.getD (j + 1) []) 0) hh0 hhh hh1 n2
      obtain ⟨st, st', m1, m2, m3⟩ := cost_step2 y0 y1 y2 g2.1 g2.2 g3.1 g3.2 hu huu hu1 hJ5 hJ1
      obtain ⟨c, c', c1, c2, c3⟩ := ih (j + 1) _ _ hjd m1 m2 m3
      clear g2 g3 n1 n2 y0 y1 y2 m1 m2 m3
      refine ⟨c, c', fun k hk => ?_, fun k hk => ?_, c3⟩
      · obtain ⟨k, rfl⟩ : ∃ m, k = m + 1 := ⟨k - 1, by clear hn st st'; omega⟩
        have hk1 : d < k := by clear hn st st'; omega
        simp only [spec_l21Cost.l0, e, ht, hn, smin, smax, Option.bind_some, rdll_nat, hj0, hj1, hj2, hj3, hz0, hz1, hz2, if_true, st]
        exact c1 k hk1
      · obtain ⟨k, rfl⟩ : ∃ m, k = m + 1 := ⟨k - 1, by clear hn st st'; omega⟩
        have hk1 : d < k := by clear hn st st'; omega
        simp only [spec_l21Cost.l0, e, ht, hn, smin, smax, Option.bind_some, rdll_nat, hj0, hj1, hj2, hj3, hz0, hz1, hz2, if_true, st']
        exact c2 k hk1
    · have hj2 : ¬ ((j + 1 : Nat) : Int) < (L.length : Int) := by clear g2 g3 hn; omega
      obtain ⟨st, st', m1, m2, m3⟩ := cost_step2 hh0 hhh hh1 g2.1 g2.2 g3.1 g3.2 hu huu hu1 hJ5 hJ1
      obtain ⟨c, c', c1, c2, c3⟩ := ih (j + 1) _ _ hjd m1 m2 m3
      clear g2 g3 m1 m2 m3
      refine ⟨c, c', fun k hk => ?_, fun k hk => ?_, c3⟩
      · obtain ⟨k, rfl⟩ : ∃ m, k = m + 1 := ⟨k - 1, by clear hn st st'; omega⟩
        have hk1 : d < k := by clear hn st st'; omega
        simp only [spec_l21Cost.l0, e, ht, hn, smax, Option.bind_some, rdll_nat, hj0, hj1, hj2, hj3, hz0, hz1, if_true, if_false, st]
        exact c1 k hk1
      · obtain ⟨k, rfl⟩ : ∃ m, k = m + 1 := ⟨k - 1, by clear hn st st'; omega⟩
        have hk1 : d < k := by clear hn st st'; omega
        simp only [spec_l21Cost.l0, e, ht, hn, smax, Option.bind_some, rdll_nat, hj0, hj1, hj2, hj3, hz0, hz1, if_true, if_false, st']
        exact c2 k hk1
def tbl (s : ByteArray) (f p : Int) (L : List (List Int)) (h q : Int) : Int := (impl_Tariff_bill.f 20 s f p L h q).getD 0
theorem tbl_spec (s : ByteArray) (f p : Int) (L : List (List Int)) (hT : TarOk f p L) (h q : Int) (hh : 0 ≤ h ∧ h ≤ 1000000) (hq : 0 ≤ q ∧ q ≤ 10000) : (∀ k, 20 ≤ k → spec_l21Bill.f k [(⟨s, f, p, L⟩ : S27)] h q = some (tbl s f p L h q)) ∧ (∀ k, 20 ≤ k → impl_Tariff_bill.f k s f p L h q = some (tbl s f p L h q)) ∧ 0 ≤ tbl s f p L h q ∧ tbl s f p L h q ≤ 200000000000 := by
  obtain ⟨c, c1, c2, c3, c4⟩ := bill_both s f p L hT h q hh hq
  have e : tbl s f p L h q = c := by unfold tbl; rw [c2 20 (by omega)]; rfl
  rw [e]; exact ⟨c1, c2, c3, c4⟩
theorem rdiv_mono {a b : Int} (h0 : 0 ≤ a) (h : a ≤ b) : rdiv a 100 ≤ rdiv b 100 := by
  unfold rdiv
  rw [if_neg (by omega), if_neg (by omega)]
  exact Int.ediv_le_ediv (by omega) (by omega)
theorem tbl_mono (s : ByteArray) (f p : Int) (L : List (List Int)) (hT : TarOk f p L) (h h' q : Int) (hh0 : 0 ≤ h) (hhh : h ≤ h') (hh1 : h' ≤ 1000000) (hq : 0 ≤ q ∧ q ≤ 10000) : tbl s f p L h q ≤ tbl s f p L h' q := by
  obtain ⟨c, c', m1, m2, m3⟩ := cost_mono s f p L hT h h' hh0 hhh hh1 L.length 0 0 0 (by omega) (by omega) (by omega) (by omega)
  obtain ⟨d, d1, _, d3, d4⟩ := cost_both s f p L hT h hh0 (by omega)
  obtain ⟨d', e1, _, e3, e4⟩ := cost_both s f p L hT h' (by omega) hh1
  have hl := hT.2.2.2.1
  have a1 : spec_l21Cost.f 20 [(⟨s, f, p, L⟩ : S27)] h = some c := m1 20 (by omega)
  have a2 : spec_l21Cost.f 20 [(⟨s, f, p, L⟩ : S27)] h' = some c' := m2 20 (by omega)
  have i1 : c = d := Option.some.inj (a1.symm.trans (d1 20 (by omega)))
  have i2 : c' = d' := Option.some.inj (a2.symm.trans (e1 20 (by omega)))
  subst i1
  subst i2
  have b1 := spec_tbill s f p L 20 h q c hT.1 hT.2.1 hq a1 d3 d4
  have b2 := spec_tbill s f p L 20 h' q c' hT.1 hT.2.1 hq a2 e3 e4
  have j1 := Option.some.inj (b1.symm.trans ((tbl_spec s f p L hT h q ⟨hh0, by omega⟩ hq).1 20 (by omega)))
  have j2 := Option.some.inj (b2.symm.trans ((tbl_spec s f p L hT h' q ⟨by omega, hh1⟩ hq).1 20 (by omega)))
  have := rdiv_mono d3 m3
  omega

theorem search_spec (p : Int → Option Bool) (P : Int → Bool) (n : Int) (hp : ∀ y, 0 ≤ y → y < n → p y = some (P y)) (hm : ∀ y z, 0 ≤ y → y ≤ z → z < n → P y = true → P z = true) : ∀ (d : Nat) (i j : Int) (k : Nat), 0 ≤ i → i ≤ j → j ≤ n → (j - i).toNat ≤ d → d < k → (∀ y, 0 ≤ y → y < i → P y = false) → (∀ y, j ≤ y → y < n → P y = true) →
    ∃ r, searchO p k i j = some r ∧ 0 ≤ r ∧ r ≤ n ∧ (∀ y, 0 ≤ y → y < r → P y = false) ∧ (∀ y, r ≤ y → y < n → P y = true) := by
  intro d
  induction d with
  | zero =>
    intro i j k h0 h1 h2 hd hk a b
    obtain ⟨k, rfl⟩ := suc_of hk
    have e : i = j := by omega
    subst e
    simp only [searchO]
    rw [if_neg (by omega)]
    exact ⟨i, rfl, h0, h2, a, b⟩
  | succ d ih =>
    intro i j k h0 h1 h2 hd hk a b
    obtain ⟨k, rfl⟩ := suc_of hk
    by_cases e : i < j
    · simp only [searchO]
      rw [if_pos e, hp _ (by omega) (by omega), Option.bind_some]
      cases c : P ((i + j) / 2) with
      | true =>
        rw [if_pos rfl]
        exact ih i ((i + j) / 2) k h0 (by omega) (by omega) (by omega) (by omega) a (fun y hy1 hy2 => hm _ y (by omega) hy1 hy2 c)
      | false =>
        rw [if_neg Bool.false_ne_true]
        refine ih ((i + j) / 2 + 1) j k (by omega) (by omega) h2 (by omega) (by omega) (fun y hy1 hy2 => ?_) b
        cases g : P y with
        | false => rfl
        | true => have := hm y ((i + j) / 2) hy1 (by omega) (by omega) g; rw [c] at this; cases this
    · have e2 : i = j := by omega
      subst e2
      simp only [searchO]
      rw [if_neg (by omega)]
      exact ⟨i, rfl, h0, h2, a, b⟩
theorem first_spec (p : Int → Option Bool) (P : Int → Bool) (lo hi : Int) (h0 : -1000000000000 ≤ lo) (h1 : lo ≤ hi + 1) (h2 : hi ≤ 1000000000000) (hp : ∀ y, lo ≤ y → y ≤ hi → p y = some (P y)) (hm : ∀ y z, lo ≤ y → y ≤ z → z ≤ hi → P y = true → P z = true) (k : Nat) (hk : (hi + 1 - lo).toNat < k) :
    ∃ r, firstO p k lo hi = some (r, decide (r ≤ hi)) ∧ lo ≤ r ∧ r ≤ hi + 1 ∧ (∀ y, lo ≤ y → y < r → P y = false) ∧ (∀ y, r ≤ y → y ≤ hi → P y = true) := by
  unfold firstO
  rw [wrap_id (x := hi - lo) (by omega) (by omega), wrap_id (x := hi - lo + 1) (by omega) (by omega), if_pos (by omega)]
  obtain ⟨r, r1, r2, r3, r4, r5⟩ := search_spec (fun i => p (wrap64 (lo + i))) (fun i => P (lo + i)) (hi - lo + 1) (fun y a b => by rw [wrap_id (x := lo + y) (by omega) (by omega)]; exact hp _ (by omega) (by omega)) (fun y z a b c d => hm _ _ (by omega) (by omega) (by omega) d) (hi - lo + 1).toNat 0 (hi - lo + 1) k (by omega) (by omega) (by omega) (by omega) (by omega) (fun y a b => by omega) (fun y a b => by omega)
  refine ⟨lo + r, ?_, by omega, by omega, fun y a b => ?_, fun y a b => ?_⟩
  · rw [r1, Option.bind_some, wrap_id (x := lo + r) (by omega) (by omega)]
    by_cases c : r < hi - lo + 1
    · rw [decide_eq_true c, decide_eq_true (show lo + r ≤ hi by omega)]
    · rw [decide_eq_false c, decide_eq_false (show ¬ lo + r ≤ hi by omega)]
  · have := r4 (y - lo) (by omega) (by omega); rwa [show lo + (y - lo) = y by omega] at this
  · have := r5 (y - lo) (by omega) (by omega); rwa [show lo + (y - lo) = y by omega] at this

theorem tcode {s : ByteArray} {f p : Int} {L : List (List Int)} {v : Bool} {k : Nat} (h : impl_ValidTariff.f (k + 1) s f p L = some v) (x y : Int) : impl_Tariff_code.f (k + 1) s f p L x y = some (if v = true then (if (0 ≤ x ∧ x ≤ 1000000) ∧ (0 ≤ y ∧ y ≤ 10000) then 0 else 2) else 1) := by
  unfold impl_Tariff_code.f
  simp only [h, impl_in, Option.bind_some]
  cases v
  · rfl
  · by_cases h1 : 0 ≤ x ∧ x ≤ 1000000
    · by_cases h2 : 0 ≤ y ∧ y ≤ 10000
      · rw [decide_eq_true h1, decide_eq_true h2]; simp [h1, h2]
      · rw [decide_eq_true h1, decide_eq_false h2]; simp [h2]
    · rw [decide_eq_false h1]; simp [h1]

theorem spec_hw (s : ByteArray) (f p : Int) (L : List (List Int)) (hT : TarOk f p L) (c q : Int) (hq : 0 ≤ q ∧ q ≤ 10000) : ∀ (d : Nat) (lo hi : Int) (k : Nat), 0 ≤ lo → lo ≤ hi → hi ≤ 1000000 → (hi - lo).toNat ≤ d → d + 21 < k → tbl s f p L lo q ≤ c → (∀ y, hi < y → y ≤ 1000000 → ¬ tbl s f p L y q ≤ c) →
    ∃ m, spec_HeatWithin.l0 k c q lo hi s f p L = some (m, 0) ∧ 0 ≤ m ∧ m ≤ 1000000 ∧ tbl s f p L m q ≤ c ∧ (∀ y, m < y → y ≤ 1000000 → ¬ tbl s f p L y q ≤ c) := by
  intro d
  induction d with
  | zero =>
    intro lo hi k h0 h1 h2 hd hk a b
    obtain ⟨k, rfl⟩ := suc_of (show 0 < k by omega)
    have e : lo = hi := by omega
    subst e
    simp only [spec_HeatWithin.l0]
    rw [if_neg (by omega)]
    exact ⟨lo, rfl, h0, h2, a, b⟩
  | succ d ih =>
    intro lo hi k h0 h1 h2 hd hk a b
    obtain ⟨k, rfl⟩ := suc_of (show 0 < k by omega)
    by_cases e : lo < hi
    · have em : wrap64 (Int.tdiv (wrap64 ((wrap64 (lo + hi)) + 1)) 2) = (lo + hi + 1) / 2 := by
        rw [wrap_id (x := lo + hi) (by omega) (by omega), wrap_id (x := lo + hi + 1) (by omega) (by omega), Int.tdiv_eq_ediv_of_nonneg (by omega), wrap_id (by omega) (by omega)]
      simp only [spec_HeatWithin.l0]
      rw [em, if_pos e, (tbl_spec s f p L hT ((lo + hi + 1) / 2) q ⟨by omega, by omega⟩ hq).1 k (by omega), Option.bind_some]
      by_cases g : tbl s f p L ((lo + hi + 1) / 2) q ≤ c
      · rw [if_pos g]
        exact ih _ hi k (by omega) (by omega) h2 (by omega) (by omega) g b
      · rw [if_neg g, wrap_id (x := (lo + hi + 1) / 2 - 1) (by omega) (by omega)]
        refine ih lo _ k h0 (by omega) (by omega) (by omega) (by omega) a (fun y hy1 hy2 => ?_)
        have := tbl_mono s f p L hT ((lo + hi + 1) / 2) y q (by omega) (by omega) hy2 hq
        omega
    · have e2 : lo = hi := by omega
      subst e2
      simp only [spec_HeatWithin.l0]
      rw [if_neg (by omega)]
      exact ⟨lo, rfl, h0, h2, a, b⟩
theorem Heat_both (s : ByteArray) (f p : Int) (L : List (List Int)) (c q : Int) (hs : s.size ≤ 1048576) (k : Nat) (hk : 2000000 ≤ k) : ∃ u v, spec_HeatWithin.f (k + 1) s f p L c q = some (u, v) ∧ impl_HeatWithin.f (k + 1) s f p L c q = some (u, v) := by
  obtain ⟨v, v1, v2, v3⟩ := tariff_both s f p L (by omega)
  unfold spec_HeatWithin.f impl_HeatWithin.f
  rw [v1 (k + 1) (by omega), Option.bind_some, tcode (v2 (k + 1) (by omega)), Option.bind_some, spec_in, impl_in, spec_tpeak]
  simp only [Option.bind_some]
  have sb : spec_HeatWithin.j0 (k + 1) c q true s f p L = some (0, 2) := by simp only [spec_HeatWithin.j0]; rfl
  cases v with
  | false => exact ⟨_, _, rfl, rfl⟩
  | true =>
    have hT := (v3 rfl).1
    rw [if_pos rfl, if_pos rfl]
    by_cases hq : 0 ≤ q ∧ q ≤ 10000
    · rw [show (if ((0 : Int) ≤ 0 ∧ (0 : Int) ≤ 1000000) ∧ (0 ≤ q ∧ q ≤ 10000) then (0 : Int) else 2) = 0 from if_pos ⟨by omega, hq⟩, if_pos (show (0 : Int) = 0 from rfl)]
      by_cases hc : 0 ≤ c ∧ c ≤ 1000000000000
      · rw [decide_eq_true hc, decide_eq_true hq, if_pos rfl, if_pos rfl, show (!true) = false from rfl]
        simp only [spec_HeatWithin.j0]
        rw [if_neg Bool.false_ne_true, (tbl_spec s f p L hT 0 q ⟨by omega, by omega⟩ hq).1 k (by omega), Option.bind_some]
        unfold impl_firstIn_c67.f
        obtain ⟨r, r1, r2, r3, r4, r5⟩ := first_spec (fun y => impl_HeatWithin_1.f (k + 1) y [(⟨s, f, p, L⟩ : S27)] [q] [c]) (fun y => decide (tbl s f p L y q > c)) 0 1000000 (by omega) (by omega) (by omega) (fun y a b => by
          have e1 : rd_T27 [(⟨s, f, p, L⟩ : S27)] 0 = ⟨s, f, p, L⟩ := rfl
          have e2 : rd [q] 0 = q := rfl
          have e3 : rd [c] 0 = c := rfl
          unfold impl_HeatWithin_1.f
          rw [e1, e2, e3, if_pos (by simp), if_pos (by simp), (tbl_spec s f p L hT y q ⟨a, b⟩ hq).2.1 (k + 1) (by omega), Option.bind_some, if_pos (by simp)]) (fun y z a b d g => by
          have := tbl_mono s f p L hT y z q a b d hq
          have := of_decide_eq_true g
          exact decide_eq_true (by omega)) (k + 1) (by omega)
        rw [r1]
        simp only [Option.bind_some, decide_eq_true_eq]
        by_cases h0 : tbl s f p L 0 q > c
        · have er : r = 0 := by
            by_cases e : r = 0
            · exact e
            · have := of_decide_eq_false (r4 0 (by omega) (by omega)); omega
          subst er
          rw [if_pos h0, if_pos (by omega)]
          exact ⟨_, _, rfl, rfl⟩
        · rw [if_neg h0]
          obtain ⟨m, m1, m2, m3, m4, m5⟩ := spec_hw s f p L hT c q hq 1000000 0 1000000 k (by omega) (by omega) (by omega) (by omega) (by omega) (by omega) (fun y a b => by omega)
          rw [m1]
          have hr0 : 0 < r := by
            by_cases e : r = 0
            · have := of_decide_eq_true (r5 0 (by omega) (by omega)); omega
            · omega
          have emr : m = r - 1 := by
            by_cases e1 : m < r - 1
            · have h6 := of_decide_eq_false (r4 (m + 1) (by omega) (by omega))
              have h7 := m5 (m + 1) (by omega) (by omega)
              omega
            · by_cases e2 : r ≤ m
              · have h6 := of_decide_eq_true (r5 m e2 m3); omega
              · omega
          by_cases e : r ≤ 1000000
          · rw [if_pos e, wrap_id (x := r - 1) (by omega) (by omega)]
            unfold impl_orNotFound.f
            rw [decide_eq_true (show r > 0 from hr0), if_pos rfl, emr]
            exact ⟨_, _, rfl, rfl⟩
          · rw [if_neg e, emr, show r - 1 = 1000000 by omega]
            exact ⟨_, _, rfl, rfl⟩
      · rw [decide_eq_false hc, if_neg Bool.false_ne_true, if_neg Bool.false_ne_true, sb]
        exact ⟨_, _, rfl, rfl⟩
    · rw [show (if ((0 : Int) ≤ 0 ∧ (0 : Int) ≤ 1000000) ∧ (0 ≤ q ∧ q ≤ 10000) then (0 : Int) else 2) = 2 from if_neg (fun h => hq h.2), if_neg (show ¬ (2 : Int) = 0 by decide), decide_eq_false hq, show (!false) = true from rfl, sb]
      cases decide (0 ≤ c ∧ c ≤ 1000000000000) <;> exact ⟨_, _, rfl, rfl⟩
theorem FnExactHeatWithin : laws_FnExactHeatWithin.Pure := by
  intro x h q hx _ _
  obtain ⟨s, f, p, L⟩ := x
  obtain ⟨hs, _, _, hl, hi⟩ := hx
  obtain ⟨n, hn⟩ : ∃ n, n = 2097200 := ⟨_, rfl⟩
  refine ⟨n + 1, ?_⟩
  obtain ⟨r, r1, r2, r3, r4⟩ := szTariff s f p L hs hl (fun x h => (hi x h).1) 1048576 (by omega) (by omega) (n + 1) (by omega)
  unfold laws_FnExactHeatWithin.f
  simp only [r1, Option.bind_some]
  by_cases hr : r < 0
  · rw [if_pos hr]
  · rw [if_neg hr]
    obtain ⟨q1, q2, q3⟩ := r4 (by omega)
    obtain ⟨u, c, s1, i1⟩ := Heat_both s f p L h q (by omega) n (by omega)
    have e : (c != c) = false := by simp
    simp only [toTariff s f p L q2 q3 (n + 1) (by omega), s1, i1, Option.bind_some, if_true, e]
    simp only [laws_FnExactHeatWithin.j0]
    simp only [toTariff s f p L q2 q3 n (by omega), eqTariff s f p L q2 q3 n (by omega), Option.bind_some, if_true]
    rw [if_neg Bool.false_ne_true]

end Go.Proofs.Ytdafonbeinildaa.Pure
