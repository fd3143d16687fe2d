/- LeastSpeed of the program returns what the reference's returns, for every pump, static head, constant and flow. No condition. -/
import Derived.Test.YtaomflfofihknaaPFnExactLeastSpeedx10
namespace Go.Proofs.Ytaomflfofihknaa.Pure
open Go.RowKit Go.Proofs.Ytaomflfofihknaa.PFnExactLeastSpeed Go.Proofs.YtaomflfofihknaaW.PrintWords Go.Proofs.YtaomflfofihknaaW.PrintLast Go.Proofs.YtaomflfofihknaaW.PrintMore
set_option linter.unusedVariables false
set_option linter.unusedSimpArgs false

theorem wrap_id {x : Int} (h1 : -9223372036854775808 ≤ x) (h2 : x ≤ 9223372036854775807) : wrap64 x = x := by unfold wrap64; omega
theorem wf_i64 {x : Int} (h : (Lit.int .i64 x).wf = true) : -9223372036854775808 ≤ x ∧ x ≤ 9223372036854775807 := by
  simp [Lit.wf, IntKind.min, IntKind.max, IntKind.bits, IntKind.signed] at h; omega
theorem mul_bounds {a b A B : Int} (h0 : 0 ≤ a) (hA : a ≤ A) (h1 : -B ≤ b) (h2 : b ≤ B) (hB : 0 ≤ B) : -(A * B) ≤ a * b ∧ a * b ≤ A * B := by
  have e1 := Int.mul_le_mul_of_nonneg_left h2 h0
  have e2 := Int.mul_le_mul_of_nonneg_right hA hB
  have e3 := Int.mul_le_mul_of_nonneg_left h1 h0
  have e4 : a * -B = -(a * B) := Int.mul_neg a B
  omega
theorem mul_nonneg' {a b : Int} (h0 : 0 ≤ a) (h1 : 0 ≤ b) : 0 ≤ a * b := Int.mul_nonneg h0 h1
theorem next_nat {j n : Nat} (h : j < n) (hn : n ≤ 4611686018427387904) : wrap64 ((j : Int) + 1) = ((j + 1 : Nat) : Int) := by
  rw [wrap_id (by omega) (by omega)]; omega
theorem rd_nat (l : List Int) (j : Nat) : rd l (j : Int) = l.getD j 0 := by unfold rd; simp
theorem ifp {α : Type} {c : Prop} [Decidable c] {a b : α} (h : c) : (if c then a else b) = a := if_pos h
theorem ifn {α : Type} {c : Prop} [Decidable c] {a b : α} (h : ¬ c) : (if c then a else b) = b := if_neg h
theorem suc_of {k d : Nat} (h : d < k) : ∃ m, k = m + 1 := ⟨k - 1, by omega⟩
theorem getD_lt {α : Type} {l : List α} {j : Nat} {d : α} (h : j < l.length) : l.getD j d = l[j] := by
  rw [List.getD_eq_getElem?_getD, List.getElem?_eq_getElem h]; rfl
theorem drop_cons {α : Type} (l : List α) {j : Nat} (h : j < l.length) (d : α) : l.drop j = l.getD j d :: l.drop (j + 1) := by
  rw [getD_lt h]; exact List.drop_eq_getElem_cons h
theorem up {α : Type} {g : Nat → Option α} (hm : ∀ k, LeO (g k) (g (k + 1))) {k0 : Nat} {r : α} (h : g k0 = some r) : ∀ k, k0 ≤ k → g k = some r := by
  intro k hk
  induction hk with
  | refl => exact h
  | step _ ih => exact hm _ _ ih

theorem name_same (s : ByteArray) : ∀ (k : Nat) (i : Int), spec_l01Name.l0 k s i = impl_onlyNameBytes.l0 k s (s.size : Int) i := by
  intro k
  induction k with
  | zero => intro i; simp only [spec_l01Name.l0, impl_onlyNameBytes.l0]
  | succ k ih =>
    intro i
    simp only [spec_l01Name.l0, impl_onlyNameBytes.l0]
    unfold spec_l01Small.f spec_l01Digit.f
    rw [ih]
    generalize impl_onlyNameBytes.l0 k s (s.size : Int) (wrap64 (i + 1)) = e
    generalize bt s i = b
    by_cases h1 : i < (s.size : Int)
    · rw [if_pos h1, if_pos h1, if_pos h1]
      by_cases h2 : 0 ≤ i
      · rw [if_pos h2, if_pos h2]
        by_cases c1 : b < 97
        · rw [if_pos c1, if_neg (by omega)]
          by_cases c2 : b < 48
          · rw [if_pos c2, if_neg (by omega)]; simp
          · rw [if_neg c2, if_pos (by omega)]
            by_cases c3 : b > 57
            · rw [if_pos c3, decide_eq_false (by omega)]; simp
            · rw [if_neg c3, decide_eq_true (by omega)]; simp
        · rw [if_neg c1, if_pos (by omega)]
          by_cases c4 : b > 122
          · rw [if_pos c4, decide_eq_false (by omega), if_pos (by omega), if_neg (by omega), decide_eq_false (by omega), if_pos (by omega)]; simp
          · rw [if_neg c4, decide_eq_true (by omega)]; simp
      · rw [if_neg h2, if_neg h2]
    · rw [if_neg h1, if_neg h1]
theorem name_total (s : ByteArray) (hs : s.size ≤ 35184372088832) : ∀ (d j k : Nat), j + d = s.size → d < k → ∃ r, impl_onlyNameBytes.l0 k s (s.size : Int) (j : Int) = some r := by
  intro d
  induction d with
  | zero =>
    intro j k hj hk
    obtain ⟨k, rfl⟩ := suc_of hk
    simp only [impl_onlyNameBytes.l0]
    rw [if_neg (by omega)]; exact ⟨_, rfl⟩
  | succ d ih =>
    intro j k hj hk
    obtain ⟨k, rfl⟩ := suc_of hk
    obtain ⟨r, hr⟩ := ih (j + 1) k (by omega) (by omega)
    simp only [impl_onlyNameBytes.l0]
    rw [if_pos (by omega), if_pos (by omega), if_pos (by omega), next_nat (n := s.size) (by omega) (by omega), hr]
    split
    · split
      · exact ⟨_, rfl⟩
      · split
        · exact ⟨_, rfl⟩
        · exact ⟨_, rfl⟩
    · split
      · split
        · exact ⟨_, rfl⟩
        · split
          · exact ⟨_, rfl⟩
          · exact ⟨_, rfl⟩
      · exact ⟨_, rfl⟩
/-- A name is one for both. -/
theorem name_both (s : ByteArray) (hs : s.size ≤ 35184372088832) : ∃ b : Bool, (∀ k, s.size + 3 ≤ k → spec_l01Name.f k s = some b) ∧ (∀ k, s.size + 3 ≤ k → impl_IsName.f k s = some b) ∧ (b = true → 1 ≤ s.size ∧ s.size ≤ 10) := by
  obtain ⟨r, hr⟩ := name_total s hs s.size 0 (s.size + 2) (by omega) (by omega)
  have hr3 : impl_onlyNameBytes.l0 (s.size + 3) s (s.size : Int) 0 = some r := impl_onlyNameBytes.mono_l (s.size + 2) s (s.size : Int) 0 r hr
  have hr2 : impl_onlyNameBytes.l0 (s.size + 2) s (s.size : Int) 0 = some r := hr
  have key : ∃ b : Bool, spec_l01Name.f (s.size + 3) s = some b ∧ impl_IsName.f (s.size + 3) s = some b ∧ (b = true → 1 ≤ s.size ∧ s.size ≤ 10) := by
    have bad : spec_l01Name.j0 (s.size + 3) s true = some false := by simp only [spec_l01Name.j0]; simp
    unfold spec_l01Name.f impl_IsName.f impl_onlyNameBytes.f
    by_cases h0 : s.size = 0
    · have e : s.toList = [] := by
        rw [ByteArray.toList_eq]; exact List.eq_nil_of_length_eq_zero (by rw [Array.length_toList]; exact h0)
      rw [if_pos e, if_pos (by omega), bad]; exact ⟨_, rfl, rfl, by simp⟩
    · have e : ¬ s.toList = [] := by
        rw [ByteArray.toList_eq]
        intro h
        have : s.data.toList.length = 0 := by rw [h]; rfl
        rw [Array.length_toList] at this
        exact h0 this
      rw [if_neg e, if_neg (show ¬ (s.size : Int) < 1 by omega)]
      by_cases h1 : (s.size : Int) > 10
      · rw [if_pos h1, if_pos h1, bad]; exact ⟨_, rfl, rfl, by simp⟩
      · rw [if_neg h1, if_neg h1, if_pos (by omega), if_pos (by omega)]
        unfold spec_l01Small.f
        by_cases c1 : bt s 0 < 97
        · rw [if_pos c1, if_neg (by omega)]
          simp only [Option.bind_some, Bool.not_false]
          exact ⟨_, bad, rfl, by simp⟩
        · rw [if_neg c1, if_pos (by omega)]
          by_cases c2 : bt s 0 > 122
          · rw [if_pos c2, decide_eq_false (by omega)]
            simp only [Option.bind_some, Bool.not_false]
            exact ⟨_, bad, rfl, by simp⟩
          · rw [if_neg c2, decide_eq_true (by omega), hr3]
            simp only [Option.bind_some, Bool.not_true]
            refine ⟨r, ?_, rfl, fun _ => by omega⟩
            simp only [spec_l01Name.j0]
            rw [if_neg Bool.false_ne_true, name_same]
            exact hr2
  obtain ⟨b, h1, h2, h3⟩ := key
  exact ⟨b, up (spec_l01Name.mono s) h1, up (impl_IsName.mono s) h2, h3⟩

theorem impl_in (n lo hi : Int) : impl_within.f n lo hi = some (decide (lo ≤ n ∧ n ≤ hi)) := by unfold impl_within.f; split <;> simp <;> omega

theorem spec_in (n lo hi : Int) : spec_l00In.f n lo hi = some (decide (lo ≤ n ∧ n ≤ hi)) := by unfold spec_l00In.f; split <;> simp <;> omega

theorem rdll_nat (l : List (List Int)) (j : Nat) : rd_L1 l (j : Int) = l.getD j [] := by unfold rd_L1; simp
theorem szII_l0 (l : List (List Int)) (hl : l.length ≤ 1048576) (hi : ∀ x ∈ l, x.length ≤ 9223372036854775807) : ∀ (d j k : Nat) (n : Int), j + d = l.length → d < k → 0 ≤ n → n ≤ 1048576 → ∃ r, laws_szInt64SS.l0 k l n (j : Int) = some r ∧ r ≤ n ∧ (0 ≤ r → ∀ i, j ≤ i → i < l.length → (l.getD i []).length ≤ 1048576) := by
  intro d
  induction d with
  | zero =>
    intro j k n hj hk h0 h1
    obtain ⟨k, rfl⟩ := suc_of hk
    simp only [laws_szInt64SS.l0]
    rw [if_neg (by omega)]
    exact ⟨n, rfl, by omega, fun _ i hi1 hi2 => by omega⟩
  | succ d ih =>
    intro j k n hj hk h0 h1
    obtain ⟨k, rfl⟩ := suc_of hk
    simp only [laws_szInt64SS.l0]
    rw [if_pos (by omega), if_pos (by omega), rdll_nat]
    have hx := hi (l.getD j []) (by rw [getD_lt (by omega)]; exact List.getElem_mem _)
    unfold laws_szInt64S.f
    rw [wrap_id (x := n - ((l.getD j []).length : Int)) (by omega) (by omega)]
    by_cases c : n - ((l.getD j []).length : Int) < 0
    · rw [if_pos c]
      simp only [Option.bind_some]
      rw [if_pos (by omega)]
      exact ⟨-1, rfl, by omega, fun h => by omega⟩
    · rw [if_neg c]
      simp only [Option.bind_some]
      rw [if_neg c, next_nat (n := l.length) (by omega) (by omega)]
      obtain ⟨r, h2, h3, h4⟩ := ih (j + 1) k (n - ((l.getD j []).length : Int)) (by omega) (by omega) (by omega) (by omega)
      refine ⟨r, h2, by omega, fun hr i hi1 hi2 => ?_⟩
      by_cases e : i = j
      · subst e; omega
      · exact h4 hr i (by omega) hi2
theorem szII (l : List (List Int)) (hl : l.length ≤ 9223372036854775807) (hi : ∀ x ∈ l, x.length ≤ 9223372036854775807) (k : Nat) (hk : 1048576 < k) : ∃ r, laws_szInt64SS.f k l 1048576 = some r ∧ (0 ≤ r → l.length ≤ 1048576 ∧ ∀ x ∈ l, x.length ≤ 1048576) := by
  unfold laws_szInt64SS.f
  rw [wrap_id (x := 1048576 - (l.length : Int)) (by omega) (by omega)]
  by_cases c : (1048576 : Int) - (l.length : Int) < 0
  · rw [if_pos c]; exact ⟨-1, rfl, fun h => by omega⟩
  · rw [if_neg c]
    obtain ⟨r, h2, _, h4⟩ := szII_l0 l (by omega) hi l.length 0 k (1048576 - (l.length : Int)) (by omega) (by omega) (by omega) (by omega)
    refine ⟨r, h2, fun hr => ⟨by omega, fun x hx => ?_⟩⟩
    obtain ⟨i, hi1, rfl⟩ := List.mem_iff_getElem.1 hx
    have := h4 hr i (by omega) hi1
    rwa [getD_lt hi1] at this

theorem toI_l0 (l : List Int) (hl : l.length ≤ 35184372088832) : ∀ (d j k : Nat) (m : List Int), j + d = l.length → d < k → m.length = l.length → (∀ i, i < j → m[i]? = l[i]?) → laws_toInt64S.l0 k l m (j : Int) = some l := by
  intro d
  induction d with
  | zero =>
    intro j k m hj hk hm hp
    obtain ⟨k, rfl⟩ := suc_of hk
    simp only [laws_toInt64S.l0]
    rw [if_neg (by omega)]
    congr 1
    apply List.ext_getElem?
    intro i
    by_cases hi : i < j
    · exact hp i hi
    · rw [List.getElem?_eq_none (by omega), List.getElem?_eq_none (by omega)]
  | succ d ih =>
    intro j k m hj hk hm hp
    obtain ⟨k, rfl⟩ := suc_of hk
    simp only [laws_toInt64S.l0]
    rw [if_pos (by omega), if_pos (by omega), if_pos (by omega), next_nat (n := l.length) (by omega) (by omega)]
    refine ih (j + 1) k _ (by omega) (by omega) (by simpa using hm) (fun i hi => ?_)
    rw [Int.toNat_natCast, rd_nat, List.getElem?_set]
    by_cases e : j = i
    · subst e
      rw [if_pos rfl, if_pos (by omega), getD_lt (by omega), List.getElem?_eq_getElem (by omega)]
    · rw [if_neg e]; exact hp i (by omega)
theorem toI (l : List Int) (hl : l.length ≤ 35184372088832) (k : Nat) (hk : l.length < k) : laws_toInt64S.f k l = some l := by
  unfold laws_toInt64S.f
  rw [if_pos (by omega), if_pos (by omega)]
  exact toI_l0 l hl l.length 0 k _ (by omega) hk (by simp) (fun i hi => absurd hi (by omega))

theorem eqI_l0 (l : List Int) (hl : l.length ≤ 35184372088832) : ∀ (d j k : Nat), j + d = l.length → d < k → laws_eqInt64S.l0 k l l (j : Int) = some true := by
  intro d
  induction d with
  | zero =>
    intro j k hj hk
    obtain ⟨k, rfl⟩ := suc_of hk
    simp only [laws_eqInt64S.l0]
    rw [if_neg (by omega)]
  | succ d ih =>
    intro j k hj hk
    obtain ⟨k, rfl⟩ := suc_of hk
    simp only [laws_eqInt64S.l0]
    rw [if_pos (by omega), if_pos (by omega), if_pos (by omega), if_pos trivial, next_nat (n := l.length) (by omega) (by omega)]
    exact ih (j + 1) k (by omega) (by omega)
theorem eqI (l : List Int) (hl : l.length ≤ 35184372088832) (k : Nat) (hk : l.length < k) : laws_eqInt64S.f k l l = some true := by
  unfold laws_eqInt64S.f
  rw [if_pos rfl]
  exact eqI_l0 l hl l.length 0 k (by omega) hk

theorem toII_l0 (l : List (List Int)) (hl : l.length ≤ 1048576) (hi : ∀ x ∈ l, x.length ≤ 1048576) : ∀ (d j k : Nat) (m : List (List Int)), j + d = l.length → d + 1048577 < k → m.length = l.length → (∀ i, i < j → m[i]? = l[i]?) → laws_toInt64SS.l0 k l m (j : Int) = some l := by
  intro d
  induction d with
  | zero =>
    intro j k m hj hk hm hp
    obtain ⟨k, rfl⟩ := suc_of hk
    simp only [laws_toInt64SS.l0]
    rw [if_neg (by omega)]
    congr 1
    apply List.ext_getElem?
    intro i
    by_cases hi : i < j
    · exact hp i hi
    · rw [List.getElem?_eq_none (by omega), List.getElem?_eq_none (by omega)]
  | succ d ih =>
    intro j k m hj hk hm hp
    obtain ⟨k, rfl⟩ := suc_of hk
    have hx := hi (l.getD j []) (by rw [getD_lt (by omega)]; exact List.getElem_mem _)
    simp only [laws_toInt64SS.l0]
    rw [if_pos (by omega), if_pos (by omega), rdll_nat, toI _ (by omega) k (by omega)]
    simp only [Option.bind_some]
    rw [if_pos (by omega), next_nat (n := l.length) (by omega) (by omega)]
    refine ih (j + 1) k _ (by omega) (by omega) (by simpa using hm) (fun i hi => ?_)
    rw [Int.toNat_natCast, List.getElem?_set]
    by_cases e : j = i
    · subst e
      rw [if_pos rfl, if_pos (by omega), getD_lt (by omega), List.getElem?_eq_getElem (by omega)]
    · rw [if_neg e]; exact hp i (by omega)
theorem toII (l : List (List Int)) (hl : l.length ≤ 1048576) (hi : ∀ x ∈ l, x.length ≤ 1048576) (k : Nat) (hk : 2097154 < k) : laws_toInt64SS.f k l = some l := by
  unfold laws_toInt64SS.f
  rw [if_pos (by omega), if_pos (by omega)]
  exact toII_l0 l hl hi l.length 0 k _ (by omega) (by omega) (by simp) (fun i hi => absurd hi (by omega))
theorem eqII_l0 (l : List (List Int)) (hl : l.length ≤ 1048576) (hi : ∀ x ∈ l, x.length ≤ 1048576) : ∀ (d j k : Nat), j + d = l.length → d + 1048577 < k → laws_eqInt64SS.l0 k l l (j : Int) = some true := by
  intro d
  induction d with
  | zero =>
    intro j k hj hk
    obtain ⟨k, rfl⟩ := suc_of hk
    simp only [laws_eqInt64SS.l0]
    rw [if_neg (by omega)]
  | succ d ih =>
    intro j k hj hk
    obtain ⟨k, rfl⟩ := suc_of hk
    have hx := hi (l.getD j []) (by rw [getD_lt (by omega)]; exact List.getElem_mem _)
    simp only [laws_eqInt64SS.l0]
    rw [if_pos (by omega), if_pos (by omega), if_pos (by omega), rdll_nat, eqI _ (by omega) k (by omega)]
    simp only [Option.bind_some, if_true]
    rw [next_nat (n := l.length) (by omega) (by omega)]
    exact ih (j + 1) k (by omega) (by omega)
theorem eqII (l : List (List Int)) (hl : l.length ≤ 1048576) (hi : ∀ x ∈ l, x.length ≤ 1048576) (k : Nat) (hk : 2097154 < k) : laws_eqInt64SS.f k l l = some true := by
  unfold laws_eqInt64SS.f
  rw [if_pos rfl]
  exact eqII_l0 l hl hi l.length 0 k (by omega) (by omega)

def rdiv (a b : Int) : Int := if a < 0 then -((b - 2 * a) / (2 * b)) else (2 * a + b) / (2 * b)
theorem rdiv_pos_eq {q r b : Int} (hb : 0 < b) (h0 : 0 ≤ r) (h1 : r < b) : (2 * (b * q + r) + b) / (2 * b) = if r ≥ b - r then q + 1 else q := by
  have e : 2 * (b * q + r) + b = (2 * r + b) + (2 * b) * q := by rw [Int.mul_add, ← Int.mul_assoc]; omega
  rw [e, Int.add_mul_ediv_left _ _ (by omega : (2 * b : Int) ≠ 0)]
  split
  · have : (2 * r + b) / (2 * b) = 1 := by
      have e2 : 2 * r + b = (2 * r - b) + (2 * b) * 1 := by omega
      rw [e2, Int.add_mul_ediv_left _ _ (by omega : (2 * b : Int) ≠ 0), Int.ediv_eq_zero_of_lt (by omega) (by omega)]; rfl
    omega
  · have : (2 * r + b) / (2 * b) = 0 := Int.ediv_eq_zero_of_lt (by omega) (by omega)
    omega
theorem abs_def {a : Int} (h : -9223372036854775807 ≤ a) (h2 : a ≤ 9223372036854775807) : impl_abs.f a = some (if a < 0 then -a else a) := by
  unfold impl_abs.f mx
  rw [wrap_id (by omega) (by omega)]
  split <;> split <;> first | rfl | (simp; omega)
theorem impl_div {a b : Int} (hb : 0 < b) (hb2 : b ≤ 2305843009213693951) (ha : -2305843009213693951 ≤ a) (ha2 : a ≤ 2305843009213693951) : impl_divRound.f a b = some (rdiv a b) := by
  unfold impl_divRound.f
  rw [if_neg (by omega)]
  by_cases h : a < 0
  · have hq0 : a.tdiv b = -((-a) / b) := by rw [← Int.tdiv_eq_ediv_of_nonneg (by omega), Int.neg_tdiv, Int.neg_neg]
    have hr0 : a.tmod b = -((-a) % b) := by rw [← Int.tmod_eq_emod_of_nonneg (by omega), Int.neg_tmod, Int.neg_neg]
    have hr1 := Int.emod_nonneg (-a) (show b ≠ 0 by omega)
    have hr2 := Int.emod_lt_of_pos (-a) hb
    have hd := Int.mul_ediv_add_emod (-a) b
    have hq1 : 0 ≤ (-a) / b := Int.ediv_nonneg (by omega) (by omega)
    have hq2 : (-a) / b ≤ -a := Int.ediv_le_self _ (by omega)
    rw [hq0, hr0]
    generalize (-a) / b = q at *
    generalize (-a) % b = r at *
    rw [abs_def (by omega) (by omega), abs_def (by omega) (by omega)]
    simp only [Option.bind_some]
    have e1 : (if -r < 0 then - -r else -r) = r := by split <;> omega
    have e2 : (if b < 0 then -b else b) = b := by rw [if_neg (by omega)]
    rw [e1, e2, wrap_id (x := b - r) (by omega) (by omega)]
    have hk : rdiv a b = -(if r ≥ b - r then q + 1 else q) := by
      unfold rdiv
      rw [if_pos h, ← rdiv_pos_eq (q := q) hb hr1 hr2, hd]
      congr 2; omega
    rw [hk]
    have w1 : wrap64 (-q) = -q := wrap_id (by omega) (by omega)
    rw [w1]
    by_cases hc : r ≥ b - r
    · rw [if_pos hc, if_pos hc, if_neg (by simp; omega), wrap_id (by omega) (by omega)]
      congr 1; omega
    · rw [if_neg hc, if_neg hc]
  · have hq0 : a.tdiv b = a / b := Int.tdiv_eq_ediv_of_nonneg (by omega)
    have hr0 : a.tmod b = a % b := Int.tmod_eq_emod_of_nonneg (by omega)
    have hr1 := Int.emod_nonneg a (show b ≠ 0 by omega)
    have hr2 := Int.emod_lt_of_pos a hb
    have hd := Int.mul_ediv_add_emod a b
    have hq1 : 0 ≤ a / b := Int.ediv_nonneg (by omega) (by omega)
    have hq2 : a / b ≤ a := Int.ediv_le_self _ (by omega)
    rw [hq0, hr0]
    generalize a / b = q at *
    generalize a % b = r at *
    rw [abs_def (by omega) (by omega), abs_def (by omega) (by omega)]
    simp only [Option.bind_some]
    have e1 : (if r < 0 then - r else r) = r := by rw [if_neg (by omega)]
    have e2 : (if b < 0 then -b else b) = b := by rw [if_neg (by omega)]
    rw [e1, e2, wrap_id (x := b - r) (by omega) (by omega)]
    have hk : rdiv a b = (if r ≥ b - r then q + 1 else q) := by
      unfold rdiv
      rw [if_neg h, ← rdiv_pos_eq (q := q) hb hr1 hr2, hd]
    rw [hk]
    have w1 : wrap64 q = q := wrap_id (by omega) (by omega)
    rw [w1]
    by_cases hc : r ≥ b - r
    · rw [if_pos hc, if_pos hc, if_pos (by simp; omega), wrap_id (by omega) (by omega)]
    · rw [if_neg hc, if_neg hc]
theorem rdiv_nonneg {a b : Int} (ha : 0 ≤ a) (hb : 0 < b) : 0 ≤ rdiv a b := by
  unfold rdiv; rw [if_neg (by omega)]; exact Int.ediv_nonneg (by omega) (by omega)
theorem rdiv_le {a b : Int} (ha : 0 ≤ a) (hb : 0 < b) : rdiv a b ≤ 2 * a + b := by
  unfold rdiv; rw [if_neg (by omega)]; exact Int.ediv_le_self _ (by omega)

theorem spec_div {a b : Int} (hb : 0 < b) (hb2 : b ≤ 2305843009213693951) (ha : -2305843009213693951 ≤ a) (ha2 : a ≤ 2305843009213693951) : spec_l01Div.f a b = some (rdiv a b) := by
  unfold spec_l01Div.f rdiv
  have w2 : wrap64 (2 * b) = 2 * b := wrap_id (by omega) (by omega)
  have h2b : (0 : Int) < 2 * b := by omega
  rw [if_neg (by omega), w2]
  by_cases h : a < 0
  · rw [if_pos h, if_pos h, if_neg (by omega)]
    have e1 : wrap64 (2 * a) = 2 * a := wrap_id (by omega) (by omega)
    have e2 : wrap64 (b - 2 * a) = b - 2 * a := wrap_id (by omega) (by omega)
    rw [e1, e2, Int.tdiv_eq_ediv_of_nonneg (by omega)]
    have b1 : 0 ≤ (b - 2 * a) / (2 * b) := Int.ediv_nonneg (by omega) (by omega)
    have b2 : (b - 2 * a) / (2 * b) ≤ b - 2 * a := Int.ediv_le_self _ (by omega)
    have e3 : wrap64 ((b - 2 * a) / (2 * b)) = (b - 2 * a) / (2 * b) := wrap_id (by omega) (by omega)
    have e4 : wrap64 (-((b - 2 * a) / (2 * b))) = -((b - 2 * a) / (2 * b)) := wrap_id (by omega) (by omega)
    rw [e3, e4]
  · rw [if_neg h, if_neg h, if_neg (by omega)]
    have e1 : wrap64 (2 * a) = 2 * a := wrap_id (by omega) (by omega)
    have e2 : wrap64 (2 * a + b) = 2 * a + b := wrap_id (by omega) (by omega)
    rw [e1, e2, Int.tdiv_eq_ediv_of_nonneg (by omega)]
    have b1 : 0 ≤ (2 * a + b) / (2 * b) := Int.ediv_nonneg (by omega) (by omega)
    have b2 : (2 * a + b) / (2 * b) ≤ 2 * a + b := Int.ediv_le_self _ (by omega)
    rw [wrap_id (by omega) (by omega)]

def pf (L : List (List Int)) (i : Nat) : Int := rd (L.getD i []) 0
def ph (L : List (List Int)) (i : Nat) : Int := rd (L.getD i []) 1
def ptOk (L : List (List Int)) (i : Nat) : Bool := decide ((L.getD i []).length = 2) && (decide (0 ≤ pf L i ∧ pf L i ≤ 100000) && (decide (0 ≤ ph L i ∧ ph L i ≤ 2000000) && (if i = 0 then decide (pf L i = 0) else decide (pf L (i - 1) < pf L i ∧ ph L i ≤ ph L (i - 1)))))
def ptFrom (L : List (List Int)) : Nat → Nat → Bool
  | 0, _ => true
  | d + 1, j => ptOk L j && ptFrom L d (j + 1)
def PumpOk (L : List (List Int)) : Prop := 2 ≤ L.length ∧ L.length ≤ 8 ∧ ∀ i, i < L.length → (L.getD i []).length = 2 ∧ (0 ≤ pf L i ∧ pf L i ≤ 100000) ∧ (0 ≤ ph L i ∧ ph L i ≤ 2000000) ∧ (0 < i → pf L (i - 1) < pf L i)
theorem spec_pt_l0 (s : ByteArray) (L : List (List Int)) (hL : L.length ≤ 8) : ∀ (d j k : Nat), j + d = L.length → 3 * d < k → (0 < j → (L.getD (j - 1) []).length = 2) →
    spec_l08Ok.l0 k [(⟨s, L⟩ : S54)] (j : Int) = some (ptFrom L d j) := by
  intro d
  induction d with
  | zero =>
    intro j k hj hk hp
    obtain ⟨k, rfl⟩ := suc_of (show 0 < k by omega)
    simp only [spec_l08Ok.l0, show rd_T54 [(⟨s, L⟩ : S54)] 0 = ⟨s, L⟩ from rfl]
    rw [if_pos (by simp), if_neg (by omega)]
    rfl
  | succ d ih =>
    intro j k hj hk hp
    obtain ⟨k, rfl⟩ : ∃ m, k = m + 1 + 1 + 1 := ⟨k - 3, by omega⟩
    have bad3 : spec_l08Ok.j3 (k + 1) [(⟨s, L⟩ : S54)] (j : Int) true = some false := by simp only [spec_l08Ok.j3]; simp
    have good3 : spec_l08Ok.j3 (k + 1) [(⟨s, L⟩ : S54)] (j : Int) false = spec_l08Ok.l0 k [(⟨s, L⟩ : S54)] ((j + 1 : Nat) : Int) := by
      simp only [spec_l08Ok.j3]
      rw [if_neg Bool.false_ne_true, next_nat (n := L.length) (by omega) (by omega)]
    have bad : ∀ x4, spec_l08Ok.j2 (k + 1 + 1) [(⟨s, L⟩ : S54)] (j : Int) x4 true = some false := fun x4 => by simp only [spec_l08Ok.j2]; simp
    simp only [spec_l08Ok.l0, show rd_T54 [(⟨s, L⟩ : S54)] 0 = ⟨s, L⟩ from rfl]
    rw [if_pos (by simp), if_pos (by omega), if_pos (by omega), rdll_nat]
    unfold ptFrom ptOk pf ph
    by_cases hlen : (L.getD j []).length = 2
    · have hr := ih (j + 1) k (by omega) (by omega) (fun _ => hlen)
      have hq : ∀ b, spec_l08Ok.j2 (k + 1 + 1) [(⟨s, L⟩ : S54)] (j : Int) (L.getD j []) b = if b = true then some false else some ((if j = 0 then decide (rd (L.getD j []) 0 = 0) else decide (rd (L.getD (j - 1) []) 0 < rd (L.getD j []) 0 ∧ rd (L.getD j []) 1 ≤ rd (L.getD (j - 1) []) 1)) && ptFrom L d (j + 1)) := by
        intro b
        cases b with
        | true => rw [bad]; rfl
        | false =>
          simp only [spec_l08Ok.j2, show rd_T54 [(⟨s, L⟩ : S54)] 0 = ⟨s, L⟩ from rfl]
          rw [if_neg Bool.false_ne_true, if_neg Bool.false_ne_true, if_pos (show (0 : Int) < ((L.getD j []).length : Int) by omega)]
          generalize rd (L.getD j []) 0 = x0
          generalize rd (L.getD j []) 1 = x1
          by_cases hz : j = 0
          · rw [if_pos (show (j : Int) = 0 by omega), if_pos hz]
            by_cases h00 : x0 = 0
            · rw [if_pos h00, if_neg (show ¬ (j : Int) > 0 by omega), good3, hr, decide_eq_true h00, Bool.true_and]
            · rw [if_neg h00, bad3, decide_eq_false h00]; rfl
          · have hpv := hp (by omega)
            rw [if_neg (show ¬ (j : Int) = 0 by omega), if_neg hz, if_pos (show (j : Int) > 0 by omega), if_pos (by simp)]
            have ew : wrap64 ((j : Int) - 1) = ((j - 1 : Nat) : Int) := by rw [wrap_id (by omega) (by omega)]; omega
            rw [ew, rdll_nat, if_pos (show (0 : Int) ≤ ((j - 1 : Nat) : Int) by omega), if_pos (show ((j - 1 : Nat) : Int) < (L.length : Int) by omega), if_pos (show (0 : Int) < ((L.getD (j - 1) []).length : Int) by omega), if_pos (show (1 : Int) < ((L.getD (j - 1) []).length : Int) by omega), if_pos (show (0 : Int) < ((L.getD j []).length : Int) by omega), if_pos (show (1 : Int) < ((L.getD j []).length : Int) by omega)]
            generalize rd (L.getD (j - 1) []) 0 = y0
            generalize rd (L.getD (j - 1) []) 1 = y1
            by_cases hc : y0 < x0
            · rw [if_neg (show ¬ y0 ≥ x0 by omega)]
              by_cases hd : y1 < x1
              · rw [decide_eq_true hd, bad3, decide_eq_false (by omega)]; rfl
              · rw [decide_eq_false hd, good3, hr, decide_eq_true (show y0 < x0 ∧ x1 ≤ y1 by omega), Bool.true_and]
            · rw [if_pos (show y0 ≥ x0 by omega), bad3, decide_eq_false (by omega)]; rfl
      simp only [hq]
      rw [if_pos (show ((L.getD j []).length : Int) = 2 by omega), if_pos (show (0 : Int) < ((L.getD j []).length : Int) by omega), if_pos (show (1 : Int) < ((L.getD j []).length : Int) by omega), decide_eq_true hlen, Bool.true_and]
      unfold spec_l02Flow.f
      simp only [spec_in, Option.bind_some]
      cases decide (0 ≤ rd (L.getD j []) 0 ∧ rd (L.getD j []) 0 ≤ 100000) with
      | false => rfl
      | true =>
        cases decide (0 ≤ rd (L.getD j []) 1 ∧ rd (L.getD j []) 1 ≤ 2000000) with
        | false => rfl
        | true => rfl
    · rw [if_neg (show ¬ ((L.getD j []).length : Int) = 2 by omega), bad, decide_eq_false hlen]; rfl
theorem impl_head_ok (n : Int) : impl_headOk.f n = some (decide (0 ≤ n ∧ n ≤ 2000000)) := by unfold impl_headOk.f; rw [impl_in]; rfl
theorem impl_pt_l0 (s : ByteArray) (L : List (List Int)) (hL : L.length ≤ 8) : ∀ (d j k : Nat), j + d = L.length → 2 * d < k → (0 < j → (L.getD (j - 1) []).length = 2) →
    impl_ValidPump.l0 k L (L.length : Int) (j : Int) s L = some (ptFrom L d j) := by
  intro d
  induction d with
  | zero =>
    intro j k hj hk hp
    obtain ⟨k, rfl⟩ := suc_of (show 0 < k by omega)
    simp only [impl_ValidPump.l0]
    rw [if_neg (by omega)]
    rfl
  | succ d ih =>
    intro j k hj hk hp
    obtain ⟨k, rfl⟩ : ∃ m, k = m + 1 + 1 := ⟨k - 2, by omega⟩
    have bad : impl_ValidPump.j2 (k + 1) L (L.length : Int) (j : Int) true s L = some false := by simp only [impl_ValidPump.j2]; simp
    have good : impl_ValidPump.j2 (k + 1) L (L.length : Int) (j : Int) false s L = impl_ValidPump.l0 k L (L.length : Int) ((j + 1 : Nat) : Int) s L := by
      simp only [impl_ValidPump.j2]
      rw [if_neg Bool.false_ne_true, next_nat (n := L.length) (by omega) (by omega)]
    simp only [impl_ValidPump.l0]
    rw [if_pos (by omega), if_pos (by omega), if_pos (by omega), rdll_nat]
    unfold ptFrom ptOk pf ph
    by_cases hlen : (L.getD j []).length = 2
    · have hr := ih (j + 1) k (by omega) (by omega) (fun _ => hlen)
      rw [if_pos (show ((L.getD j []).length : Int) = 2 by omega), if_pos (show (0 : Int) < ((L.getD j []).length : Int) by omega), if_pos (show (1 : Int) < ((L.getD j []).length : Int) by omega), decide_eq_true hlen, Bool.true_and]
      simp only [impl_in, impl_head_ok, Option.bind_some]
      generalize rd (L.getD j []) 0 = x0
      generalize rd (L.getD j []) 1 = x1
      cases decide (0 ≤ x0 ∧ x0 ≤ 100000) with
      | false => rw [if_neg Bool.false_ne_true, bad]; rfl
      | true =>
        rw [if_pos rfl, Bool.true_and]
        cases decide (0 ≤ x1 ∧ x1 ≤ 2000000) with
        | false => rw [if_neg Bool.false_ne_true, bad]; rfl
        | true =>
          rw [if_pos rfl, Bool.true_and]
          by_cases hz : j = 0
          · rw [if_pos (show (j : Int) = 0 by omega), if_pos hz]
            by_cases h00 : x0 = 0
            · rw [if_pos h00, if_neg (show ¬ (j : Int) > 0 by omega), good, hr, decide_eq_true h00, Bool.true_and]
            · rw [if_neg h00, bad, decide_eq_false h00]; rfl
          · have hpv := hp (by omega)
            rw [if_neg (show ¬ (j : Int) = 0 by omega), if_neg hz, if_pos (show (j : Int) > 0 by omega)]
            have ew : wrap64 ((j : Int) - 1) = ((j - 1 : Nat) : Int) := by rw [wrap_id (by omega) (by omega)]; omega
            rw [ew, rdll_nat, if_pos (show (0 : Int) ≤ ((j - 1 : Nat) : Int) by omega), if_pos (show ((j - 1 : Nat) : Int) < (L.length : Int) by omega), if_pos (show (0 : Int) < ((L.getD (j - 1) []).length : Int) by omega), if_pos (show (1 : Int) < ((L.getD (j - 1) []).length : Int) by omega)]
            generalize rd (L.getD (j - 1) []) 0 = y0
            generalize rd (L.getD (j - 1) []) 1 = y1
            by_cases hc : y0 < x0
            · rw [if_neg (show ¬ x0 ≤ y0 by omega)]
              by_cases hd : x1 > y1
              · rw [decide_eq_true hd, bad, decide_eq_false (by omega)]; rfl
              · rw [decide_eq_false hd, good, hr, decide_eq_true (show y0 < x0 ∧ x1 ≤ y1 by omega), Bool.true_and]
            · rw [if_pos (show x0 ≤ y0 by omega), bad, decide_eq_false (by omega)]; rfl
    · rw [if_neg (show ¬ ((L.getD j []).length : Int) = 2 by omega), bad, decide_eq_false hlen]; rfl
theorem ptFrom_at (L : List (List Int)) : ∀ (d j : Nat), ptFrom L d j = true → ∀ i, j ≤ i → i < j + d → ptOk L i = true := by
  intro d
  induction d with
  | zero => intro j _ i h1 h2; omega
  | succ d ih =>
    intro j h i h1 h2
    unfold ptFrom at h
    rw [Bool.and_eq_true] at h
    by_cases e : i = j
    · subst e; exact h.1
    · exact ih (j + 1) h.2 i (by omega) (by omega)
def pv (s : ByteArray) (L : List (List Int)) : Bool := (impl_ValidPump.f (s.size + 60) s L).getD false
theorem pump_both (s : ByteArray) (L : List (List Int)) (hs : s.size ≤ 35184372088832) : (∀ k, s.size + 60 ≤ k → spec_l08Ok.f k [(⟨s, L⟩ : S54)] = some (pv s L)) ∧ (∀ k, s.size + 60 ≤ k → impl_ValidPump.f k s L = some (pv s L)) ∧ (pv s L = true → PumpOk L ∧ s.size ≤ 10) := by
  obtain ⟨b, n1, n2, n3⟩ := name_both s hs
  have e : rd_T54 [(⟨s, L⟩ : S54)] 0 = ⟨s, L⟩ := rfl
  have sbad : ∀ k, spec_l08Ok.j0 (k + 1) [(⟨s, L⟩ : S54)] true = some false := fun k => by simp only [spec_l08Ok.j0]; simp
  have ibad : ∀ k, impl_ValidPump.j0 (k + 1) true s L = some false := fun k => by simp only [impl_ValidPump.j0]; simp
  have hi : ∀ k, s.size + 60 ≤ k → impl_ValidPump.f k s L = some (b && (decide (2 ≤ (L.length : Int) ∧ (L.length : Int) ≤ 8) && ptFrom L L.length 0)) := fun k hk => by
    obtain ⟨k, rfl⟩ := suc_of (show 0 < k by omega)
    unfold impl_ValidPump.f
    rw [n2 (k + 1) (by omega), Option.bind_some]
    cases b
    · exact ibad k
    · rw [if_pos rfl, Bool.true_and]
      by_cases h1 : (L.length : Int) < 2
      · rw [if_pos h1, decide_eq_false (by omega), ibad]; rfl
      · rw [if_neg h1]
        by_cases h2 : (L.length : Int) > 8
        · rw [decide_eq_true h2, ibad, decide_eq_false (by omega)]; rfl
        · rw [decide_eq_false h2, decide_eq_true (by omega), Bool.true_and]
          simp only [impl_ValidPump.j0]
          rw [if_neg Bool.false_ne_true]
          exact impl_pt_l0 s L (by omega) L.length 0 k (by omega) (by omega) (fun h => absurd h (by omega))
  have ev : pv s L = (b && (decide (2 ≤ (L.length : Int) ∧ (L.length : Int) ≤ 8) && ptFrom L L.length 0)) := by unfold pv; rw [hi _ (Nat.le_refl _)]; rfl
  refine ⟨fun k hk => ?_, fun k hk => ?_, fun h => ?_⟩
  · obtain ⟨k, rfl⟩ := suc_of (show 0 < k by omega)
    rw [ev]
    unfold spec_l08Ok.f
    rw [if_pos (by simp), e, n1 (k + 1) (by omega), Option.bind_some]
    cases b
    · exact sbad k
    · rw [if_pos rfl, Bool.true_and]
      by_cases h1 : (L.length : Int) < 2
      · rw [if_pos h1, decide_eq_false (by omega), sbad]; rfl
      · rw [if_neg h1]
        by_cases h2 : (L.length : Int) > 8
        · rw [decide_eq_true h2, sbad, decide_eq_false (by omega)]; rfl
        · rw [decide_eq_false h2, decide_eq_true (by omega), Bool.true_and]
          simp only [spec_l08Ok.j0]
          rw [if_neg Bool.false_ne_true]
          exact spec_pt_l0 s L (by omega) L.length 0 k (by omega) (by omega) (fun h => absurd h (by omega))
  · rw [ev]; exact hi k hk
  · rw [ev] at h
    simp only [Bool.and_eq_true, decide_eq_true_eq] at h
    obtain ⟨hb, hl, ha⟩ := h
    refine ⟨⟨by omega, by omega, fun i hi => ?_⟩, (n3 hb).2⟩
    have h := ptFrom_at L L.length 0 ha i (by omega) (by omega)
    unfold ptOk at h
    simp only [Bool.and_eq_true, decide_eq_true_eq] at h
    obtain ⟨g1, g2, g3, g4⟩ := h
    refine ⟨g1, g2, g3, fun hz => ?_⟩
    rw [if_neg (by omega)] at g4; exact (of_decide_eq_true g4).1
theorem szPump (s : ByteArray) (l : List (List Int)) (hs : s.size ≤ maxLen) (hl : l.length ≤ 9223372036854775807) (hi : ∀ x ∈ l, x.length ≤ 9223372036854775807) (n : Int) (hn : 0 ≤ n) (hn2 : n ≤ 1048576) (k : Nat) (hk : 1048576 < k) :
    ∃ r, laws_szPump.f k s l n = some r ∧ r ≤ n ∧ -1 ≤ r ∧ (0 ≤ r → s.size ≤ 1048576 ∧ l.length ≤ 1048576 ∧ ∀ x ∈ l, x.length ≤ 1048576) := by
  unfold laws_szPump.f laws_szInt64SS.f
  simp only [maxLen] at hs
  rw [wrap_id (x := n - (s.size : Int)) (by omega) (by omega)]
  by_cases c : n - (s.size : Int) < 0
  · rw [if_pos c]; exact ⟨-1, rfl, by omega, by omega, fun h => by omega⟩
  · rw [if_neg c, wrap_id (x := n - (s.size : Int) - (l.length : Int)) (by omega) (by omega)]
    by_cases c2 : n - (s.size : Int) - (l.length : Int) < 0
    · rw [if_pos c2]; exact ⟨-1, rfl, by omega, by omega, fun h => by omega⟩
    · rw [if_neg c2]
      obtain ⟨r, h2, h3, h4⟩ := szII_l0 l (by omega) hi l.length 0 k (n - (s.size : Int) - (l.length : Int)) (by omega) (by omega) (by omega) (by omega)
      have h2' : laws_szInt64SS.l0 k l (n - (s.size : Int) - (l.length : Int)) 0 = some r := h2
      rw [h2']
      simp only [Option.bind_some]
      by_cases c3 : r < 0
      · rw [if_pos c3]; exact ⟨-1, rfl, by omega, by omega, fun h => by omega⟩
      · rw [if_neg c3]
        refine ⟨r, rfl, by omega, by omega, fun hr => ⟨by omega, by omega, fun x hx => ?_⟩⟩
        obtain ⟨i, hi1, rfl⟩ := List.mem_iff_getElem.1 hx
        have := h4 hr i (by omega) hi1
        rwa [getD_lt hi1] at this
theorem toPump (s : ByteArray) (l : List (List Int)) (hl : l.length ≤ 1048576) (hi : ∀ x ∈ l, x.length ≤ 1048576) (k : Nat) (hk : 2097154 < k) : laws_toPump.f k s l = some (s, l) := by
  unfold laws_toPump.f
  rw [toII l hl hi k hk]; rfl
theorem eqPump (s : ByteArray) (l : List (List Int)) (hl : l.length ≤ 1048576) (hi : ∀ x ∈ l, x.length ≤ 1048576) (k : Nat) (hk : 2097154 < k) : laws_eqPump.f k s l s l = some true := by
  unfold laws_eqPump.f
  rw [if_pos rfl, eqII l hl hi k hk]; rfl

def slow (v : Int) (x : List Int) : List Int := [rdiv (rd x 0 * v) 1000, rdiv (rd x 1 * v * v) 1000000]
theorem slow_fit {f h v : Int} (hf : 0 ≤ f ∧ f ≤ 100000) (hh : 0 ≤ h ∧ h ≤ 2000000) (hv : 100 ≤ v ∧ v ≤ 1200) : (0 ≤ f * v ∧ f * v ≤ 120000000) ∧ (0 ≤ h * v ∧ h * v ≤ 2400000000) ∧ (0 ≤ h * v * v ∧ h * v * v ≤ 2880000000000) := by
  obtain ⟨a1, a2⟩ := mul_bounds (a := f) (b := v) (A := 100000) (B := 1200) hf.1 hf.2 (by omega) (by omega) (by omega)
  obtain ⟨b1, b2⟩ := mul_bounds (a := h) (b := v) (A := 2000000) (B := 1200) hh.1 hh.2 (by omega) (by omega) (by omega)
  have b0 := mul_nonneg' hh.1 (show 0 ≤ v by omega)
  obtain ⟨c1, c2⟩ := mul_bounds (a := h * v) (b := v) (A := 2400000000) (B := 1200) b0 (by omega) (by omega) (by omega) (by omega)
  have c0 := mul_nonneg' b0 (show 0 ≤ v by omega)
  exact ⟨⟨mul_nonneg' hf.1 (by omega), by omega⟩, ⟨b0, by omega⟩, ⟨c0, by omega⟩⟩
theorem spec_slow (s : ByteArray) (L : List (List Int)) (hP : PumpOk L) (v : Int) (hv : 100 ≤ v ∧ v ≤ 1200) : ∀ (d j k : Nat), j + d = L.length → d < k → spec_l08Slow.l0 k [(⟨s, L⟩ : S54)] v (j : Int) s ((L.take j).map (slow v)) = some (s, L.map (slow v)) := by
  intro d
  induction d with
  | zero =>
    intro j k hj hk
    obtain ⟨k, rfl⟩ := suc_of hk
    simp only [spec_l08Slow.l0, show rd_T54 [(⟨s, L⟩ : S54)] 0 = ⟨s, L⟩ from rfl]
    rw [if_pos (by simp), if_neg (by omega), List.take_of_length_le (by omega)]
  | succ d ih =>
    intro j k hj hk
    obtain ⟨k, rfl⟩ := suc_of hk
    obtain ⟨h1, h2, h3, _⟩ := hP.2.2 j (by omega)
    obtain ⟨a, b, c⟩ := slow_fit h2 h3 hv
    have hn := ih (j + 1) k (by omega) (by omega)
    have hl := hP.2.1
    rw [List.take_add_one, List.getElem?_eq_getElem (show j < L.length by omega), Option.toList_some, List.map_append, ← getD_lt (d := []) (show j < L.length by omega)] at hn
    simp only [spec_l08Slow.l0, show rd_T54 [(⟨s, L⟩ : S54)] 0 = ⟨s, L⟩ from rfl]
    unfold pf at h2 a
    unfold ph at h3 b c
    rw [if_pos (by simp), if_pos (by omega), if_pos (by omega), rdll_nat, if_pos (by omega), wrap_id (x := rd (L.getD j []) 0 * v) (by omega) (by omega),
      spec_div (by omega) (by omega) (by omega) (by omega), Option.bind_some, if_pos (show (1 : Int) < ((L.getD j []).length : Int) by omega), wrap_id (x := rd (L.getD j []) 1 * v) (by omega) (by omega), wrap_id (x := rd (L.getD j []) 1 * v * v) (by omega) (by omega), spec_div (by omega) (by omega) (by omega) (by omega), Option.bind_some, next_nat (n := L.length) (by omega) (by omega), if_pos (by rw [List.length_map, List.length_take]; omega)]
    exact hn
theorem impl_slow (s : ByteArray) (L : List (List Int)) (hP : PumpOk L) (v : Int) (hv : 100 ≤ v ∧ v ≤ 1200) : ∀ (d j k : Nat), j + d = L.length → d < k → impl_Pump_atSpeed.l0 k v L (L.length : Int) (j : Int) s ((L.take j).map (slow v)) = some (s, L.map (slow v)) := by
  intro d
  induction d with
  | zero =>
    intro j k hj hk
    obtain ⟨k, rfl⟩ := suc_of hk
    simp only [impl_Pump_atSpeed.l0]
    rw [if_neg (by omega), List.take_of_length_le (by omega)]
  | succ d ih =>
    intro j k hj hk
    obtain ⟨k, rfl⟩ := suc_of hk
    obtain ⟨h1, h2, h3, _⟩ := hP.2.2 j (by omega)
    obtain ⟨a, b, c⟩ := slow_fit h2 h3 hv
    have hn := ih (j + 1) k (by omega) (by omega)
    have hl := hP.2.1
    rw [List.take_add_one, List.getElem?_eq_getElem (show j < L.length by omega), Option.toList_some, List.map_append, ← getD_lt (d := []) (show j < L.length by omega)] at hn
    simp only [impl_Pump_atSpeed.l0]
    unfold pf at h2 a
    unfold ph at h3 b c
    rw [if_pos (by omega), if_pos (by omega), if_pos (by omega), rdll_nat, if_pos (by omega), wrap_id (x := rd (L.getD j []) 0 * v) (by omega) (by omega),
      impl_div (by omega) (by omega) (by omega) (by omega), Option.bind_some, if_pos (show (1 : Int) < ((L.getD j []).length : Int) by omega), wrap_id (x := rd (L.getD j []) 1 * v) (by omega) (by omega), wrap_id (x := rd (L.getD j []) 1 * v * v) (by omega) (by omega), impl_div (by omega) (by omega) (by omega) (by omega), Option.bind_some, next_nat (n := L.length) (by omega) (by omega), if_pos (by rw [List.length_map, List.length_take]; omega)]
    exact hn
theorem Slow_both (s : ByteArray) (L : List (List Int)) (hP : PumpOk L) (v : Int) (hv : 100 ≤ v ∧ v ≤ 1200) (k : Nat) (hk : 9 ≤ k) : spec_l08Slow.f k [(⟨s, L⟩ : S54)] v = some (s, L.map (slow v)) ∧ impl_Pump_atSpeed.f k s L v = some (s, L.map (slow v)) := by
  have hl := hP.2.1
  have e : rd_T54 [(⟨s, L⟩ : S54)] 0 = ⟨s, L⟩ := rfl
  unfold spec_l08Slow.f impl_Pump_atSpeed.f
  rw [if_pos (by simp), e]
  exact ⟨spec_slow s L hP v hv L.length 0 k (by omega) (by omega), impl_slow s L hP v hv L.length 0 k (by omega) (by omega)⟩
theorem line_fit {x0 y0 x2 y2 x : Int} (h0 : 0 ≤ x0) (hx : x0 < x) (h1 : x < x2) (h2 : x2 ≤ 100000) (hy : 0 ≤ y0 ∧ y0 ≤ 2000000) (hz : 0 ≤ y2 ∧ y2 ≤ 2000000) : -200000000000 ≤ (y2 - y0) * (x - x0) ∧ (y2 - y0) * (x - x0) ≤ 200000000000 := by
  have h := mul_bounds (a := x - x0) (b := y2 - y0) (A := 100000) (B := 2000000) (by omega) (by omega) (by omega) (by omega) (by omega)
  rw [Int.mul_comm (x - x0)] at h
  exact ⟨by omega, by omega⟩
theorem line_both (x0 y0 x2 y2 x : Int) (h0 : 0 ≤ x0) (hx0 : x0 ≤ 100000) (hx2 : 0 ≤ x2) (h2 : x2 ≤ 100000) (hy : 0 ≤ y0 ∧ y0 ≤ 2000000) (hz : 0 ≤ y2 ∧ y2 ≤ 2000000) (k : Nat) (hk : 1 ≤ k) : ∃ v, spec_l01Line.f k x0 y0 x2 y2 x = some v ∧ impl_blend.f k x0 y0 x2 y2 x = some v := by
  obtain ⟨k, rfl⟩ := suc_of (show 0 < k by omega)
  unfold spec_l01Line.f impl_blend.f
  simp only [spec_l01Line.j0, impl_blend.j0]
  by_cases c1 : x ≤ x0
  · rw [if_pos c1, if_pos c1]
    exact ⟨y0, by simp⟩
  · rw [if_neg c1, if_neg c1]
    by_cases c2 : x2 ≤ x0
    · rw [decide_eq_true c2]; exact ⟨y0, by simp⟩
    · rw [decide_eq_false c2, if_neg Bool.false_ne_true, if_neg Bool.false_ne_true]
      by_cases c3 : x ≥ x2
      · rw [if_pos c3, if_pos c3]; exact ⟨_, rfl, rfl⟩
      · rw [if_neg c3, if_neg c3]
        obtain ⟨m1, m2⟩ := line_fit h0 (show x0 < x by omega) (show x < x2 by omega) h2 hy hz
        rw [wrap_id (x := y2 - y0) (by omega) (by omega), wrap_id (x := x - x0) (by omega) (by omega), wrap_id (x := x2 - x0) (by omega) (by omega), wrap_id (x := (y2 - y0) * (x - x0)) (by omega) (by omega), spec_div (by omega) (by omega) (by omega) (by omega), impl_div (by omega) (by omega) (by omega) (by omega)]
        exact ⟨_, rfl, rfl⟩
theorem head_both (s : ByteArray) (L : List (List Int)) (hP : PumpOk L) (x : Int) : ∀ (d j k : Nat), 1 ≤ j → j + d = L.length → d + 1 < k → ∃ v, spec_l08Head.l0 k [(⟨s, L⟩ : S54)] x (j : Int) = some v ∧ impl_Pump_head.l0 k x (j : Int) s L = some v := by
  have hl := hP.2.1
  have e : rd_T54 [(⟨s, L⟩ : S54)] 0 = ⟨s, L⟩ := rfl
  intro d
  induction d with
  | zero =>
    intro j k hj1 hj hk
    obtain ⟨k, rfl⟩ := suc_of (show 0 < k by omega)
    simp only [spec_l08Head.l0, impl_Pump_head.l0, e]
    rw [if_pos (by simp), if_neg (by omega), if_neg (by omega), if_pos (by omega)]
    exact ⟨0, rfl, rfl⟩
  | succ d ih =>
    intro j k hj1 hj hk
    obtain ⟨k, rfl⟩ := suc_of (show 0 < k by omega)
    obtain ⟨h1, h2, h3, _⟩ := hP.2.2 j (by omega)
    obtain ⟨g1, g2, g3, _⟩ := hP.2.2 (j - 1) (by omega)
    have ew : wrap64 ((j : Int) - 1) = ((j - 1 : Nat) : Int) := by rw [wrap_id (by omega) (by omega)]; omega
    obtain ⟨v, v1, v2⟩ := line_both (pf L (j - 1)) (ph L (j - 1)) (pf L j) (ph L j) x g2.1 g2.2 h2.1 h2.2 g3 h3 k (by omega)
    obtain ⟨w, w1, w2⟩ := ih (j + 1) k (by omega) (by omega) (by omega)
    simp only [spec_l08Head.l0, impl_Pump_head.l0, e]
    rw [if_pos (by simp), if_pos (by omega), if_pos (by omega), if_pos (by omega), ew, rdll_nat, rdll_nat, next_nat (n := L.length) (by omega) (by omega)]
    unfold pf ph at *
    by_cases c : rd (L.getD j []) 0 < x
    · simp only [show (0 : Int) ≤ ((j - 1 : Nat) : Int) by omega, show (0 : Int) ≤ (j : Int) by omega, show (j : Int) < (L.length : Int) by omega, show ((j - 1 : Nat) : Int) < (L.length : Int) by omega, show (0 : Int) < ((L.getD j []).length : Int) by omega, if_true, c, show ¬ x ≤ rd (L.getD j []) 0 by omega, if_false]
      exact ⟨w, w1, w2⟩
    · rw [if_pos (by omega), if_pos (by omega), if_pos (by omega), if_pos (by omega), if_pos (by omega), if_neg c, if_neg (show ¬ (j : Int) = (L.length : Int) by omega)]
      simp only [show (0 : Int) < ((L.getD (j - 1) []).length : Int) by omega, show (1 : Int) < ((L.getD (j - 1) []).length : Int) by omega, show (1 : Int) < ((L.getD j []).length : Int) by omega, show (0 : Int) ≤ ((j - 1 : Nat) : Int) by omega, show (0 : Int) ≤ (j : Int) by omega, show (j : Int) < (L.length : Int) by omega, show ((j - 1 : Nat) : Int) < (L.length : Int) by omega, show (0 : Int) < ((L.getD j []).length : Int) by omega, if_true, v1, v2, Option.bind_some]
      exact ⟨v, rfl, rfl⟩
theorem need_fit {c q : Int} (hc : 0 ≤ c ∧ c ≤ 100000000) (hq : 0 ≤ q ∧ q ≤ 100000) : (0 ≤ c * q ∧ c * q ≤ 10000000000000) ∧ (0 ≤ c * q * q ∧ c * q * q ≤ 1000000000000000000) := by
  obtain ⟨a1, a2⟩ := mul_bounds (a := c) (b := q) (A := 100000000) (B := 100000) hc.1 hc.2 (by omega) (by omega) (by omega)
  have b0 := mul_nonneg' hc.1 hq.1
  obtain ⟨c1, c2⟩ := mul_bounds (a := c * q) (b := q) (A := 10000000000000) (B := 100000) b0 (by omega) (by omega) (by omega) (by omega)
  exact ⟨⟨b0, by omega⟩, ⟨mul_nonneg' b0 hq.1, by omega⟩⟩
theorem need_both (h c q : Int) (hc : 0 ≤ c ∧ c ≤ 100000000) (hq : 0 ≤ q ∧ q ≤ 100000) : ∃ v, spec_l08Needs.f h c q = some v ∧ impl_systemHead.f h c q = some v := by
  obtain ⟨a, b⟩ := need_fit hc hq
  unfold spec_l08Needs.f impl_systemHead.f
  rw [wrap_id (x := c * q) (by omega) (by omega), wrap_id (x := c * q * q) (by omega) (by omega), spec_div (by omega) (by omega) (by omega) (by omega), impl_div (by omega) (by omega) (by omega) (by omega)]
  exact ⟨_, rfl, rfl⟩
theorem least_both (s : ByteArray) (hs : s.size ≤ 10) (L : List (List Int)) (hP : PumpOk L) (h c q n : Int) (hn : spec_l08Needs.f h c q = some n ∧ impl_systemHead.f h c q = some n) : ∀ (d j k : Nat), 100 ≤ j → j + d = 1201 → d + 100 < k → ∃ r b, spec_LeastSpeed.l0 k q n (j : Int) s L = some (if b = true then (r, 0) else (0, 3)) ∧ impl_least_c92.l0 k 1200 (j : Int) [(⟨s, L⟩ : S54)] [q] [h] [c] = some (r, b) := by
  have e : rd_T54 [(⟨s, L⟩ : S54)] 0 = ⟨s, L⟩ := rfl
  have e1 : rd [q] 0 = q := rfl
  have e2 : rd [h] 0 = h := rfl
  have e3 : rd [c] 0 = c := rfl
  intro d
  induction d with
  | zero =>
    intro j k hj1 hj hk
    obtain ⟨k, rfl⟩ := suc_of (show 0 < k by omega)
    simp only [spec_LeastSpeed.l0, impl_least_c92.l0]
    rw [if_neg (by omega), if_neg (by omega)]
    exact ⟨0, false, rfl, rfl⟩
  | succ d ih =>
    intro j k hj1 hj hk
    obtain ⟨k, rfl⟩ := suc_of (show 0 < k by omega)
    obtain ⟨s1, s2⟩ := Slow_both s L hP (j : Int) (by omega) k (by omega)
    obtain ⟨p1, p2, p3⟩ := pump_both s (L.map (slow (j : Int))) (by omega)
    obtain ⟨r, b, i1, i2⟩ := ih (j + 1) k (by omega) (by omega) (by omega)
    simp only [spec_LeastSpeed.l0, impl_least_c92.l0]
    unfold impl_LeastSpeed_1.f
    rw [if_pos (by omega), if_pos (by omega), e, e1, e2, e3, if_pos (by simp), s1, s2, Option.bind_some, Option.bind_some, p1 k (by omega), p2 k (by omega), Option.bind_some, Option.bind_some, next_nat (n := 1201) (by omega) (by omega)]
    cases hv : pv s (L.map (slow (j : Int))) with
    | false => exact ⟨r, b, i1, i2⟩
    | true =>
      have hQ := (p3 hv).1
      obtain ⟨v, v1, v2⟩ := head_both s (L.map (slow (j : Int))) hQ q ((L.map (slow (j : Int))).length - 1) 1 k (by omega) (by have := hQ.1; omega) (by have := hQ.2.1; omega)
      rw [show ((1 : Nat) : Int) = 1 from rfl] at v1 v2
      unfold spec_l08Head.f impl_Pump_head.f
      simp only [v1, v2, hn.2, Option.bind_some, if_true, List.length_cons, List.length_nil]
      by_cases c : v ≥ n
      · rw [decide_eq_true c, if_pos c]
        exact ⟨(j : Int), true, rfl, rfl⟩
      · rw [if_neg c, decide_eq_false c]
        exact ⟨r, b, i1, i2⟩
theorem Least_both (s : ByteArray) (L : List (List Int)) (h c q : Int) (hs : s.size ≤ 1048576) (k : Nat) (hk : 1048800 ≤ k) : ∃ u v, spec_LeastSpeed.f (k + 1) s L h c q = some (u, v) ∧ impl_LeastSpeed.f (k + 1) s L h c q = some (u, v) := by
  obtain ⟨p1, p2, p3⟩ := pump_both s L (by omega)
  unfold spec_LeastSpeed.f impl_LeastSpeed.f
  rw [p1 (k + 1) (by omega), p2 (k + 1) (by omega), Option.bind_some, Option.bind_some]
  cases hv : pv s L with
  | false => exact ⟨_, _, rfl, rfl⟩
  | true =>
    rw [if_pos rfl, if_pos rfl]
    obtain ⟨hP, hs10⟩ := p3 hv
    have sb : spec_LeastSpeed.j0 (k + 1) h c q true s L = some (0, 2) := by simp only [spec_LeastSpeed.j0]; rfl
    unfold spec_l08System.f impl_systemOk.f spec_l02Flow.f
    simp only [spec_in, impl_in, impl_head_ok, Option.bind_some]
    by_cases c1 : 0 ≤ h ∧ h ≤ 2000000
    · by_cases c2 : 0 ≤ c ∧ c ≤ 100000000
      · by_cases c3 : 0 ≤ q ∧ q ≤ 100000
        · rw [decide_eq_true c1, decide_eq_true c2, decide_eq_true c3]
          obtain ⟨n, n1, n2⟩ := need_both h c q c2 c3
          obtain ⟨r, b, l1, l2⟩ := least_both s hs10 L hP h c q n ⟨n1, n2⟩ 1101 100 k (by omega) (by omega) (by omega)
          have l3 := up (fun m => impl_least_c92.mono_l m _ _ _ _ _ _) l2 (k + 1) (by omega)
          rw [show ((100 : Nat) : Int) = 100 from rfl] at l1 l3
          unfold impl_least_c92.f
          simp only [if_true, Option.bind_some, spec_LeastSpeed.j0, Bool.not_true, n1]
          rw [if_neg Bool.false_ne_true]
          rw [l1, l3, Option.bind_some]
          unfold impl_orNotFound.f
          cases b <;> exact ⟨_, _, rfl, rfl⟩
        · rw [decide_eq_true c1, decide_eq_true c2, decide_eq_false c3]
          exact ⟨_, _, sb, rfl⟩
      · rw [decide_eq_true c1, decide_eq_false c2]
        exact ⟨_, _, sb, rfl⟩
    · rw [decide_eq_false c1]
      exact ⟨_, _, sb, rfl⟩
theorem FnExactLeastSpeed : laws_FnExactLeastSpeed.Pure := by
  intro x h c q hx _ _ _
  obtain ⟨s, L⟩ := x
  obtain ⟨hs, hl, hi⟩ := hx
  refine ⟨2097201, ?_⟩
  obtain ⟨r, r1, r2, r3, r4⟩ := szPump s L hs hl (fun x h => (hi x h).1) 1048576 (by omega) (by omega) 2097201 (by omega)
  unfold laws_FnExactLeastSpeed.f
  simp only [r1, Option.bind_some]
  by_cases g : r < 0
  · rw [if_pos g]
  · rw [if_neg g]
    obtain ⟨q1, q2, q3⟩ := r4 (by omega)
    obtain ⟨u, v, v1, v2⟩ := Least_both s L h c q q1 2097200 (by omega)
    have e : (v != v) = false := by simp
    simp only [toPump s L q2 q3 2097201 (by omega), toPump s L q2 q3 2097200 (by omega), eqPump s L q2 q3 2097200 (by omega), v1, v2, Option.bind_some, if_true, e, laws_FnExactLeastSpeed.j0]
    rw [if_neg Bool.false_ne_true]

end Go.Proofs.Ytaomflfofihknaa.Pure
