/- Instalments of the program returns what the reference's returns, for all arguments. No condition. -/
import Derived.Test.YtipfgehjedldmaaPFnExactInstalmentsx3
namespace Go.Proofs.Ytipfgehjedldmaa.Pure
open Go.RowKit Go.Proofs.Ytipfgehjedldmaa.PFnExactInstalments Go.Proofs.YtipfgehjedldmaaW.PrintWords Go.Proofs.YtipfgehjedldmaaW.PrintLast Go.Proofs.YtipfgehjedldmaaW.PrintMore
set_option linter.unusedVariables false
set_option linter.unusedSimpArgs false

theorem wrap_id {x : Int} (h1 : -9223372036854775808 ≤ x) (h2 : x ≤ 9223372036854775807) : wrap64 x = x := by unfold wrap64; omega
theorem wf_i64 {x : Int} (h : (Lit.int .i64 x).wf = true) : -9223372036854775808 ≤ x ∧ x ≤ 9223372036854775807 := by
  simp [Lit.wf, IntKind.min, IntKind.max, IntKind.bits, IntKind.signed] at h; omega
theorem mul_bounds {a b A B : Int} (h0 : 0 ≤ a) (hA : a ≤ A) (h1 : -B ≤ b) (h2 : b ≤ B) (hB : 0 ≤ B) : -(A * B) ≤ a * b ∧ a * b ≤ A * B := by
  have e1 := Int.mul_le_mul_of_nonneg_left h2 h0
  have e2 := Int.mul_le_mul_of_nonneg_right hA hB
  have e3 := Int.mul_le_mul_of_nonneg_left h1 h0
  have e4 : a * -B = -(a * B) := Int.mul_neg a B
  omega
theorem mul_nonneg' {a b : Int} (h0 : 0 ≤ a) (h1 : 0 ≤ b) : 0 ≤ a * b := Int.mul_nonneg h0 h1
theorem next_nat {j n : Nat} (h : j < n) (hn : n ≤ 4611686018427387904) : wrap64 ((j : Int) + 1) = ((j + 1 : Nat) : Int) := by
  rw [wrap_id (by omega) (by omega)]; omega
theorem rd_nat (l : List Int) (j : Nat) : rd l (j : Int) = l.getD j 0 := by unfold rd; simp
theorem ifp {α : Type} {c : Prop} [Decidable c] {a b : α} (h : c) : (if c then a else b) = a := if_pos h
theorem ifn {α : Type} {c : Prop} [Decidable c] {a b : α} (h : ¬ c) : (if c then a else b) = b := if_neg h
theorem suc_of {k d : Nat} (h : d < k) : ∃ m, k = m + 1 := ⟨k - 1, by omega⟩
theorem getD_lt {α : Type} {l : List α} {j : Nat} {d : α} (h : j < l.length) : l.getD j d = l[j] := by
  rw [List.getD_eq_getElem?_getD, List.getElem?_eq_getElem h]; rfl
theorem drop_cons {α : Type} (l : List α) {j : Nat} (h : j < l.length) (d : α) : l.drop j = l.getD j d :: l.drop (j + 1) := by
  rw [getD_lt h]; exact List.drop_eq_getElem_cons h
theorem up {α : Type} {g : Nat → Option α} (hm : ∀ k, LeO (g k) (g (k + 1))) {k0 : Nat} {r : α} (h : g k0 = some r) : ∀ k, k0 ≤ k → g k = some r := by
  intro k hk
  induction hk with
  | refl => exact h
  | step _ ih => exact hm _ _ ih

def rdiv (a b : Int) : Int := if a < 0 then -((b - 2 * a) / (2 * b)) else (2 * a + b) / (2 * b)
theorem rdiv_pos_eq {q r b : Int} (hb : 0 < b) (h0 : 0 ≤ r) (h1 : r < b) : (2 * (b * q + r) + b) / (2 * b) = if r ≥ b - r then q + 1 else q := by
  have e : 2 * (b * q + r) + b = (2 * r + b) + (2 * b) * q := by rw [Int.mul_add, ← Int.mul_assoc]; omega
  rw [e, Int.add_mul_ediv_left _ _ (by omega : (2 * b : Int) ≠ 0)]
  split
  · have : (2 * r + b) / (2 * b) = 1 := by
      have e2 : 2 * r + b = (2 * r - b) + (2 * b) * 1 := by omega
      rw [e2, Int.add_mul_ediv_left _ _ (by omega : (2 * b : Int) ≠ 0), Int.ediv_eq_zero_of_lt (by omega) (by omega)]; rfl
    omega
  · have : (2 * r + b) / (2 * b) = 0 := Int.ediv_eq_zero_of_lt (by omega) (by omega)
    omega
theorem abs_def {a : Int} (h : -9223372036854775807 ≤ a) (h2 : a ≤ 9223372036854775807) : impl_abs.f a = some (if a < 0 then -a else a) := by
  unfold impl_abs.f mx
  rw [wrap_id (by omega) (by omega)]
  split <;> split <;> first | rfl | (simp; omega)
theorem impl_div {a b : Int} (hb : 0 < b) (hb2 : b ≤ 2305843009213693951) (ha : -2305843009213693951 ≤ a) (ha2 : a ≤ 2305843009213693951) : impl_divRound.f a b = some (rdiv a b) := by
  unfold impl_divRound.f
  rw [if_neg (by omega)]
  by_cases h : a < 0
  · have hq0 : a.tdiv b = -((-a) / b) := by rw [← Int.tdiv_eq_ediv_of_nonneg (by omega), Int.neg_tdiv, Int.neg_neg]
    have hr0 : a.tmod b = -((-a) % b) := by rw [← Int.tmod_eq_emod_of_nonneg (by omega), Int.neg_tmod, Int.neg_neg]
    have hr1 := Int.emod_nonneg (-a) (show b ≠ 0 by omega)
    have hr2 := Int.emod_lt_of_pos (-a) hb
    have hd := Int.mul_ediv_add_emod (-a) b
    have hq1 : 0 ≤ (-a) / b := Int.ediv_nonneg (by omega) (by omega)
    have hq2 : (-a) / b ≤ -a := Int.ediv_le_self _ (by omega)
    rw [hq0, hr0]
    generalize (-a) / b = q at *
    generalize (-a) % b = r at *
    rw [abs_def (by omega) (by omega), abs_def (by omega) (by omega)]
    simp only [Option.bind_some]
    have e1 : (if -r < 0 then - -r else -r) = r := by split <;> omega
    have e2 : (if b < 0 then -b else b) = b := by rw [if_neg (by omega)]
    rw [e1, e2, wrap_id (x := b - r) (by omega) (by omega)]
    have hk : rdiv a b = -(if r ≥ b - r then q + 1 else q) := by
      unfold rdiv
      rw [if_pos h, ← rdiv_pos_eq (q := q) hb hr1 hr2, hd]
      congr 2; omega
    rw [hk]
    have w1 : wrap64 (-q) = -q := wrap_id (by omega) (by omega)
    rw [w1]
    by_cases hc : r ≥ b - r
    · rw [if_pos hc, if_pos hc, if_neg (by simp; omega), wrap_id (by omega) (by omega)]
      congr 1; omega
    · rw [if_neg hc, if_neg hc]
  · have hq0 : a.tdiv b = a / b := Int.tdiv_eq_ediv_of_nonneg (by omega)
    have hr0 : a.tmod b = a % b := Int.tmod_eq_emod_of_nonneg (by omega)
    have hr1 := Int.emod_nonneg a (show b ≠ 0 by omega)
    have hr2 := Int.emod_lt_of_pos a hb
    have hd := Int.mul_ediv_add_emod a b
    have hq1 : 0 ≤ a / b := Int.ediv_nonneg (by omega) (by omega)
    have hq2 : a / b ≤ a := Int.ediv_le_self _ (by omega)
    rw [hq0, hr0]
    generalize a / b = q at *
    generalize a % b = r at *
    rw [abs_def (by omega) (by omega), abs_def (by omega) (by omega)]
    simp only [Option.bind_some]
    have e1 : (if r < 0 then - r else r) = r := by rw [if_neg (by omega)]
    have e2 : (if b < 0 then -b else b) = b := by rw [if_neg (by omega)]
    rw [e1, e2, wrap_id (x := b - r) (by omega) (by omega)]
    have hk : rdiv a b = (if r ≥ b - r then q + 1 else q) := by
      unfold rdiv
      rw [if_neg h, ← rdiv_pos_eq (q := q) hb hr1 hr2, hd]
    rw [hk]
    have w1 : wrap64 q = q := wrap_id (by omega) (by omega)
    rw [w1]
    by_cases hc : r ≥ b - r
    · rw [if_pos hc, if_pos hc, if_pos (by simp; omega), wrap_id (by omega) (by omega)]
    · rw [if_neg hc, if_neg hc]
theorem rdiv_nonneg {a b : Int} (ha : 0 ≤ a) (hb : 0 < b) : 0 ≤ rdiv a b := by
  unfold rdiv; rw [if_neg (by omega)]; exact Int.ediv_nonneg (by omega) (by omega)
theorem rdiv_le {a b : Int} (ha : 0 ≤ a) (hb : 0 < b) : rdiv a b ≤ 2 * a + b := by
  unfold rdiv; rw [if_neg (by omega)]; exact Int.ediv_le_self _ (by omega)

theorem spec_div {a b : Int} (hb : 0 < b) (hb2 : b ≤ 2305843009213693951) (ha : -2305843009213693951 ≤ a) (ha2 : a ≤ 2305843009213693951) : spec_l01Div.f a b = some (rdiv a b) := by
  unfold spec_l01Div.f rdiv
  have w2 : wrap64 (2 * b) = 2 * b := wrap_id (by omega) (by omega)
  have h2b : (0 : Int) < 2 * b := by omega
  rw [if_neg (by omega), w2]
  by_cases h : a < 0
  · rw [if_pos h, if_pos h, if_neg (by omega)]
    have e1 : wrap64 (2 * a) = 2 * a := wrap_id (by omega) (by omega)
    have e2 : wrap64 (b - 2 * a) = b - 2 * a := wrap_id (by omega) (by omega)
    rw [e1, e2, Int.tdiv_eq_ediv_of_nonneg (by omega)]
    have b1 : 0 ≤ (b - 2 * a) / (2 * b) := Int.ediv_nonneg (by omega) (by omega)
    have b2 : (b - 2 * a) / (2 * b) ≤ b - 2 * a := Int.ediv_le_self _ (by omega)
    have e3 : wrap64 ((b - 2 * a) / (2 * b)) = (b - 2 * a) / (2 * b) := wrap_id (by omega) (by omega)
    have e4 : wrap64 (-((b - 2 * a) / (2 * b))) = -((b - 2 * a) / (2 * b)) := wrap_id (by omega) (by omega)
    rw [e3, e4]
  · rw [if_neg h, if_neg h, if_neg (by omega)]
    have e1 : wrap64 (2 * a) = 2 * a := wrap_id (by omega) (by omega)
    have e2 : wrap64 (2 * a + b) = 2 * a + b := wrap_id (by omega) (by omega)
    rw [e1, e2, Int.tdiv_eq_ediv_of_nonneg (by omega)]
    have b1 : 0 ≤ (2 * a + b) / (2 * b) := Int.ediv_nonneg (by omega) (by omega)
    have b2 : (2 * a + b) / (2 * b) ≤ 2 * a + b := Int.ediv_le_self _ (by omega)
    rw [wrap_id (by omega) (by omega)]

theorem rdiv_abs {a b A : Int} (hb : 0 < b) (h1 : -A ≤ a) (h2 : a ≤ A) : -(2 * A + b) ≤ rdiv a b ∧ rdiv a b ≤ 2 * A + b := by
  unfold rdiv
  by_cases h : a < 0
  · rw [if_pos h]
    have b1 : 0 ≤ (b - 2 * a) / (2 * b) := Int.ediv_nonneg (by omega) (by omega)
    have b2 : (b - 2 * a) / (2 * b) ≤ b - 2 * a := Int.ediv_le_self _ (by omega)
    omega
  · rw [if_neg h]
    have b1 : 0 ≤ (2 * a + b) / (2 * b) := Int.ediv_nonneg (by omega) (by omega)
    have b2 : (2 * a + b) / (2 * b) ≤ 2 * a + b := Int.ediv_le_self _ (by omega)
    omega

theorem impl_in (n lo hi : Int) : impl_within.f n lo hi = some (decide (lo ≤ n ∧ n ≤ hi)) := by unfold impl_within.f; split <;> simp <;> omega

theorem spec_in (n lo hi : Int) : spec_l00In.f n lo hi = some (decide (lo ≤ n ∧ n ≤ hi)) := by unfold spec_l00In.f; split <;> simp <;> omega

theorem eqI_l0 (l : List Int) (hl : l.length ≤ 35184372088832) : ∀ (d j k : Nat), j + d = l.length → d < k → laws_eqInt64S.l0 k l l (j : Int) = some true := by
  intro d
  induction d with
  | zero =>
    intro j k hj hk
    obtain ⟨k, rfl⟩ := suc_of hk
    simp only [laws_eqInt64S.l0]
    rw [if_neg (by omega)]
  | succ d ih =>
    intro j k hj hk
    obtain ⟨k, rfl⟩ := suc_of hk
    simp only [laws_eqInt64S.l0]
    rw [if_pos (by omega), if_pos (by omega), if_pos (by omega), if_pos trivial, next_nat (n := l.length) (by omega) (by omega)]
    exact ih (j + 1) k (by omega) (by omega)
theorem eqI (l : List Int) (hl : l.length ≤ 35184372088832) (k : Nat) (hk : l.length < k) : laws_eqInt64S.f k l l = some true := by
  unfold laws_eqInt64S.f
  rw [if_pos rfl]
  exact eqI_l0 l hl l.length 0 k (by omega) hk

theorem markc_l0 (c0 : Int) (hc0 : 0 ≤ c0) (hc1 : c0 ≤ 1000000000000000) : ∀ (d j k : Nat) (m : List Int) (c : Int), j + d = m.length → m.length ≤ 35184372088832 → d < k → c = c0 + (j : Int) → (∀ i, i < j → m[i]? = some (c0 + (i : Int))) →
    ∃ m', laws_markInt64S.l0 k m c (j : Int) = some (c0 + (m.length : Int), m') ∧ m'.length = m.length ∧ ∀ i, i < m'.length → m'[i]? = some (c0 + (i : Int)) := by
  intro d
  induction d with
  | zero =>
    intro j k m c hj hl hk hc hp
    obtain ⟨k, rfl⟩ := suc_of hk
    simp only [laws_markInt64S.l0]
    rw [if_neg (by omega)]
    exact ⟨m, by rw [hc]; congr 2; omega, rfl, fun i hi => hp i (by omega)⟩
  | succ d ih =>
    intro j k m c hj hl hk hc hp
    obtain ⟨k, rfl⟩ := suc_of hk
    simp only [laws_markInt64S.l0]
    rw [if_pos (by omega), if_pos (by omega), next_nat (n := m.length) (by omega) (by omega), wrap_id (x := c + 1) (by omega) (by omega), Int.toNat_natCast]
    obtain ⟨m', h1, h2, h3⟩ := ih (j + 1) k (m.set j c) (c + 1) (by simp; omega) (by simpa using hl) (by omega) (by omega) (fun i hi => by
      rw [List.getElem?_set]
      by_cases e : j = i
      · subst e; rw [if_pos rfl, if_pos (by omega), hc]
      · rw [if_neg e]; exact hp i (by omega))
    exact ⟨m', by rw [h1]; simp, by simpa using h2, h3⟩
theorem heldc_l0 (c0 : Int) (hc0 : 0 ≤ c0) (hc1 : c0 ≤ 1000000000000000) (m : List Int) (hl : m.length ≤ 35184372088832) (hm : ∀ i, i < m.length → m[i]? = some (c0 + (i : Int))) : ∀ (d j k : Nat) (c : Int), j + d = m.length → d < k → c = c0 + (j : Int) → laws_heldInt64S.l0 k m c (j : Int) = some (c0 + (m.length : Int)) := by
  intro d
  induction d with
  | zero =>
    intro j k c hj hk hc
    obtain ⟨k, rfl⟩ := suc_of hk
    simp only [laws_heldInt64S.l0]
    rw [if_neg (by omega)]
    congr 1; omega
  | succ d ih =>
    intro j k c hj hk hc
    obtain ⟨k, rfl⟩ := suc_of hk
    simp only [laws_heldInt64S.l0]
    have e : rd m (j : Int) = c := by
      rw [rd_nat, List.getD_eq_getElem?_getD, hm j (by omega), hc]; rfl
    rw [if_pos (by omega), if_pos (by omega), if_pos e, next_nat (n := m.length) (by omega) (by omega), wrap_id (x := c + 1) (by omega) (by omega)]
    exact ih (j + 1) k (c + 1) (by omega) (by omega) (by omega)
theorem markc_held (l : List Int) (c0 : Int) (hc0 : 0 ≤ c0) (hc1 : c0 ≤ 1000000000000000) (hl : l.length ≤ 35184372088832) (k : Nat) (hk : l.length < k) : ∃ m', laws_markInt64S.f k l c0 = some (c0 + (l.length : Int), m') ∧ m'.length = l.length ∧ (∀ k', l.length < k' → laws_heldInt64S.f k' m' c0 = some (c0 + (l.length : Int))) := by
  obtain ⟨m', h1, h2, h3⟩ := markc_l0 c0 hc0 hc1 l.length 0 k l c0 (by omega) hl hk (by omega) (fun i hi => absurd hi (by omega))
  refine ⟨m', h1, h2, fun k' hk' => ?_⟩
  have := heldc_l0 c0 hc0 hc1 m' (by omega) h3 m'.length 0 k' c0 (by omega) (by omega) (by omega)
  rw [h2] at this
  exact this

def weight (x : Int) : Bool := decide (0 ≤ x ∧ x ≤ 1000000)
theorem weight_le {x : Int} (h : weight x = true) : 0 ≤ x ∧ x ≤ 1000000 := of_decide_eq_true h
theorem all_getD {l : List Int} {p : Int → Bool} (h : l.all p = true) {j : Nat} (hj : j < l.length) : p (l.getD j 0) = true := by
  rw [getD_lt hj]; exact List.all_eq_true.1 h _ (List.getElem_mem hj)
def tot (l : List Int) : Nat → Nat → Int → Int
  | 0, _, u => u
  | d + 1, j, u => tot l d (j + 1) (u + l.getD j 0)
theorem tot_b (l : List Int) (hl : l.length ≤ 12) (hw : l.all weight = true) : ∀ (d j : Nat) (u : Int), j + d = l.length → 0 ≤ u → u ≤ (j : Int) * 1000000 → 0 ≤ tot l d j u ∧ tot l d j u ≤ 12000000 := by
  intro d
  induction d with
  | zero => intro j u hj h0 h1; unfold tot; omega
  | succ d ih =>
    intro j u hj h0 h1
    have w := weight_le (all_getD hw (show j < l.length by omega))
    exact ih (j + 1) _ (by omega) (by omega) (by omega)
theorem spec_tot (M : Int) (l : List Int) (hl : l.length ≤ 12) (hw : l.all weight = true) : ∀ (d j k : Nat) (u : Int), j + d = l.length → 0 ≤ u → u ≤ (j : Int) * 1000000 →
    spec_l22Divide.l0 (k + d + 1) M l u (j : Int) = if tot l d j u = 0 then some ([], false) else spec_l22Divide.l1 k M l (tot l d j u) [] 0 0 0 := by
  intro d
  induction d with
  | zero =>
    intro j k u hj h0 h1
    rw [show k + 0 + 1 = k + 1 from rfl]
    have e : tot l 0 j u = u := rfl
    simp only [spec_l22Divide.l0]
    rw [if_neg (by omega), e]
  | succ d ih =>
    intro j k u hj h0 h1
    have w := weight_le (all_getD hw (show j < l.length by omega))
    obtain ⟨F, hF⟩ : ∃ F, F = k + d + 1 := ⟨_, rfl⟩
    rw [show k + (d + 1) + 1 = F + 1 by omega]
    simp only [spec_l22Divide.l0]
    rw [if_pos (by omega), if_pos (by omega), rd_nat, next_nat (n := l.length) (by omega) (by omega), wrap_id (x := u + l.getD j 0) (by omega) (by omega), hF]
    exact ih (j + 1) k _ (by omega) (by omega) (by omega)
theorem impl_tot (l : List Int) (hl : l.length ≤ 12) (hw : l.all weight = true) : ∀ (d j k : Nat) (u : Int), j + d = l.length → d < k → 0 ≤ u → u ≤ (j : Int) * 1000000 →
    impl_sumOf.l0 k u l (l.length : Int) (j : Int) = some (tot l d j u) := by
  intro d
  induction d with
  | zero =>
    intro j k u hj hk h0 h1
    obtain ⟨k, rfl⟩ := suc_of hk
    simp only [impl_sumOf.l0, tot]
    rw [if_neg (by omega)]
  | succ d ih =>
    intro j k u hj hk h0 h1
    have w := weight_le (all_getD hw (show j < l.length by omega))
    obtain ⟨k, rfl⟩ := suc_of hk
    simp only [impl_sumOf.l0]
    rw [if_pos (by omega), if_pos (by omega), if_pos (by omega), rd_nat, next_nat (n := l.length) (by omega) (by omega), wrap_id (x := u + l.getD j 0) (by omega) (by omega)]
    exact ih (j + 1) k _ (by omega) (by omega) (by omega) (by omega)
theorem parts_both (M A : Int) (hM0 : 0 ≤ M) (hM1 : M ≤ 1000000000) (hA0 : 0 < A) (hA1 : A ≤ 12000000) (l : List Int) (hl : l.length ≤ 12) (hw : l.all weight = true) : ∀ (d j : Nat) (acc : List Int) (u g : Int), j + d = l.length → acc.length = j → 0 ≤ u → u ≤ (j : Int) * 1000000 → -30000000000000000 ≤ g → g ≤ 30000000000000000 → ∃ r,
    (∀ k, d < k → spec_l22Divide.l1 k M l A acc u g (j : Int) = some (r, true)) ∧ (∀ k, d < k → impl_divide.l0 k M A u g acc l (l.length : Int) (j : Int) = some (r, true)) ∧ r.length = l.length := by
  intro d
  induction d with
  | zero =>
    intro j acc u g hj ha h0 h1 g0 g1
    refine ⟨acc, fun k hk => ?_, fun k hk => ?_, by omega⟩
    · obtain ⟨k, rfl⟩ := suc_of hk
      simp only [spec_l22Divide.l1]
      rw [if_neg (by omega)]
    · obtain ⟨k, rfl⟩ := suc_of hk
      simp only [impl_divide.l0]
      rw [if_neg (by omega)]
  | succ d ih =>
    intro j acc u g hj ha h0 h1 g0 g1
    have w := weight_le (all_getD hw (show j < l.length by omega))
    have hn := next_nat (j := j) (n := l.length) (by omega) (by omega)
    have v0 : 0 ≤ u + l.getD j 0 ∧ u + l.getD j 0 ≤ 12000000 := by omega
    have m := mul_bounds (a := M) (b := u + l.getD j 0) (A := 1000000000) (B := 12000000) hM0 hM1 (by omega) v0.2 (by omega)
    have rb := rdiv_abs (a := M * (u + l.getD j 0)) (b := A) (A := 12000000000000000) hA0 (by omega) (by omega)
    obtain ⟨r, s, i, hr⟩ := ih (j + 1) (acc ++ [rdiv (M * (u + l.getD j 0)) A - g]) (u + l.getD j 0) (rdiv (M * (u + l.getD j 0)) A) (by omega) (by simp; omega) (by omega) (by omega) (by omega) (by omega)
    refine ⟨r, fun k hk => ?_, fun k hk => ?_, hr⟩
    · obtain ⟨k, rfl⟩ := suc_of (show 0 < k by omega)
      have s := s k (by omega)
      simp only [spec_l22Divide.l1]
      rw [if_pos (by omega), if_pos (by omega), rd_nat, hn, wrap_id (x := u + l.getD j 0) (by omega) (by omega), wrap_id (x := M * (u + l.getD j 0)) (by omega) (by omega), spec_div hA0 (by omega) (by omega) (by omega)]
      simp only [Option.bind_some]
      rw [if_pos (by omega), wrap_id (x := rdiv (M * (u + l.getD j 0)) A - g) (by omega) (by omega)]
      exact s
    · obtain ⟨k, rfl⟩ := suc_of (show 0 < k by omega)
      have i := i k (by omega)
      simp only [impl_divide.l0]
      rw [if_pos (by omega), if_pos (by omega), if_pos (by omega), rd_nat, hn, wrap_id (x := u + l.getD j 0) (by omega) (by omega), Int.mul_comm (u + l.getD j 0) M, wrap_id (x := M * (u + l.getD j 0)) (by omega) (by omega), impl_div hA0 (by omega) (by omega) (by omega)]
      simp only [Option.bind_some]
      rw [if_pos (by omega), wrap_id (x := rdiv (M * (u + l.getD j 0)) A - g) (by omega) (by omega), wrap_id (x := g + (rdiv (M * (u + l.getD j 0)) A - g)) (by omega) (by omega), show g + (rdiv (M * (u + l.getD j 0)) A - g) = rdiv (M * (u + l.getD j 0)) A by omega]
      exact i
theorem divide_both (M : Int) (hM0 : 0 ≤ M) (hM1 : M ≤ 1000000000) (l : List Int) (hl : l.length ≤ 12) (hw : l.all weight = true) : ∃ r b, (∀ k, 100 ≤ k → spec_l22Divide.f k M l = some (r, b)) ∧ (∀ k, 100 ≤ k → impl_divide.f k M l = some (r, b)) ∧ r.length ≤ 12 := by
  have tb := tot_b l hl hw l.length 0 0 (by omega) (by omega) (by omega)
  have hi : ∀ k, 100 ≤ k → impl_sumOf.f k l = some (tot l l.length 0 0) := fun k hk => impl_tot l hl hw l.length 0 k 0 (by omega) (by omega) (by omega) (by omega)
  have hs : ∀ k, 100 ≤ k → spec_l22Divide.f k M l = if tot l l.length 0 0 = 0 then some ([], false) else spec_l22Divide.l1 (k - l.length - 1) M l (tot l l.length 0 0) [] 0 0 0 := by
    intro k hk
    have := spec_tot M l hl hw l.length 0 (k - l.length - 1) 0 (by omega) (by omega) (by omega)
    rw [show k - l.length - 1 + l.length + 1 = k by omega] at this
    exact this
  generalize tot l l.length 0 0 = T at *
  by_cases h : T = 0
  · refine ⟨[], false, fun k hk => ?_, fun k hk => ?_, by simp⟩
    · rw [hs k hk, if_pos h]
    · unfold impl_divide.f
      rw [hi k hk]
      simp only [Option.bind_some]
      rw [if_pos h]
  · obtain ⟨r, s, i, hr⟩ := parts_both M T hM0 hM1 (by omega) tb.2 l hl hw l.length 0 [] 0 0 (by omega) rfl (by omega) (by omega) (by omega) (by omega)
    refine ⟨r, true, fun k hk => ?_, fun k hk => ?_, by omega⟩
    · rw [hs k hk, if_neg h]
      exact s _ (by omega)
    · unfold impl_divide.f
      rw [hi k hk]
      simp only [Option.bind_some]
      rw [if_neg h]
      exact i k (by omega)

theorem spec_ones (M n : Int) (h1 : 1 ≤ n) (h12 : n ≤ 12) : ∀ (d j k : Nat), (j : Int) + d = n →
    spec_Instalments.l0 (k + d + 1) M n (List.replicate j 1) (j : Int) = (spec_l22Divide.f k M (List.replicate n.toNat 1)).bind fun bt => some (bt.1, 0) := by
  intro d
  induction d with
  | zero =>
    intro j k hj
    rw [show k + 0 + 1 = k + 1 from rfl]
    simp only [spec_Instalments.l0]
    rw [if_neg (by omega), show n.toNat = j by omega]
  | succ d ih =>
    intro j k hj
    obtain ⟨F, hF⟩ : ∃ F, F = k + d + 1 := ⟨_, rfl⟩
    rw [show k + (d + 1) + 1 = F + 1 by omega]
    simp only [spec_Instalments.l0]
    rw [if_pos (by omega), if_pos (by simp; omega), wrap_id (x := (j : Int) + 1) (by omega) (by omega), hF, show (j : Int) + 1 = ((j + 1 : Nat) : Int) by omega, ← List.replicate_succ']
    exact ih (j + 1) k (by omega)
theorem in_both (M n : Int) : ∃ r e, (∀ k, 1000 ≤ k → spec_Instalments.f k M n = some (r, e)) ∧ (∀ k, 1000 ≤ k → impl_Instalments.f k M n = some (r, e)) ∧ r.length ≤ 12 := by
  have sbad : ∀ k, spec_Instalments.j0 (k + 1) M n true = some ([], 2) := fun k => by simp only [spec_Instalments.j0]; simp
  have ibad : ∀ k, impl_Instalments.j0 (k + 1) M n true = some ([], 2) := fun k => by simp only [impl_Instalments.j0]; simp
  by_cases hM : 0 ≤ M ∧ M ≤ 1000000000
  · by_cases hn : 1 ≤ n ∧ n ≤ 12
    · obtain ⟨r, b, s, i, hr⟩ := divide_both M hM.1 hM.2 (List.replicate n.toNat 1) (by simp; omega) (by simp [weight])
      refine ⟨r, 0, fun k hk => ?_, fun k hk => ?_, hr⟩
      · obtain ⟨k, rfl⟩ : ∃ m, k = m + n.toNat + 1 + 1 := ⟨k - n.toNat - 2, by omega⟩
        unfold spec_Instalments.f spec_l22Money.f
        rw [spec_in, decide_eq_true hM, spec_in, decide_eq_true hn]
        simp only [Option.bind_some, if_true, Bool.not_true, spec_Instalments.j0]
        rw [if_neg Bool.false_ne_true]
        have := spec_ones M n hn.1 hn.2 n.toNat 0 k (by omega)
        rw [s k (by omega)] at this
        exact this
      · obtain ⟨k, rfl⟩ := suc_of (show 0 < k by omega)
        unfold impl_Instalments.f impl_moneyOk.f
        rw [impl_in, decide_eq_true hM]
        simp only [Option.bind_some, if_true]
        rw [impl_in, decide_eq_true hn]
        simp only [Option.bind_some, Bool.not_true, impl_Instalments.j0]
        rw [if_neg Bool.false_ne_true]
        have e : slices_Repeat_int64_int64.f [1] n = some (List.replicate n.toNat 1) := if_pos ⟨rfl, hn.1, hn.2⟩
        rw [e]
        simp only [Option.bind_some]
        rw [i k (by omega)]
        rfl
    · refine ⟨[], 2, fun k hk => ?_, fun k hk => ?_, by simp⟩
      · obtain ⟨k, rfl⟩ := suc_of (show 0 < k by omega)
        unfold spec_Instalments.f spec_l22Money.f
        rw [spec_in, decide_eq_true hM, spec_in, decide_eq_false hn]
        simp only [Option.bind_some, if_true, Bool.not_false, sbad]
      · obtain ⟨k, rfl⟩ := suc_of (show 0 < k by omega)
        unfold impl_Instalments.f impl_moneyOk.f
        rw [impl_in, decide_eq_true hM]
        simp only [Option.bind_some, if_true]
        rw [impl_in, decide_eq_false hn]
        simp only [Option.bind_some, Bool.not_false, ibad]
  · refine ⟨[], 2, fun k hk => ?_, fun k hk => ?_, by simp⟩
    · obtain ⟨k, rfl⟩ := suc_of (show 0 < k by omega)
      unfold spec_Instalments.f spec_l22Money.f
      rw [spec_in, decide_eq_false hM]
      simp [sbad]
    · obtain ⟨k, rfl⟩ := suc_of (show 0 < k by omega)
      unfold impl_Instalments.f impl_moneyOk.f
      rw [impl_in, decide_eq_false hM]
      simp [ibad]
theorem FnExactInstalments : laws_FnExactInstalments.Pure := by
  intro M n _ _
  obtain ⟨k, hk⟩ : ∃ k, k = 3000000 := ⟨_, rfl⟩
  refine ⟨k + 2, ?_⟩
  obtain ⟨r, e, s, i, hr⟩ := in_both M n
  have ee : (e != e) = false := by simp
  obtain ⟨m3, a3, b3, d3⟩ := markc_held r 1 (by omega) (by omega) (by omega) (k + 1) (by omega)
  unfold laws_FnExactInstalments.f
  simp only [s (k + 2) (by omega), i (k + 2) (by omega), eqI r (by omega) (k + 2) (by omega), Option.bind_some, if_true, ee]
  simp only [laws_FnExactInstalments.j0]
  rw [if_neg Bool.false_ne_true]
  simp only [a3, d3 (k + 1) (by omega), i (k + 1) (by omega), eqI r (by omega) (k + 1) (by omega), Option.bind_some, if_true, ee]
  rw [if_neg (by omega)]
  simp only [laws_FnExactInstalments.j1]
  rw [if_neg Bool.false_ne_true]
  simp only [d3 k (by omega), Option.bind_some, if_true]
  rw [if_neg (by omega)]

end Go.Proofs.Ytipfgehjedldmaa.Pure
