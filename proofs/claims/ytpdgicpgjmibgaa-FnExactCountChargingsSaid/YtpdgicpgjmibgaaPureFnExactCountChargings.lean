/- CountChargings of the program returns what the reference's returns, for every tank, level, demands and limit. No condition. -/
import Derived.Test.YtpdgicpgjmibgaaPFnExactCountChargingsx6
namespace Go.Proofs.Ytpdgicpgjmibgaa.Pure
open Go.RowKit Go.Proofs.Ytpdgicpgjmibgaa.PFnExactCountChargings Go.Proofs.YtpdgicpgjmibgaaW.PrintWords Go.Proofs.YtpdgicpgjmibgaaW.PrintLast Go.Proofs.YtpdgicpgjmibgaaW.PrintMore
set_option linter.unusedVariables false
set_option linter.unusedSimpArgs false

theorem impl_in (n lo hi : Int) : impl_within.f n lo hi = some (decide (lo ≤ n ∧ n ≤ hi)) := by unfold impl_within.f; split <;> simp <;> omega

theorem spec_in (n lo hi : Int) : spec_l00In.f n lo hi = some (decide (lo ≤ n ∧ n ≤ hi)) := by unfold spec_l00In.f; split <;> simp <;> omega

theorem wrap_id {x : Int} (h1 : -9223372036854775808 ≤ x) (h2 : x ≤ 9223372036854775807) : wrap64 x = x := by unfold wrap64; omega
theorem wf_i64 {x : Int} (h : (Lit.int .i64 x).wf = true) : -9223372036854775808 ≤ x ∧ x ≤ 9223372036854775807 := by
  simp [Lit.wf, IntKind.min, IntKind.max, IntKind.bits, IntKind.signed] at h; omega
theorem mul_bounds {a b A B : Int} (h0 : 0 ≤ a) (hA : a ≤ A) (h1 : -B ≤ b) (h2 : b ≤ B) (hB : 0 ≤ B) : -(A * B) ≤ a * b ∧ a * b ≤ A * B := by
  have e1 := Int.mul_le_mul_of_nonneg_left h2 h0
  have e2 := Int.mul_le_mul_of_nonneg_right hA hB
  have e3 := Int.mul_le_mul_of_nonneg_left h1 h0
  have e4 : a * -B = -(a * B) := Int.mul_neg a B
  omega
theorem mul_nonneg' {a b : Int} (h0 : 0 ≤ a) (h1 : 0 ≤ b) : 0 ≤ a * b := Int.mul_nonneg h0 h1
theorem next_nat {j n : Nat} (h : j < n) (hn : n ≤ 4611686018427387904) : wrap64 ((j : Int) + 1) = ((j + 1 : Nat) : Int) := by
  rw [wrap_id (by omega) (by omega)]; omega
theorem rd_nat (l : List Int) (j : Nat) : rd l (j : Int) = l.getD j 0 := by unfold rd; simp
theorem ifp {α : Type} {c : Prop} [Decidable c] {a b : α} (h : c) : (if c then a else b) = a := if_pos h
theorem ifn {α : Type} {c : Prop} [Decidable c] {a b : α} (h : ¬ c) : (if c then a else b) = b := if_neg h
theorem suc_of {k d : Nat} (h : d < k) : ∃ m, k = m + 1 := ⟨k - 1, by omega⟩
theorem getD_lt {α : Type} {l : List α} {j : Nat} {d : α} (h : j < l.length) : l.getD j d = l[j] := by
  rw [List.getD_eq_getElem?_getD, List.getElem?_eq_getElem h]; rfl
theorem drop_cons {α : Type} (l : List α) {j : Nat} (h : j < l.length) (d : α) : l.drop j = l.getD j d :: l.drop (j + 1) := by
  rw [getD_lt h]; exact List.drop_eq_getElem_cons h
theorem up {α : Type} {g : Nat → Option α} (hm : ∀ k, LeO (g k) (g (k + 1))) {k0 : Nat} {r : α} (h : g k0 = some r) : ∀ k, k0 ≤ k → g k = some r := by
  intro k hk
  induction hk with
  | refl => exact h
  | step _ ih => exact hm _ _ ih

def rdiv (a b : Int) : Int := if a < 0 then -((b - 2 * a) / (2 * b)) else (2 * a + b) / (2 * b)
theorem rdiv_pos_eq {q r b : Int} (hb : 0 < b) (h0 : 0 ≤ r) (h1 : r < b) : (2 * (b * q + r) + b) / (2 * b) = if r ≥ b - r then q + 1 else q := by
  have e : 2 * (b * q + r) + b = (2 * r + b) + (2 * b) * q := by rw [Int.mul_add, ← Int.mul_assoc]; omega
  rw [e, Int.add_mul_ediv_left _ _ (by omega : (2 * b : Int) ≠ 0)]
  split
  · have : (2 * r + b) / (2 * b) = 1 := by
      have e2 : 2 * r + b = (2 * r - b) + (2 * b) * 1 := by omega
      rw [e2, Int.add_mul_ediv_left _ _ (by omega : (2 * b : Int) ≠ 0), Int.ediv_eq_zero_of_lt (by omega) (by omega)]; rfl
    omega
  · have : (2 * r + b) / (2 * b) = 0 := Int.ediv_eq_zero_of_lt (by omega) (by omega)
    omega
theorem abs_def {a : Int} (h : -9223372036854775807 ≤ a) (h2 : a ≤ 9223372036854775807) : impl_abs.f a = some (if a < 0 then -a else a) := by
  unfold impl_abs.f mx
  rw [wrap_id (by omega) (by omega)]
  split <;> split <;> first | rfl | (simp; omega)
theorem impl_div {a b : Int} (hb : 0 < b) (hb2 : b ≤ 2305843009213693951) (ha : -2305843009213693951 ≤ a) (ha2 : a ≤ 2305843009213693951) : impl_divRound.f a b = some (rdiv a b) := by
  unfold impl_divRound.f
  rw [if_neg (by omega)]
  by_cases h : a < 0
  · have hq0 : a.tdiv b = -((-a) / b) := by rw [← Int.tdiv_eq_ediv_of_nonneg (by omega), Int.neg_tdiv, Int.neg_neg]
    have hr0 : a.tmod b = -((-a) % b) := by rw [← Int.tmod_eq_emod_of_nonneg (by omega), Int.neg_tmod, Int.neg_neg]
    have hr1 := Int.emod_nonneg (-a) (show b ≠ 0 by omega)
    have hr2 := Int.emod_lt_of_pos (-a) hb
    have hd := Int.mul_ediv_add_emod (-a) b
    have hq1 : 0 ≤ (-a) / b := Int.ediv_nonneg (by omega) (by omega)
    have hq2 : (-a) / b ≤ -a := Int.ediv_le_self _ (by omega)
    rw [hq0, hr0]
    generalize (-a) / b = q at *
    generalize (-a) % b = r at *
    rw [abs_def (by omega) (by omega), abs_def (by omega) (by omega)]
    simp only [Option.bind_some]
    have e1 : (if -r < 0 then - -r else -r) = r := by split <;> omega
    have e2 : (if b < 0 then -b else b) = b := by rw [if_neg (by omega)]
    rw [e1, e2, wrap_id (x := b - r) (by omega) (by omega)]
    have hk : rdiv a b = -(if r ≥ b - r then q + 1 else q) := by
      unfold rdiv
      rw [if_pos h, ← rdiv_pos_eq (q := q) hb hr1 hr2, hd]
      congr 2; omega
    rw [hk]
    have w1 : wrap64 (-q) = -q := wrap_id (by omega) (by omega)
    rw [w1]
    by_cases hc : r ≥ b - r
    · rw [if_pos hc, if_pos hc, if_neg (by simp; omega), wrap_id (by omega) (by omega)]
      congr 1; omega
    · rw [if_neg hc, if_neg hc]
  · have hq0 : a.tdiv b = a / b := Int.tdiv_eq_ediv_of_nonneg (by omega)
    have hr0 : a.tmod b = a % b := Int.tmod_eq_emod_of_nonneg (by omega)
    have hr1 := Int.emod_nonneg a (show b ≠ 0 by omega)
    have hr2 := Int.emod_lt_of_pos a hb
    have hd := Int.mul_ediv_add_emod a b
    have hq1 : 0 ≤ a / b := Int.ediv_nonneg (by omega) (by omega)
    have hq2 : a / b ≤ a := Int.ediv_le_self _ (by omega)
    rw [hq0, hr0]
    generalize a / b = q at *
    generalize a % b = r at *
    rw [abs_def (by omega) (by omega), abs_def (by omega) (by omega)]
    simp only [Option.bind_some]
    have e1 : (if r < 0 then - r else r) = r := by rw [if_neg (by omega)]
    have e2 : (if b < 0 then -b else b) = b := by rw [if_neg (by omega)]
    rw [e1, e2, wrap_id (x := b - r) (by omega) (by omega)]
    have hk : rdiv a b = (if r ≥ b - r then q + 1 else q) := by
      unfold rdiv
      rw [if_neg h, ← rdiv_pos_eq (q := q) hb hr1 hr2, hd]
    rw [hk]
    have w1 : wrap64 q = q := wrap_id (by omega) (by omega)
    rw [w1]
    by_cases hc : r ≥ b - r
    · rw [if_pos hc, if_pos hc, if_pos (by simp; omega), wrap_id (by omega) (by omega)]
    · rw [if_neg hc, if_neg hc]
theorem rdiv_nonneg {a b : Int} (ha : 0 ≤ a) (hb : 0 < b) : 0 ≤ rdiv a b := by
  unfold rdiv; rw [if_neg (by omega)]; exact Int.ediv_nonneg (by omega) (by omega)
theorem rdiv_le {a b : Int} (ha : 0 ≤ a) (hb : 0 < b) : rdiv a b ≤ 2 * a + b := by
  unfold rdiv; rw [if_neg (by omega)]; exact Int.ediv_le_self _ (by omega)

theorem spec_div {a b : Int} (hb : 0 < b) (hb2 : b ≤ 2305843009213693951) (ha : -2305843009213693951 ≤ a) (ha2 : a ≤ 2305843009213693951) : spec_l01Div.f a b = some (rdiv a b) := by
  unfold spec_l01Div.f rdiv
  have w2 : wrap64 (2 * b) = 2 * b := wrap_id (by omega) (by omega)
  have h2b : (0 : Int) < 2 * b := by omega
  rw [if_neg (by omega), w2]
  by_cases h : a < 0
  · rw [if_pos h, if_pos h, if_neg (by omega)]
    have e1 : wrap64 (2 * a) = 2 * a := wrap_id (by omega) (by omega)
    have e2 : wrap64 (b - 2 * a) = b - 2 * a := wrap_id (by omega) (by omega)
    rw [e1, e2, Int.tdiv_eq_ediv_of_nonneg (by omega)]
    have b1 : 0 ≤ (b - 2 * a) / (2 * b) := Int.ediv_nonneg (by omega) (by omega)
    have b2 : (b - 2 * a) / (2 * b) ≤ b - 2 * a := Int.ediv_le_self _ (by omega)
    have e3 : wrap64 ((b - 2 * a) / (2 * b)) = (b - 2 * a) / (2 * b) := wrap_id (by omega) (by omega)
    have e4 : wrap64 (-((b - 2 * a) / (2 * b))) = -((b - 2 * a) / (2 * b)) := wrap_id (by omega) (by omega)
    rw [e3, e4]
  · rw [if_neg h, if_neg h, if_neg (by omega)]
    have e1 : wrap64 (2 * a) = 2 * a := wrap_id (by omega) (by omega)
    have e2 : wrap64 (2 * a + b) = 2 * a + b := wrap_id (by omega) (by omega)
    rw [e1, e2, Int.tdiv_eq_ediv_of_nonneg (by omega)]
    have b1 : 0 ≤ (2 * a + b) / (2 * b) := Int.ediv_nonneg (by omega) (by omega)
    have b2 : (2 * a + b) / (2 * b) ≤ 2 * a + b := Int.ediv_le_self _ (by omega)
    rw [wrap_id (by omega) (by omega)]

def tankOk (a b c : Int) : Bool := decide (1 ≤ a ∧ a ≤ 100) && (decide (1 ≤ b ∧ b ≤ 20) && decide (0 ≤ c ∧ c ≤ 1000))
theorem tankOk_iff {a b c : Int} : tankOk a b c = true ↔ (1 ≤ a ∧ a ≤ 100) ∧ (1 ≤ b ∧ b ≤ 20) ∧ (0 ≤ c ∧ c ≤ 1000) := by unfold tankOk; simp [and_assoc]
theorem spec_tank (a b c : Int) : spec_l14Ok.f [(⟨a, b, c⟩ : S26)] = some (tankOk a b c) := by
  unfold spec_l14Ok.f tankOk
  rw [if_pos (by simp)]
  have e : rd_T26 [(⟨a, b, c⟩ : S26)] 0 = ⟨a, b, c⟩ := rfl
  simp only [e, spec_in, Option.bind_some]
  cases decide (1 ≤ a ∧ a ≤ 100) <;> cases decide (1 ≤ b ∧ b ≤ 20) <;> rfl
theorem impl_tank (a b c : Int) : impl_ValidTank.f a b c = some (tankOk a b c) := by
  unfold impl_ValidTank.f tankOk
  simp only [impl_in, Option.bind_some]
  cases decide (1 ≤ a ∧ a ≤ 100) <;> cases decide (1 ≤ b ∧ b ≤ 20) <;> rfl
def change (x : Int) : Bool := decide (-20 ≤ x ∧ x ≤ 20)
def hour (x : Int) : Bool := decide (0 ≤ x ∧ x ≤ 1000)
def aft (a b c v ch : Int) : Option Int := if (-b ≤ ch ∧ ch ≤ b) ∧ (0 ≤ v - rdiv (v * c) 1000 + ch ∧ v - rdiv (v * c) 1000 + ch ≤ a) then some (v - rdiv (v * c) 1000 + ch) else none
theorem aft_le {a b c v ch x : Int} (h : aft a b c v ch = some x) : 0 ≤ x ∧ x ≤ a := by
  unfold aft at h
  split at h
  · cases h; omega
  · cases h
theorem loss_b {c v : Int} (hc0 : 0 ≤ c) (hc : c ≤ 1000) (hv0 : 0 ≤ v) (hv : v ≤ 100) : (0 ≤ v * c ∧ v * c ≤ 100000) ∧ 0 ≤ rdiv (v * c) 1000 ∧ rdiv (v * c) 1000 ≤ 201000 := by
  have m := mul_bounds (a := v) (b := c) (A := 100) (B := 1000) hv0 hv (by omega) hc (by omega)
  have m0 := mul_nonneg' hv0 hc0
  have r0 := rdiv_nonneg (b := 1000) m0 (by omega)
  have r1 := rdiv_le (b := 1000) m0 (by omega)
  omega
theorem spec_after {a b c v ch : Int} (ht : tankOk a b c = true) (hv0 : 0 ≤ v) (hv : v ≤ a) (hc0 : -1000 ≤ ch) (hc1 : ch ≤ 1000) : spec_l14After.f [(⟨a, b, c⟩ : S26)] v ch = some (match aft a b c v ch with | some x => (x, true) | none => (0, false)) := by
  have t := tankOk_iff.1 ht
  have l := loss_b (c := c) (v := v) (by omega) (by omega) hv0 (by omega)
  unfold spec_l14After.f aft
  rw [if_pos (by simp)]
  have e : rd_T26 [(⟨a, b, c⟩ : S26)] 0 = ⟨a, b, c⟩ := rfl
  simp only [e]
  rw [wrap_id (x := v * c) (by omega) (by omega), spec_div (by omega) (by omega) (by omega) (by omega)]
  simp only [Option.bind_some, spec_in]
  generalize rdiv (v * c) 1000 = z at *
  rw [wrap_id (x := -b) (by omega) (by omega), wrap_id (x := v - z) (by omega) (by omega), wrap_id (x := v - z + ch) (by omega) (by omega)]
  by_cases h1 : -b ≤ ch ∧ ch ≤ b
  · by_cases h2 : 0 ≤ v - z + ch ∧ v - z + ch ≤ a
    · simp [h1, h2]
    · simp [h1, h2]
  · simp [h1]
theorem impl_after {a b c v ch : Int} (ht : tankOk a b c = true) (hv0 : 0 ≤ v) (hv : v ≤ a) (hc0 : -1000 ≤ ch) (hc1 : ch ≤ 1000) : ∃ y, impl_Tank_after.f a b c v ch = some (match aft a b c v ch with | some x => (x, true) | none => (y, false)) := by
  have t := tankOk_iff.1 ht
  have l := loss_b (c := c) (v := v) (by omega) (by omega) hv0 (by omega)
  refine ⟨v - rdiv (v * c) 1000 + ch, ?_⟩
  unfold impl_Tank_after.f aft
  rw [wrap_id (x := v * c) (by omega) (by omega), impl_div (by omega) (by omega) (by omega) (by omega), abs_def (by omega) (by omega)]
  simp only [Option.bind_some, impl_in]
  generalize rdiv (v * c) 1000 = z at *
  rw [wrap_id (x := v - z) (by omega) (by omega), wrap_id (x := v - z + ch) (by omega) (by omega)]
  by_cases h1 : -b ≤ ch ∧ ch ≤ b
  · rw [if_pos (by split <;> omega)]
    by_cases h2 : 0 ≤ v - z + ch ∧ v - z + ch ≤ a
    · simp [h1, h2]
    · simp [h1, h2]
  · rw [if_neg (by split <;> omega)]; simp [h1]
def lev (a b c : Int) : Int → List Int → Option (List Int)
  | _, [] => some []
  | v, ch :: t => match aft a b c v ch with | some x => (lev a b c x t).map (x :: ·) | none => none
theorem lev_len {a b c : Int} : ∀ (l : List Int) (v : Int) (r : List Int), lev a b c v l = some r → r.length = l.length := by
  intro l
  induction l with
  | nil => intro v r h; cases h; rfl
  | cons x t ih =>
    intro v r h
    unfold lev at h
    split at h
    · rename_i y _
      cases h2 : lev a b c y t with
      | none => rw [h2] at h; cases h
      | some s => rw [h2] at h; cases h; simp [ih _ _ h2]
    · cases h
theorem change_le {x : Int} (h : change x = true) : -20 ≤ x ∧ x ≤ 20 := of_decide_eq_true h
theorem all_getD {l : List Int} {p : Int → Bool} (h : l.all p = true) {j : Nat} (hj : j < l.length) : p (l.getD j 0) = true := by
  rw [getD_lt hj]; exact List.all_eq_true.1 h _ (List.getElem_mem hj)

theorem hours_l0 (l : List Int) (hl : l.length ≤ 35184372088832) : ∀ (d j k : Nat), j + d = l.length → d < k → spec_l14Hours.l0 k l (j : Int) = some ((l.drop j).all hour && decide ((l.length : Int) ≤ 24)) := by
  intro d
  induction d with
  | zero =>
    intro j k hj hk
    obtain ⟨k, rfl⟩ := suc_of hk
    simp only [spec_l14Hours.l0]
    rw [if_neg (by omega), List.drop_eq_nil_of_le (by omega)]; rfl
  | succ d ih =>
    intro j k hj hk
    obtain ⟨k, rfl⟩ := suc_of hk
    simp only [spec_l14Hours.l0]
    rw [if_pos (by omega), if_pos (by omega), spec_in, rd_nat, drop_cons l (by omega : j < l.length) 0, List.all_cons, next_nat (n := l.length) (by omega) (by omega)]
    simp only [Option.bind_some]
    have e : decide (0 ≤ l.getD j 0 ∧ l.getD j 0 ≤ 1000) = hour (l.getD j 0) := rfl
    rw [e]
    cases hour (l.getD j 0)
    · rfl
    · rw [if_pos rfl, Bool.true_and, ih (j + 1) k (by omega) (by omega)]
theorem spec_hours (l : List Int) (hl : l.length ≤ 35184372088832) (k : Nat) (hk : l.length < k) : spec_l14Hours.f k l = some (l.all hour && decide ((l.length : Int) ≤ 24)) :=
  hours_l0 l hl l.length 0 k (by omega) hk
theorem impl_ok (a b c v m : Int) (ls es : List Int) : impl_charging_ok.f a b c ls es m v = some (tankOk a b c && (decide (0 ≤ v ∧ v ≤ a) && ((ls.all hour && decide ((ls.length : Int) ≤ 24)) && hour m))) := by
  unfold impl_charging_ok.f impl_allWithin.f
  rw [impl_tank]
  have e : (ls.all fun x => decide (0 ≤ x ∧ x ≤ 1000)) = ls.all hour := rfl
  have e2 : decide (0 ≤ m ∧ m ≤ 1000) = hour m := rfl
  simp only [impl_in, e, e2, Option.bind_some]
  cases tankOk a b c
  · rfl
  · cases decide (0 ≤ v ∧ v ≤ a)
    · rfl
    · by_cases h : (ls.length : Int) ≤ 24
      · rw [if_pos h, decide_eq_true h]; cases ls.all hour <;> rfl
      · rw [if_neg h, decide_eq_false h]; simp
theorem hour_le {x : Int} (h : hour x = true) : 0 ≤ x ∧ x ≤ 1000 := of_decide_eq_true h

theorem toI_l0 (l : List Int) (hl : l.length ≤ 35184372088832) : ∀ (d j k : Nat) (m : List Int), j + d = l.length → d < k → m.length = l.length → (∀ i, i < j → m[i]? = l[i]?) → laws_toInt64S.l0 k l m (j : Int) = some l := by
  intro d
  induction d with
  | zero =>
    intro j k m hj hk hm hp
    obtain ⟨k, rfl⟩ := suc_of hk
    simp only [laws_toInt64S.l0]
    rw [if_neg (by omega)]
    congr 1
    apply List.ext_getElem?
    intro i
    by_cases hi : i < j
    · exact hp i hi
    · rw [List.getElem?_eq_none (by omega), List.getElem?_eq_none (by omega)]
  | succ d ih =>
    intro j k m hj hk hm hp
    obtain ⟨k, rfl⟩ := suc_of hk
    simp only [laws_toInt64S.l0]
    rw [if_pos (by omega), if_pos (by omega), if_pos (by omega), next_nat (n := l.length) (by omega) (by omega)]
    refine ih (j + 1) k _ (by omega) (by omega) (by simpa using hm) (fun i hi => ?_)
    rw [Int.toNat_natCast, rd_nat, List.getElem?_set]
    by_cases e : j = i
    · subst e
      rw [if_pos rfl, if_pos (by omega), getD_lt (by omega), List.getElem?_eq_getElem (by omega)]
    · rw [if_neg e]; exact hp i (by omega)
theorem toI (l : List Int) (hl : l.length ≤ 35184372088832) (k : Nat) (hk : l.length < k) : laws_toInt64S.f k l = some l := by
  unfold laws_toInt64S.f
  rw [if_pos (by omega), if_pos (by omega)]
  exact toI_l0 l hl l.length 0 k _ (by omega) hk (by simp) (fun i hi => absurd hi (by omega))

theorem eqI_l0 (l : List Int) (hl : l.length ≤ 35184372088832) : ∀ (d j k : Nat), j + d = l.length → d < k → laws_eqInt64S.l0 k l l (j : Int) = some true := by
  intro d
  induction d with
  | zero =>
    intro j k hj hk
    obtain ⟨k, rfl⟩ := suc_of hk
    simp only [laws_eqInt64S.l0]
    rw [if_neg (by omega)]
  | succ d ih =>
    intro j k hj hk
    obtain ⟨k, rfl⟩ := suc_of hk
    simp only [laws_eqInt64S.l0]
    rw [if_pos (by omega), if_pos (by omega), if_pos (by omega), if_pos trivial, next_nat (n := l.length) (by omega) (by omega)]
    exact ih (j + 1) k (by omega) (by omega)
theorem eqI (l : List Int) (hl : l.length ≤ 35184372088832) (k : Nat) (hk : l.length < k) : laws_eqInt64S.f k l l = some true := by
  unfold laws_eqInt64S.f
  rw [if_pos rfl]
  exact eqI_l0 l hl l.length 0 k (by omega) hk

theorem rl_nat (l : List (List Int)) (j : Nat) : rd_L2 l (j : Int) = l.getD j [] := by unfold rd_L2; simp
def stp (a b c L most v ch : Int) : Option Int := match aft a b c v ch with
  | some x => if 0 ≤ L + ch ∧ L + ch ≤ most then some x else none
  | none => none
theorem stp_le {a b c L most v ch x : Int} (h : stp a b c L most v ch = some x) : 0 ≤ x ∧ x ≤ a := by
  unfold stp at h
  split at h
  · rename_i y e
    split at h
    · cases h; exact aft_le e
    · cases h
  · cases h
def wp (a b c L most v : Int) (w : Int → Nat) : Nat → Int → Nat
  | 0, _ => 0
  | n + 1, ch => (match stp a b c L most v ch with | some x => w x | none => 0) + wp a b c L most v w n (ch + 1)
def ways (a b c most : Int) : List Int → Int → Nat
  | [], _ => 1
  | L :: t, v => wp a b c L most v (ways a b c most t) (2 * b + 1).toNat (-b)
def gup (G : Int → Nat) (x : Int) (y : Nat) : Int → Nat := fun z => if z = x then G z + y else G z
theorem gup_zero (G : Int → Nat) (x : Int) : gup G x 0 = G := by funext z; unfold gup; split <;> rfl
def ginn (a b c L most v : Int) (y : Nat) : Nat → Int → (Int → Nat) → Int → Nat
  | 0, _, G => G
  | n + 1, ch, G => ginn a b c L most v y n (ch + 1) (match stp a b c L most v ch with | some x => gup G x y | none => G)
theorem ginn_zero (a b c L most v : Int) : ∀ (n : Nat) (ch : Int) (G : Int → Nat), ginn a b c L most v 0 n ch G = G := by
  intro n
  induction n with
  | zero => intro ch G; rfl
  | succ n ih => intro ch G; unfold ginn; rw [ih]; split <;> first | rw [gup_zero] | rfl
def glvl (a b c L most : Int) (F : Int → Nat) : Nat → Int → (Int → Nat) → Int → Nat
  | 0, _, G => G
  | n + 1, v, G => glvl a b c L most F n (v + 1) (ginn a b c L most v (F v) (2 * b + 1).toNat (-b) G)
def ghrs (a b c most : Int) : List Int → (Int → Nat) → Int → Nat
  | [], F => F
  | L :: t, F => ghrs a b c most t (glvl a b c L most F (a + 1).toNat 0 (fun _ => 0))
def S (G w : Int → Nat) : Nat → Int → Nat
  | 0, _ => 0
  | n + 1, v => G v * w v + S G w n (v + 1)
theorem S_gup_out (G w : Int → Nat) (x : Int) (y : Nat) : ∀ (n : Nat) (v : Int), x < v → S (gup G x y) w n v = S G w n v := by
  intro n
  induction n with
  | zero => intro v _; rfl
  | succ n ih => intro v h; unfold S; rw [ih (v + 1) (by omega), show gup G x y v = G v from if_neg (by omega)]
theorem S_gup (G w : Int → Nat) (x : Int) (y : Nat) : ∀ (n : Nat) (v : Int), v ≤ x → x < v + (n : Int) → S (gup G x y) w n v = S G w n v + y * w x := by
  intro n
  induction n with
  | zero => intro v h1 h2; omega
  | succ n ih =>
    intro v h1 h2
    unfold S
    by_cases e : x = v
    · subst e
      rw [S_gup_out G w x y n (x + 1) (by omega), show gup G x y x = G x + y from if_pos rfl, Nat.add_mul]; omega
    · rw [ih (v + 1) (by omega) (by omega), show gup G x y v = G v from if_neg (by omega)]; omega
theorem S_none (w : Int → Nat) : ∀ (n : Nat) (v : Int), S (fun _ => 0) w n v = 0 := by
  intro n
  induction n with
  | zero => intro v; rfl
  | succ n ih => intro v; unfold S; rw [ih]; simp
theorem S_ginn (a b c L most v : Int) (y : Nat) (w : Int → Nat) : ∀ (n : Nat) (ch : Int) (G : Int → Nat), S (ginn a b c L most v y n ch G) w (a + 1).toNat 0 = S G w (a + 1).toNat 0 + y * wp a b c L most v w n ch := by
  intro n
  induction n with
  | zero => intro ch G; unfold ginn wp; simp
  | succ n ih =>
    intro ch G
    unfold ginn wp
    rw [ih]
    cases h : stp a b c L most v ch with
    | none => simp
    | some x =>
      have hx := stp_le h
      simp only []
      rw [S_gup G w x y _ 0 (by omega) (by omega), Nat.mul_add]; omega
theorem S_glvl (a b c L most : Int) (F w : Int → Nat) : ∀ (n : Nat) (v : Int) (G : Int → Nat), S (glvl a b c L most F n v G) w (a + 1).toNat 0 = S G w (a + 1).toNat 0 + S F (fun z => wp a b c L most z w (2 * b + 1).toNat (-b)) n v := by
  intro n
  induction n with
  | zero => intro v G; unfold glvl; rfl
  | succ n ih =>
    intro v G
    unfold glvl
    rw [ih, S_ginn]
    simp only [S]
    omega
theorem S_ghrs (a b c most : Int) : ∀ (l : List Int) (F : Int → Nat), S (ghrs a b c most l F) (fun _ => 1) (a + 1).toNat 0 = S F (ways a b c most l) (a + 1).toNat 0 := by
  intro l
  induction l with
  | nil => intro F; rfl
  | cons L t ih =>
    intro F
    unfold ghrs
    rw [ih, S_glvl, S_none, Nat.zero_add]
    rfl
def cap (x K : Nat) : Int := ((min x K : Nat) : Int)
theorem cap_b (x K : Nat) : 0 ≤ cap x K ∧ cap x K ≤ (K : Int) := by unfold cap; omega
theorem cap_zero (K : Nat) : cap 0 K = 0 := by unfold cap; omega
theorem cap_pos {x : Nat} (h : 0 < x) : 0 < cap x 20000 := by unfold cap; omega
theorem cap_one : cap 1 20001 = 1 := rfl
theorem cap_mn (x y : Nat) : mn (cap x 20001 + cap y 20001) 20001 = cap (x + y) 20001 := by unfold mn cap; split <;> omega
theorem cap_fin (x : Nat) : mn (cap x 20001) 20000 = cap x 20000 := by unfold mn cap; split <;> omega
theorem getD_setI {R : List Int} {i j : Nat} {x : Int} (hi : i < R.length) : (R.set i x).getD j 0 = if i = j then x else R.getD j 0 := by
  by_cases e : i = j
  · subst e; rw [if_pos rfl, getD_lt (by rw [List.length_set]; exact hi), List.getElem_set_self]
  · rw [if_neg e, List.getD_eq_getElem?_getD, List.getD_eq_getElem?_getD, List.getElem?_set_ne e]
/-- A table that holds counts, each cut off at K. -/
def Tb (N K : Nat) (T : List Int) (G : Int → Nat) : Prop := T.length = N ∧ ∀ j : Nat, j < N → T.getD j 0 = (cap (G (j : Int)) K)
theorem Tb_rd {N K : Nat} {T : List Int} {G : Int → Nat} (h : Tb N K T G) {v : Int} (h0 : 0 ≤ v) (h1 : v < (N : Int)) : rd T v = (cap (G v) K) := by
  have := h.2 v.toNat (by omega)
  rw [show ((v.toNat : Nat) : Int) = v by omega] at this
  exact this
theorem Tb_set {N K : Nat} {T : List Int} {G : Int → Nat} (h : Tb N K T G) {x : Int} (h0 : 0 ≤ x) (h1 : x < (N : Int)) (y : Nat) : Tb N K (T.set x.toNat (cap (G x + y) K)) (gup G x y) := by
  refine ⟨by rw [List.length_set]; exact h.1, fun j hj => ?_⟩
  have hl := h.1
  rw [getD_setI (by omega)]
  unfold gup
  by_cases e : x.toNat = j
  · rw [if_pos e, if_pos (by omega), show (j : Int) = x by omega]
  · rw [if_neg e, if_neg (by omega), ← h.2 j hj]
theorem Tb_none (N K : Nat) : Tb N K (List.replicate N 0) (fun _ => 0) := ⟨by simp, fun j hj => by rw [getD_lt (by simpa using hj), cap_zero]; simp⟩
theorem spec_min (x y : Int) : spec_l00Min.f x y = some (if x < y then x else y) := by unfold spec_l00Min.f; split <;> rfl
theorem min_cap (x y : Nat) : (if (20000 : Int) < (cap x 20000) + (cap y 20000) then (20000 : Int) else (cap x 20000) + (cap y 20000)) = (cap (x + y) 20000) := by unfold cap; split <;> omega
theorem spec_inn {a b c : Int} (ht : tankOk a b c = true) (cs : List Int) (most : Int) (hh : cs.all hour = true) (F : Int → Nat) (x9 : List Int) (h9 : Tb (a + 1).toNat 20000 x9 F) (h : Nat) (hc : h < cs.length) (v : Int) (hv0 : 0 ≤ v) (hv1 : v ≤ a) (hr : 0 < F v) (k : Nat) (r : Int × Int) :
    ∀ (n : Nat) (ch : Int) (m : List Int) (G : Int → Nat), Tb (a + 1).toNat 20000 m G → -b ≤ ch → ch + (n : Int) = b + 1 →
    (∀ m', Tb (a + 1).toNat 20000 m' (ginn a b c (cs.getD h 0) most v (F v) n ch G) → spec_CountChargings.l1 k cs most x9 (h : Int) m' (wrap64 (v + 1)) a b c = some r) →
    spec_CountChargings.l2 (k + 2 * n + 2) cs most x9 (h : Int) m v ch a b c = some r := by
  have t := tankOk_iff.1 ht
  have h9l := h9.1
  intro n
  induction n with
  | zero =>
    intro ch m G hm h0 h1 hyp
    simp only [spec_CountChargings.l2, spec_CountChargings.j3]
    rw [if_neg (by omega), if_neg Bool.false_ne_true]
    exact hyp m hm
  | succ n ih =>
    intro ch m G hm h0 h1 hyp
    have hb := hour_le (all_getD hh hc)
    have hml := hm.1
    obtain ⟨K, hK⟩ : ∃ K, K = k + 2 * n + 2 := ⟨_, rfl⟩
    rw [show k + 2 * (n + 1) + 2 = K + 1 + 1 by omega]
    simp only [← hK] at ih
    simp only [spec_CountChargings.l2, spec_CountChargings.j3]
    have ev := Tb_rd h9 hv0 (show v < (((a + 1).toNat : Nat) : Int) by omega)
    have er : decide (rd x9 v > 0) = true := by rw [ev]; exact decide_eq_true (cap_pos hr)
    have b1 := cap_b (F v) 20000
    rw [if_pos (by omega), if_pos (by omega), if_pos (by omega), er, if_pos rfl, spec_after ht hv0 hv1 (by omega) (by omega), wrap_id (x := ch + 1) (by omega) (by omega)]
    unfold ginn at hyp
    simp only [Option.bind_some]
    cases ha : aft a b c v ch with
    | none =>
      have hs : stp a b c (cs.getD h 0) most v ch = none := by unfold stp; rw [ha]
      rw [hs] at hyp
      exact ih (ch + 1) m G hm (by omega) (by omega) hyp
    | some x =>
      have hx := aft_le ha
      simp only [if_true]
      rw [if_pos (by omega), if_pos (by omega), rd_nat, wrap_id (x := cs.getD h 0 + ch) (by omega) (by omega), spec_in]
      simp only [Option.bind_some]
      by_cases hf : 0 ≤ cs.getD h 0 + ch ∧ cs.getD h 0 + ch ≤ most
      · have hs : stp a b c (cs.getD h 0) most v ch = some x := by unfold stp; rw [ha]; exact if_pos hf
        rw [hs] at hyp
        have ex := Tb_rd hm hx.1 (show x < (((a + 1).toNat : Nat) : Int) by omega)
        have b2 := cap_b (G x) 20000
        rw [decide_eq_true hf, if_pos rfl, if_pos (by omega), if_pos (by omega), if_pos (by omega), if_pos (by omega), ex, ev, wrap_id (by omega) (by omega), spec_min, min_cap, Option.bind_some]
        exact ih (ch + 1) _ _ (Tb_set hm hx.1 (by omega) (F v)) (by omega) (by omega) hyp
      · have hs : stp a b c (cs.getD h 0) most v ch = none := by unfold stp; rw [ha]; exact if_neg hf
        rw [hs] at hyp
        rw [decide_eq_false hf, if_neg Bool.false_ne_true]
        exact ih (ch + 1) m G hm (by omega) (by omega) hyp
theorem spec_lvl {a b c : Int} (ht : tankOk a b c = true) (cs : List Int) (most : Int) (hh : cs.all hour = true) (F : Int → Nat) (x9 : List Int) (h9 : Tb (a + 1).toNat 20000 x9 F) (h : Nat) (hc : h < cs.length) (k : Nat) (r : Int × Int) :
    ∀ (n : Nat) (v : Int) (m : List Int) (G : Int → Nat), Tb (a + 1).toNat 20000 m G → 0 ≤ v → v + (n : Int) = a + 1 →
    (∀ m', Tb (a + 1).toNat 20000 m' (glvl a b c (cs.getD h 0) most F n v G) → spec_CountChargings.l0 k cs most m' (wrap64 ((h : Int) + 1)) a b c = some r) →
    spec_CountChargings.l1 (k + 100 * n + 1) cs most x9 (h : Int) m v a b c = some r := by
  have t := tankOk_iff.1 ht
  have h9l := h9.1
  intro n
  induction n with
  | zero =>
    intro v m G hm h0 h1 hyp
    rw [show k + 100 * 0 + 1 = k + 1 by omega]
    simp only [spec_CountChargings.l1]
    rw [if_neg (by omega)]
    exact hyp m hm
  | succ n ih =>
    intro v m G hm h0 h1 hyp
    obtain ⟨X, hX⟩ : ∃ X, X = k + 100 * n + 98 := ⟨_, rfl⟩
    rw [show k + 100 * (n + 1) + 1 = X + 1 + 1 + 1 by omega]
    simp only [spec_CountChargings.l1]
    rw [if_pos (by omega), wrap_id (x := -b) (by omega) (by omega)]
    unfold glvl at hyp
    by_cases hr : 0 < F v
    · have go2 := spec_inn ht cs most hh F x9 h9 h hc v h0 (by omega) hr (k + 100 * n + 1) r (2 * b + 1).toNat (-b) m G hm (by omega) (by omega) (fun m' hm' => by
        rw [wrap_id (x := v + 1) (by omega) (by omega)]
        exact ih (v + 1) m' _ hm' (by omega) (by omega) hyp)
      exact up (g := fun k => spec_CountChargings.l2 k cs most x9 (h : Int) m v (-b) a b c) (fun k => (spec_CountChargings.mono_l k).2.2.1 _ _ _ _ _ _ _ _ _ _) go2 _ (by omega)
    · have hz : F v = 0 := by omega
      rw [hz, ginn_zero] at hyp
      have go := ih (v + 1) m G hm (by omega) (by omega) hyp
      simp only [spec_CountChargings.l2, spec_CountChargings.j3]
      have ev := Tb_rd h9 h0 (show v < (((a + 1).toNat : Nat) : Int) by omega)
      have er : decide (rd x9 v > 0) = false := by rw [ev, hz, cap_zero]; exact decide_eq_false (by omega)
      rw [if_pos (by omega), if_pos (by omega), if_pos (by omega), er, if_neg Bool.false_ne_true, wrap_id (x := v + 1) (by omega) (by omega)]
      exact up (g := fun k => spec_CountChargings.l1 k cs most x9 (h : Int) m (v + 1) a b c) (fun k => (spec_CountChargings.mono_l k).2.1 _ _ _ _ _ _ _ _ _) go _ (by omega)
theorem spec_sum (N : Nat) (hN : N ≤ 1000) (T : List Int) (G : Int → Nat) (hT : Tb N 20000 T G) : ∀ (d j acc k : Nat), j + d = N → d < k → spec_CountChargings.l3 k T (cap acc 20000) (j : Int) = some (cap (acc + S G (fun _ => 1) d (j : Int)) 20000, 0) := by
  have hl := hT.1
  intro d
  induction d with
  | zero =>
    intro j acc k hj hk
    obtain ⟨k, rfl⟩ := suc_of hk
    simp only [spec_CountChargings.l3, S]
    rw [if_neg (by omega), Nat.add_zero]
  | succ d ih =>
    intro j acc k hj hk
    obtain ⟨k, rfl⟩ := suc_of hk
    have ev := Tb_rd hT (show (0 : Int) ≤ (j : Int) by omega) (by omega)
    have b1 := cap_b acc 20000
    have b2 := cap_b (G (j : Int)) 20000
    simp only [spec_CountChargings.l3, S]
    rw [if_pos (by omega), if_pos (by omega), ev, wrap_id (by omega) (by omega), spec_min, min_cap, Option.bind_some, next_nat (n := N) (by omega) (by omega), ih (j + 1) _ k (by omega) (by omega), Nat.mul_one, Nat.add_assoc]
    rfl
theorem spec_hrs {a b c : Int} (ht : tankOk a b c = true) (cs : List Int) (hl : cs.length ≤ 24) (most : Int) (hh : cs.all hour = true) : ∀ (d h : Nat) (x9 : List Int) (F : Int → Nat), h + d = cs.length → Tb (a + 1).toNat 20000 x9 F →
    spec_CountChargings.l0 (1000 + 11000 * d + 1) cs most x9 (h : Int) a b c = some (cap (S (ghrs a b c most (cs.drop h) F) (fun _ => 1) (a + 1).toNat 0) 20000, 0) := by
  have t := tankOk_iff.1 ht
  intro d
  induction d with
  | zero =>
    intro h x9 F hd h9
    have hs := spec_sum (a + 1).toNat (by omega) x9 F h9 (a + 1).toNat 0 0 1000 (by omega) (by omega)
    simp only [spec_CountChargings.l0]
    rw [if_neg (by omega), List.drop_eq_nil_of_le (by omega)]
    rw [Nat.zero_add] at hs
    exact hs
  | succ d ih =>
    intro h x9 F hd h9
    obtain ⟨X, hX⟩ : ∃ X, X = 1000 + 11000 * d + 11000 := ⟨_, rfl⟩
    rw [show 1000 + 11000 * (d + 1) + 1 = X + 1 by omega, drop_cons cs (by omega : h < cs.length) 0]
    simp only [spec_CountChargings.l0, ghrs]
    rw [if_pos (by omega), wrap_id (x := a + 1) (by omega) (by omega), if_pos (by omega), if_pos (by omega)]
    have go2 := spec_lvl ht cs most hh F x9 h9 h (by omega) (1000 + 11000 * d + 1) _ (a + 1).toNat 0 _ _ (Tb_none _ _) (by omega) (by omega) (fun m' hm' => by
      rw [next_nat (n := cs.length) (by omega) (by omega)]
      exact ih (h + 1) m' _ (by omega) hm')
    exact up (g := fun k => spec_CountChargings.l1 k cs most x9 (h : Int) _ 0 a b c) (fun k => (spec_CountChargings.mono_l k).2.1 _ _ _ _ _ _ _ _ _) go2 _ (by omega)
theorem set_get {l : List Int} {j : Nat} {x : Int} (h : l.getD j 0 = x) (hj : j < l.length) : l.set j x = l := by
  rw [← h, getD_lt hj, List.set_getElem_self]
theorem getD_set {X : List (List Int)} {i j : Nat} {R : List Int} (hi : i < X.length) : (X.set i R).getD j [] = if i = j then R else X.getD j [] := by
  by_cases e : i = j
  · subst e; rw [if_pos rfl, getD_lt (by rw [List.length_set]; exact hi), List.getElem_set_self]
  · rw [if_neg e, List.getD_eq_getElem?_getD, List.getD_eq_getElem?_getD, List.getElem?_set_ne e]
theorem impl_inn {a b c : Int} (ht : tankOk a b c = true) (cs es : List Int) (most : Int) (hh : cs.all hour = true) (w : Int → Nat) (Q : List Int) (hQ : Tb (a + 1).toNat 20001 Q w) (h : Nat) (hc : h < cs.length) (hc24 : cs.length ≤ 24) (v : Nat) (hv1 : (v : Int) ≤ a) (N : Int) (R : List Int) (hR : R.length = (a + 1).toNat) (k : Nat) (Good : List (List Int) → Prop) :
    ∀ (n : Nat) (ch : Int) (X : List (List Int)) (acc : Nat), X.length = cs.length + 1 → X.getD (h + 1) [] = Q → X.getD h [] = R.set v (cap acc 20001) → -b ≤ ch → ch + (n : Int) = b + 1 →
    (∀ X', X'.length = cs.length + 1 → X'.getD (h + 1) [] = Q → X'.getD h [] = R.set v (cap (acc + wp a b c (cs.getD h 0) most v w n ch) 20001) → ∃ r, impl_charging_counts.l2 k X' (h : Int) N (wrap64 ((v : Int) + 1)) a b c cs es most = some r ∧ Good r) →
    ∃ r, impl_charging_counts.l3 (k + n + 1) X (h : Int) (v : Int) ch N (v : Int) a b c cs es most = some r ∧ Good r := by
  have t := tankOk_iff.1 ht
  have hQl := hQ.1
  intro n
  induction n with
  | zero =>
    intro ch X acc hX hX1 hX0 h0 h1 hyp
    rw [show k + 0 + 1 = k + 1 by omega]
    simp only [impl_charging_counts.l3]
    rw [if_neg (by omega)]
    unfold wp at hyp
    exact hyp X hX hX1 (by rw [Nat.add_zero]; exact hX0)
  | succ n ih =>
    intro ch X acc hX hX1 hX0 h0 h1 hyp
    have hb := hour_le (all_getD hh hc)
    obtain ⟨K, hK⟩ : ∃ K, K = k + n + 1 := ⟨_, rfl⟩
    rw [show k + (n + 1) + 1 = K + 1 by omega]
    simp only [← hK] at ih
    obtain ⟨y, hy⟩ := impl_after (ch := ch) ht (show (0 : Int) ≤ (v : Int) by omega) hv1 (by omega) (by omega)
    simp only [impl_charging_counts.l3]
    unfold impl_charging_after.f
    rw [if_pos (by omega), hy, wrap_id (x := ch + 1) (by omega) (by omega)]
    unfold wp at hyp
    simp only [Option.bind_some]
    cases ha : aft a b c v ch with
    | none =>
      have hs : stp a b c (cs.getD h 0) most v ch = none := by unfold stp; rw [ha]
      rw [hs] at hyp
      simp only [Nat.zero_add] at hyp
      simpa using ih (ch + 1) X acc hX hX1 hX0 (by omega) (by omega) hyp
    | some x =>
      have hx := aft_le ha
      simp only [if_true]
      rw [if_pos (by omega), if_pos (by omega), rd_nat, wrap_id (x := cs.getD h 0 + ch) (by omega) (by omega), impl_in]
      simp only [Option.bind_some]
      by_cases hf : 0 ≤ cs.getD h 0 + ch ∧ cs.getD h 0 + ch ≤ most
      · have hs : stp a b c (cs.getD h 0) most v ch = some x := by unfold stp; rw [ha]; exact if_pos hf
        rw [hs] at hyp
        have ex := Tb_rd hQ hx.1 (show x < (((a + 1).toNat : Nat) : Int) by omega)
        have b1 := cap_b acc 20001
        have b2 := cap_b (w x) 20001
        have er : rd (R.set v (cap acc 20001)) (v : Int) = (cap acc 20001) := by
          rw [rd_nat, getD_setI (by omega), if_pos rfl]
        rw [decide_eq_true hf, if_pos rfl, if_pos (by omega), if_pos (by omega), if_pos (by omega), rl_nat, hX0, if_pos (by rw [List.length_set]; omega), next_nat (n := cs.length) (by omega) (by omega), if_pos (by omega), if_pos (by omega), rl_nat, hX1, if_pos (by omega), if_pos (by omega), er, ex, wrap_id (by omega) (by omega), Int.toNat_natCast, Int.toNat_natCast, List.set_set]
        rw [cap_mn]
        refine ih (ch + 1) _ (acc + w x) (by rw [List.length_set]; exact hX) (by rw [getD_set (by omega), if_neg (by omega)]; exact hX1) (by rw [getD_set (by omega), if_pos rfl]) (by omega) (by omega) (fun X' a1 a2 a3 => hyp X' a1 a2 (by rw [a3, Nat.add_assoc]))
      · have hs : stp a b c (cs.getD h 0) most v ch = none := by unfold stp; rw [ha]; exact if_neg hf
        rw [hs] at hyp
        simp only [Nat.zero_add] at hyp
        rw [decide_eq_false hf, if_neg Bool.false_ne_true]
        exact ih (ch + 1) X acc hX hX1 hX0 (by omega) (by omega) hyp
theorem impl_lvl {a b c : Int} (ht : tankOk a b c = true) (cs es : List Int) (most : Int) (hh : cs.all hour = true) (w : Int → Nat) (Q : List Int) (hQ : Tb (a + 1).toNat 20001 Q w) (h : Nat) (hc : h < cs.length) (hc24 : cs.length ≤ 24) (k : Nat) (Good : List (List Int) → Prop) :
    ∀ (n v : Nat) (X : List (List Int)), X.length = cs.length + 1 → X.getD (h + 1) [] = Q → (X.getD h []).length = (a + 1).toNat → (∀ j, j < v → (X.getD h []).getD j 0 = cap (wp a b c (cs.getD h 0) most (j : Int) w (2 * b + 1).toNat (-b)) 20001) → (∀ j, v ≤ j → j < (a + 1).toNat → (X.getD h []).getD j 0 = 0) → v + n = (a + 1).toNat →
    (∀ X', X'.length = cs.length + 1 → Tb (a + 1).toNat 20001 (X'.getD h []) (fun z => wp a b c (cs.getD h 0) most z w (2 * b + 1).toNat (-b)) → ∃ r, impl_charging_counts.l1 k X' (wrap64 ((h : Int) - 1)) a b c cs es most = some r ∧ Good r) →
    ∃ r, impl_charging_counts.l2 (k + 100 * n + 1) X (h : Int) (((a + 1).toNat : Nat) : Int) (v : Int) a b c cs es most = some r ∧ Good r := by
  have t := tankOk_iff.1 ht
  intro n
  induction n with
  | zero =>
    intro v X hX hX1 hXl hA hB hv hyp
    rw [show k + 100 * 0 + 1 = k + 1 by omega]
    simp only [impl_charging_counts.l2]
    rw [if_neg (by omega)]
    exact hyp X hX ⟨hXl, fun j hj => hA j (by omega)⟩
  | succ n ih =>
    intro v X hX hX1 hXl hA hB hv hyp
    obtain ⟨Y, hY⟩ : ∃ Y, Y = k + 100 * n + 100 := ⟨_, rfl⟩
    rw [show k + 100 * (n + 1) + 1 = Y + 1 by omega]
    simp only [impl_charging_counts.l2]
    rw [if_pos (by omega), wrap_id (x := -b) (by omega) (by omega)]
    obtain ⟨r, r1, r2⟩ := impl_inn ht cs es most hh w Q hQ h hc hc24 v (by omega) (((a + 1).toNat : Nat) : Int) (X.getD h []) hXl (k + 100 * n + 1) Good (2 * b + 1).toNat (-b) X 0 hX hX1 (by rw [cap_zero, set_get (hB v (Nat.le_refl _) (by omega)) (by omega)]) (by omega) (by omega) (fun X' a1 a2 a3 => by
      rw [next_nat (n := (a + 1).toNat) (by omega) (by omega)]
      rw [Nat.zero_add] at a3
      refine ih (v + 1) X' a1 a2 (by rw [a3, List.length_set]; exact hXl) (fun j hj => ?_) (fun j hj hj2 => ?_) (by omega) hyp
      · rw [a3, getD_setI (by omega)]
        by_cases e : v = j
        · subst e; rw [if_pos rfl]
        · rw [if_neg e, ← hA j (by omega)]
      · rw [a3, getD_setI (by omega), if_neg (by omega)]; exact hB j (by omega) hj2)
    exact ⟨r, up (g := fun k => impl_charging_counts.l3 k X (h : Int) (v : Int) (-b) (((a + 1).toNat : Nat) : Int) (v : Int) a b c cs es most) (fun k => (impl_charging_counts.mono_l k).2.2.2 _ _ _ _ _ _ _ _ _ _ _ _) r1 _ (by omega), r2⟩
theorem impl_hrs {a b c : Int} (ht : tankOk a b c = true) (cs es : List Int) (hl : cs.length ≤ 24) (most : Int) (hh : cs.all hour = true) : ∀ (h : Nat) (X : List (List Int)), h ≤ cs.length → X.length = cs.length + 1 → Tb (a + 1).toNat 20001 (X.getD h []) (ways a b c most (cs.drop h)) →
    ∃ r, impl_charging_counts.l1 (11000 * h + 1) X ((h : Int) - 1) a b c cs es most = some r ∧ (r.length = cs.length + 1 ∧ Tb (a + 1).toNat 20001 (r.getD 0 []) (ways a b c most cs)) := by
  have t := tankOk_iff.1 ht
  intro h
  induction h with
  | zero =>
    intro X hd hX hT
    simp only [impl_charging_counts.l1]
    rw [if_neg (by omega)]
    rw [List.drop_zero] at hT
    exact ⟨X, rfl, hX, hT⟩
  | succ h ih =>
    intro X hd hX hT
    obtain ⟨Y, hY⟩ : ∃ Y, Y = 11000 * h + 11000 := ⟨_, rfl⟩
    rw [show 11000 * (h + 1) + 1 = Y + 1 by omega, show ((h + 1 : Nat) : Int) - 1 = (h : Int) by omega]
    have eN : wrap64 (a + 1) = a + 1 := wrap_id (by omega) (by omega)
    simp only [impl_charging_counts.l1, Option.bind_some]
    rw [if_pos (by omega), eN, if_pos (by omega), if_pos (by omega), if_pos (by omega), if_pos (by omega), Int.toNat_natCast, rl_nat, getD_set (by omega), if_pos rfl, List.length_replicate]
    obtain ⟨r, r1, r2⟩ := impl_lvl ht cs es most hh _ (X.getD (h + 1) []) hT h (by omega) hl (11000 * h + 1) (fun r => r.length = cs.length + 1 ∧ Tb (a + 1).toNat 20001 (r.getD 0 []) (ways a b c most cs)) (a + 1).toNat 0 (X.set h (List.replicate (a + 1).toNat 0)) (by rw [List.length_set]; exact hX) (by rw [getD_set (by omega), if_neg (by omega)]) (by rw [getD_set (by omega), if_pos rfl, List.length_replicate]) (fun j hj => absurd hj (by omega)) (fun j _ hj => by rw [getD_set (by omega), if_pos rfl, getD_lt (by rw [List.length_replicate]; exact hj), List.getElem_replicate]) (by omega) (fun X' a1 a2 => by
      rw [wrap_id (x := (h : Int) - 1) (by omega) (by omega)]
      refine ih X' (by omega) a1 ?_
      rw [drop_cons cs (by omega : h < cs.length) 0]
      exact a2)
    exact ⟨r, up (g := fun k => impl_charging_counts.l2 k _ (h : Int) _ 0 a b c cs es most) (fun k => (impl_charging_counts.mono_l k).2.2.1 _ _ _ _ _ _ _ _ _ _) r1 _ (by omega), r2⟩
theorem impl_ones {a b c : Int} (ht : tankOk a b c = true) (cs es : List Int) (hl : cs.length ≤ 24) (most : Int) (k : Nat) (Good : List (List Int) → Prop) (hyp : ∀ X', X'.length = cs.length + 1 → Tb (a + 1).toNat 20001 (X'.getD cs.length []) (fun _ => 1) → ∃ r, impl_charging_counts.l1 k X' ((cs.length : Int) - 1) a b c cs es most = some r ∧ Good r) : ∀ (n v : Nat) (X : List (List Int)), X.length = cs.length + 1 → (X.getD cs.length []).length = (a + 1).toNat → (∀ j, j < v → (X.getD cs.length []).getD j 0 = 1) → v + n = (a + 1).toNat →
    ∃ r, impl_charging_counts.l0 (k + n + 1) X (((a + 1).toNat : Nat) : Int) (v : Int) a b c cs es most = some r ∧ Good r := by
  have t := tankOk_iff.1 ht
  intro n
  induction n with
  | zero =>
    intro v X hX hXl hA hv
    rw [show k + 0 + 1 = k + 1 by omega]
    simp only [impl_charging_counts.l0]
    rw [if_neg (by omega), wrap_id (by omega) (by omega)]
    exact hyp X hX ⟨hXl, fun j hj => by rw [hA j (by omega)]; rfl⟩
  | succ n ih =>
    intro v X hX hXl hA hv
    obtain ⟨Y, hY⟩ : ∃ Y, Y = k + n + 1 := ⟨_, rfl⟩
    rw [show k + (n + 1) + 1 = Y + 1 by omega]
    simp only [← hY] at ih
    simp only [impl_charging_counts.l0]
    rw [if_pos (by omega), if_pos (by omega), if_pos (by omega), if_pos (by omega), rl_nat, if_pos (by omega), next_nat (n := (a + 1).toNat) (by omega) (by omega), Int.toNat_natCast, Int.toNat_natCast]
    refine ih (v + 1) _ (by rw [List.length_set]; exact hX) (by rw [getD_set (by omega), if_pos rfl, List.length_set]; exact hXl) (fun j hj => ?_) (by omega)
    rw [getD_set (by omega), if_pos rfl, getD_setI (by omega)]
    by_cases e : v = j
    · rw [if_pos e]
    · rw [if_neg e, ← hA j (by omega)]
theorem impl_counts {a b c : Int} (ht : tankOk a b c = true) (cs es : List Int) (hl : cs.length ≤ 24) (most : Int) (hh : cs.all hour = true) (k : Nat) (hk : 1000000 ≤ k) : ∃ r, impl_charging_counts.f k a b c cs es most = some r ∧ (r.length = cs.length + 1 ∧ Tb (a + 1).toNat 20001 (r.getD 0 []) (ways a b c most cs)) := by
  have t := tankOk_iff.1 ht
  have e1 : wrap64 ((cs.length : Int) + 1) = (cs.length : Int) + 1 := wrap_id (by omega) (by omega)
  have eN : wrap64 (a + 1) = a + 1 := wrap_id (by omega) (by omega)
  have e2 : ((cs.length : Int) + 1).toNat = cs.length + 1 := by omega
  have hlen : ((List.replicate (cs.length + 1) ([] : List Int)).set cs.length (List.replicate (a + 1).toNat 0)).length = cs.length + 1 := by simp
  have hget : ((List.replicate (cs.length + 1) ([] : List Int)).set cs.length (List.replicate (a + 1).toNat 0)).getD cs.length [] = List.replicate (a + 1).toNat 0 := by rw [getD_set (by simp), if_pos rfl]
  unfold impl_charging_counts.f
  simp only [Option.bind_some]
  rw [e1, eN, e2, if_pos (by omega), if_pos (by omega), if_pos (by omega), if_pos (by omega), if_pos (by omega), List.length_replicate, if_pos (by omega), Int.toNat_natCast, List.length_replicate]
  obtain ⟨r, r1, r2⟩ := impl_ones ht cs es hl most (11000 * cs.length + 1) (fun r => r.length = cs.length + 1 ∧ Tb (a + 1).toNat 20001 (r.getD 0 []) (ways a b c most cs)) (fun X' a1 a2 => by
    refine impl_hrs ht cs es hl most hh cs.length X' (Nat.le_refl _) a1 ?_
    rw [List.drop_eq_nil_of_le (Nat.le_refl _)]
    exact a2) (a + 1).toNat 0 _ hlen (by rw [hget, List.length_replicate]) (fun j hj => absurd hj (by omega)) (by omega)
  exact ⟨r, up (g := fun k => impl_charging_counts.l0 k _ _ 0 a b c cs es most) (fun k => (impl_charging_counts.mono_l k).1 _ _ _ _ _ _ _ _ _) r1 k (by omega), r2⟩
theorem count_both (a b c v most : Int) (cs : List Int) (hl : cs.length ≤ 1048576) (k : Nat) (hk : 2000000 ≤ k) : ∃ r e, spec_CountChargings.f k a b c v cs most = some (r, e) ∧ impl_CountChargings.f k a b c v cs most = some (r, e) := by
  have h2 : spec_l14Hours.f k cs = some (cs.all hour && decide ((cs.length : Int) ≤ 24)) := spec_hours cs (by omega) k (by omega)
  have e : rd_T26 [(⟨a, b, c⟩ : S26)] 0 = ⟨a, b, c⟩ := rfl
  have ask : spec_l14Ask.f k [(⟨a, b, c⟩ : S26)] v cs most = some (if tankOk a b c = true then (if (decide (0 ≤ v ∧ v ≤ a) && ((cs.all hour && decide ((cs.length : Int) ≤ 24)) && hour most)) = true then 0 else 2) else 1) := by
    unfold spec_l14Ask.f spec_l14Most.f
    have e2 : decide (0 ≤ most ∧ most ≤ 1000) = hour most := rfl
    simp only [spec_tank, h2, spec_in, Option.bind_some, e, e2]
    cases tankOk a b c
    · rfl
    · simp only [if_true]
      rw [if_pos (by simp)]
      cases decide (0 ≤ v ∧ v ≤ a)
      · rfl
      · cases (cs.all hour && decide ((cs.length : Int) ≤ 24))
        · rfl
        · cases hour most <;> rfl
  unfold spec_CountChargings.f impl_CountChargings.f
  rw [ask, impl_tank, impl_ok]
  cases ht : tankOk a b c
  · exact ⟨0, 1, by simp, by simp⟩
  · have t := tankOk_iff.1 ht
    cases hb : (decide (0 ≤ v ∧ v ≤ a) && ((cs.all hour && decide ((cs.length : Int) ≤ 24)) && hour most))
    · exact ⟨0, 2, by simp, by simp⟩
    · simp only [Bool.and_eq_true, decide_eq_true_eq] at hb
      obtain ⟨hv, ⟨hh, h24⟩, hm⟩ := hb
      have h24' : cs.length ≤ 24 := by omega
      have eN : wrap64 (a + 1) = a + 1 := wrap_id (by omega) (by omega)
      obtain ⟨r, r1, r2, r3⟩ := impl_counts ht cs [] h24' most hh k (by omega)
      have r3l := r3.1
      have hT : Tb (a + 1).toNat 20000 ((List.replicate (a + 1).toNat 0).set v.toNat 1) (gup (fun _ => 0) v 1) := Tb_set (Tb_none (a + 1).toNat 20000) hv.1 (by omega) 1
      have s1 := spec_hrs ht cs h24' most hh cs.length 0 _ _ (by omega) hT
      rw [List.drop_zero, S_ghrs, S_gup _ _ _ _ _ _ hv.1 (by omega), S_none, Nat.zero_add, Nat.one_mul] at s1
      have s2 := up (g := fun k => spec_CountChargings.l0 k cs most ((List.replicate (a + 1).toNat 0).set v.toNat 1) ((0 : Nat) : Int) a b c) (fun k => (spec_CountChargings.mono_l k).1 _ _ _ _ _ _ _) s1 k (by omega)
      have s3 : spec_CountChargings.l0 k cs most ((List.replicate (a + 1).toNat 0).set v.toNat 1) 0 a b c = _ := s2
      have ev := Tb_rd r3 hv.1 (show v < (((a + 1).toNat : Nat) : Int) by omega)
      have e0 : rd_L2 r 0 = r.getD 0 [] := rl_nat r 0
      simp only [Option.bind_some, if_true, Bool.and_self, r1, e0, eN]
      rw [if_pos (by omega), if_pos (by omega), if_pos (by omega), if_pos (by rw [List.length_replicate]; omega), s3, if_pos (by omega), if_pos (by omega), if_pos (by omega), ev]
      rw [cap_fin]
      exact ⟨_, _, rfl, rfl⟩
theorem FnExactCountChargings : laws_FnExactCountChargings.Pure := by
  intro x v l most _ _ _ _
  obtain ⟨a, b, c⟩ := x
  by_cases hl : l.length ≤ 1048576
  · obtain ⟨k, hk⟩ : ∃ k, k = 3000000 := ⟨_, rfl⟩
    refine ⟨k + 1, ?_⟩
    obtain ⟨r, e, s, i⟩ := count_both a b c v most l hl (k + 1) (by omega)
    have ee : (e != e) = false := by simp
    unfold laws_FnExactCountChargings.f laws_toTank.f
    rw [if_neg (by omega)]
    simp only [toI l (by omega) (k + 1) (by omega), s, i, Option.bind_some, if_true, ee]
    simp only [laws_FnExactCountChargings.j0]
    rw [if_neg Bool.false_ne_true]
    simp only [toI l (by omega) k (by omega), eqI l (by omega) k (by omega), Option.bind_some, if_true]
  · refine ⟨0, ?_⟩
    unfold laws_FnExactCountChargings.f
    rw [if_pos (by omega)]

end Go.Proofs.Ytpdgicpgjmibgaa.Pure
