/- LastLevels of the program returns what the reference's returns, for every tank, level, demands and limit. No condition. -/
import Derived.Test.YtpdgicpgjmibgaaPFnExactLastLevelsx7
namespace Go.Proofs.Ytpdgicpgjmibgaa.Pure
open Go.RowKit Go.Proofs.Ytpdgicpgjmibgaa.PFnExactLastLevels Go.Proofs.YtpdgicpgjmibgaaW.PrintWords Go.Proofs.YtpdgicpgjmibgaaW.PrintLast Go.Proofs.YtpdgicpgjmibgaaW.PrintMore
set_option linter.unusedVariables false
set_option linter.unusedSimpArgs false

theorem spec_in (n lo hi : Int) : spec_l00In.f n lo hi = some (decide (lo ≤ n ∧ n ≤ hi)) := by unfold spec_l00In.f; split <;> simp <;> omega
theorem impl_in (n lo hi : Int) : impl_within.f n lo hi = some (decide (lo ≤ n ∧ n ≤ hi)) := by unfold impl_within.f; split <;> simp <;> omega

theorem wrap_id {x : Int} (h1 : -9223372036854775808 ≤ x) (h2 : x ≤ 9223372036854775807) : wrap64 x = x := by unfold wrap64; omega
theorem wf_i64 {x : Int} (h : (Lit.int .i64 x).wf = true) : -9223372036854775808 ≤ x ∧ x ≤ 9223372036854775807 := by
  simp [Lit.wf, IntKind.min, IntKind.max, IntKind.bits, IntKind.signed] at h; omega
theorem mul_bounds {a b A B : Int} (h0 : 0 ≤ a) (hA : a ≤ A) (h1 : -B ≤ b) (h2 : b ≤ B) (hB : 0 ≤ B) : -(A * B) ≤ a * b ∧ a * b ≤ A * B := by
  have e1 := Int.mul_le_mul_of_nonneg_left h2 h0
  have e2 := Int.mul_le_mul_of_nonneg_right hA hB
  have e3 := Int.mul_le_mul_of_nonneg_left h1 h0
  have e4 : a * -B = -(a * B) := Int.mul_neg a B
  omega
theorem mul_nonneg' {a b : Int} (h0 : 0 ≤ a) (h1 : 0 ≤ b) : 0 ≤ a * b := Int.mul_nonneg h0 h1
theorem next_nat {j n : Nat} (h : j < n) (hn : n ≤ 4611686018427387904) : wrap64 ((j : Int) + 1) = ((j + 1 : Nat) : Int) := by
  rw [wrap_id (by omega) (by omega)]; omega
theorem rd_nat (l : List Int) (j : Nat) : rd l (j : Int) = l.getD j 0 := by unfold rd; simp
theorem ifp {α : Type} {c : Prop} [Decidable c] {a b : α} (h : c) : (if c then a else b) = a := if_pos h
theorem ifn {α : Type} {c : Prop} [Decidable c] {a b : α} (h : ¬ c) : (if c then a else b) = b := if_neg h
theorem suc_of {k d : Nat} (h : d < k) : ∃ m, k = m + 1 := ⟨k - 1, by omega⟩
theorem getD_lt {α : Type} {l : List α} {j : Nat} {d : α} (h : j < l.length) : l.getD j d = l[j] := by
  rw [List.getD_eq_getElem?_getD, List.getElem?_eq_getElem h]; rfl
theorem drop_cons {α : Type} (l : List α) {j : Nat} (h : j < l.length) (d : α) : l.drop j = l.getD j d :: l.drop (j + 1) := by
  rw [getD_lt h]; exact List.drop_eq_getElem_cons h
theorem up {α : Type} {g : Nat → Option α} (hm : ∀ k, LeO (g k) (g (k + 1))) {k0 : Nat} {r : α} (h : g k0 = some r) : ∀ k, k0 ≤ k → g k = some r := by
  intro k hk
  induction hk with
  | refl => exact h
  | step _ ih => exact hm _ _ ih

def rdiv (a b : Int) : Int := if a < 0 then -((b - 2 * a) / (2 * b)) else (2 * a + b) / (2 * b)
theorem rdiv_pos_eq {q r b : Int} (hb : 0 < b) (h0 : 0 ≤ r) (h1 : r < b) : (2 * (b * q + r) + b) / (2 * b) = if r ≥ b - r then q + 1 else q := by
  have e : 2 * (b * q + r) + b = (2 * r + b) + (2 * b) * q := by rw [Int.mul_add, ← Int.mul_assoc]; omega
  rw [e, Int.add_mul_ediv_left _ _ (by omega : (2 * b : Int) ≠ 0)]
  split
  · have : (2 * r + b) / (2 * b) = 1 := by
      have e2 : 2 * r + b = (2 * r - b) + (2 * b) * 1 := by omega
      rw [e2, Int.add_mul_ediv_left _ _ (by omega : (2 * b : Int) ≠ 0), Int.ediv_eq_zero_of_lt (by omega) (by omega)]; rfl
    omega
  · have : (2 * r + b) / (2 * b) = 0 := Int.ediv_eq_zero_of_lt (by omega) (by omega)
    omega
theorem spec_div {a b : Int} (hb : 0 < b) (hb2 : b ≤ 2305843009213693951) (ha : -2305843009213693951 ≤ a) (ha2 : a ≤ 2305843009213693951) : spec_l01Div.f a b = some (rdiv a b) := by
  unfold spec_l01Div.f rdiv
  have w2 : wrap64 (2 * b) = 2 * b := wrap_id (by omega) (by omega)
  have h2b : (0 : Int) < 2 * b := by omega
  rw [if_neg (by omega), w2]
  by_cases h : a < 0
  · rw [if_pos h, if_pos h, if_neg (by omega)]
    have e1 : wrap64 (2 * a) = 2 * a := wrap_id (by omega) (by omega)
    have e2 : wrap64 (b - 2 * a) = b - 2 * a := wrap_id (by omega) (by omega)
    rw [e1, e2, Int.tdiv_eq_ediv_of_nonneg (by omega)]
    have b1 : 0 ≤ (b - 2 * a) / (2 * b) := Int.ediv_nonneg (by omega) (by omega)
    have b2 : (b - 2 * a) / (2 * b) ≤ b - 2 * a := Int.ediv_le_self _ (by omega)
    have e3 : wrap64 ((b - 2 * a) / (2 * b)) = (b - 2 * a) / (2 * b) := wrap_id (by omega) (by omega)
    have e4 : wrap64 (-((b - 2 * a) / (2 * b))) = -((b - 2 * a) / (2 * b)) := wrap_id (by omega) (by omega)
    rw [e3, e4]
  · rw [if_neg h, if_neg h, if_neg (by omega)]
    have e1 : wrap64 (2 * a) = 2 * a := wrap_id (by omega) (by omega)
    have e2 : wrap64 (2 * a + b) = 2 * a + b := wrap_id (by omega) (by omega)
    rw [e1, e2, Int.tdiv_eq_ediv_of_nonneg (by omega)]
    have b1 : 0 ≤ (2 * a + b) / (2 * b) := Int.ediv_nonneg (by omega) (by omega)
    have b2 : (2 * a + b) / (2 * b) ≤ 2 * a + b := Int.ediv_le_self _ (by omega)
    rw [wrap_id (by omega) (by omega)]
theorem abs_def {a : Int} (h : -9223372036854775807 ≤ a) (h2 : a ≤ 9223372036854775807) : impl_abs.f a = some (if a < 0 then -a else a) := by
  unfold impl_abs.f mx
  rw [wrap_id (by omega) (by omega)]
  split <;> split <;> first | rfl | (simp; omega)
theorem impl_div {a b : Int} (hb : 0 < b) (hb2 : b ≤ 2305843009213693951) (ha : -2305843009213693951 ≤ a) (ha2 : a ≤ 2305843009213693951) : impl_divRound.f a b = some (rdiv a b) := by
  unfold impl_divRound.f
  rw [if_neg (by omega)]
  by_cases h : a < 0
  · have hq0 : a.tdiv b = -((-a) / b) := by rw [← Int.tdiv_eq_ediv_of_nonneg (by omega), Int.neg_tdiv, Int.neg_neg]
    have hr0 : a.tmod b = -((-a) % b) := by rw [← Int.tmod_eq_emod_of_nonneg (by omega), Int.neg_tmod, Int.neg_neg]
    have hr1 := Int.emod_nonneg (-a) (show b ≠ 0 by omega)
    have hr2 := Int.emod_lt_of_pos (-a) hb
    have hd := Int.mul_ediv_add_emod (-a) b
    have hq1 : 0 ≤ (-a) / b := Int.ediv_nonneg (by omega) (by omega)
    have hq2 : (-a) / b ≤ -a := Int.ediv_le_self _ (by omega)
    rw [hq0, hr0]
    generalize (-a) / b = q at *
    generalize (-a) % b = r at *
    rw [abs_def (by omega) (by omega), abs_def (by omega) (by omega)]
    simp only [Option.bind_some]
    have e1 : (if -r < 0 then - -r else -r) = r := by split <;> omega
    have e2 : (if b < 0 then -b else b) = b := by rw [if_neg (by omega)]
    rw [e1, e2, wrap_id (x := b - r) (by omega) (by omega)]
    have hk : rdiv a b = -(if r ≥ b - r then q + 1 else q) := by
      unfold rdiv
      rw [if_pos h, ← rdiv_pos_eq (q := q) hb hr1 hr2, hd]
      congr 2; omega
    rw [hk]
    have w1 : wrap64 (-q) = -q := wrap_id (by omega) (by omega)
    rw [w1]
    by_cases hc : r ≥ b - r
    · rw [if_pos hc, if_pos hc, if_neg (by simp; omega), wrap_id (by omega) (by omega)]
      congr 1; omega
    · rw [if_neg hc, if_neg hc]
  · have hq0 : a.tdiv b = a / b := Int.tdiv_eq_ediv_of_nonneg (by omega)
    have hr0 : a.tmod b = a % b := Int.tmod_eq_emod_of_nonneg (by omega)
    have hr1 := Int.emod_nonneg a (show b ≠ 0 by omega)
    have hr2 := Int.emod_lt_of_pos a hb
    have hd := Int.mul_ediv_add_emod a b
    have hq1 : 0 ≤ a / b := Int.ediv_nonneg (by omega) (by omega)
    have hq2 : a / b ≤ a := Int.ediv_le_self _ (by omega)
    rw [hq0, hr0]
    generalize a / b = q at *
    generalize a % b = r at *
    rw [abs_def (by omega) (by omega), abs_def (by omega) (by omega)]
    simp only [Option.bind_some]
    have e1 : (if r < 0 then - r else r) = r := by rw [if_neg (by omega)]
    have e2 : (if b < 0 then -b else b) = b := by rw [if_neg (by omega)]
    rw [e1, e2, wrap_id (x := b - r) (by omega) (by omega)]
    have hk : rdiv a b = (if r ≥ b - r then q + 1 else q) := by
      unfold rdiv
      rw [if_neg h, ← rdiv_pos_eq (q := q) hb hr1 hr2, hd]
    rw [hk]
    have w1 : wrap64 q = q := wrap_id (by omega) (by omega)
    rw [w1]
    by_cases hc : r ≥ b - r
    · rw [if_pos hc, if_pos hc, if_pos (by simp; omega), wrap_id (by omega) (by omega)]
    · rw [if_neg hc, if_neg hc]
theorem rdiv_nonneg {a b : Int} (ha : 0 ≤ a) (hb : 0 < b) : 0 ≤ rdiv a b := by
  unfold rdiv; rw [if_neg (by omega)]; exact Int.ediv_nonneg (by omega) (by omega)
theorem rdiv_le {a b : Int} (ha : 0 ≤ a) (hb : 0 < b) : rdiv a b ≤ 2 * a + b := by
  unfold rdiv; rw [if_neg (by omega)]; exact Int.ediv_le_self _ (by omega)

def tankOk (a b c : Int) : Bool := decide (1 ≤ a ∧ a ≤ 100) && (decide (1 ≤ b ∧ b ≤ 20) && decide (0 ≤ c ∧ c ≤ 1000))
theorem tankOk_iff {a b c : Int} : tankOk a b c = true ↔ (1 ≤ a ∧ a ≤ 100) ∧ (1 ≤ b ∧ b ≤ 20) ∧ (0 ≤ c ∧ c ≤ 1000) := by unfold tankOk; simp [and_assoc]
theorem spec_tank (a b c : Int) : spec_l14Ok.f [(⟨a, b, c⟩ : S26)] = some (tankOk a b c) := by
  unfold spec_l14Ok.f tankOk
  rw [if_pos (by simp)]
  have e : rd_T26 [(⟨a, b, c⟩ : S26)] 0 = ⟨a, b, c⟩ := rfl
  simp only [e, spec_in, Option.bind_some]
  cases decide (1 ≤ a ∧ a ≤ 100) <;> cases decide (1 ≤ b ∧ b ≤ 20) <;> rfl
theorem impl_tank (a b c : Int) : impl_ValidTank.f a b c = some (tankOk a b c) := by
  unfold impl_ValidTank.f tankOk
  simp only [impl_in, Option.bind_some]
  cases decide (1 ≤ a ∧ a ≤ 100) <;> cases decide (1 ≤ b ∧ b ≤ 20) <;> rfl
def change (x : Int) : Bool := decide (-20 ≤ x ∧ x ≤ 20)
def hour (x : Int) : Bool := decide (0 ≤ x ∧ x ≤ 1000)
def aft (a b c v ch : Int) : Option Int := if (-b ≤ ch ∧ ch ≤ b) ∧ (0 ≤ v - rdiv (v * c) 1000 + ch ∧ v - rdiv (v * c) 1000 + ch ≤ a) then some (v - rdiv (v * c) 1000 + ch) else none
theorem aft_le {a b c v ch x : Int} (h : aft a b c v ch = some x) : 0 ≤ x ∧ x ≤ a := by
  unfold aft at h
  split at h
  · cases h; omega
  · cases h
theorem loss_b {c v : Int} (hc0 : 0 ≤ c) (hc : c ≤ 1000) (hv0 : 0 ≤ v) (hv : v ≤ 100) : (0 ≤ v * c ∧ v * c ≤ 100000) ∧ 0 ≤ rdiv (v * c) 1000 ∧ rdiv (v * c) 1000 ≤ 201000 := by
  have m := mul_bounds (a := v) (b := c) (A := 100) (B := 1000) hv0 hv (by omega) hc (by omega)
  have m0 := mul_nonneg' hv0 hc0
  have r0 := rdiv_nonneg (b := 1000) m0 (by omega)
  have r1 := rdiv_le (b := 1000) m0 (by omega)
  omega
theorem spec_after {a b c v ch : Int} (ht : tankOk a b c = true) (hv0 : 0 ≤ v) (hv : v ≤ a) (hc0 : -1000 ≤ ch) (hc1 : ch ≤ 1000) : spec_l14After.f [(⟨a, b, c⟩ : S26)] v ch = some (match aft a b c v ch with | some x => (x, true) | none => (0, false)) := by
  have t := tankOk_iff.1 ht
  have l := loss_b (c := c) (v := v) (by omega) (by omega) hv0 (by omega)
  unfold spec_l14After.f aft
  rw [if_pos (by simp)]
  have e : rd_T26 [(⟨a, b, c⟩ : S26)] 0 = ⟨a, b, c⟩ := rfl
  simp only [e]
  rw [wrap_id (x := v * c) (by omega) (by omega), spec_div (by omega) (by omega) (by omega) (by omega)]
  simp only [Option.bind_some, spec_in]
  generalize rdiv (v * c) 1000 = z at *
  rw [wrap_id (x := -b) (by omega) (by omega), wrap_id (x := v - z) (by omega) (by omega), wrap_id (x := v - z + ch) (by omega) (by omega)]
  by_cases h1 : -b ≤ ch ∧ ch ≤ b
  · by_cases h2 : 0 ≤ v - z + ch ∧ v - z + ch ≤ a
    · simp [h1, h2]
    · simp [h1, h2]
  · simp [h1]
theorem impl_after {a b c v ch : Int} (ht : tankOk a b c = true) (hv0 : 0 ≤ v) (hv : v ≤ a) (hc0 : -1000 ≤ ch) (hc1 : ch ≤ 1000) : ∃ y, impl_Tank_after.f a b c v ch = some (match aft a b c v ch with | some x => (x, true) | none => (y, false)) := by
  have t := tankOk_iff.1 ht
  have l := loss_b (c := c) (v := v) (by omega) (by omega) hv0 (by omega)
  refine ⟨v - rdiv (v * c) 1000 + ch, ?_⟩
  unfold impl_Tank_after.f aft
  rw [wrap_id (x := v * c) (by omega) (by omega), impl_div (by omega) (by omega) (by omega) (by omega), abs_def (by omega) (by omega)]
  simp only [Option.bind_some, impl_in]
  generalize rdiv (v * c) 1000 = z at *
  rw [wrap_id (x := v - z) (by omega) (by omega), wrap_id (x := v - z + ch) (by omega) (by omega)]
  by_cases h1 : -b ≤ ch ∧ ch ≤ b
  · rw [if_pos (by split <;> omega)]
    by_cases h2 : 0 ≤ v - z + ch ∧ v - z + ch ≤ a
    · simp [h1, h2]
    · simp [h1, h2]
  · rw [if_neg (by split <;> omega)]; simp [h1]
def lev (a b c : Int) : Int → List Int → Option (List Int)
  | _, [] => some []
  | v, ch :: t => match aft a b c v ch with | some x => (lev a b c x t).map (x :: ·) | none => none
theorem lev_len {a b c : Int} : ∀ (l : List Int) (v : Int) (r : List Int), lev a b c v l = some r → r.length = l.length := by
  intro l
  induction l with
  | nil => intro v r h; cases h; rfl
  | cons x t ih =>
    intro v r h
    unfold lev at h
    split at h
    · rename_i y _
      cases h2 : lev a b c y t with
      | none => rw [h2] at h; cases h
      | some s => rw [h2] at h; cases h; simp [ih _ _ h2]
    · cases h
theorem change_le {x : Int} (h : change x = true) : -20 ≤ x ∧ x ≤ 20 := of_decide_eq_true h
theorem all_getD {l : List Int} {p : Int → Bool} (h : l.all p = true) {j : Nat} (hj : j < l.length) : p (l.getD j 0) = true := by
  rw [getD_lt hj]; exact List.all_eq_true.1 h _ (List.getElem_mem hj)

theorem hours_l0 (l : List Int) (hl : l.length ≤ 35184372088832) : ∀ (d j k : Nat), j + d = l.length → d < k → spec_l14Hours.l0 k l (j : Int) = some ((l.drop j).all hour && decide ((l.length : Int) ≤ 24)) := by
  intro d
  induction d with
  | zero =>
    intro j k hj hk
    obtain ⟨k, rfl⟩ := suc_of hk
    simp only [spec_l14Hours.l0]
    rw [if_neg (by omega), List.drop_eq_nil_of_le (by omega)]; rfl
  | succ d ih =>
    intro j k hj hk
    obtain ⟨k, rfl⟩ := suc_of hk
    simp only [spec_l14Hours.l0]
    rw [if_pos (by omega), if_pos (by omega), spec_in, rd_nat, drop_cons l (by omega : j < l.length) 0, List.all_cons, next_nat (n := l.length) (by omega) (by omega)]
    simp only [Option.bind_some]
    have e : decide (0 ≤ l.getD j 0 ∧ l.getD j 0 ≤ 1000) = hour (l.getD j 0) := rfl
    rw [e]
    cases hour (l.getD j 0)
    · rfl
    · rw [if_pos rfl, Bool.true_and, ih (j + 1) k (by omega) (by omega)]
theorem spec_hours (l : List Int) (hl : l.length ≤ 35184372088832) (k : Nat) (hk : l.length < k) : spec_l14Hours.f k l = some (l.all hour && decide ((l.length : Int) ≤ 24)) :=
  hours_l0 l hl l.length 0 k (by omega) hk
theorem impl_ok (a b c v m : Int) (ls es : List Int) : impl_charging_ok.f a b c ls es m v = some (tankOk a b c && (decide (0 ≤ v ∧ v ≤ a) && ((ls.all hour && decide ((ls.length : Int) ≤ 24)) && hour m))) := by
  unfold impl_charging_ok.f impl_allWithin.f
  rw [impl_tank]
  have e : (ls.all fun x => decide (0 ≤ x ∧ x ≤ 1000)) = ls.all hour := rfl
  have e2 : decide (0 ≤ m ∧ m ≤ 1000) = hour m := rfl
  simp only [impl_in, e, e2, Option.bind_some]
  cases tankOk a b c
  · rfl
  · cases decide (0 ≤ v ∧ v ≤ a)
    · rfl
    · by_cases h : (ls.length : Int) ≤ 24
      · rw [if_pos h, decide_eq_true h]; cases ls.all hour <;> rfl
      · rw [if_neg h, decide_eq_false h]; simp
theorem hour_le {x : Int} (h : hour x = true) : 0 ≤ x ∧ x ≤ 1000 := of_decide_eq_true h

def upd (a b c L most v : Int) (m : List Bool) (ch : Int) : List Bool := match aft a b c v ch with
  | some x => if 0 ≤ L + ch ∧ L + ch ≤ most then m.set x.toNat true else m
  | none => m
def inn (a b c L most v : Int) : Nat → Int → List Bool → List Bool
  | 0, _, m => m
  | n + 1, ch, m => inn a b c L most v n (ch + 1) (upd a b c L most v m ch)
def lvl (a b c L most : Int) (x9 : List Bool) : Nat → Int → List Bool → List Bool
  | 0, _, m => m
  | n + 1, v, m => lvl a b c L most x9 n (v + 1) (if x9.getD v.toNat false = true then inn a b c L most v (2 * b + 1).toNat (-b) m else m)
def hrs (a b c most : Int) : List Int → List Bool → List Bool
  | [], x9 => x9
  | L :: t, x9 => hrs a b c most t (lvl a b c L most x9 (a + 1).toNat 0 (List.replicate (a + 1).toNat false))
theorem upd_len (a b c L most v : Int) (m : List Bool) (ch : Int) : (upd a b c L most v m ch).length = m.length := by
  unfold upd; split
  · split <;> simp
  · rfl
theorem inn_len (a b c L most v : Int) : ∀ (n : Nat) (ch : Int) (m : List Bool), (inn a b c L most v n ch m).length = m.length := by
  intro n
  induction n with
  | zero => intro ch m; rfl
  | succ n ih => intro ch m; unfold inn; rw [ih, upd_len]
theorem lvl_len (a b c L most : Int) (x9 : List Bool) : ∀ (n : Nat) (v : Int) (m : List Bool), (lvl a b c L most x9 n v m).length = m.length := by
  intro n
  induction n with
  | zero => intro v m; rfl
  | succ n ih => intro v m; unfold lvl; rw [ih]; split <;> simp [inn_len]
theorem hrs_len (a b c most : Int) : ∀ (l : List Int) (x9 : List Bool), x9.length = (a + 1).toNat → (hrs a b c most l x9).length = (a + 1).toNat := by
  intro l
  induction l with
  | nil => intro x9 h; exact h
  | cons x t ih => intro x9 h; unfold hrs; exact ih _ (by rw [lvl_len]; simp)

theorem toI_l0 (l : List Int) (hl : l.length ≤ 35184372088832) : ∀ (d j k : Nat) (m : List Int), j + d = l.length → d < k → m.length = l.length → (∀ i, i < j → m[i]? = l[i]?) → laws_toInt64S.l0 k l m (j : Int) = some l := by
  intro d
  induction d with
  | zero =>
    intro j k m hj hk hm hp
    obtain ⟨k, rfl⟩ := suc_of hk
    simp only [laws_toInt64S.l0]
    rw [if_neg (by omega)]
    congr 1
    apply List.ext_getElem?
    intro i
    by_cases hi : i < j
    · exact hp i hi
    · rw [List.getElem?_eq_none (by omega), List.getElem?_eq_none (by omega)]
  | succ d ih =>
    intro j k m hj hk hm hp
    obtain ⟨k, rfl⟩ := suc_of hk
    simp only [laws_toInt64S.l0]
    rw [if_pos (by omega), if_pos (by omega), if_pos (by omega), next_nat (n := l.length) (by omega) (by omega)]
    refine ih (j + 1) k _ (by omega) (by omega) (by simpa using hm) (fun i hi => ?_)
    rw [Int.toNat_natCast, rd_nat, List.getElem?_set]
    by_cases e : j = i
    · subst e
      rw [if_pos rfl, if_pos (by omega), getD_lt (by omega), List.getElem?_eq_getElem (by omega)]
    · rw [if_neg e]; exact hp i (by omega)
theorem toI (l : List Int) (hl : l.length ≤ 35184372088832) (k : Nat) (hk : l.length < k) : laws_toInt64S.f k l = some l := by
  unfold laws_toInt64S.f
  rw [if_pos (by omega), if_pos (by omega)]
  exact toI_l0 l hl l.length 0 k _ (by omega) hk (by simp) (fun i hi => absurd hi (by omega))

theorem eqI_l0 (l : List Int) (hl : l.length ≤ 35184372088832) : ∀ (d j k : Nat), j + d = l.length → d < k → laws_eqInt64S.l0 k l l (j : Int) = some true := by
  intro d
  induction d with
  | zero =>
    intro j k hj hk
    obtain ⟨k, rfl⟩ := suc_of hk
    simp only [laws_eqInt64S.l0]
    rw [if_neg (by omega)]
  | succ d ih =>
    intro j k hj hk
    obtain ⟨k, rfl⟩ := suc_of hk
    simp only [laws_eqInt64S.l0]
    rw [if_pos (by omega), if_pos (by omega), if_pos (by omega), if_pos trivial, next_nat (n := l.length) (by omega) (by omega)]
    exact ih (j + 1) k (by omega) (by omega)
theorem eqI (l : List Int) (hl : l.length ≤ 35184372088832) (k : Nat) (hk : l.length < k) : laws_eqInt64S.f k l l = some true := by
  unfold laws_eqInt64S.f
  rw [if_pos rfl]
  exact eqI_l0 l hl l.length 0 k (by omega) hk

theorem markc_l0 (c0 : Int) (hc0 : 0 ≤ c0) (hc1 : c0 ≤ 1000000000000000) : ∀ (d j k : Nat) (m : List Int) (c : Int), j + d = m.length → m.length ≤ 35184372088832 → d < k → c = c0 + (j : Int) → (∀ i, i < j → m[i]? = some (c0 + (i : Int))) →
    ∃ m', laws_markInt64S.l0 k m c (j : Int) = some (c0 + (m.length : Int), m') ∧ m'.length = m.length ∧ ∀ i, i < m'.length → m'[i]? = some (c0 + (i : Int)) := by
  intro d
  induction d with
  | zero =>
    intro j k m c hj hl hk hc hp
    obtain ⟨k, rfl⟩ := suc_of hk
    simp only [laws_markInt64S.l0]
    rw [if_neg (by omega)]
    exact ⟨m, by rw [hc]; congr 2; omega, rfl, fun i hi => hp i (by omega)⟩
  | succ d ih =>
    intro j k m c hj hl hk hc hp
    obtain ⟨k, rfl⟩ := suc_of hk
    simp only [laws_markInt64S.l0]
    rw [if_pos (by omega), if_pos (by omega), next_nat (n := m.length) (by omega) (by omega), wrap_id (x := c + 1) (by omega) (by omega), Int.toNat_natCast]
    obtain ⟨m', h1, h2, h3⟩ := ih (j + 1) k (m.set j c) (c + 1) (by simp; omega) (by simpa using hl) (by omega) (by omega) (fun i hi => by
      rw [List.getElem?_set]
      by_cases e : j = i
      · subst e; rw [if_pos rfl, if_pos (by omega), hc]
      · rw [if_neg e]; exact hp i (by omega))
    exact ⟨m', by rw [h1]; simp, by simpa using h2, h3⟩
theorem heldc_l0 (c0 : Int) (hc0 : 0 ≤ c0) (hc1 : c0 ≤ 1000000000000000) (m : List Int) (hl : m.length ≤ 35184372088832) (hm : ∀ i, i < m.length → m[i]? = some (c0 + (i : Int))) : ∀ (d j k : Nat) (c : Int), j + d = m.length → d < k → c = c0 + (j : Int) → laws_heldInt64S.l0 k m c (j : Int) = some (c0 + (m.length : Int)) := by
  intro d
  induction d with
  | zero =>
    intro j k c hj hk hc
    obtain ⟨k, rfl⟩ := suc_of hk
    simp only [laws_heldInt64S.l0]
    rw [if_neg (by omega)]
    congr 1; omega
  | succ d ih =>
    intro j k c hj hk hc
    obtain ⟨k, rfl⟩ := suc_of hk
    simp only [laws_heldInt64S.l0]
    have e : rd m (j : Int) = c := by
      rw [rd_nat, List.getD_eq_getElem?_getD, hm j (by omega), hc]; rfl
    rw [if_pos (by omega), if_pos (by omega), if_pos e, next_nat (n := m.length) (by omega) (by omega), wrap_id (x := c + 1) (by omega) (by omega)]
    exact ih (j + 1) k (c + 1) (by omega) (by omega) (by omega)
theorem markc_held (l : List Int) (c0 : Int) (hc0 : 0 ≤ c0) (hc1 : c0 ≤ 1000000000000000) (hl : l.length ≤ 35184372088832) (k : Nat) (hk : l.length < k) : ∃ m', laws_markInt64S.f k l c0 = some (c0 + (l.length : Int), m') ∧ m'.length = l.length ∧ (∀ k', l.length < k' → laws_heldInt64S.f k' m' c0 = some (c0 + (l.length : Int))) := by
  obtain ⟨m', h1, h2, h3⟩ := markc_l0 c0 hc0 hc1 l.length 0 k l c0 (by omega) hl hk (by omega) (fun i hi => absurd hi (by omega))
  refine ⟨m', h1, h2, fun k' hk' => ?_⟩
  have := heldc_l0 c0 hc0 hc1 m' (by omega) h3 m'.length 0 k' c0 (by omega) (by omega) (by omega)
  rw [h2] at this
  exact this

theorem spec_inn {a b c : Int} (ht : tankOk a b c = true) (cs : List Int) (most : Int) (hh : cs.all hour = true) (x9 : List Bool) (h9 : x9.length = (a + 1).toNat) (h : Nat) (hc : h < cs.length) (v : Int) (hv0 : 0 ≤ v) (hv1 : v ≤ a) (hr : x9.getD v.toNat false = true) (k : Nat) (r : List Bool) :
    ∀ (n : Nat) (ch : Int) (m : List Bool), m.length = (a + 1).toNat → -b ≤ ch → ch + (n : Int) = b + 1 →
    spec_l14Last.l1 k [(⟨a, b, c⟩ : S26)] cs most x9 (h : Int) (inn a b c (cs.getD h 0) most v n ch m) (wrap64 (v + 1)) = some r →
    spec_l14Last.l2 (k + 2 * n + 2) [(⟨a, b, c⟩ : S26)] cs most x9 (h : Int) m v ch = some r := by
  have t := tankOk_iff.1 ht
  have e : rd_T26 [(⟨a, b, c⟩ : S26)] 0 = ⟨a, b, c⟩ := rfl
  intro n
  induction n with
  | zero =>
    intro ch m hm h0 h1 hyp
    simp only [spec_l14Last.l2, spec_l14Last.j3, e]
    rw [if_pos (by simp), if_neg (by omega), if_neg Bool.false_ne_true]
    exact hyp
  | succ n ih =>
    intro ch m hm h0 h1 hyp
    have hb := hour_le (all_getD hh hc)
    obtain ⟨K, hK⟩ : ∃ K, K = k + 2 * n + 2 := ⟨_, rfl⟩
    rw [show k + 2 * (n + 1) + 2 = K + 1 + 1 by omega]
    simp only [← hK] at ih
    simp only [spec_l14Last.l2, spec_l14Last.j3, e]
    have er : rdOf false x9 v = true := hr
    rw [if_pos (by simp), if_pos (by omega), if_pos (by omega), if_pos (by omega), er, if_pos rfl, spec_after ht hv0 hv1 (by omega) (by omega), wrap_id (x := ch + 1) (by omega) (by omega)]
    unfold inn at hyp
    have go := ih (ch + 1) (upd a b c (cs.getD h 0) most v m ch) (by rw [upd_len]; exact hm) (by omega) (by omega) hyp
    unfold upd at go
    simp only [Option.bind_some]
    cases ha : aft a b c v ch with
    | none => rw [ha] at go; exact go
    | some x =>
      have hx := aft_le ha
      rw [ha] at go
      simp only [if_true] at go ⊢
      rw [if_pos (by omega), if_pos (by omega), rd_nat, wrap_id (x := cs.getD h 0 + ch) (by omega) (by omega), spec_in]
      simp only [Option.bind_some]
      by_cases hf : 0 ≤ cs.getD h 0 + ch ∧ cs.getD h 0 + ch ≤ most
      · rw [if_pos hf] at go
        rw [decide_eq_true hf, if_pos rfl, if_pos (by omega), if_pos (by omega)]
        exact go
      · rw [if_neg hf] at go
        rw [decide_eq_false hf, if_neg Bool.false_ne_true]
        exact go
theorem spec_lvl {a b c : Int} (ht : tankOk a b c = true) (cs : List Int) (most : Int) (hh : cs.all hour = true) (x9 : List Bool) (h9 : x9.length = (a + 1).toNat) (h : Nat) (hc : h < cs.length) (k : Nat) (r : List Bool) :
    ∀ (n : Nat) (v : Int) (m : List Bool), m.length = (a + 1).toNat → 0 ≤ v → v + (n : Int) = a + 1 →
    spec_l14Last.l0 k [(⟨a, b, c⟩ : S26)] cs most (lvl a b c (cs.getD h 0) most x9 n v m) (wrap64 ((h : Int) + 1)) = some r →
    spec_l14Last.l1 (k + 100 * n + 1) [(⟨a, b, c⟩ : S26)] cs most x9 (h : Int) m v = some r := by
  have t := tankOk_iff.1 ht
  have e : rd_T26 [(⟨a, b, c⟩ : S26)] 0 = ⟨a, b, c⟩ := rfl
  intro n
  induction n with
  | zero =>
    intro v m hm h0 h1 hyp
    rw [show k + 100 * 0 + 1 = k + 1 by omega]
    simp only [spec_l14Last.l1, e]
    rw [if_pos (by simp), if_neg (by omega)]
    exact hyp
  | succ n ih =>
    intro v m hm h0 h1 hyp
    obtain ⟨F, hF⟩ : ∃ F, F = k + 100 * n + 98 := ⟨_, rfl⟩
    rw [show k + 100 * (n + 1) + 1 = F + 1 + 1 + 1 by omega]
    simp only [spec_l14Last.l1, e]
    rw [if_pos (by simp), if_pos (by omega), wrap_id (x := -b) (by omega) (by omega)]
    unfold lvl at hyp
    by_cases hr : x9.getD v.toNat false = true
    · rw [if_pos hr] at hyp
      have go := ih (v + 1) (inn a b c (cs.getD h 0) most v (2 * b + 1).toNat (-b) m) (by rw [inn_len]; exact hm) (by omega) (by omega) hyp
      rw [← wrap_id (x := v + 1) (by omega) (by omega)] at go
      have go2 := spec_inn ht cs most hh x9 h9 h hc v h0 (by omega) hr _ r (2 * b + 1).toNat (-b) m hm (by omega) (by omega) go
      exact up (g := fun k => spec_l14Last.l2 k _ cs most x9 (h : Int) m v (-b)) (fun k => (spec_l14Last.mono_l k).2.2.1 _ _ _ _ _ _ _ _) go2 _ (by omega)
    · rw [if_neg hr] at hyp
      have go := ih (v + 1) m hm (by omega) (by omega) hyp
      simp only [spec_l14Last.l2, spec_l14Last.j3, e]
      have er : rdOf false x9 v = false := by rw [Bool.not_eq_true] at hr; exact hr
      rw [if_pos (by simp), if_pos (by omega), if_pos (by omega), if_pos (by omega), er, if_neg Bool.false_ne_true, wrap_id (x := v + 1) (by omega) (by omega)]
      exact up (g := fun k => spec_l14Last.l1 k _ cs most x9 (h : Int) m (v + 1)) (fun k => (spec_l14Last.mono_l k).2.1 _ _ _ _ _ _ _) go _ (by omega)
theorem spec_hrs {a b c : Int} (ht : tankOk a b c = true) (cs : List Int) (hl : cs.length ≤ 24) (most : Int) (hh : cs.all hour = true) : ∀ (d h : Nat) (x9 : List Bool), h + d = cs.length → x9.length = (a + 1).toNat →
    spec_l14Last.l0 (11000 * d + 1) [(⟨a, b, c⟩ : S26)] cs most x9 (h : Int) = some (hrs a b c most (cs.drop h) x9) := by
  have t := tankOk_iff.1 ht
  have e : rd_T26 [(⟨a, b, c⟩ : S26)] 0 = ⟨a, b, c⟩ := rfl
  intro d
  induction d with
  | zero =>
    intro h x9 hd h9
    rw [show 11000 * 0 + 1 = 0 + 1 by omega]
    simp only [spec_l14Last.l0]
    rw [if_neg (by omega), List.drop_eq_nil_of_le (by omega)]
    rfl
  | succ d ih =>
    intro h x9 hd h9
    obtain ⟨F, hF⟩ : ∃ F, F = 11000 * d + 11000 := ⟨_, rfl⟩
    rw [show 11000 * (d + 1) + 1 = F + 1 by omega, drop_cons cs (by omega : h < cs.length) 0]
    simp only [spec_l14Last.l0, e, hrs]
    rw [if_pos (by omega), if_pos (by simp), wrap_id (x := a + 1) (by omega) (by omega), if_pos (by omega), if_pos (by omega)]
    have go := ih (h + 1) (lvl a b c (cs.getD h 0) most x9 (a + 1).toNat 0 (List.replicate (a + 1).toNat false)) (by omega) (by rw [lvl_len]; simp)
    rw [← next_nat (n := cs.length) (by omega) (by omega)] at go
    have go2 := spec_lvl ht cs most hh x9 h9 h (by omega) _ _ (a + 1).toNat 0 _ (by simp) (by omega) (by omega) go
    exact up (g := fun k => spec_l14Last.l1 k _ cs most x9 (h : Int) _ 0) (fun k => (spec_l14Last.mono_l k).2.1 _ _ _ _ _ _ _) go2 _ (by omega)
theorem impl_inn {a b c : Int} (ht : tankOk a b c = true) (cs : List Int) (most : Int) (hh : cs.all hour = true) (x9 : List Bool) (H : Int) (h : Nat) (hc : h < cs.length) (v : Int) (hv0 : 0 ≤ v) (hv1 : v ≤ a) (W : Int) (k : Nat) (r : List Int × Int) :
    ∀ (n : Nat) (ch : Int) (m : List Bool), m.length = (a + 1).toNat → -b ≤ ch → ch + (n : Int) = b + 1 →
    impl_LastLevels.l1 k (h : Int) (inn a b c (cs.getD h 0) most v n ch m) H (h : Int) x9 W (wrap64 (v + 1)) a b c a b c cs most = some r →
    impl_LastLevels.l2 (k + 2 * n + 2) (h : Int) m v true ch H (h : Int) x9 W v a b c a b c cs most = some r := by
  have t := tankOk_iff.1 ht
  intro n
  induction n with
  | zero =>
    intro ch m hm h0 h1 hyp
    simp only [impl_LastLevels.l2, impl_LastLevels.j3]
    have e : decide (ch ≤ b) = false := decide_eq_false (by omega)
    rw [if_pos trivial, e, if_neg Bool.false_ne_true]
    exact hyp
  | succ n ih =>
    intro ch m hm h0 h1 hyp
    have hb := hour_le (all_getD hh hc)
    obtain ⟨K, hK⟩ : ∃ K, K = k + 2 * n + 2 := ⟨_, rfl⟩
    rw [show k + 2 * (n + 1) + 2 = K + 1 + 1 by omega]
    simp only [← hK] at ih
    simp only [impl_LastLevels.l2, impl_LastLevels.j3]
    have e : decide (ch ≤ b) = true := decide_eq_true (by omega)
    obtain ⟨y, hy⟩ := impl_after (ch := ch) ht hv0 hv1 (by omega) (by omega)
    unfold impl_charging_after.f
    rw [if_pos trivial, e, if_pos rfl, hy, wrap_id (x := ch + 1) (by omega) (by omega)]
    unfold inn at hyp
    have go := ih (ch + 1) (upd a b c (cs.getD h 0) most v m ch) (by rw [upd_len]; exact hm) (by omega) (by omega) hyp
    unfold upd at go
    simp only [Option.bind_some]
    cases ha : aft a b c v ch with
    | none => rw [ha] at go; simpa using go
    | some x =>
      have hx := aft_le ha
      rw [ha] at go
      simp only [if_true] at go ⊢
      rw [if_pos (by omega), if_pos (by omega), rd_nat, wrap_id (x := cs.getD h 0 + ch) (by omega) (by omega), impl_in]
      simp only [Option.bind_some]
      by_cases hf : 0 ≤ cs.getD h 0 + ch ∧ cs.getD h 0 + ch ≤ most
      · rw [if_pos hf] at go
        rw [decide_eq_true hf, if_pos rfl, if_pos (by omega), if_pos (by omega)]
        exact go
      · rw [if_neg hf] at go
        rw [decide_eq_false hf, if_neg Bool.false_ne_true]
        exact go
theorem impl_lvl {a b c : Int} (ht : tankOk a b c = true) (cs : List Int) (most : Int) (hh : cs.all hour = true) (x9 : List Bool) (h9 : x9.length = (a + 1).toNat) (h : Nat) (hc : h < cs.length) (H : Int) (k : Nat) (r : List Int × Int) :
    ∀ (n : Nat) (v : Int) (m : List Bool), m.length = (a + 1).toNat → 0 ≤ v → v + (n : Int) = a + 1 →
    impl_LastLevels.l0 k (lvl a b c (cs.getD h 0) most x9 n v m) H (wrap64 ((h : Int) + 1)) a b c a b c cs most = some r →
    impl_LastLevels.l1 (k + 100 * n + 1) (h : Int) m H (h : Int) x9 (x9.length : Int) v a b c a b c cs most = some r := by
  have t := tankOk_iff.1 ht
  intro n
  induction n with
  | zero =>
    intro v m hm h0 h1 hyp
    rw [show k + 100 * 0 + 1 = k + 1 by omega]
    simp only [impl_LastLevels.l1]
    rw [if_neg (by omega)]
    exact hyp
  | succ n ih =>
    intro v m hm h0 h1 hyp
    obtain ⟨F, hF⟩ : ∃ F, F = k + 100 * n + 98 := ⟨_, rfl⟩
    rw [show k + 100 * (n + 1) + 1 = F + 1 + 1 + 1 by omega]
    simp only [impl_LastLevels.l1]
    rw [if_pos (by omega), if_pos (by omega), if_pos (by omega), wrap_id (x := -b) (by omega) (by omega)]
    unfold lvl at hyp
    by_cases hr : x9.getD v.toNat false = true
    · rw [if_pos hr] at hyp
      have er : rdOf false x9 v = true := hr
      have go := ih (v + 1) (inn a b c (cs.getD h 0) most v (2 * b + 1).toNat (-b) m) (by rw [inn_len]; exact hm) (by omega) (by omega) hyp
      rw [← wrap_id (x := v + 1) (by omega) (by omega)] at go
      have go2 := impl_inn ht cs most hh x9 H h hc v h0 (by omega) _ _ r (2 * b + 1).toNat (-b) m hm (by omega) (by omega) go
      rw [er]
      exact up (g := fun k => impl_LastLevels.l2 k (h : Int) m v true (-b) H (h : Int) x9 (x9.length : Int) v a b c a b c cs most) (fun k => (impl_LastLevels.mono_l k).2.2.1 _ _ _ _ _ _ _ _ _ _ _ _ _ _ _ _ _ _) go2 _ (by omega)
    · rw [if_neg hr] at hyp
      have er : rdOf false x9 v = false := by rw [Bool.not_eq_true] at hr; exact hr
      have go := ih (v + 1) m hm (by omega) (by omega) hyp
      rw [er]
      simp only [impl_LastLevels.l2, impl_LastLevels.j3]
      rw [if_neg Bool.false_ne_true, if_neg Bool.false_ne_true, wrap_id (x := v + 1) (by omega) (by omega)]
      exact up (g := fun k => impl_LastLevels.l1 k (h : Int) m H (h : Int) x9 (x9.length : Int) (v + 1) a b c a b c cs most) (fun k => (impl_LastLevels.mono_l k).2.1 _ _ _ _ _ _ _ _ _ _ _ _ _ _ _) go _ (by omega)
theorem impl_hrs {a b c : Int} (ht : tankOk a b c = true) (cs : List Int) (hl : cs.length ≤ 24) (most : Int) (hh : cs.all hour = true) (k : Nat) (r : List Int × Int) : ∀ (d h : Nat) (x9 : List Bool), h + d = cs.length → x9.length = (a + 1).toNat →
    impl_LastLevels.l3 k [] (hrs a b c most (cs.drop h) x9) ((hrs a b c most (cs.drop h) x9).length : Int) 0 = some r →
    impl_LastLevels.l0 (k + 11000 * d + 1) x9 (cs.length : Int) (h : Int) a b c a b c cs most = some r := by
  have t := tankOk_iff.1 ht
  intro d
  induction d with
  | zero =>
    intro h x9 hd h9 hyp
    rw [show k + 11000 * 0 + 1 = k + 1 by omega]
    simp only [impl_LastLevels.l0]
    rw [List.drop_eq_nil_of_le (by omega)] at hyp
    rw [if_neg (by omega)]
    exact hyp
  | succ d ih =>
    intro h x9 hd h9 hyp
    rw [drop_cons cs (by omega : h < cs.length) 0] at hyp
    obtain ⟨F, hF⟩ : ∃ F, F = k + 11000 * d + 11000 := ⟨_, rfl⟩
    rw [show k + 11000 * (d + 1) + 1 = F + 1 by omega]
    simp only [impl_LastLevels.l0]
    rw [if_pos (by omega), wrap_id (x := a + 1) (by omega) (by omega), if_pos (by omega), if_pos (by omega)]
    unfold hrs at hyp
    have go := ih (h + 1) (lvl a b c (cs.getD h 0) most x9 (a + 1).toNat 0 (List.replicate (a + 1).toNat false)) (by omega) (by rw [lvl_len]; simp) hyp
    rw [← next_nat (n := cs.length) (by omega) (by omega)] at go
    have go2 := impl_lvl ht cs most hh x9 h9 h (by omega) _ _ _ (a + 1).toNat 0 _ (by simp) (by omega) (by omega) go
    exact up (g := fun k => impl_LastLevels.l1 k (h : Int) _ (cs.length : Int) (h : Int) x9 (x9.length : Int) 0 a b c a b c cs most) (fun k => (impl_LastLevels.mono_l k).2.1 _ _ _ _ _ _ _ _ _ _ _ _ _ _ _) go2 _ (by omega)
theorem gather (x : List Bool) (hx : x.length ≤ 1000) : ∀ (d j : Nat) (acc : List Int), j + d = x.length → acc.length ≤ j → ∃ r, (∀ k, d < k → spec_LastLevels.l0 k x acc (j : Int) = some (r, 0)) ∧ (∀ k, d < k → impl_LastLevels.l3 k acc x (x.length : Int) (j : Int) = some (r, 0)) ∧ r.length ≤ 1000 := by
  intro d
  induction d with
  | zero =>
    intro j acc hj ha
    refine ⟨acc, fun k hk => ?_, fun k hk => ?_, by omega⟩
    · obtain ⟨k, rfl⟩ := suc_of hk
      simp only [spec_LastLevels.l0]
      rw [if_neg (by omega)]
    · obtain ⟨k, rfl⟩ := suc_of hk
      simp only [impl_LastLevels.l3]
      rw [if_neg (by omega)]
  | succ d ih =>
    intro j acc hj ha
    have hn := next_nat (j := j) (n := x.length) (by omega) (by omega)
    obtain ⟨r, s, i, hr⟩ := ih (j + 1) (if rdOf false x (j : Int) = true then acc ++ [(j : Int)] else acc) (by omega) (by split <;> first | omega | (simp; done) | (simp; omega))
    refine ⟨r, fun k hk => ?_, fun k hk => ?_, hr⟩
    · obtain ⟨k, rfl⟩ := suc_of (show 0 < k by omega)
      simp only [spec_LastLevels.l0]
      rw [if_pos (by omega), if_pos (by omega), hn]
      have s' := s k (by omega)
      by_cases h : rdOf false x (j : Int) = true
      · rw [if_pos h] at s' ⊢; rw [if_pos (by omega)]; exact s'
      · rw [if_neg h] at s' ⊢; exact s'
    · obtain ⟨k, rfl⟩ := suc_of (show 0 < k by omega)
      simp only [impl_LastLevels.l3]
      rw [if_pos (by omega), if_pos (by omega), if_pos (by omega), hn]
      have s' := i k (by omega)
      by_cases h : rdOf false x (j : Int) = true
      · rw [if_pos h] at s' ⊢; rw [if_pos (by omega)]; exact s'
      · rw [if_neg h] at s' ⊢; exact s'
theorem last_both (a b c v most : Int) (cs : List Int) (hl : cs.length ≤ 1048576) : ∃ r e, (∀ k, 2000000 ≤ k → spec_LastLevels.f k a b c v cs most = some (r, e)) ∧ (∀ k, 2000000 ≤ k → impl_LastLevels.f k a b c v cs most = some (r, e)) ∧ r.length ≤ 1000 := by
  have h2 : ∀ k, 2000000 ≤ k → spec_l14Hours.f k cs = some (cs.all hour && decide ((cs.length : Int) ≤ 24)) := fun k hk => spec_hours cs (by omega) k (by omega)
  have e : rd_T26 [(⟨a, b, c⟩ : S26)] 0 = ⟨a, b, c⟩ := rfl
  have ask : ∀ k, 2000000 ≤ k → spec_l14Ask.f k [(⟨a, b, c⟩ : S26)] v cs most = some (if tankOk a b c = true then (if (decide (0 ≤ v ∧ v ≤ a) && ((cs.all hour && decide ((cs.length : Int) ≤ 24)) && hour most)) = true then 0 else 2) else 1) := by
    intro k hk
    unfold spec_l14Ask.f spec_l14Most.f
    have e2 : decide (0 ≤ most ∧ most ≤ 1000) = hour most := rfl
    simp only [spec_tank, h2 k hk, spec_in, Option.bind_some, e, e2]
    cases tankOk a b c
    · rfl
    · simp only [if_true]
      rw [if_pos (by simp)]
      cases decide (0 ≤ v ∧ v ≤ a)
      · rfl
      · cases (cs.all hour && decide ((cs.length : Int) ≤ 24))
        · rfl
        · cases hour most <;> rfl
  cases ht : tankOk a b c
  · refine ⟨[], 1, fun k hk => ?_, fun k hk => ?_, by simp⟩
    · unfold spec_LastLevels.f
      rw [ask k hk, ht]; simp
    · unfold impl_LastLevels.f
      rw [impl_tank, ht]; simp
  · have t := tankOk_iff.1 ht
    cases hb : (decide (0 ≤ v ∧ v ≤ a) && ((cs.all hour && decide ((cs.length : Int) ≤ 24)) && hour most))
    · refine ⟨[], 2, fun k hk => ?_, fun k hk => ?_, by simp⟩
      · unfold spec_LastLevels.f
        rw [ask k hk, ht, hb]; simp
      · unfold impl_LastLevels.f
        rw [impl_tank, impl_ok, ht, hb]; simp
    · have hb' := hb
      simp only [Bool.and_eq_true, decide_eq_true_eq] at hb'
      obtain ⟨hv, ⟨hh, h24⟩, hm⟩ := hb'
      have h24' : cs.length ≤ 24 := by omega
      have hx : ((List.replicate (a + 1).toNat false).set v.toNat true).length = (a + 1).toNat := by simp
      obtain ⟨r, s, i, hr⟩ := gather (hrs a b c most cs ((List.replicate (a + 1).toNat false).set v.toNat true)) (by rw [hrs_len _ _ _ _ _ _ hx]; omega) (hrs a b c most cs ((List.replicate (a + 1).toNat false).set v.toNat true)).length 0 [] (by omega) (by simp)
      have hlen := hrs_len a b c most cs _ hx
      have hl0 : ((List.replicate (a + 1).toNat false).length : Int) = a + 1 := by simp; omega
      refine ⟨r, 0, fun k hk => ?_, fun k hk => ?_, hr⟩
      · unfold spec_LastLevels.f spec_l14Last.f
        rw [ask k hk, ht, hb]
        simp only [Option.bind_some, if_true, e]
        rw [if_pos (by simp), wrap_id (x := a + 1) (by omega) (by omega), if_pos (by omega), if_pos (by omega), if_pos (by omega), if_pos (by omega)]
        have go := spec_hrs ht cs h24' most hh cs.length 0 ((List.replicate (a + 1).toNat false).set v.toNat true) (by omega) hx
        rw [List.drop_zero] at go
        have go2 := up (g := fun k => spec_l14Last.l0 k [(⟨a, b, c⟩ : S26)] cs most ((List.replicate (a + 1).toNat false).set v.toNat true) ((0 : Nat) : Int)) (fun k => (spec_l14Last.mono_l k).1 _ _ _ _ _) go k (by omega)
        have go3 : spec_l14Last.l0 k [(⟨a, b, c⟩ : S26)] cs most ((List.replicate (a + 1).toNat false).set v.toNat true) 0 = _ := go2
        rw [go3]
        exact s k (by omega)
      · unfold impl_LastLevels.f
        rw [impl_tank, impl_ok, ht, hb]
        simp only [Option.bind_some, if_true, Bool.and_self]
        rw [wrap_id (x := a + 1) (by omega) (by omega), if_pos (by omega), if_pos (by omega), if_pos (by omega), if_pos (by omega)]
        have go := impl_hrs ht cs h24' most hh 1000 (r, 0) cs.length 0 ((List.replicate (a + 1).toNat false).set v.toNat true) (by omega) hx (by rw [List.drop_zero]; exact i 1000 (by omega))
        exact up (g := fun k => impl_LastLevels.l0 k ((List.replicate (a + 1).toNat false).set v.toNat true) (cs.length : Int) 0 a b c a b c cs most) (fun k => (impl_LastLevels.mono_l k).1 _ _ _ _ _ _ _ _ _ _ _) go k (by omega)
theorem FnExactLastLevels : laws_FnExactLastLevels.Pure := by
  intro x v l most _ _ _ _
  obtain ⟨a, b, c⟩ := x
  by_cases hl : l.length ≤ 1048576
  · obtain ⟨k, hk⟩ : ∃ k, k = 3000000 := ⟨_, rfl⟩
    refine ⟨k + 3, ?_⟩
    obtain ⟨r, e, s, i, hr⟩ := last_both a b c v most l hl
    have ee : (e != e) = false := by simp
    obtain ⟨m1, a1, b1, _⟩ := markc_held l 1 (by omega) (by omega) (by omega) (k + 2) (by omega)
    obtain ⟨m3, a3, b3, d3⟩ := markc_held r 1 (by omega) (by omega) (by omega) (k + 1) (by omega)
    unfold laws_FnExactLastLevels.f laws_toTank.f
    rw [if_neg (by omega)]
    simp only [toI l (by omega) (k + 3) (by omega), s (k + 3) (by omega), i (k + 3) (by omega), eqI r (by omega) (k + 3) (by omega), Option.bind_some, if_true, ee]
    simp only [laws_FnExactLastLevels.j0]
    rw [if_neg Bool.false_ne_true]
    simp only [toI l (by omega) (k + 2) (by omega), eqI l (by omega) (k + 2) (by omega), eqI r (by omega) (k + 2) (by omega), a1, Option.bind_some, if_true, ee]
    rw [if_neg (by omega)]
    simp only [laws_FnExactLastLevels.j1]
    unfold laws_toTank.f
    rw [if_neg Bool.false_ne_true]
    simp only [a3, d3 (k + 1) (by omega), toI l (by omega) (k + 1) (by omega), i (k + 1) (by omega), eqI r (by omega) (k + 1) (by omega), Option.bind_some, if_true, ee]
    rw [if_neg (by omega)]
    simp only [laws_FnExactLastLevels.j2]
    rw [if_neg Bool.false_ne_true]
    simp only [d3 k (by omega), Option.bind_some, if_true]
    rw [if_neg (by omega)]
  · refine ⟨0, ?_⟩
    unfold laws_FnExactLastLevels.f
    rw [if_pos (by omega)]

end Go.Proofs.Ytpdgicpgjmibgaa.Pure
