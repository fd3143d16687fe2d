/- Levels never leave their limits, and each level is that after the one before it. No condition. -/
import Derived.Lib.AtoiTie
import Derived.Lib.AtoiAllCases
import Derived.Test.YtkgohpmheohnmaaGreatDoorPFnStoragex12
namespace Go.Proofs.YtkgohpmheohnmaaGreatDoor.Pure
open Go.RowKit Go.Proofs.YtkgohpmheohnmaaGreatDoor.PFnStorage Go.Proofs.YtkgohpmheohnmaaGreatDoorW.PrintWords Go.Proofs.YtkgohpmheohnmaaGreatDoorW.PrintLast Go.Proofs.YtkgohpmheohnmaaGreatDoorW.PrintMore
set_option linter.unusedVariables false
set_option linter.unusedSimpArgs false

theorem impl_in (n lo hi : Int) : impl_within.f n lo hi = some (decide (lo ≤ n ∧ n ≤ hi)) := by unfold impl_within.f; split <;> simp <;> omega

theorem spec_in (n lo hi : Int) : spec_l00In.f n lo hi = some (decide (lo ≤ n ∧ n ≤ hi)) := by unfold spec_l00In.f; split <;> simp <;> omega

theorem wrap_id {x : Int} (h1 : -9223372036854775808 ≤ x) (h2 : x ≤ 9223372036854775807) : wrap64 x = x := by unfold wrap64; omega
theorem mul_bounds {a b A B : Int} (h0 : 0 ≤ a) (hA : a ≤ A) (h1 : -B ≤ b) (h2 : b ≤ B) (hB : 0 ≤ B) : -(A * B) ≤ a * b ∧ a * b ≤ A * B := by
  have e1 := Int.mul_le_mul_of_nonneg_left h2 h0
  have e2 := Int.mul_le_mul_of_nonneg_right hA hB
  have e3 := Int.mul_le_mul_of_nonneg_left h1 h0
  have e4 : a * -B = -(a * B) := Int.mul_neg a B
  omega
theorem mul_nonneg' {a b : Int} (h0 : 0 ≤ a) (h1 : 0 ≤ b) : 0 ≤ a * b := Int.mul_nonneg h0 h1
theorem next_nat {j n : Nat} (h : j < n) (hn : n ≤ 4611686018427387904) : wrap64 ((j : Int) + 1) = ((j + 1 : Nat) : Int) := by
  rw [wrap_id (by omega) (by omega)]; omega
theorem rd_nat (l : List Int) (j : Nat) : rd l (j : Int) = l.getD j 0 := by unfold rd; simp
theorem suc_of {k d : Nat} (h : d < k) : ∃ m, k = m + 1 := ⟨k - 1, by omega⟩
theorem getD_lt {α : Type} {l : List α} {j : Nat} {d : α} (h : j < l.length) : l.getD j d = l[j] := by
  rw [List.getD_eq_getElem?_getD, List.getElem?_eq_getElem h]; rfl
theorem drop_cons {α : Type} (l : List α) {j : Nat} (h : j < l.length) (d : α) : l.drop j = l.getD j d :: l.drop (j + 1) := by
  rw [getD_lt h]; exact List.drop_eq_getElem_cons h
theorem up {α : Type} {g : Nat → Option α} (hm : ∀ k, LeO (g k) (g (k + 1))) {k0 : Nat} {r : α} (h : g k0 = some r) : ∀ k, k0 ≤ k → g k = some r := by
  intro k hk
  induction hk with
  | refl => exact h
  | step _ ih => exact hm _ _ ih

def rdiv (a b : Int) : Int := if a < 0 then -((b - 2 * a) / (2 * b)) else (2 * a + b) / (2 * b)
theorem rdiv_pos_eq {q r b : Int} (hb : 0 < b) (h0 : 0 ≤ r) (h1 : r < b) : (2 * (b * q + r) + b) / (2 * b) = if r ≥ b - r then q + 1 else q := by
  have e : 2 * (b * q + r) + b = (2 * r + b) + (2 * b) * q := by rw [Int.mul_add, ← Int.mul_assoc]; omega
  rw [e, Int.add_mul_ediv_left _ _ (by omega : (2 * b : Int) ≠ 0)]
  split
  · have : (2 * r + b) / (2 * b) = 1 := by
      have e2 : 2 * r + b = (2 * r - b) + (2 * b) * 1 := by omega
      rw [e2, Int.add_mul_ediv_left _ _ (by omega : (2 * b : Int) ≠ 0), Int.ediv_eq_zero_of_lt (by omega) (by omega)]; rfl
    omega
  · have : (2 * r + b) / (2 * b) = 0 := Int.ediv_eq_zero_of_lt (by omega) (by omega)
    omega
theorem abs_def {a : Int} (h : -9223372036854775807 ≤ a) (h2 : a ≤ 9223372036854775807) : impl_abs.f a = some (if a < 0 then -a else a) := by
  unfold impl_abs.f mx
  rw [wrap_id (by omega) (by omega)]
  split <;> split <;> first | rfl | (simp; omega)
theorem impl_div {a b : Int} (hb : 0 < b) (hb2 : b ≤ 2305843009213693951) (ha : -2305843009213693951 ≤ a) (ha2 : a ≤ 2305843009213693951) : impl_divRound.f a b = some (rdiv a b) := by
  unfold impl_divRound.f
  rw [if_neg (by omega)]
  by_cases h : a < 0
  · have hq0 : a.tdiv b = -((-a) / b) := by rw [← Int.tdiv_eq_ediv_of_nonneg (by omega), Int.neg_tdiv, Int.neg_neg]
    have hr0 : a.tmod b = -((-a) % b) := by rw [← Int.tmod_eq_emod_of_nonneg (by omega), Int.neg_tmod, Int.neg_neg]
    have hr1 := Int.emod_nonneg (-a) (show b ≠ 0 by omega)
    have hr2 := Int.emod_lt_of_pos (-a) hb
    have hd := Int.mul_ediv_add_emod (-a) b
    have hq1 : 0 ≤ (-a) / b := Int.ediv_nonneg (by omega) (by omega)
    have hq2 : (-a) / b ≤ -a := Int.ediv_le_self _ (by omega)
    rw [hq0, hr0]
    generalize (-a) / b = q at *
    generalize (-a) % b = r at *
    rw [abs_def (by omega) (by omega), abs_def (by omega) (by omega)]
    simp only [Option.bind_some]
    have e1 : (if -r < 0 then - -r else -r) = r := by split <;> omega
    have e2 : (if b < 0 then -b else b) = b := by rw [if_neg (by omega)]
    rw [e1, e2, wrap_id (x := b - r) (by omega) (by omega)]
    have hk : rdiv a b = -(if r ≥ b - r then q + 1 else q) := by
      unfold rdiv
      rw [if_pos h, ← rdiv_pos_eq (q := q) hb hr1 hr2, hd]
      congr 2; omega
    rw [hk]
    have w1 : wrap64 (-q) = -q := wrap_id (by omega) (by omega)
    rw [w1]
    by_cases hc : r ≥ b - r
    · rw [if_pos hc, if_pos hc, if_neg (by simp; omega), wrap_id (by omega) (by omega)]
      congr 1; omega
    · rw [if_neg hc, if_neg hc]
  · have hq0 : a.tdiv b = a / b := Int.tdiv_eq_ediv_of_nonneg (by omega)
    have hr0 : a.tmod b = a % b := Int.tmod_eq_emod_of_nonneg (by omega)
    have hr1 := Int.emod_nonneg a (show b ≠ 0 by omega)
    have hr2 := Int.emod_lt_of_pos a hb
    have hd := Int.mul_ediv_add_emod a b
    have hq1 : 0 ≤ a / b := Int.ediv_nonneg (by omega) (by omega)
    have hq2 : a / b ≤ a := Int.ediv_le_self _ (by omega)
    rw [hq0, hr0]
    generalize a / b = q at *
    generalize a % b = r at *
    rw [abs_def (by omega) (by omega), abs_def (by omega) (by omega)]
    simp only [Option.bind_some]
    have e1 : (if r < 0 then - r else r) = r := by rw [if_neg (by omega)]
    have e2 : (if b < 0 then -b else b) = b := by rw [if_neg (by omega)]
    rw [e1, e2, wrap_id (x := b - r) (by omega) (by omega)]
    have hk : rdiv a b = (if r ≥ b - r then q + 1 else q) := by
      unfold rdiv
      rw [if_neg h, ← rdiv_pos_eq (q := q) hb hr1 hr2, hd]
    rw [hk]
    have w1 : wrap64 q = q := wrap_id (by omega) (by omega)
    rw [w1]
    by_cases hc : r ≥ b - r
    · rw [if_pos hc, if_pos hc, if_pos (by simp; omega), wrap_id (by omega) (by omega)]
    · rw [if_neg hc, if_neg hc]
theorem rdiv_nonneg {a b : Int} (ha : 0 ≤ a) (hb : 0 < b) : 0 ≤ rdiv a b := by
  unfold rdiv; rw [if_neg (by omega)]; exact Int.ediv_nonneg (by omega) (by omega)
theorem rdiv_le {a b : Int} (ha : 0 ≤ a) (hb : 0 < b) : rdiv a b ≤ 2 * a + b := by
  unfold rdiv; rw [if_neg (by omega)]; exact Int.ediv_le_self _ (by omega)

def tankOk (a b c : Int) : Bool := decide (1 ≤ a ∧ a ≤ 100) && (decide (1 ≤ b ∧ b ≤ 20) && decide (0 ≤ c ∧ c ≤ 1000))
theorem tankOk_iff {a b c : Int} : tankOk a b c = true ↔ (1 ≤ a ∧ a ≤ 100) ∧ (1 ≤ b ∧ b ≤ 20) ∧ (0 ≤ c ∧ c ≤ 1000) := by unfold tankOk; simp [and_assoc]
theorem impl_tank (a b c : Int) : impl_ValidTank.f a b c = some (tankOk a b c) := by
  unfold impl_ValidTank.f tankOk
  simp only [impl_in, Option.bind_some]
  cases decide (1 ≤ a ∧ a ≤ 100) <;> cases decide (1 ≤ b ∧ b ≤ 20) <;> rfl
def change (x : Int) : Bool := decide (-20 ≤ x ∧ x ≤ 20)
def hour (x : Int) : Bool := decide (0 ≤ x ∧ x ≤ 1000)
def aft (a b c v ch : Int) : Option Int := if (-b ≤ ch ∧ ch ≤ b) ∧ (0 ≤ v - rdiv (v * c) 1000 + ch ∧ v - rdiv (v * c) 1000 + ch ≤ a) then some (v - rdiv (v * c) 1000 + ch) else none
theorem aft_le {a b c v ch x : Int} (h : aft a b c v ch = some x) : 0 ≤ x ∧ x ≤ a := by
  unfold aft at h
  split at h
  · cases h; omega
  · cases h
theorem loss_b {c v : Int} (hc0 : 0 ≤ c) (hc : c ≤ 1000) (hv0 : 0 ≤ v) (hv : v ≤ 100) : (0 ≤ v * c ∧ v * c ≤ 100000) ∧ 0 ≤ rdiv (v * c) 1000 ∧ rdiv (v * c) 1000 ≤ 201000 := by
  have m := mul_bounds (a := v) (b := c) (A := 100) (B := 1000) hv0 hv (by omega) hc (by omega)
  have m0 := mul_nonneg' hv0 hc0
  have r0 := rdiv_nonneg (b := 1000) m0 (by omega)
  have r1 := rdiv_le (b := 1000) m0 (by omega)
  omega
theorem impl_after {a b c v ch : Int} (ht : tankOk a b c = true) (hv0 : 0 ≤ v) (hv : v ≤ a) (hc0 : -1000 ≤ ch) (hc1 : ch ≤ 1000) : ∃ y, impl_Tank_after.f a b c v ch = some (match aft a b c v ch with | some x => (x, true) | none => (y, false)) := by
  have t := tankOk_iff.1 ht
  have l := loss_b (c := c) (v := v) (by omega) (by omega) hv0 (by omega)
  refine ⟨v - rdiv (v * c) 1000 + ch, ?_⟩
  unfold impl_Tank_after.f aft
  rw [wrap_id (x := v * c) (by omega) (by omega), impl_div (by omega) (by omega) (by omega) (by omega), abs_def (by omega) (by omega)]
  simp only [Option.bind_some, impl_in]
  generalize rdiv (v * c) 1000 = z at *
  rw [wrap_id (x := v - z) (by omega) (by omega), wrap_id (x := v - z + ch) (by omega) (by omega)]
  by_cases h1 : -b ≤ ch ∧ ch ≤ b
  · rw [if_pos (by split <;> omega)]
    by_cases h2 : 0 ≤ v - z + ch ∧ v - z + ch ≤ a
    · simp [h1, h2]
    · simp [h1, h2]
  · rw [if_neg (by split <;> omega)]; simp [h1]
def lev (a b c : Int) : Int → List Int → Option (List Int)
  | _, [] => some []
  | v, ch :: t => match aft a b c v ch with | some x => (lev a b c x t).map (x :: ·) | none => none
theorem lev_len {a b c : Int} : ∀ (l : List Int) (v : Int) (r : List Int), lev a b c v l = some r → r.length = l.length := by
  intro l
  induction l with
  | nil => intro v r h; cases h; rfl
  | cons x t ih =>
    intro v r h
    unfold lev at h
    split at h
    · rename_i y _
      cases h2 : lev a b c y t with
      | none => rw [h2] at h; cases h
      | some s => rw [h2] at h; cases h; simp [ih _ _ h2]
    · cases h
theorem change_le {x : Int} (h : change x = true) : -20 ≤ x ∧ x ≤ 20 := of_decide_eq_true h
theorem all_getD {l : List Int} {p : Int → Bool} (h : l.all p = true) {j : Nat} (hj : j < l.length) : p (l.getD j 0) = true := by
  rw [getD_lt hj]; exact List.all_eq_true.1 h _ (List.getElem_mem hj)

theorem impl_ok (a b c v m : Int) (ls es : List Int) : impl_charging_ok.f a b c ls es m v = some (tankOk a b c && (decide (0 ≤ v ∧ v ≤ a) && ((ls.all hour && decide ((ls.length : Int) ≤ 24)) && hour m))) := by
  unfold impl_charging_ok.f impl_allWithin.f
  rw [impl_tank]
  have e : (ls.all fun x => decide (0 ≤ x ∧ x ≤ 1000)) = ls.all hour := rfl
  have e2 : decide (0 ≤ m ∧ m ≤ 1000) = hour m := rfl
  simp only [impl_in, e, e2, Option.bind_some]
  cases tankOk a b c
  · rfl
  · cases decide (0 ≤ v ∧ v ≤ a)
    · rfl
    · by_cases h : (ls.length : Int) ≤ 24
      · rw [if_pos h, decide_eq_true h]; cases ls.all hour <;> rfl
      · rw [if_neg h, decide_eq_false h]; simp
theorem hour_le {x : Int} (h : hour x = true) : 0 ≤ x ∧ x ≤ 1000 := of_decide_eq_true h

theorem rl_nat (l : List (List Int)) (j : Nat) : rd_L4 l (j : Int) = l.getD j [] := by unfold rd_L4; simp
def stp (a b c L most v ch : Int) : Option Int := match aft a b c v ch with
  | some x => if 0 ≤ L + ch ∧ L + ch ≤ most then some x else none
  | none => none
theorem stp_le {a b c L most v ch x : Int} (h : stp a b c L most v ch = some x) : 0 ≤ x ∧ x ≤ a := by
  unfold stp at h
  split at h
  · rename_i y e
    split at h
    · cases h; exact aft_le e
    · cases h
  · cases h
theorem set_get {l : List Int} {j : Nat} {x : Int} (h : l.getD j 0 = x) (hj : j < l.length) : l.set j x = l := by
  rw [← h, getD_lt hj, List.set_getElem_self]
theorem getD_set {X : List (List Int)} {i j : Nat} {R : List Int} (hi : i < X.length) : (X.set i R).getD j [] = if i = j then R else X.getD j [] := by
  by_cases e : i = j
  · subst e; rw [if_pos rfl, getD_lt (by rw [List.length_set]; exact hi), List.getElem_set_self]
  · rw [if_neg e, List.getD_eq_getElem?_getD, List.getD_eq_getElem?_getD, List.getElem?_set_ne e]
theorem getD_setI {R : List Int} {i j : Nat} {x : Int} (hi : i < R.length) : (R.set i x).getD j 0 = if i = j then x else R.getD j 0 := by
  by_cases e : i = j
  · subst e; rw [if_pos rfl, getD_lt (by rw [List.length_set]; exact hi), List.getElem_set_self]
  · rw [if_neg e, List.getD_eq_getElem?_getD, List.getD_eq_getElem?_getD, List.getElem?_set_ne e]
def run (a b c most : Int) : List Int → Int → List Int → Option Int
  | [], v, [] => some v
  | L :: t, v, ch :: u => match stp a b c L most v ch with | some x => run a b c most t x u | none => none
  | _, _, _ => none
theorem run_cons (a b c most L ch : Int) (t u : List Int) (v : Int) : run a b c most (L :: t) v (ch :: u) = match stp a b c L most v ch with | some x => run a b c most t x u | none => none := rfl
theorem run_some {a b c most L ch x : Int} {t u : List Int} {v : Int} (h : stp a b c L most v ch = some x) : run a b c most (L :: t) v (ch :: u) = run a b c most t x u := by rw [run_cons, h]
theorem run_none {a b c most L ch : Int} {t u : List Int} {v : Int} (h : stp a b c L most v ch = none) : run a b c most (L :: t) v (ch :: u) = none := by rw [run_cons, h]
theorem stp_b {a b c L most v ch x : Int} (h : stp a b c L most v ch = some x) : (-b ≤ ch ∧ ch ≤ b) ∧ (0 ≤ L + ch ∧ L + ch ≤ most) ∧ aft a b c v ch = some x := by
  unfold stp at h
  split at h
  · rename_i y e
    split at h
    · rename_i f
      cases h
      refine ⟨?_, f, e⟩
      unfold aft at e
      split at e
      · rename_i g; exact g.1
      · cases e
    · cases h
  · cases h
theorem run_end {a b c most : Int} : ∀ (cs : List Int) (v : Int) (chs : List Int) (x : Int), 0 ≤ v → v ≤ a → run a b c most cs v chs = some x → 0 ≤ x ∧ x ≤ a := by
  intro cs
  induction cs with
  | nil => intro v chs x h0 h1 h; cases chs with
    | nil => cases h; exact ⟨h0, h1⟩
    | cons _ _ => cases h
  | cons L t ih =>
    intro v chs x h0 h1 h
    cases chs with
    | nil => cases h
    | cons ch u =>
      cases hs : stp a b c L most v ch with
      | none => rw [run_none hs] at h; cases h
      | some y =>
        rw [run_some hs] at h
        have := stp_le hs
        exact ih y u x this.1 this.2 h

def wp (a b c L most v : Int) (w : Int → Nat) : Nat → Int → Nat
  | 0, _ => 0
  | n + 1, ch => (match stp a b c L most v ch with | some x => w x | none => 0) + wp a b c L most v w n (ch + 1)
def ways (a b c most : Int) : List Int → Int → Nat
  | [], _ => 1
  | L :: t, v => wp a b c L most v (ways a b c most t) (2 * b + 1).toNat (-b)

def upd (a b c L most v : Int) (m : List Bool) (ch : Int) : List Bool := match aft a b c v ch with
  | some x => if 0 ≤ L + ch ∧ L + ch ≤ most then m.set x.toNat true else m
  | none => m
def inn (a b c L most v : Int) : Nat → Int → List Bool → List Bool
  | 0, _, m => m
  | n + 1, ch, m => inn a b c L most v n (ch + 1) (upd a b c L most v m ch)
def lvl (a b c L most : Int) (x9 : List Bool) : Nat → Int → List Bool → List Bool
  | 0, _, m => m
  | n + 1, v, m => lvl a b c L most x9 n (v + 1) (if x9.getD v.toNat false = true then inn a b c L most v (2 * b + 1).toNat (-b) m else m)
def hrs (a b c most : Int) : List Int → List Bool → List Bool
  | [], x9 => x9
  | L :: t, x9 => hrs a b c most t (lvl a b c L most x9 (a + 1).toNat 0 (List.replicate (a + 1).toNat false))
theorem upd_len (a b c L most v : Int) (m : List Bool) (ch : Int) : (upd a b c L most v m ch).length = m.length := by
  unfold upd; split
  · split <;> simp
  · rfl
theorem inn_len (a b c L most v : Int) : ∀ (n : Nat) (ch : Int) (m : List Bool), (inn a b c L most v n ch m).length = m.length := by
  intro n
  induction n with
  | zero => intro ch m; rfl
  | succ n ih => intro ch m; unfold inn; rw [ih, upd_len]
theorem lvl_len (a b c L most : Int) (x9 : List Bool) : ∀ (n : Nat) (v : Int) (m : List Bool), (lvl a b c L most x9 n v m).length = m.length := by
  intro n
  induction n with
  | zero => intro v m; rfl
  | succ n ih => intro v m; unfold lvl; rw [ih]; split <;> simp [inn_len]
theorem hrs_len (a b c most : Int) : ∀ (l : List Int) (x9 : List Bool), x9.length = (a + 1).toNat → (hrs a b c most l x9).length = (a + 1).toNat := by
  intro l
  induction l with
  | nil => intro x9 h; exact h
  | cons x t ih => intro x9 h; unfold hrs; exact ih _ (by rw [lvl_len]; simp)

/-! How many chargings there are, and where they end. -/
theorem wp_pos (a b c L most v : Int) (w : Int → Nat) : ∀ (n : Nat) (ch : Int), 0 < wp a b c L most v w n ch ↔ ∃ e x, ch ≤ e ∧ e < ch + (n : Int) ∧ stp a b c L most v e = some x ∧ 0 < w x := by
  intro n
  induction n with
  | zero =>
    intro ch
    refine ⟨fun h => absurd h (Nat.lt_irrefl 0), fun ⟨e, x, h1, h2, _⟩ => by omega⟩
  | succ n ih =>
    intro ch
    have e0 : wp a b c L most v w (n + 1) ch = (match stp a b c L most v ch with | some x => w x | none => 0) + wp a b c L most v w n (ch + 1) := rfl
    rw [e0]
    have i := ih (ch + 1)
    constructor
    · intro h
      by_cases g : 0 < wp a b c L most v w n (ch + 1)
      · obtain ⟨e, x, h1, h2, h3⟩ := i.1 g
        exact ⟨e, x, by omega, by omega, h3⟩
      · cases hs : stp a b c L most v ch with
        | none => rw [hs] at h; simp only [] at h; omega
        | some y =>
          rw [hs] at h
          simp only [] at h
          exact ⟨ch, y, Int.le_refl _, by omega, hs, by omega⟩
    · rintro ⟨e, x, h1, h2, h3, h4⟩
      by_cases g : e = ch
      · subst g; rw [h3]; simp only []; omega
      · have := i.2 ⟨e, x, by omega, by omega, h3, h4⟩
        omega
theorem ways_pos {a b c most : Int} : ∀ (cs : List Int) (v : Int), 0 < ways a b c most cs v ↔ ∃ chs x, run a b c most cs v chs = some x := by
  intro cs
  induction cs with
  | nil => intro v; exact ⟨fun _ => ⟨[], v, rfl⟩, fun _ => Nat.lt_succ_self 0⟩
  | cons L t ih =>
    intro v
    have e0 : ways a b c most (L :: t) v = wp a b c L most v (ways a b c most t) (2 * b + 1).toNat (-b) := rfl
    rw [e0, wp_pos]
    constructor
    · rintro ⟨e, x, _, _, h3, h4⟩
      obtain ⟨u, y, h5⟩ := (ih x).1 h4
      exact ⟨e :: u, y, by rw [run_some h3]; exact h5⟩
    · rintro ⟨chs, y, h⟩
      cases chs with
      | nil => cases h
      | cons e u =>
        cases hs : stp a b c L most v e with
        | none => rw [run_none hs] at h; cases h
        | some x =>
          rw [run_some hs] at h
          have g := stp_b hs
          exact ⟨e, x, by omega, by omega, hs, (ih x).2 ⟨u, y, h⟩⟩
theorem getD_setB {R : List Bool} {i j : Nat} (hi : i < R.length) : (R.set i true).getD j false = true ↔ R.getD j false = true ∨ i = j := by
  rw [List.getD_eq_getElem?_getD, List.getElem?_set, List.getD_eq_getElem?_getD]
  by_cases e : i = j
  · rw [if_pos e, if_pos hi]; exact ⟨fun _ => .inr e, fun _ => rfl⟩
  · rw [if_neg e]; exact ⟨fun h => .inl h, fun h => h.resolve_right e⟩
theorem upd_get {a b c L most v ch : Int} {m : List Bool} (hm : m.length = (a + 1).toNat) (j : Nat) : (upd a b c L most v m ch).getD j false = true ↔ m.getD j false = true ∨ ∃ x, stp a b c L most v ch = some x ∧ x.toNat = j := by
  unfold upd
  cases ha : aft a b c v ch with
  | none =>
    have hs : stp a b c L most v ch = none := by unfold stp; rw [ha]
    rw [hs]
    exact ⟨fun h => .inl h, fun h => h.resolve_right (fun ⟨x, hx, _⟩ => by cases hx)⟩
  | some y =>
    have hy := aft_le ha
    simp only []
    by_cases f : 0 ≤ L + ch ∧ L + ch ≤ most
    · have hs : stp a b c L most v ch = some y := by unfold stp; rw [ha]; exact if_pos f
      rw [if_pos f, getD_setB (by omega), hs]
      exact ⟨fun h => h.elim .inl (fun g => .inr ⟨y, rfl, g⟩), fun h => h.elim .inl (fun ⟨x, hx, g⟩ => .inr (by cases hx; exact g))⟩
    · have hs : stp a b c L most v ch = none := by unfold stp; rw [ha]; exact if_neg f
      rw [if_neg f, hs]
      exact ⟨fun h => .inl h, fun h => h.resolve_right (fun ⟨x, hx, _⟩ => by cases hx)⟩
theorem inn_get {a b c L most v : Int} (j : Nat) : ∀ (n : Nat) (ch : Int) (m : List Bool), m.length = (a + 1).toNat → ((inn a b c L most v n ch m).getD j false = true ↔ m.getD j false = true ∨ ∃ e x, ch ≤ e ∧ e < ch + (n : Int) ∧ stp a b c L most v e = some x ∧ x.toNat = j) := by
  intro n
  induction n with
  | zero => intro ch m _; exact ⟨fun h => .inl h, fun h => h.resolve_right (fun ⟨e, x, h1, h2, _⟩ => by omega)⟩
  | succ n ih =>
    intro ch m hm
    have e0 : inn a b c L most v (n + 1) ch m = inn a b c L most v n (ch + 1) (upd a b c L most v m ch) := rfl
    rw [e0, ih (ch + 1) _ (by rw [upd_len]; exact hm), upd_get hm]
    constructor
    · rintro ((h | ⟨x, h1, h2⟩) | ⟨e, x, h1, h2, h3⟩)
      · exact .inl h
      · exact .inr ⟨ch, x, Int.le_refl _, by omega, h1, h2⟩
      · exact .inr ⟨e, x, by omega, by omega, h3⟩
    · rintro (h | ⟨e, x, h1, h2, h3, h4⟩)
      · exact .inl (.inl h)
      · by_cases g : e = ch
        · subst g; exact .inl (.inr ⟨x, h3, h4⟩)
        · exact .inr ⟨e, x, by omega, by omega, h3, h4⟩
theorem lvl_get {a b c L most : Int} (x9 : List Bool) (j : Nat) : ∀ (n : Nat) (v : Int) (m : List Bool), m.length = (a + 1).toNat → ((lvl a b c L most x9 n v m).getD j false = true ↔ m.getD j false = true ∨ ∃ w e x, v ≤ w ∧ w < v + (n : Int) ∧ x9.getD w.toNat false = true ∧ stp a b c L most w e = some x ∧ x.toNat = j) := by
  intro n
  induction n with
  | zero => intro v m _; exact ⟨fun h => .inl h, fun h => h.resolve_right (fun ⟨w, e, x, h1, h2, _⟩ => by omega)⟩
  | succ n ih =>
    intro v m hm
    have e0 : lvl a b c L most x9 (n + 1) v m = lvl a b c L most x9 n (v + 1) (if x9.getD v.toNat false = true then inn a b c L most v (2 * b + 1).toNat (-b) m else m) := rfl
    rw [e0]
    by_cases g : x9.getD v.toNat false = true
    · rw [if_pos g, ih (v + 1) _ (by rw [inn_len]; exact hm), inn_get j _ _ _ hm]
      constructor
      · rintro ((h | ⟨e, x, h1, h2, h3, h4⟩) | ⟨w, e, x, h1, h2, h3⟩)
        · exact .inl h
        · exact .inr ⟨v, e, x, Int.le_refl _, by omega, g, h3, h4⟩
        · exact .inr ⟨w, e, x, by omega, by omega, h3⟩
      · rintro (h | ⟨w, e, x, h1, h2, h3, h4, h5⟩)
        · exact .inl (.inl h)
        · by_cases q : w = v
          · subst q
            have := stp_b h4
            exact .inl (.inr ⟨e, x, by omega, by omega, h4, h5⟩)
          · exact .inr ⟨w, e, x, by omega, by omega, h3, h4, h5⟩
    · rw [if_neg g, ih (v + 1) _ hm]
      constructor
      · rintro (h | ⟨w, e, x, h1, h2, h3⟩)
        · exact .inl h
        · exact .inr ⟨w, e, x, by omega, by omega, h3⟩
      · rintro (h | ⟨w, e, x, h1, h2, h3, h4⟩)
        · exact .inl h
        · by_cases q : w = v
          · subst q; exact absurd h3 g
          · exact .inr ⟨w, e, x, by omega, by omega, h3, h4⟩
theorem hrs_get {a b c most : Int} : ∀ (cs : List Int) (x9 : List Bool), x9.length = (a + 1).toNat → ∀ (x : Int), 0 ≤ x → x ≤ a → ((hrs a b c most cs x9).getD x.toNat false = true ↔ ∃ w chs, 0 ≤ w ∧ w ≤ a ∧ x9.getD w.toNat false = true ∧ run a b c most cs w chs = some x) := by
  intro cs
  induction cs with
  | nil =>
    intro x9 _ x h0 h1
    constructor
    · intro h; exact ⟨x, [], h0, h1, h, rfl⟩
    · rintro ⟨w, chs, _, _, h, hr⟩
      cases chs with
      | nil => cases hr; exact h
      | cons _ _ => cases hr
  | cons L t ih =>
    intro x9 h9 x h0 h1
    have e0 : hrs a b c most (L :: t) x9 = hrs a b c most t (lvl a b c L most x9 (a + 1).toNat 0 (List.replicate (a + 1).toNat false)) := rfl
    rw [e0, ih _ (by rw [lvl_len, List.length_replicate]) x h0 h1]
    have z : ∀ j, (List.replicate (a + 1).toNat false).getD j false = false := fun j => by
      rw [List.getD_eq_getElem?_getD, List.getElem?_replicate]; split <;> rfl
    constructor
    · rintro ⟨w, chs, w0, w1, hw, hr⟩
      rw [lvl_get x9 _ _ _ _ (by rw [List.length_replicate]), z] at hw
      rcases hw with hw | ⟨v, e, y, v0, v1, hv, hs, hy⟩
      · cases hw
      · have q := stp_le hs
        have : y = w := by omega
        subst this
        exact ⟨v, e :: chs, v0, by omega, hv, by rw [run_some hs]; exact hr⟩
    · rintro ⟨v, chs, v0, v1, hv, hr⟩
      cases chs with
      | nil => cases hr
      | cons e u =>
        cases hs : stp a b c L most v e with
        | none => rw [run_none hs] at hr; cases hr
        | some y =>
          rw [run_some hs] at hr
          have q := stp_le hs
          refine ⟨y, u, q.1, q.2, ?_, hr⟩
          rw [lvl_get x9 _ _ _ _ (by rw [List.length_replicate])]
          exact .inr ⟨v, e, y, v0, by omega, hv, hs, rfl⟩

def cap (x K : Nat) : Int := ((min x K : Nat) : Int)
theorem cap_b (x K : Nat) : 0 ≤ cap x K ∧ cap x K ≤ (K : Int) := by unfold cap; omega
theorem cap_zero (K : Nat) : cap 0 K = 0 := by unfold cap; omega
theorem cap_mn (x y : Nat) : mn (cap x 20001 + cap y 20001) 20001 = cap (x + y) 20001 := by unfold mn cap; split <;> omega
def Tb (N K : Nat) (T : List Int) (G : Int → Nat) : Prop := T.length = N ∧ ∀ j : Nat, j < N → T.getD j 0 = (cap (G (j : Int)) K)
theorem Tb_rd {N K : Nat} {T : List Int} {G : Int → Nat} (h : Tb N K T G) {v : Int} (h0 : 0 ≤ v) (h1 : v < (N : Int)) : rd T v = (cap (G v) K) := by
  have := h.2 v.toNat (by omega)
  rw [show ((v.toNat : Nat) : Int) = v by omega] at this
  exact this
theorem cnt_inn {a b c : Int} (ht : tankOk a b c = true) (cs es : List Int) (most : Int) (hh : cs.all hour = true) (w : Int → Nat) (Q : List Int) (hQ : Tb (a + 1).toNat 20001 Q w) (h : Nat) (hc : h < cs.length) (hc24 : cs.length ≤ 24) (v : Nat) (hv1 : (v : Int) ≤ a) (N : Int) (R : List Int) (hR : R.length = (a + 1).toNat) (k : Nat) (Good : List (List Int) → Prop) :
    ∀ (n : Nat) (ch : Int) (X : List (List Int)) (acc : Nat), X.length = cs.length + 1 → X.getD (h + 1) [] = Q → X.getD h [] = R.set v (cap acc 20001) → -b ≤ ch → ch + (n : Int) = b + 1 →
    (∀ X', X'.length = cs.length + 1 → X'.getD (h + 1) [] = Q → X'.getD h [] = R.set v (cap (acc + wp a b c (cs.getD h 0) most v w n ch) 20001) → ∃ r, impl_charging_counts.l2 k X' (h : Int) N (wrap64 ((v : Int) + 1)) a b c cs es most = some r ∧ Good r) →
    ∃ r, impl_charging_counts.l3 (k + n + 1) X (h : Int) (v : Int) ch N (v : Int) a b c cs es most = some r ∧ Good r := by
  have t := tankOk_iff.1 ht
  have hQl := hQ.1
  intro n
  induction n with
  | zero =>
    intro ch X acc hX hX1 hX0 h0 h1 hyp
    rw [show k + 0 + 1 = k + 1 by omega]
    simp only [impl_charging_counts.l3]
    rw [if_neg (by omega)]
    unfold wp at hyp
    exact hyp X hX hX1 (by rw [Nat.add_zero]; exact hX0)
  | succ n ih =>
    intro ch X acc hX hX1 hX0 h0 h1 hyp
    have hb := hour_le (all_getD hh hc)
    obtain ⟨K, hK⟩ : ∃ K, K = k + n + 1 := ⟨_, rfl⟩
    rw [show k + (n + 1) + 1 = K + 1 by omega]
    simp only [← hK] at ih
    obtain ⟨y, hy⟩ := impl_after (ch := ch) ht (show (0 : Int) ≤ (v : Int) by omega) hv1 (by omega) (by omega)
    simp only [impl_charging_counts.l3]
    unfold impl_charging_after.f
    rw [if_pos (by omega), hy, wrap_id (x := ch + 1) (by omega) (by omega)]
    unfold wp at hyp
    simp only [Option.bind_some]
    cases ha : aft a b c v ch with
    | none =>
      have hs : stp a b c (cs.getD h 0) most v ch = none := by unfold stp; rw [ha]
      rw [hs] at hyp
      simp only [Nat.zero_add] at hyp
      simpa using ih (ch + 1) X acc hX hX1 hX0 (by omega) (by omega) hyp
    | some x =>
      have hx := aft_le ha
      simp only [if_true]
      rw [if_pos (by omega), if_pos (by omega), rd_nat, wrap_id (x := cs.getD h 0 + ch) (by omega) (by omega), impl_in]
      simp only [Option.bind_some]
      by_cases hf : 0 ≤ cs.getD h 0 + ch ∧ cs.getD h 0 + ch ≤ most
      · have hs : stp a b c (cs.getD h 0) most v ch = some x := by unfold stp; rw [ha]; exact if_pos hf
        rw [hs] at hyp
        have ex := Tb_rd hQ hx.1 (show x < (((a + 1).toNat : Nat) : Int) by omega)
        have b1 := cap_b acc 20001
        have b2 := cap_b (w x) 20001
        have er : rd (R.set v (cap acc 20001)) (v : Int) = (cap acc 20001) := by
          rw [rd_nat, getD_setI (by omega), if_pos rfl]
        rw [decide_eq_true hf, if_pos rfl, if_pos (by omega), if_pos (by omega), if_pos (by omega), rl_nat, hX0, if_pos (by rw [List.length_set]; omega), next_nat (n := cs.length) (by omega) (by omega), if_pos (by omega), if_pos (by omega), rl_nat, hX1, if_pos (by omega), if_pos (by omega), er, ex, wrap_id (by omega) (by omega), Int.toNat_natCast, Int.toNat_natCast, List.set_set]
        rw [cap_mn]
        refine ih (ch + 1) _ (acc + w x) (by rw [List.length_set]; exact hX) (by rw [getD_set (by omega), if_neg (by omega)]; exact hX1) (by rw [getD_set (by omega), if_pos rfl]) (by omega) (by omega) (fun X' a1 a2 a3 => hyp X' a1 a2 (by rw [a3, Nat.add_assoc]))
      · have hs : stp a b c (cs.getD h 0) most v ch = none := by unfold stp; rw [ha]; exact if_neg hf
        rw [hs] at hyp
        simp only [Nat.zero_add] at hyp
        rw [decide_eq_false hf, if_neg Bool.false_ne_true]
        exact ih (ch + 1) X acc hX hX1 hX0 (by omega) (by omega) hyp
theorem cnt_lvl {a b c : Int} (ht : tankOk a b c = true) (cs es : List Int) (most : Int) (hh : cs.all hour = true) (w : Int → Nat) (Q : List Int) (hQ : Tb (a + 1).toNat 20001 Q w) (h : Nat) (hc : h < cs.length) (hc24 : cs.length ≤ 24) (k : Nat) (Good : List (List Int) → Prop) :
    ∀ (n v : Nat) (X : List (List Int)), X.length = cs.length + 1 → X.getD (h + 1) [] = Q → (X.getD h []).length = (a + 1).toNat → (∀ j, j < v → (X.getD h []).getD j 0 = cap (wp a b c (cs.getD h 0) most (j : Int) w (2 * b + 1).toNat (-b)) 20001) → (∀ j, v ≤ j → j < (a + 1).toNat → (X.getD h []).getD j 0 = 0) → v + n = (a + 1).toNat →
    (∀ X', X'.length = cs.length + 1 → Tb (a + 1).toNat 20001 (X'.getD h []) (fun z => wp a b c (cs.getD h 0) most z w (2 * b + 1).toNat (-b)) → ∃ r, impl_charging_counts.l1 k X' (wrap64 ((h : Int) - 1)) a b c cs es most = some r ∧ Good r) →
    ∃ r, impl_charging_counts.l2 (k + 100 * n + 1) X (h : Int) (((a + 1).toNat : Nat) : Int) (v : Int) a b c cs es most = some r ∧ Good r := by
  have t := tankOk_iff.1 ht
  intro n
  induction n with
  | zero =>
    intro v X hX hX1 hXl hA hB hv hyp
    rw [show k + 100 * 0 + 1 = k + 1 by omega]
    simp only [impl_charging_counts.l2]
    rw [if_neg (by omega)]
    exact hyp X hX ⟨hXl, fun j hj => hA j (by omega)⟩
  | succ n ih =>
    intro v X hX hX1 hXl hA hB hv hyp
    obtain ⟨Y, hY⟩ : ∃ Y, Y = k + 100 * n + 100 := ⟨_, rfl⟩
    rw [show k + 100 * (n + 1) + 1 = Y + 1 by omega]
    simp only [impl_charging_counts.l2]
    rw [if_pos (by omega), wrap_id (x := -b) (by omega) (by omega)]
    obtain ⟨r, r1, r2⟩ := cnt_inn ht cs es most hh w Q hQ h hc hc24 v (by omega) (((a + 1).toNat : Nat) : Int) (X.getD h []) hXl (k + 100 * n + 1) Good (2 * b + 1).toNat (-b) X 0 hX hX1 (by rw [cap_zero, set_get (hB v (Nat.le_refl _) (by omega)) (by omega)]) (by omega) (by omega) (fun X' a1 a2 a3 => by
      rw [next_nat (n := (a + 1).toNat) (by omega) (by omega)]
      rw [Nat.zero_add] at a3
      refine ih (v + 1) X' a1 a2 (by rw [a3, List.length_set]; exact hXl) (fun j hj => ?_) (fun j hj hj2 => ?_) (by omega) hyp
      · rw [a3, getD_setI (by omega)]
        by_cases e : v = j
        · subst e; rw [if_pos rfl]
        · rw [if_neg e, ← hA j (by omega)]
      · rw [a3, getD_setI (by omega), if_neg (by omega)]; exact hB j (by omega) hj2)
    exact ⟨r, up (g := fun k => impl_charging_counts.l3 k X (h : Int) (v : Int) (-b) (((a + 1).toNat : Nat) : Int) (v : Int) a b c cs es most) (fun k => (impl_charging_counts.mono_l k).2.2.2 _ _ _ _ _ _ _ _ _ _ _ _) r1 _ (by omega), r2⟩
theorem cnt_hrs {a b c : Int} (ht : tankOk a b c = true) (cs es : List Int) (hl : cs.length ≤ 24) (most : Int) (hh : cs.all hour = true) : ∀ (h : Nat) (X : List (List Int)), h ≤ cs.length → X.length = cs.length + 1 → Tb (a + 1).toNat 20001 (X.getD h []) (ways a b c most (cs.drop h)) →
    ∃ r, impl_charging_counts.l1 (11000 * h + 1) X ((h : Int) - 1) a b c cs es most = some r ∧ (r.length = cs.length + 1 ∧ Tb (a + 1).toNat 20001 (r.getD 0 []) (ways a b c most cs)) := by
  have t := tankOk_iff.1 ht
  intro h
  induction h with
  | zero =>
    intro X hd hX hT
    simp only [impl_charging_counts.l1]
    rw [if_neg (by omega)]
    rw [List.drop_zero] at hT
    exact ⟨X, rfl, hX, hT⟩
  | succ h ih =>
    intro X hd hX hT
    obtain ⟨Y, hY⟩ : ∃ Y, Y = 11000 * h + 11000 := ⟨_, rfl⟩
    rw [show 11000 * (h + 1) + 1 = Y + 1 by omega, show ((h + 1 : Nat) : Int) - 1 = (h : Int) by omega]
    have eN : wrap64 (a + 1) = a + 1 := wrap_id (by omega) (by omega)
    simp only [impl_charging_counts.l1, Option.bind_some]
    rw [if_pos (by omega), eN, if_pos (by omega), if_pos (by omega), if_pos (by omega), if_pos (by omega), Int.toNat_natCast, rl_nat, getD_set (by omega), if_pos rfl, List.length_replicate]
    obtain ⟨r, r1, r2⟩ := cnt_lvl ht cs es most hh _ (X.getD (h + 1) []) hT h (by omega) hl (11000 * h + 1) (fun r => r.length = cs.length + 1 ∧ Tb (a + 1).toNat 20001 (r.getD 0 []) (ways a b c most cs)) (a + 1).toNat 0 (X.set h (List.replicate (a + 1).toNat 0)) (by rw [List.length_set]; exact hX) (by rw [getD_set (by omega), if_neg (by omega)]) (by rw [getD_set (by omega), if_pos rfl, List.length_replicate]) (fun j hj => absurd hj (by omega)) (fun j _ hj => by rw [getD_set (by omega), if_pos rfl, getD_lt (by rw [List.length_replicate]; exact hj), List.getElem_replicate]) (by omega) (fun X' a1 a2 => by
      rw [wrap_id (x := (h : Int) - 1) (by omega) (by omega)]
      refine ih X' (by omega) a1 ?_
      rw [drop_cons cs (by omega : h < cs.length) 0]
      exact a2)
    exact ⟨r, up (g := fun k => impl_charging_counts.l2 k _ (h : Int) _ 0 a b c cs es most) (fun k => (impl_charging_counts.mono_l k).2.2.1 _ _ _ _ _ _ _ _ _ _) r1 _ (by omega), r2⟩
theorem cnt_ones {a b c : Int} (ht : tankOk a b c = true) (cs es : List Int) (hl : cs.length ≤ 24) (most : Int) (k : Nat) (Good : List (List Int) → Prop) (hyp : ∀ X', X'.length = cs.length + 1 → Tb (a + 1).toNat 20001 (X'.getD cs.length []) (fun _ => 1) → ∃ r, impl_charging_counts.l1 k X' ((cs.length : Int) - 1) a b c cs es most = some r ∧ Good r) : ∀ (n v : Nat) (X : List (List Int)), X.length = cs.length + 1 → (X.getD cs.length []).length = (a + 1).toNat → (∀ j, j < v → (X.getD cs.length []).getD j 0 = 1) → v + n = (a + 1).toNat →
    ∃ r, impl_charging_counts.l0 (k + n + 1) X (((a + 1).toNat : Nat) : Int) (v : Int) a b c cs es most = some r ∧ Good r := by
  have t := tankOk_iff.1 ht
  intro n
  induction n with
  | zero =>
    intro v X hX hXl hA hv
    rw [show k + 0 + 1 = k + 1 by omega]
    simp only [impl_charging_counts.l0]
    rw [if_neg (by omega), wrap_id (by omega) (by omega)]
    exact hyp X hX ⟨hXl, fun j hj => by rw [hA j (by omega)]; rfl⟩
  | succ n ih =>
    intro v X hX hXl hA hv
    obtain ⟨Y, hY⟩ : ∃ Y, Y = k + n + 1 := ⟨_, rfl⟩
    rw [show k + (n + 1) + 1 = Y + 1 by omega]
    simp only [← hY] at ih
    simp only [impl_charging_counts.l0]
    rw [if_pos (by omega), if_pos (by omega), if_pos (by omega), if_pos (by omega), rl_nat, if_pos (by omega), next_nat (n := (a + 1).toNat) (by omega) (by omega), Int.toNat_natCast, Int.toNat_natCast]
    refine ih (v + 1) _ (by rw [List.length_set]; exact hX) (by rw [getD_set (by omega), if_pos rfl, List.length_set]; exact hXl) (fun j hj => ?_) (by omega)
    rw [getD_set (by omega), if_pos rfl, getD_setI (by omega)]
    by_cases e : v = j
    · rw [if_pos e]
    · rw [if_neg e, ← hA j (by omega)]
theorem cnt_all {a b c : Int} (ht : tankOk a b c = true) (cs es : List Int) (hl : cs.length ≤ 24) (most : Int) (hh : cs.all hour = true) (k : Nat) (hk : 1000000 ≤ k) : ∃ r, impl_charging_counts.f k a b c cs es most = some r ∧ (r.length = cs.length + 1 ∧ Tb (a + 1).toNat 20001 (r.getD 0 []) (ways a b c most cs)) := by
  have t := tankOk_iff.1 ht
  have e1 : wrap64 ((cs.length : Int) + 1) = (cs.length : Int) + 1 := wrap_id (by omega) (by omega)
  have eN : wrap64 (a + 1) = a + 1 := wrap_id (by omega) (by omega)
  have e2 : ((cs.length : Int) + 1).toNat = cs.length + 1 := by omega
  have hlen : ((List.replicate (cs.length + 1) ([] : List Int)).set cs.length (List.replicate (a + 1).toNat 0)).length = cs.length + 1 := by simp
  have hget : ((List.replicate (cs.length + 1) ([] : List Int)).set cs.length (List.replicate (a + 1).toNat 0)).getD cs.length [] = List.replicate (a + 1).toNat 0 := by rw [getD_set (by simp), if_pos rfl]
  unfold impl_charging_counts.f
  simp only [Option.bind_some]
  rw [e1, eN, e2, if_pos (by omega), if_pos (by omega), if_pos (by omega), if_pos (by omega), if_pos (by omega), List.length_replicate, if_pos (by omega), Int.toNat_natCast, List.length_replicate]
  obtain ⟨r, r1, r2⟩ := cnt_ones ht cs es hl most (11000 * cs.length + 1) (fun r => r.length = cs.length + 1 ∧ Tb (a + 1).toNat 20001 (r.getD 0 []) (ways a b c most cs)) (fun X' a1 a2 => by
    refine cnt_hrs ht cs es hl most hh cs.length X' (Nat.le_refl _) a1 ?_
    rw [List.drop_eq_nil_of_le (Nat.le_refl _)]
    exact a2) (a + 1).toNat 0 _ hlen (by rw [hget, List.length_replicate]) (fun j hj => absurd hj (by omega)) (by omega)
  exact ⟨r, up (g := fun k => impl_charging_counts.l0 k _ _ 0 a b c cs es most) (fun k => (impl_charging_counts.mono_l k).1 _ _ _ _ _ _ _ _ _) r1 k (by omega), r2⟩

theorem clos_i {a b c : Int} (ht : tankOk a b c = true) (cs : List Int) (h24 : cs.length ≤ 24) (most : Int) (hh : cs.all hour = true) (v : Int) (hv : 0 ≤ v ∧ v ≤ a) (n : Int) (k : Nat) (hk : 1000000 ≤ k) : impl_LeastTank_1.f k n [(⟨(⟨a, b, c⟩ : S25), cs, ([] : List Int), most⟩ : S59)] [v] = some (decide (0 < ways a b c most cs v)) := by
  have t := tankOk_iff.1 ht
  obtain ⟨r, r1, r2, r3⟩ := cnt_all ht cs [] h24 most hh k hk
  have r3l := r3.1
  have ev := Tb_rd r3 hv.1 (show v < (((a + 1).toNat : Nat) : Int) by omega)
  have e0 : rd_L4 r 0 = r.getD 0 [] := rl_nat r 0
  have e1 : rd [v] 0 = v := rfl
  have hc : decide (cap (ways a b c most cs v) 20001 > 0) = decide (0 < ways a b c most cs v) := decide_eq_decide.2 (by unfold cap; omega)
  unfold impl_LeastTank_1.f
  simp only [show rd_T59 [(⟨(⟨a, b, c⟩ : S25), cs, ([] : List Int), most⟩ : S59)] 0 = ⟨(⟨a, b, c⟩ : S25), cs, ([] : List Int), most⟩ from rfl, r1, Option.bind_some, e0, e1]
  rw [if_pos (by simp), if_pos (by omega), if_pos (by simp), if_pos hv.1, if_pos (by omega), ev, hc]
theorem tank_at {a b c n : Int} (h : tankOk a b c = true) (h1 : 1 ≤ n) (h2 : n ≤ 100) : tankOk n b c = true := tankOk_iff.2 ⟨⟨h1, h2⟩, (tankOk_iff.1 h).2⟩
theorem impl_changes (l : List Int) : impl_changesOk.f l = some (l.all change && decide ((l.length : Int) ≤ 24)) := by
  unfold impl_changesOk.f impl_allWithin.f
  have e : (l.all fun x => decide (-20 ≤ x ∧ x ≤ 20)) = l.all change := rfl
  rw [e]
  by_cases h : (l.length : Int) ≤ 24
  · rw [if_pos h, decide_eq_true h]; simp
  · rw [if_neg h, decide_eq_false h]; simp
theorem impl_lev_l0 {a b c : Int} (ht : tankOk a b c = true) (l : List Int) (hl : l.length ≤ 24) (hc : l.all change = true) : ∀ (d j k : Nat) (acc : List Int) (v : Int), j + d = l.length → d < k → 0 ≤ v → v ≤ a → acc.length = j →
    impl_LevelsOf.l0 k acc v l (l.length : Int) (j : Int) a b c = some (match lev a b c v (l.drop j) with | some r => (acc ++ r, 0) | none => ([], 6)) := by
  intro d
  induction d with
  | zero =>
    intro j k acc v hj hk h0 h1 ha
    obtain ⟨k, rfl⟩ := suc_of hk
    simp only [impl_LevelsOf.l0]
    rw [if_neg (by omega), List.drop_eq_nil_of_le (by omega)]
    simp [lev]
  | succ d ih =>
    intro j k acc v hj hk h0 h1 ha
    obtain ⟨k, rfl⟩ := suc_of hk
    have cb := change_le (all_getD hc (show j < l.length by omega))
    simp only [impl_LevelsOf.l0]
    obtain ⟨y, hy⟩ := impl_after (ch := l.getD j 0) ht h0 h1 (by omega) (by omega)
    rw [if_pos (by omega), if_pos (by omega), if_pos (by omega), rd_nat, hy, drop_cons l (by omega : j < l.length) 0, next_nat (n := l.length) (by omega) (by omega)]
    simp only [Option.bind_some, lev]
    cases h : aft a b c v (l.getD j 0) with
    | none => rfl
    | some x =>
      simp only [if_true]
      have hx := aft_le h
      rw [if_pos (by omega), ih (j + 1) k _ x (by omega) (by omega) hx.1 hx.2 (by simp; omega)]
      cases lev a b c x (l.drop (j + 1)) <;> simp
theorem las_inn {a b c : Int} (ht : tankOk a b c = true) (cs : List Int) (most : Int) (hh : cs.all hour = true) (x9 : List Bool) (H : Int) (h : Nat) (hc : h < cs.length) (v : Int) (hv0 : 0 ≤ v) (hv1 : v ≤ a) (W : Int) (k : Nat) (r : List Int × Int) :
    ∀ (n : Nat) (ch : Int) (m : List Bool), m.length = (a + 1).toNat → -b ≤ ch → ch + (n : Int) = b + 1 →
    impl_LastLevels.l1 k (h : Int) (inn a b c (cs.getD h 0) most v n ch m) H (h : Int) x9 W (wrap64 (v + 1)) a b c a b c cs most = some r →
    impl_LastLevels.l2 (k + 2 * n + 2) (h : Int) m v true ch H (h : Int) x9 W v a b c a b c cs most = some r := by
  have t := tankOk_iff.1 ht
  intro n
  induction n with
  | zero =>
    intro ch m hm h0 h1 hyp
    simp only [impl_LastLevels.l2, impl_LastLevels.j3]
    have e : decide (ch ≤ b) = false := decide_eq_false (by omega)
    rw [if_pos trivial, e, if_neg Bool.false_ne_true]
    exact hyp
  | succ n ih =>
    intro ch m hm h0 h1 hyp
    have hb := hour_le (all_getD hh hc)
    obtain ⟨K, hK⟩ : ∃ K, K = k + 2 * n + 2 := ⟨_, rfl⟩
    rw [show k + 2 * (n + 1) + 2 = K + 1 + 1 by omega]
    simp only [← hK] at ih
    simp only [impl_LastLevels.l2, impl_LastLevels.j3]
    have e : decide (ch ≤ b) = true := decide_eq_true (by omega)
    obtain ⟨y, hy⟩ := impl_after (ch := ch) ht hv0 hv1 (by omega) (by omega)
    unfold impl_charging_after.f
    rw [if_pos trivial, e, if_pos rfl, hy, wrap_id (x := ch + 1) (by omega) (by omega)]
    unfold inn at hyp
    have go := ih (ch + 1) (upd a b c (cs.getD h 0) most v m ch) (by rw [upd_len]; exact hm) (by omega) (by omega) hyp
    unfold upd at go
    simp only [Option.bind_some]
    cases ha : aft a b c v ch with
    | none => rw [ha] at go; simpa using go
    | some x =>
      have hx := aft_le ha
      rw [ha] at go
      simp only [if_true] at go ⊢
      rw [if_pos (by omega), if_pos (by omega), rd_nat, wrap_id (x := cs.getD h 0 + ch) (by omega) (by omega), impl_in]
      simp only [Option.bind_some]
      by_cases hf : 0 ≤ cs.getD h 0 + ch ∧ cs.getD h 0 + ch ≤ most
      · rw [if_pos hf] at go
        rw [decide_eq_true hf, if_pos rfl, if_pos (by omega), if_pos (by omega)]
        exact go
      · rw [if_neg hf] at go
        rw [decide_eq_false hf, if_neg Bool.false_ne_true]
        exact go
theorem las_lvl {a b c : Int} (ht : tankOk a b c = true) (cs : List Int) (most : Int) (hh : cs.all hour = true) (x9 : List Bool) (h9 : x9.length = (a + 1).toNat) (h : Nat) (hc : h < cs.length) (H : Int) (k : Nat) (r : List Int × Int) :
    ∀ (n : Nat) (v : Int) (m : List Bool), m.length = (a + 1).toNat → 0 ≤ v → v + (n : Int) = a + 1 →
    impl_LastLevels.l0 k (lvl a b c (cs.getD h 0) most x9 n v m) H (wrap64 ((h : Int) + 1)) a b c a b c cs most = some r →
    impl_LastLevels.l1 (k + 100 * n + 1) (h : Int) m H (h : Int) x9 (x9.length : Int) v a b c a b c cs most = some r := by
  have t := tankOk_iff.1 ht
  intro n
  induction n with
  | zero =>
    intro v m hm h0 h1 hyp
    rw [show k + 100 * 0 + 1 = k + 1 by omega]
    simp only [impl_LastLevels.l1]
    rw [if_neg (by omega)]
    exact hyp
  | succ n ih =>
    intro v m hm h0 h1 hyp
    obtain ⟨F, hF⟩ : ∃ F, F = k + 100 * n + 98 := ⟨_, rfl⟩
    rw [show k + 100 * (n + 1) + 1 = F + 1 + 1 + 1 by omega]
    simp only [impl_LastLevels.l1]
    rw [if_pos (by omega), if_pos (by omega), if_pos (by omega), wrap_id (x := -b) (by omega) (by omega)]
    unfold lvl at hyp
    by_cases hr : x9.getD v.toNat false = true
    · rw [if_pos hr] at hyp
      have er : rdOf false x9 v = true := hr
      have go := ih (v + 1) (inn a b c (cs.getD h 0) most v (2 * b + 1).toNat (-b) m) (by rw [inn_len]; exact hm) (by omega) (by omega) hyp
      rw [← wrap_id (x := v + 1) (by omega) (by omega)] at go
      have go2 := las_inn ht cs most hh x9 H h hc v h0 (by omega) _ _ r (2 * b + 1).toNat (-b) m hm (by omega) (by omega) go
      rw [er]
      exact up (g := fun k => impl_LastLevels.l2 k (h : Int) m v true (-b) H (h : Int) x9 (x9.length : Int) v a b c a b c cs most) (fun k => (impl_LastLevels.mono_l k).2.2.1 _ _ _ _ _ _ _ _ _ _ _ _ _ _ _ _ _ _) go2 _ (by omega)
    · rw [if_neg hr] at hyp
      have er : rdOf false x9 v = false := by rw [Bool.not_eq_true] at hr; exact hr
      have go := ih (v + 1) m hm (by omega) (by omega) hyp
      rw [er]
      simp only [impl_LastLevels.l2, impl_LastLevels.j3]
      rw [if_neg Bool.false_ne_true, if_neg Bool.false_ne_true, wrap_id (x := v + 1) (by omega) (by omega)]
      exact up (g := fun k => impl_LastLevels.l1 k (h : Int) m H (h : Int) x9 (x9.length : Int) (v + 1) a b c a b c cs most) (fun k => (impl_LastLevels.mono_l k).2.1 _ _ _ _ _ _ _ _ _ _ _ _ _ _ _) go _ (by omega)
theorem las_hrs {a b c : Int} (ht : tankOk a b c = true) (cs : List Int) (hl : cs.length ≤ 24) (most : Int) (hh : cs.all hour = true) (k : Nat) (r : List Int × Int) : ∀ (d h : Nat) (x9 : List Bool), h + d = cs.length → x9.length = (a + 1).toNat →
    impl_LastLevels.l3 k [] (hrs a b c most (cs.drop h) x9) ((hrs a b c most (cs.drop h) x9).length : Int) 0 = some r →
    impl_LastLevels.l0 (k + 11000 * d + 1) x9 (cs.length : Int) (h : Int) a b c a b c cs most = some r := by
  have t := tankOk_iff.1 ht
  intro d
  induction d with
  | zero =>
    intro h x9 hd h9 hyp
    rw [show k + 11000 * 0 + 1 = k + 1 by omega]
    simp only [impl_LastLevels.l0]
    rw [List.drop_eq_nil_of_le (by omega)] at hyp
    rw [if_neg (by omega)]
    exact hyp
  | succ d ih =>
    intro h x9 hd h9 hyp
    rw [drop_cons cs (by omega : h < cs.length) 0] at hyp
    obtain ⟨F, hF⟩ : ∃ F, F = k + 11000 * d + 11000 := ⟨_, rfl⟩
    rw [show k + 11000 * (d + 1) + 1 = F + 1 by omega]
    simp only [impl_LastLevels.l0]
    rw [if_pos (by omega), wrap_id (x := a + 1) (by omega) (by omega), if_pos (by omega), if_pos (by omega)]
    unfold hrs at hyp
    have go := ih (h + 1) (lvl a b c (cs.getD h 0) most x9 (a + 1).toNat 0 (List.replicate (a + 1).toNat false)) (by omega) (by rw [lvl_len]; simp) hyp
    rw [← next_nat (n := cs.length) (by omega) (by omega)] at go
    have go2 := las_lvl ht cs most hh x9 h9 h (by omega) _ _ _ (a + 1).toNat 0 _ (by simp) (by omega) (by omega) go
    exact up (g := fun k => impl_LastLevels.l1 k (h : Int) _ (cs.length : Int) (h : Int) x9 (x9.length : Int) 0 a b c a b c cs most) (fun k => (impl_LastLevels.mono_l k).2.1 _ _ _ _ _ _ _ _ _ _ _ _ _ _ _) go2 _ (by omega)

/-! What the calls return, told by the runs. -/
def okC (a v most : Int) (cs : List Int) : Bool := decide (0 ≤ v ∧ v ≤ a) && ((cs.all hour && decide ((cs.length : Int) ≤ 24)) && hour most)
theorem okC_iff {a v most : Int} {cs : List Int} (h : okC a v most cs = true) : (0 ≤ v ∧ v ≤ a) ∧ cs.all hour = true ∧ cs.length ≤ 24 ∧ hour most = true := by
  unfold okC at h
  simp only [Bool.and_eq_true, decide_eq_true_eq] at h
  obtain ⟨h1, ⟨h2, h3⟩, h4⟩ := h
  exact ⟨h1, h2, by omega, h4⟩
theorem las_gather (x : List Bool) (hx : x.length ≤ 1000) : ∀ (d j : Nat) (acc : List Int), j + d = x.length → acc.length ≤ j → ∃ r, (∀ k, d < k → impl_LastLevels.l3 k acc x (x.length : Int) (j : Int) = some (r, 0)) ∧ r.length ≤ 1000 ∧ ∀ z, z ∈ r ↔ z ∈ acc ∨ ∃ i : Nat, j ≤ i ∧ i < x.length ∧ x.getD i false = true ∧ z = (i : Int) := by
  intro d
  induction d with
  | zero =>
    intro j acc hj ha
    refine ⟨acc, fun k hk => ?_, by omega, fun z => ⟨fun h => .inl h, fun h => h.resolve_right (fun ⟨i, h1, h2, _⟩ => by omega)⟩⟩
    obtain ⟨k, rfl⟩ := suc_of hk
    simp only [impl_LastLevels.l3]
    rw [if_neg (by omega)]
  | succ d ih =>
    intro j acc hj ha
    have hn := next_nat (j := j) (n := x.length) (by omega) (by omega)
    have er : rdOf false x (j : Int) = x.getD j false := rfl
    obtain ⟨r, i, hr, hz⟩ := ih (j + 1) (if x.getD j false = true then acc ++ [(j : Int)] else acc) (by omega) (by split <;> first | omega | (simp; done) | (simp; omega))
    refine ⟨r, fun k hk => ?_, hr, fun z => ?_⟩
    · obtain ⟨k, rfl⟩ := suc_of (show 0 < k by omega)
      simp only [impl_LastLevels.l3]
      rw [if_pos (by omega), if_pos (by omega), if_pos (by omega), hn, er]
      have s' := i k (by omega)
      by_cases h : x.getD j false = true
      · rw [if_pos h] at s' ⊢; rw [if_pos (by omega)]; exact s'
      · rw [if_neg h] at s' ⊢; exact s'
    · rw [hz]
      by_cases h : x.getD j false = true
      · rw [if_pos h, List.mem_append, List.mem_singleton]
        constructor
        · rintro ((q | q) | ⟨i, i1, i2, i3⟩)
          · exact .inl q
          · exact .inr ⟨j, Nat.le_refl _, by omega, h, q⟩
          · exact .inr ⟨i, by omega, i2, i3⟩
        · rintro (q | ⟨i, i1, i2, i3, i4⟩)
          · exact .inl (.inl q)
          · by_cases e : i = j
            · subst e; exact .inl (.inr i4)
            · exact .inr ⟨i, by omega, i2, i3, i4⟩
      · rw [if_neg h]
        constructor
        · rintro (q | ⟨i, i1, i2, i3⟩)
          · exact .inl q
          · exact .inr ⟨i, by omega, i2, i3⟩
        · rintro (q | ⟨i, i1, i2, i3, i4⟩)
          · exact .inl q
          · by_cases e : i = j
            · subst e; exact absurd i3 h
            · exact .inr ⟨i, by omega, i2, i3, i4⟩
theorem last_i (a b c v most : Int) (cs : List Int) (hl : cs.length ≤ 1048576) : ∃ r, (∀ k, 2000000 ≤ k → impl_LastLevels.f k a b c v cs most = some (if tankOk a b c = true then (if okC a v most cs = true then (r, 0) else ([], 2)) else ([], 1))) ∧ r.length ≤ 1000 ∧ (tankOk a b c = true → okC a v most cs = true → ∀ z, z ∈ r ↔ ∃ chs, run a b c most cs v chs = some z) := by
  cases ht : tankOk a b c
  · refine ⟨[], fun k hk => ?_, by simp, fun h => by cases h⟩
    unfold impl_LastLevels.f
    rw [impl_tank, ht]; simp
  · have t := tankOk_iff.1 ht
    cases hb : okC a v most cs
    · refine ⟨[], fun k hk => ?_, by simp, fun _ h => by cases h⟩
      unfold okC at hb
      unfold impl_LastLevels.f
      rw [impl_tank, impl_ok, ht, hb]; simp
    · obtain ⟨hv, hh, h24, hmm⟩ := okC_iff hb
      have hx : ((List.replicate (a + 1).toNat false).set v.toNat true).length = (a + 1).toNat := by simp
      have hlen := hrs_len a b c most cs _ hx
      obtain ⟨r, i, hr, hz⟩ := las_gather (hrs a b c most cs ((List.replicate (a + 1).toNat false).set v.toNat true)) (by omega) (hrs a b c most cs ((List.replicate (a + 1).toNat false).set v.toNat true)).length 0 [] (by omega) (by simp)
      have hl0 : ((List.replicate (a + 1).toNat false).length : Int) = a + 1 := by simp; omega
      have start : ∀ w : Int, 0 ≤ w → (((List.replicate (a + 1).toNat false).set v.toNat true).getD w.toNat false = true ↔ w = v) := fun w hw => by
        rw [getD_setB (by rw [List.length_replicate]; omega)]
        have z : (List.replicate (a + 1).toNat false).getD w.toNat false = false := by
          rw [List.getD_eq_getElem?_getD, List.getElem?_replicate]; split <;> rfl
        rw [z]
        exact ⟨fun h => by rcases h with h | h; cases h; omega, fun h => .inr (by rw [h])⟩
      refine ⟨r, fun k hk => ?_, hr, fun _ _ z => ?_⟩
      · unfold okC at hb
        unfold impl_LastLevels.f
        rw [impl_tank, impl_ok, ht, hb]
        simp only [Option.bind_some, if_true, Bool.and_self]
        rw [wrap_id (x := a + 1) (by omega) (by omega), if_pos (by omega), if_pos (by omega), if_pos (by omega), if_pos (by omega)]
        have go := las_hrs ht cs h24 most hh 1000 (r, 0) cs.length 0 ((List.replicate (a + 1).toNat false).set v.toNat true) (by omega) hx (by rw [List.drop_zero]; exact i 1000 (by omega))
        exact up (g := fun k => impl_LastLevels.l0 k ((List.replicate (a + 1).toNat false).set v.toNat true) (cs.length : Int) 0 a b c a b c cs most) (fun k => (impl_LastLevels.mono_l k).1 _ _ _ _ _ _ _ _ _ _ _) go k (by omega)
      · rw [hz]
        constructor
        · rintro (q | ⟨j, _, j2, j3, rfl⟩)
          · cases q
          · have := (hrs_get cs _ hx (j : Int) (by omega) (by omega)).1 (by rw [Int.toNat_natCast]; exact j3)
            obtain ⟨w, chs, w0, w1, w2, w3⟩ := this
            rw [(start w w0).1 w2] at w3
            exact ⟨chs, w3⟩
        · rintro ⟨chs, hr2⟩
          have b2 := run_end cs v chs z hv.1 hv.2 hr2
          have := (hrs_get cs _ hx z b2.1 b2.2).2 ⟨v, chs, hv.1, hv.2, (start v hv.1).2 rfl, hr2⟩
          exact .inr ⟨z.toNat, by omega, by omega, this, by omega⟩

/-! The source that the draws read. -/
theorem wf_u8 {x : Int} (h : (Lit.int .u8 x).wf = true) : 0 ≤ x ∧ x ≤ 255 := by
  simp [Lit.wf, IntKind.min, IntKind.max, IntKind.bits, IntKind.signed] at h; omega
def bytes (l : List Int) : Prop := ∀ x ∈ l, (Lit.int .u8 x).wf = true
theorem and_b (x : Int) : 0 ≤ Go.bits .and .u64 x 255 ∧ Go.bits .and .u64 x 255 ≤ 255 := by
  unfold Go.bits
  simp only [BitVec.toNat_and]
  have h : (BitVec.ofInt IntKind.u64.bits x).toNat &&& (BitVec.ofInt IntKind.u64.bits 255).toNat ≤ 255 := Nat.le_trans Nat.and_le_right (by decide)
  generalize (BitVec.ofInt IntKind.u64.bits x).toNat &&& (BitVec.ofInt IntKind.u64.bits 255).toNat = n at *
  have e : IntKind.u64.wrap (n : Int) = (n : Int) := by
    unfold IntKind.wrap
    simp [IntKind.bits, IntKind.signed]
    omega
  rw [e]; omega
theorem and_w (x : Int) : wrap64 (Go.bits .and .u64 x 255) = Go.bits .and .u64 x 255 := by
  have b := and_b x
  exact wrap_id (by omega) (by omega)
theorem src_next (L : List Int) (hL : bytes L) (i s : Int) (h0 : 0 ≤ i) (h1 : i ≤ 1000000) : ∃ v s', spec_l00Src_next.f L i s = some (v, i + 1, s') ∧ 0 ≤ v ∧ v ≤ 255 := by
  unfold spec_l00Src_next.f
  rw [wrap_id (x := i + 1) (by omega) (by omega)]
  by_cases c : i < (L.length : Int)
  · obtain ⟨n, rfl⟩ : ∃ n : Nat, i = n := ⟨i.toNat, by omega⟩
    have hb : 0 ≤ L.getD n 0 ∧ L.getD n 0 ≤ 255 := by rw [getD_lt (by omega)]; exact wf_u8 (hL _ (List.getElem_mem (by omega)))
    rw [if_pos c, if_pos h0, if_pos (by omega), rd_nat, wrap_id (x := L.getD n 0) (by omega) (by omega)]
    exact ⟨_, _, rfl, hb.1, hb.2⟩
  · rw [if_neg c, if_neg (by omega)]
    rw [and_w]
    exact ⟨_, _, rfl, (and_b _).1, (and_b _).2⟩
theorem src_pick (L : List Int) (hL : bytes L) (i s n : Int) (h0 : 0 ≤ i) (h1 : i ≤ 900000) : ∃ v j s', spec_l00Src_pick.f L i s n = some (v, j, s') ∧ (0 ≤ v ∧ (1 < n → v < n)) ∧ i ≤ j ∧ j ≤ i + 2 := by
  unfold spec_l00Src_pick.f
  by_cases c : n ≤ 1
  · rw [if_pos c]; exact ⟨_, _, _, rfl, ⟨by omega, fun h => by omega⟩, by omega, by omega⟩
  · rw [if_neg c]
    obtain ⟨v, s1, e1, v0, v1⟩ := src_next L hL i s h0 (by omega)
    rw [e1, Option.bind_some]
    simp only []
    by_cases d : n > 200
    · obtain ⟨w, s2, e2, w0, w1⟩ := src_next L hL (i + 1) s1 (by omega) (by omega)
      rw [if_pos d, e2, Option.bind_some]
      simp only []
      rw [if_neg (by omega), wrap_id (x := v * 256) (by omega) (by omega), wrap_id (x := v * 256 + w) (by omega) (by omega), Int.tmod_eq_emod_of_nonneg (by omega)]
      exact ⟨_, _, _, rfl, ⟨Int.emod_nonneg _ (by omega), fun _ => Int.emod_lt_of_pos _ (by omega)⟩, by omega, by omega⟩
    · rw [if_neg d, if_neg (by omega), Int.tmod_eq_emod_of_nonneg v0]
      exact ⟨_, _, _, rfl, ⟨Int.emod_nonneg _ (by omega), fun _ => Int.emod_lt_of_pos _ (by omega)⟩, by omega, by omega⟩

theorem src_among (L : List Int) (hL : bytes L) (i s : Int) (l : List Int) (hl : 0 < l.length) (h0 : 0 ≤ i) (h1 : i ≤ 900000) : ∃ v j s', spec_l00Src_among.f L i s l = some (v, j, s') ∧ v ∈ l ∧ i ≤ j ∧ j ≤ i + 2 := by
  obtain ⟨v, j, s', e, hv, hj⟩ := src_pick L hL i s (l.length : Int) h0 h1
  have hb : v < (l.length : Int) := by
    by_cases c : 1 < (l.length : Int)
    · exact hv.2 c
    · have e1 : (l.length : Int) = 1 := by omega
      unfold spec_l00Src_pick.f at e
      rw [if_pos (by omega)] at e
      cases e; omega
  unfold spec_l00Src_among.f
  rw [e, Option.bind_some]
  simp only []
  rw [if_pos hv.1, if_pos hb]
  refine ⟨_, _, _, rfl, ?_, hj.1, hj.2⟩
  obtain ⟨n, rfl⟩ : ∃ n : Nat, v = n := ⟨v.toNat, by omega⟩
  rw [rd_nat, getD_lt (by omega)]
  exact List.getElem_mem _
theorem src_one (L : List Int) (hL : bytes L) (i s n : Int) (h0 : 0 ≤ i) (h1 : i ≤ 900000) : ∃ v j s', spec_l00Src_one.f L i s n = some (v, j, s') ∧ i ≤ j ∧ j ≤ i + 2 := by
  obtain ⟨v, j, s', e, hv, hj⟩ := src_pick L hL i s n h0 h1
  unfold spec_l00Src_one.f
  rw [e, Option.bind_some]
  exact ⟨_, _, _, rfl, hj⟩

theorem draw_ok (L : List Int) (hL : bytes L) (i s : Int) (h0 : 0 ≤ i) (h1 : i ≤ 800000) : ∃ a b c j s', spec_l14DrawOk.f L i s = some (a, b, c, j, s') ∧ i ≤ j ∧ j ≤ i + 6 := by
  obtain ⟨v1, j1, s1, e1, _, k1⟩ := src_pick L hL i s 30 h0 (by omega)
  obtain ⟨v2, j2, s2, e2, _, k2⟩ := src_pick L hL j1 s1 6 (by omega) (by omega)
  obtain ⟨v3, j3, s3, e3, _, k3⟩ := src_among L hL j2 s2 [0, 0, 10, 50, 200, 1000] (by decide) (by omega) (by omega)
  unfold spec_l14DrawOk.f
  rw [e1, Option.bind_some]; simp only []
  rw [e2, Option.bind_some]; simp only []
  rw [e3, Option.bind_some]
  exact ⟨_, _, _, _, _, rfl, by first | omega | (dsimp only; omega), by first | omega | (dsimp only; omega)⟩
theorem draw_tank (L : List Int) (hL : bytes L) (i s : Int) (h0 : 0 ≤ i) (h1 : i ≤ 700000) : ∃ a b c j s', spec_l14Draw.f L i s = some (a, b, c, j, s') ∧ i ≤ j ∧ j ≤ i + 10 := by
  obtain ⟨a, b, c, j1, s1, e1, k1⟩ := draw_ok L hL i s h0 (by omega)
  obtain ⟨v2, j2, s2, e2, _, k2⟩ := src_pick L hL j1 s1 18 (by omega) (by omega)
  unfold spec_l14Draw.f
  rw [e1, Option.bind_some]; simp only []
  rw [e2, Option.bind_some]; simp only []
  by_cases c1 : v2 = 0
  · obtain ⟨v3, j3, s3, e3, _, k3⟩ := src_among L hL j2 s2 [0, 100, 101] (by decide) (by omega) (by omega)
    rw [if_pos c1, e3, Option.bind_some]
    exact ⟨_, _, _, _, _, rfl, by first | omega | (dsimp only; omega), by first | omega | (dsimp only; omega)⟩
  · rw [if_neg c1]
    by_cases c2 : v2 = 1
    · obtain ⟨v3, j3, s3, e3, _, k3⟩ := src_among L hL j2 s2 [0, 20, 21] (by decide) (by omega) (by omega)
      rw [if_pos c2, e3, Option.bind_some]
      exact ⟨_, _, _, _, _, rfl, by first | omega | (dsimp only; omega), by first | omega | (dsimp only; omega)⟩
    · rw [if_neg c2]
      by_cases c3 : v2 = 2
      · obtain ⟨v3, j3, s3, e3, _, k3⟩ := src_among L hL j2 s2 [(-1), 1000, 1001] (by decide) (by omega) (by omega)
        rw [if_pos c3, e3, Option.bind_some]
        exact ⟨_, _, _, _, _, rfl, by first | omega | (dsimp only; omega), by first | omega | (dsimp only; omega)⟩
      · rw [if_neg c3]
        exact ⟨_, _, _, _, _, rfl, by first | omega | (dsimp only; omega), by first | omega | (dsimp only; omega)⟩
theorem draw_level (L : List Int) (hL : bytes L) (i s : Int) (a b c : Int) (h0 : 0 ≤ i) (h1 : i ≤ 700000) : ∃ v j s', spec_l14DrawLevel.f L i s [(⟨a, b, c⟩ : S25)] = some (v, j, s') ∧ i ≤ j ∧ j ≤ i + 4 := by
  obtain ⟨v1, j1, s1, e1, k1⟩ := src_one L hL i s 12 h0 (by omega)
  unfold spec_l14DrawLevel.f
  rw [e1, Option.bind_some]; simp only []
  cases v1 with
  | true =>
    obtain ⟨v3, j3, s3, e3, _, k3⟩ := src_among L hL j1 s1 [(-1), (rd_T25 [(⟨a, b, c⟩ : S25)] 0).f0, wrap64 (((rd_T25 [(⟨a, b, c⟩ : S25)] 0).f0) + 1)] (by simp) (by omega) (by omega)
    rw [if_pos rfl, if_pos (by simp), e3, Option.bind_some]
    exact ⟨_, _, _, rfl, by first | omega | (dsimp only; omega), by first | omega | (dsimp only; omega)⟩
  | false =>
    rw [if_neg Bool.false_ne_true, if_pos (by simp)]
    have em : ∃ t, spec_l00Max.f 1 (wrap64 (((rd_T25 [(⟨a, b, c⟩ : S25)] 0).f0) + 1)) = some t := by
      unfold spec_l00Max.f; split <;> exact ⟨_, rfl⟩
    obtain ⟨t, et⟩ := em
    obtain ⟨v3, j3, s3, e3, _, k3⟩ := src_pick L hL j1 s1 t (by omega) (by omega)
    rw [et, Option.bind_some, e3, Option.bind_some]
    exact ⟨_, _, _, rfl, by first | omega | (dsimp only; omega), by first | omega | (dsimp only; omega)⟩
theorem draw_hours (L : List Int) (hL : bytes L) (h n : Int) (hh : h ≤ 25) : ∀ (d : Nat) (x i s : Int) (out : List Int), x + (d : Int) = h → 0 ≤ x → (out.length : Int) ≤ x → 0 ≤ i → i + 2 * (d : Int) ≤ 600000 → ∃ r j s', (∀ k, d < k → spec_l14DrawHours.l0 k h n out x L i s = some (r, j, s')) ∧ r.length ≤ 26 ∧ i ≤ j ∧ j ≤ i + 2 * (d : Int) + 4 := by
  intro d
  induction d with
  | zero =>
    intro x i s out hx x0 ho h0 h1
    obtain ⟨v1, j1, s1, e1, k1⟩ := src_one L hL i s 24 h0 (by omega)
    cases v1 with
    | true =>
      obtain ⟨v3, j3, s3, e3, _, k3⟩ := src_among L hL j1 s1 [(-1), 0, 1000, 1001] (by decide) (by omega) (by omega)
      refine ⟨out ++ [v3], j3, s3, fun k hk => ?_, by simp; omega, by omega, by omega⟩
      obtain ⟨k, rfl⟩ := suc_of hk
      simp only [spec_l14DrawHours.l0]
      rw [if_neg (by omega), e1, Option.bind_some]; simp only []
      rw [if_pos trivial, e3, Option.bind_some, if_pos (by omega)]
    | false =>
      refine ⟨out, j1, s1, fun k hk => ?_, by omega, by omega, by omega⟩
      obtain ⟨k, rfl⟩ := suc_of hk
      simp only [spec_l14DrawHours.l0]
      rw [if_neg (by omega), e1, Option.bind_some]; simp only []
      rw [if_neg Bool.false_ne_true]
  | succ d ih =>
    intro x i s out hx x0 ho h0 h1
    obtain ⟨v1, j1, s1, e1, _, k1⟩ := src_pick L hL i s n h0 (by omega)
    obtain ⟨r, j, s', e2, hr, k2⟩ := ih (x + 1) j1 s1 (out ++ [v1]) (by omega) (by omega) (by simp; omega) (by omega) (by omega)
    refine ⟨r, j, s', fun k hk => ?_, hr, by omega, by omega⟩
    obtain ⟨k, rfl⟩ := suc_of (show 0 < k by omega)
    simp only [spec_l14DrawHours.l0]
    rw [if_pos (by omega), e1, Option.bind_some, if_pos (by omega), wrap_id (x := x + 1) (by omega) (by omega)]
    exact e2 k (by omega)
theorem draw_hours_f (L : List Int) (hL : bytes L) (h n i s : Int) (hh0 : 0 ≤ h) (hh : h ≤ 25) (h0 : 0 ≤ i) (h1 : i ≤ 500000) : ∃ r j s', (∀ k, 100 ≤ k → spec_l14DrawHours.f k L i s h n = some (r, j, s')) ∧ r.length ≤ 26 ∧ i ≤ j ∧ j ≤ i + 100 := by
  obtain ⟨r, j, s', e, hr, k1⟩ := draw_hours L hL h n hh h.toNat 0 i s [] (by omega) (by omega) (by simp) h0 (by omega)
  exact ⟨r, j, s', fun k hk => by unfold spec_l14DrawHours.f; exact e k (by omega), hr, k1.1, by omega⟩
theorem dd_small {m : Nat} (h : m < 10) : Lib.decDigits m = [UInt8.ofNat (48 + m)] := by
  rw [Lib.decDigits, dif_pos h]
theorem dd_big {m : Nat} (h : ¬ m < 10) : Lib.decDigits m = Lib.decDigits (m / 10) ++ [UInt8.ofNat (48 + m % 10)] := by
  rw [Lib.decDigits, dif_neg h]
theorem dd_len : ∀ (j m : Nat), m < 10 ^ (j + 1) → (Lib.decDigits m).length ≤ j + 1 := by
  intro j
  induction j with
  | zero => intro m h; rw [dd_small (by simpa using h)]; exact Nat.le_refl _
  | succ j ih =>
    intro m h
    by_cases c : m < 10
    · rw [dd_small c]; simp
    · rw [dd_big c, List.length_append, List.length_singleton]
      have := ih (m / 10) (by rw [Nat.pow_succ] at h; omega)
      omega
theorem itoa_len (n : Int) (h0 : 0 ≤ n) (h1 : n ≤ 1000000000000) : (Lib.itoa n).length ≤ 13 := by
  unfold Lib.itoa
  rw [if_neg (by omega)]
  exact dd_len 12 _ (by omega)

/-! Pieces between bytes of one kind. -/
def spl (c : UInt8) : List UInt8 → List (List UInt8)
  | [] => [[]]
  | b :: l => if b = c then [] :: spl c l else match spl c l with
    | [] => [[b]]
    | h :: t => (b :: h) :: t
theorem spl_hit (c : UInt8) (l : List UInt8) : spl c (c :: l) = [] :: spl c l := by rw [spl, if_pos rfl]
theorem spl_cons {c b : UInt8} (h : b ≠ c) {l x : List UInt8} {t : List (List UInt8)} (hx : spl c l = x :: t) : spl c (b :: l) = (b :: x) :: t := by rw [spl, if_neg h, hx]
theorem spl_some (c : UInt8) : ∀ l, ∃ x t, spl c l = x :: t
  | [] => ⟨[], [], rfl⟩
  | b :: l => by
    by_cases h : b = c
    · subst h; exact ⟨_, _, spl_hit _ _⟩
    · obtain ⟨x, t, e⟩ := spl_some c l
      exact ⟨_, _, spl_cons h e⟩
theorem tl (s : ByteArray) : s.toList = s.data.toList := ByteArray.toList_eq ..
theorem spl_pre (c : UInt8) : ∀ (U V x : List UInt8) (t : List (List UInt8)), (∀ b ∈ U, b ≠ c) → spl c V = x :: t → spl c (U ++ V) = (U ++ x) :: t := by
  intro U
  induction U with
  | nil => intro V x t _ h; exact h
  | cons b U ih =>
    intro V x t hU h
    exact spl_cons (hU b (by simp)) (ih V x t (fun z hz => hU z (by simp [hz])) h)
theorem spl_end (c : UInt8) (U : List UInt8) (hU : ∀ b ∈ U, b ≠ c) : spl c U = [U] := by
  have h := spl_pre c U [] [] [] hU rfl
  rw [List.append_nil] at h
  exact h
theorem spl_at (c : UInt8) (U V : List UInt8) (hU : ∀ b ∈ U, b ≠ c) : spl c (U ++ c :: V) = U :: spl c V := by
  have h := spl_pre c U (c :: V) [] (spl c V) hU (spl_hit _ _)
  rw [List.append_nil] at h
  exact h
theorem spl_len (c : UInt8) : ∀ l, (spl c l).length = l.count c + 1
  | [] => rfl
  | b :: l => by
    obtain ⟨y, t, e⟩ := spl_some c l
    have ih := spl_len c l
    by_cases h : b = c
    · subst h
      rw [spl_hit, List.count_cons_self, List.length_cons, ih]
    · rw [spl_cons h e, List.count_cons_of_ne h, ← ih, e]
      rfl
theorem splitK_ge (c : UInt8) : ∀ (s : List UInt8) (n : Nat), s.count c ≤ n → Lib.splitK [c] 0 n s = spl c s
  | [], n => fun _ => by
    cases n with
    | zero => rfl
    | succ n =>
      have e : Lib.index [] [c] = -1 := by rw [Lib.index_one]; rfl
      rw [Lib.splitK, e, if_pos (by decide)]
      rfl
  | b :: l, n => fun hn => by
    by_cases h : b = c
    · subst h
      rw [List.count_cons_self] at hn
      obtain ⟨n, rfl⟩ := suc_of (show 0 < n by omega)
      have ih := splitK_ge b l n (by omega)
      rw [spl_hit, ← ih]
      have e : Lib.index (b :: l) [b] = 0 := by rw [Lib.index_one, Lib.indexByte, if_pos (by simp)]
      rw [Lib.splitK, e, if_neg (by decide)]
      rfl
    · rw [List.count_cons_of_ne h] at hn
      have ih := splitK_ge c l n hn
      cases n with
      | zero =>
        have e : spl c l = [l] := ih.symm
        rw [spl_cons h e]; rfl
      | succ k =>
        by_cases hm : Lib.indexByte l c = -1
        · have e1 : Lib.index l [c] = -1 := by rw [Lib.index_one, hm]
          have e2 : Lib.index (b :: l) [c] = -1 := by rw [Lib.index_one, Lib.indexByte, if_neg (by simpa using h), hm, if_pos (by decide)]
          rw [Lib.splitK, e1, if_pos (by decide)] at ih
          rw [Lib.splitK, e2, if_pos (by decide), spl_cons h ih.symm]
        · have hge := Lib.indexByte_ge l c
          obtain ⟨i, hi⟩ : ∃ i : Nat, Lib.indexByte l c = (i : Int) := ⟨(Lib.indexByte l c).toNat, by omega⟩
          have e1 : Lib.index l [c] = (i : Int) := by rw [Lib.index_one, hi]
          have e2 : Lib.index (b :: l) [c] = ((i + 1 : Nat) : Int) := by
            rw [Lib.index_one, Lib.indexByte, if_neg (by simpa using h), hi, if_neg (by simp)]; rfl
          have m1 : ¬ (((i : Int) == -1) = true) := by simp
          have m2 : ¬ ((((i + 1 : Nat) : Int) == -1) = true) := by
            intro q; have := beq_iff_eq.1 q; omega
          rw [Lib.splitK, e1, if_neg m1, Int.toNat_natCast] at ih
          rw [Lib.splitK, e2, if_neg m2, Int.toNat_natCast, spl_cons h ih.symm]
          rfl
theorem dv_of {d : Nat} (h : d < 10) : Lib.digitVal (UInt8.ofNat (48 + d)) = some d := (by decide : ∀ d : Fin 10, Lib.digitVal (UInt8.ofNat (48 + d.val)) = some d.val) ⟨d, h⟩
theorem df_app : ∀ (A B : List UInt8) (a : Nat), Lib.decFrom a (A ++ B) = (Lib.decFrom a A).bind fun x => Lib.decFrom x B
  | [], B, a => rfl
  | b :: A, B, a => by
    rw [List.cons_append, Lib.decFrom, Lib.decFrom]
    cases Lib.digitVal b with
    | none => rfl
    | some d => exact df_app A B _
theorem df_one (b : UInt8) (a : Nat) : Lib.decFrom a [b] = (Lib.digitVal b).map fun d => a * 10 + d := by
  rw [Lib.decFrom]
  cases Lib.digitVal b <;> rfl
theorem df_dd : ∀ (j m : Nat), m < 10 ^ (j + 1) → Lib.decFrom 0 (Lib.decDigits m) = some m := by
  intro j
  induction j with
  | zero =>
    intro m h
    have h : m < 10 := by simpa using h
    rw [dd_small h, df_one, dv_of h]
    simp
  | succ j ih =>
    intro m h
    by_cases c : m < 10
    · rw [dd_small c, df_one, dv_of c]
      simp
    · rw [dd_big c, df_app, ih (m / 10) (by rw [Nat.pow_succ] at h; omega), Option.bind_some, df_one, dv_of (by omega)]
      show some (m / 10 * 10 + m % 10) = some m
      congr 1
      omega
theorem dd_digits : ∀ (j m : Nat), m < 10 ^ (j + 1) → ∀ b ∈ Lib.decDigits m, 48 ≤ b.toNat ∧ b.toNat ≤ 57 := by
  have one : ∀ d : Fin 10, 48 ≤ (UInt8.ofNat (48 + d.val)).toNat ∧ (UInt8.ofNat (48 + d.val)).toNat ≤ 57 := by decide
  intro j
  induction j with
  | zero =>
    intro m h b hb
    have h : m < 10 := by simpa using h
    rw [dd_small h, List.mem_singleton] at hb
    rw [hb]
    exact one ⟨m, h⟩
  | succ j ih =>
    intro m h b hb
    by_cases c : m < 10
    · rw [dd_small c, List.mem_singleton] at hb
      rw [hb]
      exact one ⟨m, c⟩
    · rw [dd_big c, List.mem_append, List.mem_singleton] at hb
      rcases hb with hb | hb
      · exact ih (m / 10) (by rw [Nat.pow_succ] at h; omega) b hb
      · rw [hb]
        exact one ⟨m % 10, by omega⟩
theorem itoa_nat (m : Nat) : Lib.itoa (m : Int) = Lib.decDigits m := by
  unfold Lib.itoa
  rw [if_neg (by omega), Int.toNat_natCast]

theorem imp_dec_all (n : Int) (h0 : -9223372036854775808 ≤ n) (h1 : n ≤ 9223372036854775807) : impl_Decimal.f n = some ⟨(Lib.itoa n).toArray⟩ := by
  unfold impl_Decimal.f strconv_FormatInt_50.f
  rw [if_pos ⟨rfl, h0, h1⟩]
  rfl
theorem readdec_itoa (s : ByteArray) (hs : s.size ≤ 1048576) (n : Int) (h0 : 0 ≤ n) (h1 : n ≤ 1000000000000) (he : s.data.toList = Lib.itoa n) : impl_ReadDecimal.f s = some (n, true) := by
  obtain ⟨m, rfl⟩ : ∃ m : Nat, n = (m : Int) := ⟨n.toNat, by omega⟩
  have hd := df_dd 12 m (by omega)
  have hl := dd_len 12 m (by omega)
  have hg := dd_digits 12 m (by omega)
  have hi := imp_dec_all (m : Int) (by omega) (by omega)
  rw [itoa_nat] at he hi
  unfold impl_ReadDecimal.f
  rw [if_pos (by omega), he]
  have hne : Lib.decDigits m ≠ [] := by
    intro e
    by_cases c : m < 10
    · rw [dd_small c] at e; cases e
    · rw [dd_big c] at e; simp at e
  have hP : Lib.parseIntB 64 (Lib.decDigits m) = .ok (m : Int) := by
    rw [Lib.parseIntB_64, Lib.atoiAll_short _ (by omega)]
    match Lib.decDigits m, hne, hd, hg with
    | b :: r, _, hd, hg =>
      have hb := hg b (by simp)
      have e1 : ¬ (b == 45) = true := by intro q; rw [beq_iff_eq] at q; rw [q] at hb; exact absurd hb (by decide)
      have e2 : ¬ (b == 43) = true := by intro q; rw [beq_iff_eq] at q; rw [q] at hb; exact absurd hb (by decide)
      rw [Lib.atoi, if_neg e1, if_neg e2, Lib.decNat, if_neg (by simp), hd]
      rfl
  have hT : Lib.trimPrefix (Lib.decDigits m) [45] = Lib.decDigits m := by
    match Lib.decDigits m, hne, hg with
    | b :: r, _, hg =>
      have hb := hg b (by simp)
      unfold Lib.trimPrefix Lib.hasPrefix
      rw [if_neg]
      intro q
      simp at q
      rw [← q] at hb
      exact absurd hb (by decide)
  rw [hP]
  simp only
  rw [hT, if_neg (by omega), hi, Option.bind_some, if_pos]
  rw [beq_iff_eq, tl, tl, he]

theorem div_tot (y : Int) : ∃ t, spec_l01Div.f y 1000 = some t := by
  unfold spec_l01Div.f
  rw [if_neg (by decide)]
  have e : ¬ wrap64 (2 * 1000) = 0 := by rw [wrap_id (by omega) (by omega)]; omega
  rw [if_neg e, if_neg e]
  split <;> exact ⟨_, rfl⟩
theorem after_tot (a b c v ch : Int) : ∃ x q, spec_l14After.f [(⟨a, b, c⟩ : S25)] v ch = some (x, q) := by
  unfold spec_l14After.f
  obtain ⟨t, ht⟩ := div_tot (wrap64 (v * (rd_T25 [(⟨a, b, c⟩ : S25)] 0).f2))
  rw [if_pos (by simp), ht, Option.bind_some, spec_in, Option.bind_some]
  split
  · rw [spec_in, Option.bind_some]
    split <;> exact ⟨_, _, rfl⟩
  · exact ⟨_, _, rfl⟩
theorem draw_changes (L : List Int) (hL : bytes L) (a b c h : Int) (hh : h ≤ 25) : ∀ (d : Nat) (x v i s : Int) (out : List Int), x + (d : Int) = h → 0 ≤ x → (out.length : Int) ≤ x → 0 ≤ i → i + 6 * (d : Int) ≤ 600000 →
    ∃ r j s', (∀ k, 2 * d < k → spec_l14DrawChanges.l0 k [(⟨a, b, c⟩ : S25)] h out v x L i s = some (r, j, s')) ∧ r.length ≤ 26 := by
  intro d
  induction d with
  | zero =>
    intro x v i s out hx x0 ho h0 h1
    obtain ⟨v1, j1, s1, e1, k1⟩ := src_one L hL i s 20 h0 (by omega)
    cases v1 with
    | true =>
      obtain ⟨v3, j3, s3, e3, _, k3⟩ := src_among L hL j1 s1 [(-21), (-20), 20, 21] (by decide) (by omega) (by omega)
      refine ⟨out ++ [v3], j3, s3, fun k hk => ?_, by simp; omega⟩
      obtain ⟨k, rfl⟩ := suc_of hk
      rw [spec_l14DrawChanges.l0.eq_def]
      simp only
      rw [if_neg (by omega), e1, Option.bind_some]; simp only
      rw [if_pos trivial, e3, Option.bind_some, if_pos (by omega)]
    | false =>
      refine ⟨out, j1, s1, fun k hk => ?_, by omega⟩
      obtain ⟨k, rfl⟩ := suc_of hk
      rw [spec_l14DrawChanges.l0.eq_def]
      simp only
      rw [if_neg (by omega), e1, Option.bind_some]; simp only
      rw [if_neg Bool.false_ne_true]
  | succ d ih =>
    intro x v i s out hx x0 ho h0 h1
    obtain ⟨v1, j1, s1, e1, _, k1⟩ := src_pick L hL i s 7 h0 (by omega)
    obtain ⟨y, q, e2⟩ := after_tot a b c v (wrap64 (v1 - 3))
    have ew : wrap64 (x + 1) = x + 1 := wrap_id (by omega) (by omega)
    have step : ∀ (fl : Bool) (jj ss : Int), 0 ≤ jj → jj + 6 * (d : Int) ≤ 600000 → ∃ r j s', (∀ k, 2 * d + 1 < k → spec_l14DrawChanges.j1 k [(⟨a, b, c⟩ : S25)] h out v x (wrap64 (v1 - 3)) y q fl L jj ss = some (r, j, s')) ∧ r.length ≤ 26 := by
      intro fl jj ss g0 g1
      have next : ∀ z lv : Int, ∃ r j s', (∀ k, 2 * d < k → spec_l14DrawChanges.l0 k [(⟨a, b, c⟩ : S25)] h (out ++ [z]) lv (x + 1) L jj ss = some (r, j, s')) ∧ r.length ≤ 26 := fun z lv => ih (x + 1) lv jj ss (out ++ [z]) (by omega) (by omega) (by simp; omega) g0 g1
      cases fl with
      | true =>
        obtain ⟨y0, q0, e3⟩ := after_tot a b c v 0
        cases q0 with
        | true =>
          obtain ⟨r, j, s', n1, n2⟩ := next 0 y0
          refine ⟨r, j, s', fun k hk => ?_, n2⟩
          obtain ⟨k, rfl⟩ := suc_of (show 0 < k by omega)
          rw [spec_l14DrawChanges.j1.eq_def]
          simp only
          rw [if_pos trivial, e3, Option.bind_some]; simp only
          rw [if_pos trivial, if_pos (by omega), ew]
          exact n1 k (by omega)
        | false =>
          obtain ⟨r, j, s', n1, n2⟩ := next 0 v
          refine ⟨r, j, s', fun k hk => ?_, n2⟩
          obtain ⟨k, rfl⟩ := suc_of (show 0 < k by omega)
          rw [spec_l14DrawChanges.j1.eq_def]
          simp only
          rw [if_pos trivial, e3, Option.bind_some]; simp only
          rw [if_neg Bool.false_ne_true, if_pos (by omega), ew]
          exact n1 k (by omega)
      | false =>
        cases q with
        | true =>
          obtain ⟨r, j, s', n1, n2⟩ := next (wrap64 (v1 - 3)) y
          refine ⟨r, j, s', fun k hk => ?_, n2⟩
          obtain ⟨k, rfl⟩ := suc_of (show 0 < k by omega)
          rw [spec_l14DrawChanges.j1.eq_def]
          simp only
          rw [if_neg Bool.false_ne_true, if_pos trivial, if_pos (by omega), ew]
          exact n1 k (by omega)
        | false =>
          obtain ⟨r, j, s', n1, n2⟩ := next (wrap64 (v1 - 3)) v
          refine ⟨r, j, s', fun k hk => ?_, n2⟩
          obtain ⟨k, rfl⟩ := suc_of (show 0 < k by omega)
          rw [spec_l14DrawChanges.j1.eq_def]
          simp only
          rw [if_neg Bool.false_ne_true, if_neg Bool.false_ne_true, if_pos (by omega), ew]
          exact n1 k (by omega)
    cases q with
    | true =>
      obtain ⟨r, j, s', n1, n2⟩ := step false j1 s1 (by omega) (by omega)
      refine ⟨r, j, s', fun k hk => ?_, n2⟩
      obtain ⟨k, rfl⟩ := suc_of (show 0 < k by omega)
      rw [spec_l14DrawChanges.l0.eq_def]
      simp only
      rw [if_pos (by omega), e1, Option.bind_some]; simp only
      rw [e2, Option.bind_some]; simp only
      rw [if_pos trivial]
      exact n1 k (by omega)
    | false =>
      obtain ⟨v3, j3, s3, e3, k3⟩ := src_one L hL j1 s1 8 (by omega) (by omega)
      obtain ⟨r, j, s', n1, n2⟩ := step (!v3) j3 s3 (by omega) (by omega)
      refine ⟨r, j, s', fun k hk => ?_, n2⟩
      obtain ⟨k, rfl⟩ := suc_of (show 0 < k by omega)
      rw [spec_l14DrawChanges.l0.eq_def]
      simp only
      rw [if_pos (by omega), e1, Option.bind_some]; simp only
      rw [e2, Option.bind_some]; simp only
      rw [if_neg Bool.false_ne_true, e3, Option.bind_some]; simp only
      exact n1 k (by omega)
theorem draw_levels (L : List Int) (hL : bytes L) : ∃ a b c v l, (∀ k, 100 ≤ k → spec_DrawLevelsOf.f k L = some (a, b, c, v, l)) ∧ l.length ≤ 26 := by
  obtain ⟨a, b, c, j1, s1, e1, k1⟩ := draw_tank L hL 0 0 (by omega) (by omega)
  obtain ⟨v, j2, s2, e2, k2⟩ := draw_level L hL j1 s1 a b c (by omega) (by omega)
  obtain ⟨h, j3, s3, e3, hm, k3⟩ := src_among L hL j2 s2 [0, 1, 2, 4, 6, 8, 5, 3, 24, 25] (by decide) (by omega) (by omega)
  have hh : 0 ≤ h ∧ h ≤ 25 := by
    have : ∀ z ∈ ([0, 1, 2, 4, 6, 8, 5, 3, 24, 25] : List Int), 0 ≤ z ∧ z ≤ 25 := by decide
    exact this h hm
  obtain ⟨l, j4, s4, e4, hl⟩ := draw_changes L hL a b c h hh.2 h.toNat 0 v j3 s3 [] (by omega) (by omega) (by simp) (by omega) (by omega)
  refine ⟨a, b, c, v, l, fun k hk => ?_, hl⟩
  unfold spec_DrawLevelsOf.f spec_l00From.f spec_l14DrawMany.f spec_l14DrawChanges.f
  rw [Option.bind_some]; simp only
  rw [e1, Option.bind_some]; simp only
  rw [e2, Option.bind_some]; simp only
  rw [e3, Option.bind_some, Option.bind_some]; simp only
  rw [e4 k (by omega), Option.bind_some]
theorem draw_least (L : List Int) (hL : bytes L) : ∃ a b c v cs most, (∀ k, 100 ≤ k → spec_DrawLeastTank.f k L = some (a, b, c, v, cs, most)) ∧ cs.length ≤ 26 := by
  obtain ⟨a, b, c, j1, s1, e1, k1⟩ := draw_tank L hL 0 0 (by omega) (by omega)
  obtain ⟨v, j2, s2, e2, _, k2⟩ := src_among L hL j1 s1 [0, 1, 5, 20, 100, 101, (-1)] (by decide) (by omega) (by omega)
  obtain ⟨h, j3, s3, e3, hm, k3⟩ := src_among L hL j2 s2 [0, 1, 2, 4, 6, 5, 25] (by decide) (by omega) (by omega)
  have hh : 0 ≤ h ∧ h ≤ 25 := by
    have : ∀ z ∈ ([0, 1, 2, 4, 6, 5, 25] : List Int), 0 ≤ z ∧ z ≤ 25 := by decide
    exact this h hm
  obtain ⟨cs, j4, s4, e4, hl, k4⟩ := draw_hours_f L hL h 12 j3 s3 hh.1 hh.2 (by omega) (by omega)
  obtain ⟨m, j5, s5, e5, _, k5⟩ := src_among L hL j4 s4 [6, 8, 10, 12, 1001, 0] (by decide) (by omega) (by omega)
  refine ⟨a, b, c, v, cs, m, fun k hk => ?_, hl⟩
  unfold spec_DrawLeastTank.f spec_l00From.f
  rw [Option.bind_some]; simp only
  rw [e1, Option.bind_some]; simp only
  rw [e2, Option.bind_some]; simp only
  rw [e3, Option.bind_some]; simp only
  rw [e4 k hk, Option.bind_some]; simp only
  rw [e5, Option.bind_some]
theorem imp_splitc (s : ByteArray) (hs : s.size ≤ 1048576) : ∃ P, strings_SplitN.f s ⟨#[44]⟩ 65 = some P ∧ ((spl 44 s.data.toList).length ≤ 65 → P.map (·.data.toList) = spl 44 s.data.toList) := by
  have hT : s.data.toList.length = s.size := Array.length_toList ..
  obtain ⟨n, hn⟩ : ∃ n, min 65 (s.size + 1) - 1 = n := ⟨_, rfl⟩
  have hd : (Lib.splitB ⟨#[44]⟩ 0 n s).map (·.data.toList) = Lib.splitK [44] 0 n s.data.toList := Lib.splitB_data ⟨#[44]⟩ 0 n s
  refine ⟨Lib.splitB ⟨#[44]⟩ 0 n s, ?_, fun hl => ?_⟩
  · unfold strings_SplitN.f
    rw [if_pos ⟨by rw [tl], rfl, by omega⟩, hn]
  · rw [spl_len] at hl
    have hc := List.count_le_length (a := (44 : UInt8)) (l := s.data.toList)
    rw [hd]
    exact splitK_ge 44 s.data.toList n (by omega)
theorem ba_ext {x y : ByteArray} (h : x.data.toList = y.data.toList) : x = y := by
  cases x with | mk a =>
  cases y with | mk b =>
  have : a = b := Array.toList_inj.mp h
  rw [this]
theorem maps_eq : ∀ {P Q : List ByteArray}, P.map (·.data.toList) = Q.map (·.data.toList) → P = Q
  | [], [], _ => rfl
  | [], _ :: _, h => by simp at h
  | _ :: _, [], h => by simp at h
  | p :: P, q :: Q, h => by
    simp only [List.map_cons, List.cons.injEq] at h
    rw [ba_ext h.1, maps_eq h.2]
def text3 (a b c : Int) : List UInt8 := Lib.itoa a ++ 44 :: (Lib.itoa b ++ 44 :: Lib.itoa c)
theorem itoa_no (x : UInt8) (hx : x.toNat < 48 ∨ 57 < x.toNat) (n : Int) (h0 : 0 ≤ n) (h1 : n ≤ 1000000000000) : ∀ b ∈ Lib.itoa n, b ≠ x := by
  obtain ⟨m, rfl⟩ : ∃ m : Nat, n = (m : Int) := ⟨n.toNat, by omega⟩
  intro b hb e
  rw [itoa_nat] at hb
  have := dd_digits 12 m (by omega) b hb
  rw [e] at this
  omega
theorem list_text (a b c : Int) (ha : 0 ≤ a ∧ a ≤ 1000000) (hb : 0 ≤ b ∧ b ≤ 1000000) (hc : 0 ≤ c ∧ c ≤ 1000000) (k : Nat) (hk : 10 ≤ k) : impl_ListText.f k [a, b, c] = some ⟨(text3 a b c).toArray⟩ := by
  obtain ⟨k, rfl⟩ : ∃ m, k = m + 1 + 1 + 1 + 1 := ⟨k - 4, by omega⟩
  have la := itoa_len a ha.1 (by omega)
  have lb := itoa_len b hb.1 (by omega)
  have lc := itoa_len c hc.1 (by omega)
  have e3 : (([a, b, c] : List Int).length : Int) = 3 := rfl
  have w1 : wrap64 (0 + 1) = 1 := wrap_id (by omega) (by omega)
  have w2 : wrap64 (1 + 1) = 2 := wrap_id (by omega) (by omega)
  have w3 : wrap64 (2 + 1) = 3 := wrap_id (by omega) (by omega)
  have r0 : rd [a, b, c] 0 = a := rfl
  have r1 : rd [a, b, c] 1 = b := rfl
  have r2 : rd [a, b, c] 2 = c := rfl
  have ej : Lib.join ([(⟨(Lib.itoa a).toArray⟩ : ByteArray), ⟨(Lib.itoa b).toArray⟩, ⟨(Lib.itoa c).toArray⟩].map (·.data.toList)) [44] = text3 a b c := by
    unfold text3
    simp [Lib.join, List.intercalate]
  unfold impl_ListText.f
  rw [e3, if_neg (by decide), if_neg (by decide), if_pos (by decide), if_pos (by decide), show List.replicate 0 (⟨#[]⟩ : ByteArray) = [] from rfl]
  rw [impl_ListText.l0.eq_def]; simp only
  rw [e3, if_pos (by decide), if_pos (by decide), if_pos (by decide), r0, impl_in, decide_eq_true (by omega), Option.bind_some, if_pos rfl, imp_dec_all a (by omega) (by omega), Option.bind_some, if_pos (by simp), w1]
  rw [impl_ListText.l0.eq_def]; simp only
  rw [e3, if_pos (by decide), if_pos (by decide), if_pos (by decide), r1, impl_in, decide_eq_true (by omega), Option.bind_some, if_pos rfl, imp_dec_all b (by omega) (by omega), Option.bind_some, if_pos (by simp), w2]
  rw [impl_ListText.l0.eq_def]; simp only
  rw [e3, if_pos (by decide), if_pos (by decide), if_pos (by decide), r2, impl_in, decide_eq_true (by omega), Option.bind_some, if_pos rfl, imp_dec_all c (by omega) (by omega), Option.bind_some, if_pos (by simp), w3]
  rw [impl_ListText.l0.eq_def]; simp only
  rw [if_neg (by decide)]
  have hlen : (text3 a b c).length ≤ 100 := by
    unfold text3
    simp only [List.length_append, List.length_cons]
    omega
  have ef : ([] : List ByteArray) ++ [⟨(Lib.itoa a).toArray⟩] ++ [⟨(Lib.itoa b).toArray⟩] ++ [⟨(Lib.itoa c).toArray⟩] = [(⟨(Lib.itoa a).toArray⟩ : ByteArray), ⟨(Lib.itoa b).toArray⟩, ⟨(Lib.itoa c).toArray⟩] := rfl
  unfold strings_Join.f
  rw [ef, show (⟨#[44]⟩ : ByteArray).data.toList = [44] from rfl, ej, if_pos ⟨by simp, by omega⟩, Option.bind_some]
theorem tank_text {a b c : Int} (ht : tankOk a b c = true) (k : Nat) (hk : 10 ≤ k) : impl_TankText.f k a b c = some ⟨(text3 a b c).toArray⟩ := by
  have t := tankOk_iff.1 ht
  unfold impl_TankText.f
  rw [impl_tank, ht, Option.bind_some, if_pos rfl, list_text a b c (by omega) (by omega) (by omega) k hk, Option.bind_some]
theorem tank_read {a b c : Int} (ht : tankOk a b c = true) (k : Nat) (hk : 20 ≤ k) : impl_ReadTank.f k ⟨(text3 a b c).toArray⟩ = some (a, b, c, true) := by
  have t := tankOk_iff.1 ht
  have ha : 0 ≤ a ∧ a ≤ 1000000 := by omega
  have hb : 0 ≤ b ∧ b ≤ 1000000 := by omega
  have hc : 0 ≤ c ∧ c ≤ 1000000 := by omega
  have la := itoa_len a ha.1 (by omega)
  have lb := itoa_len b hb.1 (by omega)
  have lc := itoa_len c hc.1 (by omega)
  obtain ⟨S, hS⟩ : ∃ S : ByteArray, S = ⟨(text3 a b c).toArray⟩ := ⟨_, rfl⟩
  have hd : S.data.toList = text3 a b c := by rw [hS]
  have hT : S.data.toList.length = S.size := Array.length_toList ..
  have hlen : (text3 a b c).length ≤ 100 := by
    unfold text3
    simp only [List.length_append, List.length_cons]
    omega
  have hs : S.size ≤ 1048576 := by rw [hd] at hT; omega
  have hsp : spl 44 S.data.toList = [Lib.itoa a, Lib.itoa b, Lib.itoa c] := by
    rw [hd]
    unfold text3
    rw [spl_at 44 _ _ (itoa_no 44 (by decide) a ha.1 (by omega)), spl_at 44 _ _ (itoa_no 44 (by decide) b hb.1 (by omega)), spl_end 44 _ (itoa_no 44 (by decide) c hc.1 (by omega))]
  obtain ⟨P, p1, p2⟩ := imp_splitc S hs
  have p2 := p2 (by rw [hsp]; simp)
  rw [hsp] at p2
  have hP : P = [(⟨(Lib.itoa a).toArray⟩ : ByteArray), ⟨(Lib.itoa b).toArray⟩, ⟨(Lib.itoa c).toArray⟩] := maps_eq p2
  subst hP
  have z : ∀ n : Int, (Lib.itoa n).length ≤ 13 → (⟨(Lib.itoa n).toArray⟩ : ByteArray).size ≤ 1048576 := fun n h => by
    have : (⟨(Lib.itoa n).toArray⟩ : ByteArray).size = (Lib.itoa n).length := by simp [ByteArray.size]
    omega
  have da := readdec_itoa ⟨(Lib.itoa a).toArray⟩ (z a la) a ha.1 (by omega) rfl
  have db := readdec_itoa ⟨(Lib.itoa b).toArray⟩ (z b lb) b hb.1 (by omega) rfl
  have dc := readdec_itoa ⟨(Lib.itoa c).toArray⟩ (z c lc) c hc.1 (by omega) rfl
  have ne : ¬ S.toList = [45] := by
    rw [tl, hd]
    unfold text3
    intro e
    have := congrArg List.length e
    simp only [List.length_append, List.length_cons, List.length_nil] at this
    omega
  obtain ⟨k, rfl⟩ : ∃ m, k = m + 1 + 1 + 1 + 1 := ⟨k - 4, by omega⟩
  have e3 : (([(⟨(Lib.itoa a).toArray⟩ : ByteArray), ⟨(Lib.itoa b).toArray⟩, ⟨(Lib.itoa c).toArray⟩] : List ByteArray).length : Int) = 3 := rfl
  have w1 : wrap64 (0 + 1) = 1 := wrap_id (by omega) (by omega)
  have w2 : wrap64 (1 + 1) = 2 := wrap_id (by omega) (by omega)
  have w3 : wrap64 (2 + 1) = 3 := wrap_id (by omega) (by omega)
  have r0 : rdOf ByteArray.empty [(⟨(Lib.itoa a).toArray⟩ : ByteArray), ⟨(Lib.itoa b).toArray⟩, ⟨(Lib.itoa c).toArray⟩] 0 = ⟨(Lib.itoa a).toArray⟩ := rfl
  have r1 : rdOf ByteArray.empty [(⟨(Lib.itoa a).toArray⟩ : ByteArray), ⟨(Lib.itoa b).toArray⟩, ⟨(Lib.itoa c).toArray⟩] 1 = ⟨(Lib.itoa b).toArray⟩ := rfl
  have r2 : rdOf ByteArray.empty [(⟨(Lib.itoa a).toArray⟩ : ByteArray), ⟨(Lib.itoa b).toArray⟩, ⟨(Lib.itoa c).toArray⟩] 2 = ⟨(Lib.itoa c).toArray⟩ := rfl
  have rl : impl_ReadList.f (k + 1 + 1 + 1 + 1) S = some ([a, b, c], true) := by
    unfold impl_ReadList.f
    rw [if_neg ne, p1, Option.bind_some, e3]
    rw [impl_ReadList.l0.eq_def]; simp only
    rw [e3, if_pos (by decide), if_pos (by decide), if_pos (by decide), r0, da, Option.bind_some]; simp only
    rw [if_pos trivial, if_pos (by simp), w1]
    rw [impl_ReadList.l0.eq_def]; simp only
    rw [e3, if_pos (by decide), if_pos (by decide), if_pos (by decide), r1, db, Option.bind_some]; simp only
    rw [if_pos trivial, if_pos (by simp), w2]
    rw [impl_ReadList.l0.eq_def]; simp only
    rw [e3, if_pos (by decide), if_pos (by decide), if_pos (by decide), r2, dc, Option.bind_some]; simp only
    rw [if_pos trivial, if_pos (by simp), w3]
    rw [impl_ReadList.l0.eq_def]; simp only
    have ef : ([] : List Int) ++ [a] ++ [b] ++ [c] = [a, b, c] := rfl
    rw [if_neg (by decide), ef, list_text a b c ha hb hc k (by omega), Option.bind_some, ← hS, if_pos rfl]
  have rn : impl_readNumbers.f (k + 1 + 1 + 1 + 1) S 3 = some ([a, b, c], true) := by
    unfold impl_readNumbers.f
    rw [rl, Option.bind_some]; simp only
    rw [if_pos trivial, if_pos (by rfl)]
  have q0 : rd [a, b, c] 0 = a := rfl
  have q1 : rd [a, b, c] 1 = b := rfl
  have q2 : rd [a, b, c] 2 = c := rfl
  rw [← hS]
  unfold impl_ReadTank.f
  rw [rn, Option.bind_some]; simp only
  rw [show (([a, b, c] : List Int).length : Int) = 3 from rfl, if_pos (by decide), if_pos (by decide), if_pos (by decide), if_pos trivial, q0, q1, q2, tank_text ht _ (by omega), Option.bind_some, ← hS, if_pos rfl]
theorem level_after {a b c v ch x : Int} (ht : tankOk a b c = true) (hv : 0 ≤ v ∧ v ≤ a) (hc : -20 ≤ ch ∧ ch ≤ 20) (h : aft a b c v ch = some x) (k : Nat) : impl_LevelAfter.f (k + 1) a b c v ch = some (x, 0) := by
  obtain ⟨y, hy⟩ := impl_after (ch := ch) ht hv.1 hv.2 (by omega) (by omega)
  rw [h] at hy
  unfold impl_LevelAfter.f
  rw [impl_tank, ht, Option.bind_some, if_pos rfl, impl_in, decide_eq_true hv, Option.bind_some, if_pos rfl, impl_in, decide_eq_true hc, Option.bind_some, impl_LevelAfter.j0.eq_def]
  simp only
  rw [Bool.not_true, if_neg Bool.false_ne_true, hy, Option.bind_some]
  simp only
  rw [if_pos trivial]
theorem levels_i (a b c v : Int) (l : List Int) (hl : l.length ≤ 1048576) : ∃ r e, (∀ k, 2000000 ≤ k → impl_LevelsOf.f k a b c v l = some (r, e)) ∧ (e = 0 → tankOk a b c = true ∧ (0 ≤ v ∧ v ≤ a) ∧ l.all change = true ∧ l.length ≤ 24 ∧ lev a b c v l = some r) := by
  by_cases ht : tankOk a b c = true
  · by_cases hv : 0 ≤ v ∧ v ≤ a
    · cases hc : (l.all change && decide ((l.length : Int) ≤ 24)) with
      | false =>
        refine ⟨[], 2, fun k hk => ?_, fun h => by omega⟩
        unfold impl_LevelsOf.f
        rw [impl_tank, impl_in, impl_changes, ht, decide_eq_true hv, hc]
        simp
      | true =>
        have hc' := hc
        simp only [Bool.and_eq_true, decide_eq_true_eq] at hc'
        have h24 : l.length ≤ 24 := by omega
        have go : ∀ k, 2000000 ≤ k → impl_LevelsOf.f k a b c v l = some (match lev a b c v l with | some r => (r, 0) | none => ([], 6)) := fun k hk => by
          have e := impl_lev_l0 ht l h24 hc'.1 l.length 0 k [] v (by omega) (by omega) hv.1 hv.2 rfl
          rw [List.drop_zero] at e
          simp only [List.nil_append] at e
          unfold impl_LevelsOf.f
          rw [impl_tank, impl_in, impl_changes, ht, decide_eq_true hv, hc]
          simp only [Option.bind_some, if_true]
          exact e
        cases hr : lev a b c v l with
        | none =>
          refine ⟨[], 6, fun k hk => ?_, fun h => by omega⟩
          rw [go k hk, hr]
        | some r =>
          refine ⟨r, 0, fun k hk => ?_, fun _ => ⟨ht, hv, hc'.1, h24, rfl⟩⟩
          rw [go k hk, hr]
    · refine ⟨[], 2, fun k hk => ?_, fun h => by omega⟩
      unfold impl_LevelsOf.f
      rw [impl_tank, impl_in, ht, decide_eq_false hv]
      simp
  · refine ⟨[], 1, fun k hk => ?_, fun h => by omega⟩
    unfold impl_LevelsOf.f
    rw [impl_tank, (Bool.not_eq_true _).mp ht]
    simp
theorem least_l0 {b c : Int} (x : Int) (hbc : tankOk 100 b c = true) (cs : List Int) (h24 : cs.length ≤ 24) (most : Int) (hh : cs.all hour = true) (v : Int) (hv : 0 ≤ v) : ∀ (d : Nat) (n : Int), n + (d : Int) = 101 → 1 ≤ n → (v ≤ n ∨ d = 0) → ∃ (y : Int) (q : Bool), (∀ k, 1100000 + d < k → impl_least_c29.l0 k 100 n [(⟨(⟨x, b, c⟩ : S25), cs, ([] : List Int), most⟩ : S59)] [v] = some (y, q)) ∧
    ((q = true ∧ n ≤ y ∧ y ≤ 100 ∧ 0 < ways y b c most cs v ∧ ∀ m, n ≤ m → m < y → ¬ 0 < ways m b c most cs v) ∨ (y = 0 ∧ q = false)) := by
  intro d
  induction d with
  | zero =>
    intro n hn h1 _
    refine ⟨0, false, fun k hk => ?_, .inr ⟨rfl, rfl⟩⟩
    obtain ⟨k, rfl⟩ := suc_of (show 0 < k by omega)
    rw [impl_least_c29.l0.eq_def]
    simp only
    rw [if_neg (by omega)]
  | succ d ih =>
    intro n hn h1 hvn
    have hvn : v ≤ n := by rcases hvn with h | h <;> omega
    have htn := tank_at hbc h1 (show n ≤ 100 by omega)
    have w1 : wrap64 (n + 1) = n + 1 := wrap_id (by omega) (by omega)
    have si : ∀ k, 1000000 ≤ k → impl_least_c29.l0 (k + 1) 100 n [(⟨(⟨x, b, c⟩ : S25), cs, ([] : List Int), most⟩ : S59)] [v] = if decide (0 < ways n b c most cs v) = true then some (n, true) else impl_least_c29.l0 k 100 (n + 1) [(⟨(⟨x, b, c⟩ : S25), cs, ([] : List Int), most⟩ : S59)] [v] := fun k hk => by
      simp only [impl_least_c29.l0, show rd_T59 [(⟨(⟨x, b, c⟩ : S25), cs, ([] : List Int), most⟩ : S59)] 0 = ⟨(⟨x, b, c⟩ : S25), cs, ([] : List Int), most⟩ from rfl]
      rw [if_pos (by omega), clos_i htn cs h24 most hh v ⟨hv, hvn⟩ n k hk, Option.bind_some, w1]
    obtain ⟨y, q, p2, p3⟩ := ih (n + 1) (by omega) (by omega) (by omega)
    by_cases hw : 0 < ways n b c most cs v
    · refine ⟨n, true, fun k hk => ?_, .inl ⟨rfl, Int.le_refl _, by omega, hw, fun m h0 h1 => by omega⟩⟩
      obtain ⟨k, rfl⟩ := suc_of (show 0 < k by omega)
      rw [si k (by omega), decide_eq_true hw, if_pos rfl]
    · refine ⟨y, q, fun k hk => ?_, ?_⟩
      · obtain ⟨k, rfl⟩ := suc_of (show 0 < k by omega)
        rw [si k (by omega), decide_eq_false hw, if_neg Bool.false_ne_true]
        exact p2 k (by omega)
      · rcases p3 with ⟨g1, g2, g3, g4, g5⟩ | g
        · refine .inl ⟨g1, by omega, g3, g4, fun m h0 h1 => ?_⟩
          by_cases e : m = n
          · rw [e]; exact hw
          · exact g5 m (by omega) h1
        · exact .inr g
theorem least_i (a b c v most : Int) (cs : List Int) : ∃ r e, (∀ k, 2000000 ≤ k → impl_LeastTank.f k a b c v cs most = some (r, e)) ∧ (e ≠ 0 → r = 0) ∧ (e = 0 → (1 ≤ r ∧ r ≤ 100) ∧ tankOk 100 b c = true ∧ okC r v most cs = true ∧ 0 < ways r b c most cs v ∧ (1 ≤ r - 1 → v ≤ r - 1 → ¬ 0 < ways (r - 1) b c most cs v)) := by
  cases ht : tankOk a b c
  · refine ⟨0, 1, fun k hk => ?_, fun _ => rfl, fun h => by omega⟩
    unfold impl_LeastTank.f
    rw [impl_tank, ht]; rfl
  · have h100 := tank_at ht (show (1 : Int) ≤ 100 by omega) (show (100 : Int) ≤ 100 by omega)
    cases hb : (decide (0 ≤ v ∧ v ≤ 100) && ((cs.all hour && decide ((cs.length : Int) ≤ 24)) && hour most))
    · refine ⟨0, 2, fun k hk => ?_, fun _ => rfl, fun h => by omega⟩
      unfold impl_LeastTank.f
      rw [impl_tank, ht, impl_ok, h100, hb]; rfl
    · have hb' := hb
      simp only [Bool.and_eq_true, decide_eq_true_eq] at hb'
      obtain ⟨hv, ⟨hh, h24⟩, hm⟩ := hb'
      obtain ⟨n, hn⟩ : ∃ n : Int, n = if 1 > v then 1 else v := ⟨_, rfl⟩
      have n1 : 1 ≤ n ∧ v ≤ n ∧ n ≤ 100 ∧ (n = 1 ∨ n = v) := by rw [hn]; split <;> omega
      have em : mx v 1 = n := by rw [hn]; unfold mx; split <;> first | rfl | omega | (split <;> omega)
      obtain ⟨y, q, p2, p3⟩ := least_l0 100 h100 cs (by omega) most hh v hv.1 (101 - n).toNat n (by omega) n1.1 (.inl n1.2.1)
      have go : ∀ k, 2000000 ≤ k → impl_LeastTank.f k a b c v cs most = (if q = true then some (y, 0) else some (0, 3)) := fun k hk => by
        unfold impl_LeastTank.f impl_least_c29.f impl_orNotFound.f
        rw [impl_tank, ht, impl_ok, h100, hb, em]
        simp only [Option.bind_some, if_true, Bool.and_self]
        rw [p2 k (by omega), Option.bind_some]
        cases q <;> rfl
      rcases p3 with ⟨rfl, g2, g3, g4, g5⟩ | ⟨rfl, rfl⟩
      · refine ⟨y, 0, fun k hk => by rw [go k hk, if_pos rfl], fun h => absurd rfl h, fun _ => ⟨⟨by omega, g3⟩, h100, ?_, g4, fun h1 h2 => ?_⟩⟩
        · unfold okC
          rw [decide_eq_true (show 0 ≤ v ∧ v ≤ y by omega), hh, decide_eq_true h24, hm]; rfl
        · exact g5 (y - 1) (by omega) (by omega)
      · exact ⟨0, 3, fun k hk => by rw [go k hk, if_neg Bool.false_ne_true], fun _ => rfl, fun h => by omega⟩
theorem j2_ok (M : List Int) (hM : bytes M) (k : Nat) (hk : 2000000 ≤ k) : laws_FnStorage.j2 (k + 1) M = some true := by
  obtain ⟨a, b, c, v, cs, most, d1, hl⟩ := draw_least M hM
  obtain ⟨r, e, l1, l2, l3⟩ := least_i a b c v most cs
  rw [laws_FnStorage.j2.eq_def]
  simp only
  rw [d1 k (by omega), Option.bind_some]; simp only
  rw [l1 k hk, Option.bind_some]; simp only
  by_cases he : e = 0
  · obtain ⟨hr, h100, hok, hw, hno⟩ := l3 he
    have htr := tank_at h100 hr.1 hr.2
    obtain ⟨R, t1, t2, t3⟩ := last_i r b c v most cs (by omega)
    rw [if_pos he, t1 k hk, if_pos htr, if_pos hok, Option.bind_some]; simp only
    obtain ⟨chs, z, hz⟩ := (ways_pos cs v).1 hw
    have hmem := (t3 htr hok z).2 ⟨chs, hz⟩
    have hne : ¬ (R.length : Int) = 0 := by
      have := List.length_pos_of_mem hmem
      omega
    rw [if_pos trivial, if_neg hne, wrap_id (x := r - 1) (by omega) (by omega)]
    obtain ⟨R', u1, u2, u3⟩ := last_i (r - 1) b c v most cs (by omega)
    rw [u1 k hk]
    by_cases q1 : tankOk (r - 1) b c = true
    · rw [if_pos q1]
      by_cases q2 : okC (r - 1) v most cs = true
      · rw [if_pos q2, Option.bind_some]; simp only
        have hv := (okC_iff q2).1
        have ht1 := (tankOk_iff.1 q1).1
        have hno := hno ht1.1 hv.2
        have hnil : R' = [] := by
          match R', u3 with
          | [], _ => rfl
          | z :: _, u3 => exact absurd ((ways_pos cs v).2 (by obtain ⟨chs, h⟩ := (u3 q1 q2 z).1 (by simp); exact ⟨chs, z, h⟩)) hno
        rw [if_pos trivial, hnil]
        rfl
      · rw [if_neg q2, Option.bind_some]; simp only
        rw [if_neg (by decide)]
    · rw [if_neg q1, Option.bind_some]; simp only
      rw [if_neg (by decide)]
  · rw [if_neg he, l2 he]
    rfl
theorem walk_l0 (M : List Int) (hM : bytes M) {a b c : Int} (ht : tankOk a b c = true) (l r : List Int) (h24 : l.length ≤ 24) (hc : l.all change = true) (hr : r.length = l.length) : ∀ (d j : Nat) (v : Int), j + d = l.length → (0 ≤ v ∧ v ≤ a) → lev a b c v (l.drop j) = some (r.drop j) → ∀ k, 2000010 + d ≤ k → laws_FnStorage.l0 k M l r v (j : Int) a b c = some true := by
  intro d
  induction d with
  | zero =>
    intro j v hj hv _ k hk
    obtain ⟨k, rfl⟩ : ∃ m, k = m + 1 + 1 := ⟨k - 2, by omega⟩
    rw [laws_FnStorage.l0.eq_def]
    simp only
    rw [if_neg (by omega), tank_text ht _ (by omega), Option.bind_some, tank_read ht _ (by omega), Option.bind_some]; simp only
    have e : (!(a == a) || (!(b == b) || !(c == c))) = false := by simp
    rw [if_pos trivial, e, if_neg Bool.false_ne_true]
    exact j2_ok M hM k (by omega)
  | succ d ih =>
    intro j v hj hv hlv k hk
    obtain ⟨k, rfl⟩ : ∃ m, k = m + 1 + 1 := ⟨k - 2, by omega⟩
    have cb := change_le (all_getD hc (show j < l.length by omega))
    rw [drop_cons l (by omega : j < l.length) 0, drop_cons r (by omega : j < r.length) 0] at hlv
    simp only [lev] at hlv
    cases h : aft a b c v (l.getD j 0) with
    | none => rw [h] at hlv; cases hlv
    | some x =>
      rw [h] at hlv
      simp only at hlv
      have hx := aft_le h
      cases h2 : lev a b c x (l.drop (j + 1)) with
      | none => rw [h2] at hlv; simp at hlv
      | some w =>
        rw [h2] at hlv
        simp only [Option.map_some, Option.some.injEq, List.cons.injEq] at hlv
        obtain ⟨e1, e2⟩ := hlv
        rw [laws_FnStorage.l0.eq_def]
        simp only
        rw [if_pos (by omega), if_pos (by omega), if_pos (by omega), rd_nat, rd_nat, level_after ht hv cb h k, Option.bind_some]; simp only
        rw [if_pos trivial, if_pos e1, if_neg (by omega), if_neg (by omega), next_nat (n := r.length) (by omega) (by omega)]
        exact ih (j + 1) x (by omega) hx (by rw [h2, e2]) (k + 1) (by omega)
theorem FnStorage : laws_FnStorage.Pure := by
  intro C M _ _ hC _ _ hM
  obtain ⟨n, hn⟩ : ∃ n, n = 3000000 := ⟨_, rfl⟩
  refine ⟨n + 1 + 1, ?_⟩
  have go : ∀ q, laws_FnStorage.j0 (n + 1 + 1) C M q = some true := by
    intro q
    rw [laws_FnStorage.j0.eq_def]
    simp only
    cases q with
    | true => rw [if_pos rfl]
    | false =>
      obtain ⟨a, b, c, v, l, d1, hl⟩ := draw_levels C hC
      obtain ⟨r, e, l1, l2⟩ := levels_i a b c v l (by omega)
      rw [if_neg Bool.false_ne_true, d1 _ (by omega), Option.bind_some]; simp only
      rw [l1 _ (by omega), Option.bind_some]; simp only
      by_cases he : e = 0
      · obtain ⟨ht, hv, hc, h24, hlev⟩ := l2 he
        have hlen := lev_len l v r hlev
        rw [if_pos he, if_pos (by omega)]
        exact walk_l0 M hM ht l r h24 hc hlen l.length 0 v (by omega) hv (by rw [List.drop_zero, List.drop_zero]; exact hlev) (n + 1) (by omega)
      · rw [if_neg he]
        exact j2_ok M hM n (by omega)
  unfold laws_FnStorage.f laws_b10Long.f
  rw [Option.bind_some]
  split
  · exact go true
  · rw [Option.bind_some]
    exact go _

end Go.Proofs.YtkgohpmheohnmaaGreatDoor.Pure
