/- PayBack of the program returns what the reference's returns, for all bills and payments. No condition. -/
import Derived.Test.YtkacnmgcgakioaaPFnExactPayBackx3
namespace Go.Proofs.Ytkacnmgcgakioaa.Pure
open Go.RowKit Go.Proofs.Ytkacnmgcgakioaa.PFnExactPayBack Go.Proofs.YtkacnmgcgakioaaW.PrintWords Go.Proofs.YtkacnmgcgakioaaW.PrintLast Go.Proofs.YtkacnmgcgakioaaW.PrintMore
set_option linter.unusedVariables false
set_option linter.unusedSimpArgs false

theorem wrap_id {x : Int} (h1 : -9223372036854775808 ≤ x) (h2 : x ≤ 9223372036854775807) : wrap64 x = x := by unfold wrap64; omega
theorem wf_i64 {x : Int} (h : (Lit.int .i64 x).wf = true) : -9223372036854775808 ≤ x ∧ x ≤ 9223372036854775807 := by
  simp [Lit.wf, IntKind.min, IntKind.max, IntKind.bits, IntKind.signed] at h; omega
theorem mul_bounds {a b A B : Int} (h0 : 0 ≤ a) (hA : a ≤ A) (h1 : -B ≤ b) (h2 : b ≤ B) (hB : 0 ≤ B) : -(A * B) ≤ a * b ∧ a * b ≤ A * B := by
  have e1 := Int.mul_le_mul_of_nonneg_left h2 h0
  have e2 := Int.mul_le_mul_of_nonneg_right hA hB
  have e3 := Int.mul_le_mul_of_nonneg_left h1 h0
  have e4 : a * -B = -(a * B) := Int.mul_neg a B
  omega
theorem mul_nonneg' {a b : Int} (h0 : 0 ≤ a) (h1 : 0 ≤ b) : 0 ≤ a * b := Int.mul_nonneg h0 h1
theorem next_nat {j n : Nat} (h : j < n) (hn : n ≤ 4611686018427387904) : wrap64 ((j : Int) + 1) = ((j + 1 : Nat) : Int) := by
  rw [wrap_id (by omega) (by omega)]; omega
theorem rd_nat (l : List Int) (j : Nat) : rd l (j : Int) = l.getD j 0 := by unfold rd; simp
theorem ifp {α : Type} {c : Prop} [Decidable c] {a b : α} (h : c) : (if c then a else b) = a := if_pos h
theorem ifn {α : Type} {c : Prop} [Decidable c] {a b : α} (h : ¬ c) : (if c then a else b) = b := if_neg h
theorem suc_of {k d : Nat} (h : d < k) : ∃ m, k = m + 1 := ⟨k - 1, by omega⟩
theorem getD_lt {α : Type} {l : List α} {j : Nat} {d : α} (h : j < l.length) : l.getD j d = l[j] := by
  rw [List.getD_eq_getElem?_getD, List.getElem?_eq_getElem h]; rfl
theorem drop_cons {α : Type} (l : List α) {j : Nat} (h : j < l.length) (d : α) : l.drop j = l.getD j d :: l.drop (j + 1) := by
  rw [getD_lt h]; exact List.drop_eq_getElem_cons h
theorem up {α : Type} {g : Nat → Option α} (hm : ∀ k, LeO (g k) (g (k + 1))) {k0 : Nat} {r : α} (h : g k0 = some r) : ∀ k, k0 ≤ k → g k = some r := by
  intro k hk
  induction hk with
  | refl => exact h
  | step _ ih => exact hm _ _ ih

theorem toI_l0 (l : List Int) (hl : l.length ≤ 35184372088832) : ∀ (d j k : Nat) (m : List Int), j + d = l.length → d < k → m.length = l.length → (∀ i, i < j → m[i]? = l[i]?) → laws_toInt64S.l0 k l m (j : Int) = some l := by
  intro d
  induction d with
  | zero =>
    intro j k m hj hk hm hp
    obtain ⟨k, rfl⟩ := suc_of hk
    simp only [laws_toInt64S.l0]
    rw [if_neg (by omega)]
    congr 1
    apply List.ext_getElem?
    intro i
    by_cases hi : i < j
    · exact hp i hi
    · rw [List.getElem?_eq_none (by omega), List.getElem?_eq_none (by omega)]
  | succ d ih =>
    intro j k m hj hk hm hp
    obtain ⟨k, rfl⟩ := suc_of hk
    simp only [laws_toInt64S.l0]
    rw [if_pos (by omega), if_pos (by omega), if_pos (by omega), next_nat (n := l.length) (by omega) (by omega)]
    refine ih (j + 1) k _ (by omega) (by omega) (by simpa using hm) (fun i hi => ?_)
    rw [Int.toNat_natCast, rd_nat, List.getElem?_set]
    by_cases e : j = i
    · subst e
      rw [if_pos rfl, if_pos (by omega), getD_lt (by omega), List.getElem?_eq_getElem (by omega)]
    · rw [if_neg e]; exact hp i (by omega)
theorem toI (l : List Int) (hl : l.length ≤ 35184372088832) (k : Nat) (hk : l.length < k) : laws_toInt64S.f k l = some l := by
  unfold laws_toInt64S.f
  rw [if_pos (by omega), if_pos (by omega)]
  exact toI_l0 l hl l.length 0 k _ (by omega) hk (by simp) (fun i hi => absurd hi (by omega))

theorem eqI_l0 (l : List Int) (hl : l.length ≤ 35184372088832) : ∀ (d j k : Nat), j + d = l.length → d < k → laws_eqInt64S.l0 k l l (j : Int) = some true := by
  intro d
  induction d with
  | zero =>
    intro j k hj hk
    obtain ⟨k, rfl⟩ := suc_of hk
    simp only [laws_eqInt64S.l0]
    rw [if_neg (by omega)]
  | succ d ih =>
    intro j k hj hk
    obtain ⟨k, rfl⟩ := suc_of hk
    simp only [laws_eqInt64S.l0]
    rw [if_pos (by omega), if_pos (by omega), if_pos (by omega), if_pos trivial, next_nat (n := l.length) (by omega) (by omega)]
    exact ih (j + 1) k (by omega) (by omega)
theorem eqI (l : List Int) (hl : l.length ≤ 35184372088832) (k : Nat) (hk : l.length < k) : laws_eqInt64S.f k l l = some true := by
  unfold laws_eqInt64S.f
  rw [if_pos rfl]
  exact eqI_l0 l hl l.length 0 k (by omega) hk

theorem markc_l0 (c0 : Int) (hc0 : 0 ≤ c0) (hc1 : c0 ≤ 1000000000000000) : ∀ (d j k : Nat) (m : List Int) (c : Int), j + d = m.length → m.length ≤ 35184372088832 → d < k → c = c0 + (j : Int) → (∀ i, i < j → m[i]? = some (c0 + (i : Int))) →
    ∃ m', laws_markInt64S.l0 k m c (j : Int) = some (c0 + (m.length : Int), m') ∧ m'.length = m.length ∧ ∀ i, i < m'.length → m'[i]? = some (c0 + (i : Int)) := by
  intro d
  induction d with
  | zero =>
    intro j k m c hj hl hk hc hp
    obtain ⟨k, rfl⟩ := suc_of hk
    simp only [laws_markInt64S.l0]
    rw [if_neg (by omega)]
    exact ⟨m, by rw [hc]; congr 2; omega, rfl, fun i hi => hp i (by omega)⟩
  | succ d ih =>
    intro j k m c hj hl hk hc hp
    obtain ⟨k, rfl⟩ := suc_of hk
    simp only [laws_markInt64S.l0]
    rw [if_pos (by omega), if_pos (by omega), next_nat (n := m.length) (by omega) (by omega), wrap_id (x := c + 1) (by omega) (by omega), Int.toNat_natCast]
    obtain ⟨m', h1, h2, h3⟩ := ih (j + 1) k (m.set j c) (c + 1) (by simp; omega) (by simpa using hl) (by omega) (by omega) (fun i hi => by
      rw [List.getElem?_set]
      by_cases e : j = i
      · subst e; rw [if_pos rfl, if_pos (by omega), hc]
      · rw [if_neg e]; exact hp i (by omega))
    exact ⟨m', by rw [h1]; simp, by simpa using h2, h3⟩
theorem heldc_l0 (c0 : Int) (hc0 : 0 ≤ c0) (hc1 : c0 ≤ 1000000000000000) (m : List Int) (hl : m.length ≤ 35184372088832) (hm : ∀ i, i < m.length → m[i]? = some (c0 + (i : Int))) : ∀ (d j k : Nat) (c : Int), j + d = m.length → d < k → c = c0 + (j : Int) → laws_heldInt64S.l0 k m c (j : Int) = some (c0 + (m.length : Int)) := by
  intro d
  induction d with
  | zero =>
    intro j k c hj hk hc
    obtain ⟨k, rfl⟩ := suc_of hk
    simp only [laws_heldInt64S.l0]
    rw [if_neg (by omega)]
    congr 1; omega
  | succ d ih =>
    intro j k c hj hk hc
    obtain ⟨k, rfl⟩ := suc_of hk
    simp only [laws_heldInt64S.l0]
    have e : rd m (j : Int) = c := by
      rw [rd_nat, List.getD_eq_getElem?_getD, hm j (by omega), hc]; rfl
    rw [if_pos (by omega), if_pos (by omega), if_pos e, next_nat (n := m.length) (by omega) (by omega), wrap_id (x := c + 1) (by omega) (by omega)]
    exact ih (j + 1) k (c + 1) (by omega) (by omega) (by omega)
theorem markc_held (l : List Int) (c0 : Int) (hc0 : 0 ≤ c0) (hc1 : c0 ≤ 1000000000000000) (hl : l.length ≤ 35184372088832) (k : Nat) (hk : l.length < k) : ∃ m', laws_markInt64S.f k l c0 = some (c0 + (l.length : Int), m') ∧ m'.length = l.length ∧ (∀ k', l.length < k' → laws_heldInt64S.f k' m' c0 = some (c0 + (l.length : Int))) := by
  obtain ⟨m', h1, h2, h3⟩ := markc_l0 c0 hc0 hc1 l.length 0 k l c0 (by omega) hl hk (by omega) (fun i hi => absurd hi (by omega))
  refine ⟨m', h1, h2, fun k' hk' => ?_⟩
  have := heldc_l0 c0 hc0 hc1 m' (by omega) h3 m'.length 0 k' c0 (by omega) (by omega) (by omega)
  rw [h2] at this
  exact this

theorem spec_in (n lo hi : Int) : spec_l00In.f n lo hi = some (decide (lo ≤ n ∧ n ≤ hi)) := by unfold spec_l00In.f; split <;> simp <;> omega
theorem impl_in (n lo hi : Int) : impl_within.f n lo hi = some (decide (lo ≤ n ∧ n ≤ hi)) := by unfold impl_within.f; split <;> simp <;> omega

def subs (b p : List Int) : List Int := List.zipWith (fun y x => wrap64 (y - x)) p b
def money (x : Int) : Bool := decide (0 ≤ x ∧ x ≤ 1000000000)
theorem subs_get (b p : List Int) (h : p.length = b.length) (i : Nat) (hi : i < b.length) : (subs b p)[i]? = some (wrap64 (p.getD i 0 - b.getD i 0)) := by
  unfold subs
  rw [getD_lt hi, getD_lt (by omega), List.getElem?_zipWith, List.getElem?_eq_getElem (by omega), List.getElem?_eq_getElem hi]
theorem subs_len (b p : List Int) (h : p.length = b.length) : (subs b p).length = b.length := by unfold subs; simp; omega
theorem spec_pay_l0 (b p : List Int) (h : p.length = b.length) (hl : b.length ≤ 12) : ∀ (d j k : Nat) (acc : List Int), j + d = b.length → d < k → acc.length = j →
    spec_PayBack.l0 k b p acc (j : Int) = some (if ((b.drop j).all money && (p.drop j).all money) = true then (acc ++ subs (b.drop j) (p.drop j), 0) else ([], 2)) := by
  intro d
  induction d with
  | zero =>
    intro j k acc hj hk ha
    obtain ⟨k, rfl⟩ := suc_of hk
    simp only [spec_PayBack.l0]
    rw [if_neg (by omega), List.drop_eq_nil_of_le (by omega), List.drop_eq_nil_of_le (by omega)]
    simp [subs]
  | succ d ih =>
    intro j k acc hj hk ha
    obtain ⟨k, rfl⟩ := suc_of hk
    simp only [spec_PayBack.l0]
    unfold spec_l22Money.f
    rw [if_pos (by omega), if_pos (by omega), if_pos (by omega), if_pos (by omega), next_nat (n := b.length) (by omega) (by omega), spec_in, spec_in, rd_nat, rd_nat, drop_cons b (by omega : j < b.length) 0, drop_cons p (by omega : j < p.length) 0, ih (j + 1) k _ (by omega) (by omega) (by simp; omega)]
    simp only [Option.bind_some, List.all_cons]
    have m1 : money (b.getD j 0) = decide (0 ≤ b.getD j 0 ∧ b.getD j 0 ≤ 1000000000) := rfl
    have m2 : money (p.getD j 0) = decide (0 ≤ p.getD j 0 ∧ p.getD j 0 ≤ 1000000000) := rfl
    rw [← m1, ← m2]
    have e : subs (b.getD j 0 :: b.drop (j + 1)) (p.getD j 0 :: p.drop (j + 1)) = wrap64 (p.getD j 0 - b.getD j 0) :: subs (b.drop (j + 1)) (p.drop (j + 1)) := rfl
    rw [e]
    clear e m1 m2
    generalize b.getD j 0 = x
    generalize p.getD j 0 = y
    by_cases c1 : money x = true <;> by_cases c2 : money y = true <;> simp [c1, c2]
theorem impl_pay_l0 (b p : List Int) (h : p.length = b.length) (hl : b.length ≤ 12) : ∀ (d j k : Nat) (m : List Int), j + d = b.length → d < k → m.length = b.length → (∀ i, i < j → m[i]? = (subs b p)[i]?) → (∀ i, j ≤ i → i < b.length → m.getD i 0 = p.getD i 0) →
    impl_PayBack.l0 k m b (b.length : Int) (j : Int) = some (subs b p, 0) := by
  intro d
  induction d with
  | zero =>
    intro j k m hj hk hm h1 h2
    obtain ⟨k, rfl⟩ := suc_of hk
    simp only [impl_PayBack.l0]
    rw [if_neg (by omega)]
    congr 2
    apply List.ext_getElem?
    intro i
    by_cases hi : i < j
    · exact h1 i hi
    · rw [List.getElem?_eq_none (by omega), List.getElem?_eq_none (by rw [subs_len b p h]; omega)]
  | succ d ih =>
    intro j k m hj hk hm h1 h2
    obtain ⟨k, rfl⟩ := suc_of hk
    simp only [impl_PayBack.l0]
    rw [if_pos (by omega), if_pos (by omega), if_pos (by omega), if_pos (by omega), next_nat (n := b.length) (by omega) (by omega), rd_nat, rd_nat, h2 j (by omega) (by omega), Int.toNat_natCast]
    refine ih (j + 1) k _ (by omega) (by omega) (by simpa using hm) (fun i hi => ?_) (fun i hi1 hi2 => ?_)
    · rw [List.getElem?_set]
      by_cases e : j = i
      · subst e; rw [if_pos rfl, if_pos (by omega), subs_get b p h j (by omega)]
      · rw [if_neg e]; exact h1 i (by omega)
    · rw [List.getD_eq_getElem?_getD, List.getElem?_set, if_neg (by omega), ← List.getD_eq_getElem?_getD]
      exact h2 i (by omega) hi2
theorem pay_both (b p : List Int) (hb : b.length ≤ 1048576) (hp : p.length ≤ 1048576) : ∃ r c, (∀ k, 1000000 ≤ k → spec_PayBack.f k b p = some (r, c)) ∧ (∀ k, 1000000 ≤ k → impl_PayBack.f k b p = some (r, c)) ∧ r.length ≤ 12 := by
  by_cases h1 : (b.length : Int) > 12
  · refine ⟨[], 2, fun k hk => ?_, fun k hk => ?_, by simp⟩
    · obtain ⟨k, rfl⟩ := suc_of (show 0 < k by omega)
      unfold spec_PayBack.f
      rw [if_pos h1]
      simp only [spec_PayBack.j0]; simp
    · obtain ⟨k, rfl⟩ := suc_of (show 0 < k by omega)
      have bad : impl_PayBack.j0 (k + 1) b p true = some ([], 2) := by simp only [impl_PayBack.j0]; simp
      unfold impl_PayBack.f
      rw [bad, if_pos h1]
      split <;> rfl
  · by_cases h2 : p.length = b.length
    · refine ⟨if (b.all money && p.all money) = true then subs b p else [], if (b.all money && p.all money) = true then 0 else 2, fun k hk => ?_, fun k hk => ?_, ?_⟩
      · obtain ⟨k, rfl⟩ := suc_of (show 0 < k by omega)
        unfold spec_PayBack.f
        have e : ((p.length : Int) != (b.length : Int)) = false := by rw [h2]; simp
        rw [if_neg h1, e]
        simp only [spec_PayBack.j0]
        rw [if_neg Bool.false_ne_true]
        have := spec_pay_l0 b p h2 (by omega) b.length 0 k [] (by omega) (by omega) rfl
        simp only [List.drop_zero, List.nil_append, Int.natCast_zero] at this
        have this' : spec_PayBack.l0 k b p [] 0 = _ := this
        rw [this']
        cases (b.all money && p.all money) <;> rfl
      · obtain ⟨k, rfl⟩ := suc_of (show 0 < k by omega)
        have bad : impl_PayBack.j0 (k + 1) b p true = some ([], 2) := by simp only [impl_PayBack.j0]; simp
        unfold impl_PayBack.f impl_allWithin.f
        rw [if_pos (by omega), if_neg h1, bad]
        have e1 : (b.all fun x => decide (0 ≤ x ∧ x ≤ 1000000000)) = b.all money := rfl
        have e2 : (p.all fun x => decide (0 ≤ x ∧ x ≤ 1000000000)) = p.all money := rfl
        simp only [e1, e2, Option.bind_some]
        cases b.all money
        · rfl
        · simp only [if_true, Bool.true_and]
          cases p.all money
          · simp only [Bool.not_false, bad]; rfl
          · simp only [Bool.not_true, impl_PayBack.j0]
            rw [if_neg Bool.false_ne_true]
            unfold slices_Clone_int64_int64.f
            rw [if_pos (by omega)]
            simp only [Option.bind_some]
            exact impl_pay_l0 b p h2 (by omega) b.length 0 k p (by omega) (by omega) h2 (fun i hi => absurd hi (by omega)) (fun i _ _ => rfl)
      · split
        · rw [subs_len b p h2]; omega
        · simp
    · refine ⟨[], 2, fun k hk => ?_, fun k hk => ?_, by simp⟩
      · obtain ⟨k, rfl⟩ := suc_of (show 0 < k by omega)
        unfold spec_PayBack.f
        have e : ((p.length : Int) != (b.length : Int)) = true := by simp; omega
        rw [if_neg h1, e]
        simp only [spec_PayBack.j0]; simp
      · obtain ⟨k, rfl⟩ := suc_of (show 0 < k by omega)
        have bad : impl_PayBack.j0 (k + 1) b p true = some ([], 2) := by simp only [impl_PayBack.j0]; simp
        unfold impl_PayBack.f
        rw [if_neg (by omega), bad]
theorem FnExactPayBack : laws_FnExactPayBack.Pure := by
  intro b p _ _ _ _ _ _
  by_cases hb : b.length ≤ 1048576
  · by_cases hp : p.length ≤ 1048576
    · obtain ⟨k, hk⟩ : ∃ k, k = 3000000 := ⟨_, rfl⟩
      refine ⟨k + 3, ?_⟩
      obtain ⟨r, c, s, i, hr⟩ := pay_both b p hb hp
      have e : (c != c) = false := by simp
      obtain ⟨m1, a1, b1, _⟩ := markc_held b 1 (by omega) (by omega) (by omega) (k + 2) (by omega)
      obtain ⟨m2, a2, b2, _⟩ := markc_held p (1 + (b.length : Int)) (by omega) (by omega) (by omega) (k + 2) (by omega)
      obtain ⟨m3, a3, b3, d3⟩ := markc_held r 1 (by omega) (by omega) (by omega) (k + 1) (by omega)
      unfold laws_FnExactPayBack.f
      rw [if_neg (by omega), if_neg (by omega)]
      simp only [toI b (by omega) (k + 3) (by omega), toI p (by omega) (k + 3) (by omega), s (k + 3) (by omega), i (k + 3) (by omega), eqI r (by omega) (k + 3) (by omega), Option.bind_some, if_true, e]
      simp only [laws_FnExactPayBack.j0]
      rw [if_neg Bool.false_ne_true]
      simp only [toI b (by omega) (k + 2) (by omega), toI p (by omega) (k + 2) (by omega), eqI b (by omega) (k + 2) (by omega), eqI p (by omega) (k + 2) (by omega), eqI r (by omega) (k + 2) (by omega), a1, a2, Option.bind_some, if_true, e]
      rw [if_neg (by omega)]
      simp only [laws_FnExactPayBack.j1]
      rw [if_neg Bool.false_ne_true]
      simp only [a3, d3 (k + 1) (by omega), toI b (by omega) (k + 1) (by omega), toI p (by omega) (k + 1) (by omega), i (k + 1) (by omega), eqI r (by omega) (k + 1) (by omega), Option.bind_some, if_true, e]
      rw [if_neg (by omega)]
      simp only [laws_FnExactPayBack.j2]
      rw [if_neg Bool.false_ne_true]
      simp only [d3 k (by omega), Option.bind_some, if_true]
      rw [if_neg (by omega)]
    · refine ⟨0, ?_⟩
      unfold laws_FnExactPayBack.f
      rw [if_neg (by omega), if_pos (by omega)]
  · refine ⟨0, ?_⟩
    unfold laws_FnExactPayBack.f
    rw [if_pos (by omega)]

end Go.Proofs.Ytkacnmgcgakioaa.Pure
