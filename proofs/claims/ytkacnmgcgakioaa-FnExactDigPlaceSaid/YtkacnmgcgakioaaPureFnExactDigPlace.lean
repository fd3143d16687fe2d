/- DigPlace of the program returns what the reference's returns, for every list of places. No condition. -/
import Derived.Test.YtkacnmgcgakioaaPFnExactDigPlacex3
namespace Go.Proofs.Ytkacnmgcgakioaa.Pure
open Go.RowKit Go.Proofs.Ytkacnmgcgakioaa.PFnExactDigPlace Go.Proofs.YtkacnmgcgakioaaW.PrintWords Go.Proofs.YtkacnmgcgakioaaW.PrintLast Go.Proofs.YtkacnmgcgakioaaW.PrintMore
set_option linter.unusedVariables false
set_option linter.unusedSimpArgs false

theorem wrap_id {x : Int} (h1 : -9223372036854775808 ≤ x) (h2 : x ≤ 9223372036854775807) : wrap64 x = x := by unfold wrap64; omega
theorem wf_i64 {x : Int} (h : (Lit.int .i64 x).wf = true) : -9223372036854775808 ≤ x ∧ x ≤ 9223372036854775807 := by
  simp [Lit.wf, IntKind.min, IntKind.max, IntKind.bits, IntKind.signed] at h; omega
theorem mul_bounds {a b A B : Int} (h0 : 0 ≤ a) (hA : a ≤ A) (h1 : -B ≤ b) (h2 : b ≤ B) (hB : 0 ≤ B) : -(A * B) ≤ a * b ∧ a * b ≤ A * B := by
  have e1 := Int.mul_le_mul_of_nonneg_left h2 h0
  have e2 := Int.mul_le_mul_of_nonneg_right hA hB
  have e3 := Int.mul_le_mul_of_nonneg_left h1 h0
  have e4 : a * -B = -(a * B) := Int.mul_neg a B
  omega
theorem mul_nonneg' {a b : Int} (h0 : 0 ≤ a) (h1 : 0 ≤ b) : 0 ≤ a * b := Int.mul_nonneg h0 h1
theorem next_nat {j n : Nat} (h : j < n) (hn : n ≤ 4611686018427387904) : wrap64 ((j : Int) + 1) = ((j + 1 : Nat) : Int) := by
  rw [wrap_id (by omega) (by omega)]; omega
theorem rd_nat (l : List Int) (j : Nat) : rd l (j : Int) = l.getD j 0 := by unfold rd; simp
theorem ifp {α : Type} {c : Prop} [Decidable c] {a b : α} (h : c) : (if c then a else b) = a := if_pos h
theorem ifn {α : Type} {c : Prop} [Decidable c] {a b : α} (h : ¬ c) : (if c then a else b) = b := if_neg h
theorem suc_of {k d : Nat} (h : d < k) : ∃ m, k = m + 1 := ⟨k - 1, by omega⟩
theorem getD_lt {α : Type} {l : List α} {j : Nat} {d : α} (h : j < l.length) : l.getD j d = l[j] := by
  rw [List.getD_eq_getElem?_getD, List.getElem?_eq_getElem h]; rfl
theorem drop_cons {α : Type} (l : List α) {j : Nat} (h : j < l.length) (d : α) : l.drop j = l.getD j d :: l.drop (j + 1) := by
  rw [getD_lt h]; exact List.drop_eq_getElem_cons h
theorem up {α : Type} {g : Nat → Option α} (hm : ∀ k, LeO (g k) (g (k + 1))) {k0 : Nat} {r : α} (h : g k0 = some r) : ∀ k, k0 ≤ k → g k = some r := by
  intro k hk
  induction hk with
  | refl => exact h
  | step _ ih => exact hm _ _ ih

theorem rdll_nat (l : List (List Int)) (j : Nat) : rd_L1 l (j : Int) = l.getD j [] := by unfold rd_L1; simp
theorem szII_l0 (l : List (List Int)) (hl : l.length ≤ 1048576) (hi : ∀ x ∈ l, x.length ≤ 9223372036854775807) : ∀ (d j k : Nat) (n : Int), j + d = l.length → d < k → 0 ≤ n → n ≤ 1048576 → ∃ r, laws_szInt64SS.l0 k l n (j : Int) = some r ∧ r ≤ n ∧ (0 ≤ r → ∀ i, j ≤ i → i < l.length → (l.getD i []).length ≤ 1048576) := by
  intro d
  induction d with
  | zero =>
    intro j k n hj hk h0 h1
    obtain ⟨k, rfl⟩ := suc_of hk
    simp only [laws_szInt64SS.l0]
    rw [if_neg (by omega)]
    exact ⟨n, rfl, by omega, fun _ i hi1 hi2 => by omega⟩
  | succ d ih =>
    intro j k n hj hk h0 h1
    obtain ⟨k, rfl⟩ := suc_of hk
    simp only [laws_szInt64SS.l0]
    rw [if_pos (by omega), if_pos (by omega), rdll_nat]
    have hx := hi (l.getD j []) (by rw [getD_lt (by omega)]; exact List.getElem_mem _)
    unfold laws_szInt64S.f
    rw [wrap_id (x := n - ((l.getD j []).length : Int)) (by omega) (by omega)]
    by_cases c : n - ((l.getD j []).length : Int) < 0
    · rw [if_pos c]
      simp only [Option.bind_some]
      rw [if_pos (by omega)]
      exact ⟨-1, rfl, by omega, fun h => by omega⟩
    · rw [if_neg c]
      simp only [Option.bind_some]
      rw [if_neg c, next_nat (n := l.length) (by omega) (by omega)]
      obtain ⟨r, h2, h3, h4⟩ := ih (j + 1) k (n - ((l.getD j []).length : Int)) (by omega) (by omega) (by omega) (by omega)
      refine ⟨r, h2, by omega, fun hr i hi1 hi2 => ?_⟩
      by_cases e : i = j
      · subst e; omega
      · exact h4 hr i (by omega) hi2
theorem szII (l : List (List Int)) (hl : l.length ≤ 9223372036854775807) (hi : ∀ x ∈ l, x.length ≤ 9223372036854775807) (k : Nat) (hk : 1048576 < k) : ∃ r, laws_szInt64SS.f k l 1048576 = some r ∧ (0 ≤ r → l.length ≤ 1048576 ∧ ∀ x ∈ l, x.length ≤ 1048576) := by
  unfold laws_szInt64SS.f
  rw [wrap_id (x := 1048576 - (l.length : Int)) (by omega) (by omega)]
  by_cases c : (1048576 : Int) - (l.length : Int) < 0
  · rw [if_pos c]; exact ⟨-1, rfl, fun h => by omega⟩
  · rw [if_neg c]
    obtain ⟨r, h2, _, h4⟩ := szII_l0 l (by omega) hi l.length 0 k (1048576 - (l.length : Int)) (by omega) (by omega) (by omega) (by omega)
    refine ⟨r, h2, fun hr => ⟨by omega, fun x hx => ?_⟩⟩
    obtain ⟨i, hi1, rfl⟩ := List.mem_iff_getElem.1 hx
    have := h4 hr i (by omega) hi1
    rwa [getD_lt hi1] at this

theorem toI_l0 (l : List Int) (hl : l.length ≤ 35184372088832) : ∀ (d j k : Nat) (m : List Int), j + d = l.length → d < k → m.length = l.length → (∀ i, i < j → m[i]? = l[i]?) → laws_toInt64S.l0 k l m (j : Int) = some l := by
  intro d
  induction d with
  | zero =>
    intro j k m hj hk hm hp
    obtain ⟨k, rfl⟩ := suc_of hk
    simp only [laws_toInt64S.l0]
    rw [if_neg (by omega)]
    congr 1
    apply List.ext_getElem?
    intro i
    by_cases hi : i < j
    · exact hp i hi
    · rw [List.getElem?_eq_none (by omega), List.getElem?_eq_none (by omega)]
  | succ d ih =>
    intro j k m hj hk hm hp
    obtain ⟨k, rfl⟩ := suc_of hk
    simp only [laws_toInt64S.l0]
    rw [if_pos (by omega), if_pos (by omega), if_pos (by omega), next_nat (n := l.length) (by omega) (by omega)]
    refine ih (j + 1) k _ (by omega) (by omega) (by simpa using hm) (fun i hi => ?_)
    rw [Int.toNat_natCast, rd_nat, List.getElem?_set]
    by_cases e : j = i
    · subst e
      rw [if_pos rfl, if_pos (by omega), getD_lt (by omega), List.getElem?_eq_getElem (by omega)]
    · rw [if_neg e]; exact hp i (by omega)
theorem toI (l : List Int) (hl : l.length ≤ 35184372088832) (k : Nat) (hk : l.length < k) : laws_toInt64S.f k l = some l := by
  unfold laws_toInt64S.f
  rw [if_pos (by omega), if_pos (by omega)]
  exact toI_l0 l hl l.length 0 k _ (by omega) hk (by simp) (fun i hi => absurd hi (by omega))

theorem eqI_l0 (l : List Int) (hl : l.length ≤ 35184372088832) : ∀ (d j k : Nat), j + d = l.length → d < k → laws_eqInt64S.l0 k l l (j : Int) = some true := by
  intro d
  induction d with
  | zero =>
    intro j k hj hk
    obtain ⟨k, rfl⟩ := suc_of hk
    simp only [laws_eqInt64S.l0]
    rw [if_neg (by omega)]
  | succ d ih =>
    intro j k hj hk
    obtain ⟨k, rfl⟩ := suc_of hk
    simp only [laws_eqInt64S.l0]
    rw [if_pos (by omega), if_pos (by omega), if_pos (by omega), if_pos trivial, next_nat (n := l.length) (by omega) (by omega)]
    exact ih (j + 1) k (by omega) (by omega)
theorem eqI (l : List Int) (hl : l.length ≤ 35184372088832) (k : Nat) (hk : l.length < k) : laws_eqInt64S.f k l l = some true := by
  unfold laws_eqInt64S.f
  rw [if_pos rfl]
  exact eqI_l0 l hl l.length 0 k (by omega) hk

theorem toII_l0 (l : List (List Int)) (hl : l.length ≤ 1048576) (hi : ∀ x ∈ l, x.length ≤ 1048576) : ∀ (d j k : Nat) (m : List (List Int)), j + d = l.length → d + 1048577 < k → m.length = l.length → (∀ i, i < j → m[i]? = l[i]?) → laws_toInt64SS.l0 k l m (j : Int) = some l := by
  intro d
  induction d with
  | zero =>
    intro j k m hj hk hm hp
    obtain ⟨k, rfl⟩ := suc_of hk
    simp only [laws_toInt64SS.l0]
    rw [if_neg (by omega)]
    congr 1
    apply List.ext_getElem?
    intro i
    by_cases hi : i < j
    · exact hp i hi
    · rw [List.getElem?_eq_none (by omega), List.getElem?_eq_none (by omega)]
  | succ d ih =>
    intro j k m hj hk hm hp
    obtain ⟨k, rfl⟩ := suc_of hk
    have hx := hi (l.getD j []) (by rw [getD_lt (by omega)]; exact List.getElem_mem _)
    simp only [laws_toInt64SS.l0]
    rw [if_pos (by omega), if_pos (by omega), rdll_nat, toI _ (by omega) k (by omega)]
    simp only [Option.bind_some]
    rw [if_pos (by omega), next_nat (n := l.length) (by omega) (by omega)]
    refine ih (j + 1) k _ (by omega) (by omega) (by simpa using hm) (fun i hi => ?_)
    rw [Int.toNat_natCast, List.getElem?_set]
    by_cases e : j = i
    · subst e
      rw [if_pos rfl, if_pos (by omega), getD_lt (by omega), List.getElem?_eq_getElem (by omega)]
    · rw [if_neg e]; exact hp i (by omega)
theorem toII (l : List (List Int)) (hl : l.length ≤ 1048576) (hi : ∀ x ∈ l, x.length ≤ 1048576) (k : Nat) (hk : 2097154 < k) : laws_toInt64SS.f k l = some l := by
  unfold laws_toInt64SS.f
  rw [if_pos (by omega), if_pos (by omega)]
  exact toII_l0 l hl hi l.length 0 k _ (by omega) (by omega) (by simp) (fun i hi => absurd hi (by omega))
theorem eqII_l0 (l : List (List Int)) (hl : l.length ≤ 1048576) (hi : ∀ x ∈ l, x.length ≤ 1048576) : ∀ (d j k : Nat), j + d = l.length → d + 1048577 < k → laws_eqInt64SS.l0 k l l (j : Int) = some true := by
  intro d
  induction d with
  | zero =>
    intro j k hj hk
    obtain ⟨k, rfl⟩ := suc_of hk
    simp only [laws_eqInt64SS.l0]
    rw [if_neg (by omega)]
  | succ d ih =>
    intro j k hj hk
    obtain ⟨k, rfl⟩ := suc_of hk
    have hx := hi (l.getD j []) (by rw [getD_lt (by omega)]; exact List.getElem_mem _)
    simp only [laws_eqInt64SS.l0]
    rw [if_pos (by omega), if_pos (by omega), if_pos (by omega), rdll_nat, eqI _ (by omega) k (by omega)]
    simp only [Option.bind_some, if_true]
    rw [next_nat (n := l.length) (by omega) (by omega)]
    exact ih (j + 1) k (by omega) (by omega)
theorem eqII (l : List (List Int)) (hl : l.length ≤ 1048576) (hi : ∀ x ∈ l, x.length ≤ 1048576) (k : Nat) (hk : 2097154 < k) : laws_eqInt64SS.f k l l = some true := by
  unfold laws_eqInt64SS.f
  rw [if_pos rfl]
  exact eqII_l0 l hl hi l.length 0 k (by omega) (by omega)

theorem spec_in (n lo hi : Int) : spec_l00In.f n lo hi = some (decide (lo ≤ n ∧ n ≤ hi)) := by unfold spec_l00In.f; split <;> simp <;> omega
theorem impl_in (n lo hi : Int) : impl_within.f n lo hi = some (decide (lo ≤ n ∧ n ≤ hi)) := by unfold impl_within.f; split <;> simp <;> omega

theorem places_same (l : List (List Int)) : ∀ (k : Nat) (i : Int), impl_metresOk.l0 k l l (l.length : Int) i = spec_l17Places.l0 k l i := by
  intro k
  induction k with
  | zero => intro i; simp only [impl_metresOk.l0, spec_l17Places.l0]
  | succ k ih =>
    intro i
    simp only [impl_metresOk.l0, spec_l17Places.l0, spec_in, impl_in, ih]
    by_cases h : i < (l.length : Int)
    · simp only [h, if_true]
    · simp only [h, if_false]
def okP (x : List Int) : Prop := x.length = 2 ∧ 0 ≤ x.getD 0 0 ∧ x.getD 0 0 ≤ 10000 ∧ x.getD 0 0 ≤ x.getD 1 0 ∧ x.getD 1 0 ≤ 10000
theorem places_l0 (l : List (List Int)) (hl : l.length ≤ 1048576) : ∀ (d j k : Nat), j + d = l.length → d < k → ∃ r, spec_l17Places.l0 k l (j : Int) = some r ∧ (r = true → l.length ≤ 16 ∧ ∀ i, j ≤ i → i < l.length → okP (l.getD i [])) := by
  intro d
  induction d with
  | zero =>
    intro j k hj hk
    obtain ⟨k, rfl⟩ := suc_of hk
    simp only [spec_l17Places.l0]
    rw [if_neg (by omega)]
    exact ⟨_, rfl, fun h => ⟨by have := of_decide_eq_true h; omega, fun i h1 h2 => by omega⟩⟩
  | succ d ih =>
    intro j k hj hk
    obtain ⟨k, rfl⟩ := suc_of hk
    obtain ⟨r, hr, hok⟩ := ih (j + 1) k (by omega) (by omega)
    simp only [spec_l17Places.l0, spec_in]
    rw [if_pos (by omega), if_pos (by omega), rdll_nat, next_nat (n := l.length) (by omega) (by omega), hr]
    by_cases c1 : ((l.getD j []).length : Int) = 2
    · rw [if_pos c1, if_pos (by omega)]
      simp only [Option.bind_some]
      by_cases c2 : 0 ≤ rd (l.getD j []) 0 ∧ rd (l.getD j []) 0 ≤ 10000
      · rw [decide_eq_true c2, if_pos rfl, if_pos (by omega)]
        by_cases c3 : rd (l.getD j []) 0 ≤ rd (l.getD j []) 1 ∧ rd (l.getD j []) 1 ≤ 10000
        · rw [decide_eq_true c3, if_pos rfl]
          refine ⟨r, rfl, fun h => ⟨(hok h).1, fun i h1 h2 => ?_⟩⟩
          by_cases e : i = j
          · subst e
            exact ⟨by omega, c2.1, c2.2, c3.1, c3.2⟩
          · exact (hok h).2 i (by omega) h2
        · rw [decide_eq_false c3, if_neg Bool.false_ne_true]; exact ⟨_, rfl, by simp⟩
      · rw [decide_eq_false c2, if_neg Bool.false_ne_true]; exact ⟨_, rfl, by simp⟩
    · rw [if_neg c1]; exact ⟨_, rfl, by simp⟩
theorem places_both (l : List (List Int)) (hl : l.length ≤ 1048576) : ∃ r : Bool, (∀ k, 1048576 < k → spec_l17Places.f k l = some r) ∧ (∀ k, 1048576 < k → impl_metresOk.f k l = some r) ∧ (r = true → l.length ≤ 16 ∧ ∀ i, i < l.length → okP (l.getD i [])) := by
  obtain ⟨r, h1, h2⟩ := places_l0 l hl l.length 0 1048577 (by omega) (by omega)
  have h1' : spec_l17Places.f 1048577 l = some r := h1
  have h3 : impl_metresOk.f 1048577 l = some r := by
    unfold impl_metresOk.f
    rw [places_same]; exact h1
  exact ⟨r, up (spec_l17Places.mono l) h1', up (impl_metresOk.mono l) h3, fun h => ⟨(h2 h).1, fun i hi => (h2 h).2 i (by omega) hi⟩⟩

theorem dig_same (l : List (List Int)) (hl : l.length ≤ 16) (hok : ∀ i, i < l.length → okP (l.getD i [])) : ∀ k : Nat,
    (∀ (x y : Int) (q : Nat), q ≤ l.length → 0 ≤ y → (q = l.length → 1 ≤ y) → spec_DigPlace.l0 k l x y (q : Int) = impl_DigPlace.l0 k l x y l (l.length : Int) (q : Int)) ∧
    (∀ (x y c : Int) (q j : Nat), q < l.length → j ≤ l.length → 0 ≤ y → 0 ≤ c → c ≤ j → (j ≤ q ∨ 1 ≤ c) → spec_DigPlace.l1 k l x y (q : Int) c (j : Int) = impl_DigPlace.l1 k l x y (l.getD q []) c l (l.length : Int) (q : Int) l (l.length : Int) (j : Int)) := by
  intro k
  induction k with
  | zero => exact ⟨fun x y q _ _ _ => by simp only [spec_DigPlace.l0, impl_DigPlace.l0], fun x y c q j _ _ _ _ _ _ => by simp only [spec_DigPlace.l1, impl_DigPlace.l1]⟩
  | succ k ih =>
    obtain ⟨ihA, ihB⟩ := ih
    refine ⟨fun x y q hq hy hy1 => ?_, fun x y c q j hq hj hy hc hcj hjq => ?_⟩
    · simp only [spec_DigPlace.l0, impl_DigPlace.l0]
      by_cases h : (q : Int) < (l.length : Int)
      · have h0 : 0 ≤ (q : Int) := by omega
        simp only [h, h0, if_true, rdll_nat]
        exact ihB x y 0 q 0 (by omega) (by omega) hy (by omega) (by omega) (.inl (by omega))
      · rw [if_neg h, if_neg h, if_neg (by have := hy1 (by omega); omega)]
    · have hq2 := (hok q hq).1
      simp only [spec_DigPlace.l1, impl_DigPlace.l1]
      by_cases h : (j : Int) < (l.length : Int)
      · have hj2 := hok j (by omega)
        have a1 : 0 ≤ (q : Int) := by omega
        have a2 : (q : Int) < (l.length : Int) := by omega
        have a3 : 0 < ((l.getD q []).length : Int) := by omega
        have a4 : 0 ≤ (j : Int) := by omega
        have a5 : 0 < ((l.getD j []).length : Int) := by have := hj2.1; omega
        have a6 : 1 < ((l.getD j []).length : Int) := by have := hj2.1; omega
        simp only [h, a1, a2, a3, a4, a5, a6, if_true, rdll_nat, spec_in, impl_in, Option.bind_some]
        rw [next_nat (j := j) (n := l.length) (by omega) (by omega), wrap_id (x := c + 1) (by omega) (by omega)]
        by_cases hin : rd (l.getD j []) 0 ≤ rd (l.getD q []) 0 ∧ rd (l.getD q []) 0 ≤ rd (l.getD j []) 1
        · rw [decide_eq_true hin, if_pos rfl, if_pos rfl]
          exact ihB x y (c + 1) q (j + 1) hq (by omega) hy (by omega) (by omega) (.inr (by omega))
        · rw [decide_eq_false hin, if_neg Bool.false_ne_true, if_neg Bool.false_ne_true]
          refine ihB x y c q (j + 1) hq (by omega) hy hc (by omega) ?_
          rcases hjq with hjq | hjq
          · by_cases e : j = q
            · subst e
              exfalso
              apply hin
              have := hj2
              unfold okP at this
              exact ⟨Int.le_refl _, this.2.2.2.1⟩
            · exact .inl (by omega)
          · exact .inr hjq
      · have hc1 : 1 ≤ c := by rcases hjq with z | z <;> omega
        have nx : wrap64 ((q : Int) + 1) = ((q + 1 : Nat) : Int) := next_nat (n := l.length) (by omega) (by omega)
        have a1 : 0 ≤ (q : Int) := by omega
        have a2 : (q : Int) < (l.length : Int) := by omega
        have a3 : 0 < ((l.getD q []).length : Int) := by omega
        rw [if_neg h, if_neg h]
        simp only [rdll_nat, a1, a2, a3, if_true, nx]
        by_cases g1 : c > y
        · rw [if_pos g1, if_pos g1]
          exact ihA _ c (q + 1) (by omega) (by omega) (fun _ => hc1)
        · rw [if_neg g1, if_neg g1]
          by_cases g2 : c = y
          · rw [if_pos g2, if_pos g2]
            by_cases g3 : rd (l.getD q []) 0 < x
            · rw [if_pos g3, if_pos g3]
              exact ihA _ c (q + 1) (by omega) (by omega) (fun _ => hc1)
            · rw [if_neg g3, if_neg g3]
              exact ihA _ y (q + 1) (by omega) (by omega) (fun _ => by omega)
          · rw [if_neg g2, if_neg g2]
            exact ihA _ y (q + 1) (by omega) (by omega) (fun _ => by omega)
theorem dig_total (l : List (List Int)) (hl : l.length ≤ 16) (hok : ∀ i, i < l.length → okP (l.getD i [])) : ∀ k : Nat,
    (∀ (x y : Int) (q : Nat), q ≤ l.length → (l.length - q) * 20 < k → ∃ r, impl_DigPlace.l0 k l x y l (l.length : Int) (q : Int) = some r) ∧
    (∀ (x y c : Int) (q j : Nat), q < l.length → j ≤ l.length → 0 ≤ c → c ≤ j → (l.length - 1 - q) * 20 + (l.length - j) + 1 < k → ∃ r, impl_DigPlace.l1 k l x y (l.getD q []) c l (l.length : Int) (q : Int) l (l.length : Int) (j : Int) = some r) := by
  intro k
  induction k with
  | zero => exact ⟨fun x y q _ h => by omega, fun x y c q j _ _ _ _ h => by omega⟩
  | succ k ih =>
    obtain ⟨ihA, ihB⟩ := ih
    refine ⟨fun x y q hq hk => ?_, fun x y c q j hq hj hc hcj hk => ?_⟩
    · simp only [impl_DigPlace.l0]
      by_cases h : (q : Int) < (l.length : Int)
      · have h0 : 0 ≤ (q : Int) := by omega
        simp only [h, h0, if_true, rdll_nat]
        exact ihB x y 0 q 0 (by omega) (by omega) (by omega) (by omega) (by omega)
      · rw [if_neg h]; exact ⟨_, rfl⟩
    · have hq2 := (hok q hq).1
      have nx : wrap64 ((q : Int) + 1) = ((q + 1 : Nat) : Int) := next_nat (n := l.length) (by omega) (by omega)
      simp only [impl_DigPlace.l1]
      by_cases h : (j : Int) < (l.length : Int)
      · have hj2 := (hok j (by omega)).1
        have a3 : 0 < ((l.getD q []).length : Int) := by omega
        have a4 : 0 ≤ (j : Int) := by omega
        have a5 : 0 < ((l.getD j []).length : Int) := by omega
        have a6 : 1 < ((l.getD j []).length : Int) := by omega
        simp only [h, a3, a4, a5, a6, if_true, rdll_nat, impl_in, Option.bind_some]
        rw [next_nat (j := j) (n := l.length) (by omega) (by omega), wrap_id (x := c + 1) (by omega) (by omega)]
        split
        · exact ihB x y (c + 1) q (j + 1) hq (by omega) (by omega) (by omega) (by omega)
        · exact ihB x y c q (j + 1) hq (by omega) hc (by omega) (by omega)
      · have a3 : 0 < ((l.getD q []).length : Int) := by omega
        simp only [h, a3, if_true, if_false, nx]
        obtain ⟨r1, e1⟩ := ihA (rd (l.getD q []) 0) c (q + 1) (by omega) (by omega)
        obtain ⟨r2, e2⟩ := ihA x y (q + 1) (by omega) (by omega)
        rw [e1, e2]
        split
        · exact ⟨_, rfl⟩
        · split
          · split <;> exact ⟨_, rfl⟩
          · exact ⟨_, rfl⟩
theorem FnExactDigPlace : laws_FnExactDigPlace.Pure := by
  intro l hw
  obtain ⟨k, hk⟩ : ∃ k, k = 3000000 := ⟨_, rfl⟩
  refine ⟨k + 1, ?_⟩
  unfold laws_FnExactDigPlace.f
  obtain ⟨r, h1, h2⟩ := szII l hw.1 (fun x hx => (hw.2 x hx).1) (k + 1) (by omega)
  rw [h1]
  simp only [Option.bind_some]
  by_cases c : r < 0
  · rw [if_pos c]
  · rw [if_neg c]
    obtain ⟨hl, hi⟩ := h2 (by omega)
    obtain ⟨v, p1, p2, p3⟩ := places_both l hl
    have key : ∃ r, spec_DigPlace.f (k + 1) l = some r ∧ impl_DigPlace.f (k + 1) l = some r := by
      unfold spec_DigPlace.f impl_DigPlace.f
      rw [p1 _ (by omega), p2 _ (by omega)]
      simp only [Option.bind_some]
      cases v
      · exact ⟨_, rfl, rfl⟩
      · obtain ⟨q1, q2⟩ := p3 rfl
        rw [if_pos rfl, if_pos rfl]
        by_cases z : (l.length : Int) = 0
        · rw [if_pos z]
          simp only [spec_DigPlace.l0]
          rw [if_neg (by omega), if_pos trivial]
          exact ⟨_, rfl, rfl⟩
        · rw [if_neg z]
          obtain ⟨r, hr⟩ := (dig_total l q1 q2 (k + 1)).1 0 0 0 (by omega) (by omega)
          have hs := (dig_same l q1 q2 (k + 1)).1 0 0 0 (by omega) (by omega) (fun h => by omega)
          have hr' : impl_DigPlace.l0 (k + 1) l 0 0 l (l.length : Int) 0 = some r := hr
          have hs' : spec_DigPlace.l0 (k + 1) l 0 0 0 = impl_DigPlace.l0 (k + 1) l 0 0 l (l.length : Int) 0 := hs
          rw [hs']
          exact ⟨r, hr', hr'⟩
    obtain ⟨r, s, i⟩ := key
    simp only [toII l hl hi (k + 1) (by omega), s, i, Option.bind_some, if_true]
    have e : (r.2.2 != r.2.2) = false := by simp
    rw [e]
    simp only [laws_FnExactDigPlace.j0]
    rw [if_neg Bool.false_ne_true]
    simp only [toII l hl hi k (by omega), eqII l hl hi k (by omega), Option.bind_some, if_true]

end Go.Proofs.Ytkacnmgcgakioaa.Pure
