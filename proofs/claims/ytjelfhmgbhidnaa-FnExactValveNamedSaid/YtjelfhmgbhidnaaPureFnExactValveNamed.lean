/- ValveNamed of the program returns what the reference's returns, for every network, every list of valves and every name. No condition. -/
import Derived.Test.YtjelfhmgbhidnaaPFnExactValveNamedx14
namespace Go.Proofs.Ytjelfhmgbhidnaa.Pure
open Go.RowKit Go.Proofs.Ytjelfhmgbhidnaa.PFnExactValveNamed Go.Proofs.YtjelfhmgbhidnaaW.PrintWords Go.Proofs.YtjelfhmgbhidnaaW.PrintLast Go.Proofs.YtjelfhmgbhidnaaW.PrintMore
set_option linter.unusedVariables false
set_option linter.unusedSimpArgs false

theorem wrap_id {x : Int} (h1 : -9223372036854775808 ≤ x) (h2 : x ≤ 9223372036854775807) : wrap64 x = x := by unfold wrap64; omega
theorem wf_i64 {x : Int} (h : (Lit.int .i64 x).wf = true) : -9223372036854775808 ≤ x ∧ x ≤ 9223372036854775807 := by
  simp [Lit.wf, IntKind.min, IntKind.max, IntKind.bits, IntKind.signed] at h; omega
theorem mul_bounds {a b A B : Int} (h0 : 0 ≤ a) (hA : a ≤ A) (h1 : -B ≤ b) (h2 : b ≤ B) (hB : 0 ≤ B) : -(A * B) ≤ a * b ∧ a * b ≤ A * B := by
  have e1 := Int.mul_le_mul_of_nonneg_left h2 h0
  have e2 := Int.mul_le_mul_of_nonneg_right hA hB
  have e3 := Int.mul_le_mul_of_nonneg_left h1 h0
  have e4 : a * -B = -(a * B) := Int.mul_neg a B
  omega
theorem mul_nonneg' {a b : Int} (h0 : 0 ≤ a) (h1 : 0 ≤ b) : 0 ≤ a * b := Int.mul_nonneg h0 h1
theorem next_nat {j n : Nat} (h : j < n) (hn : n ≤ 4611686018427387904) : wrap64 ((j : Int) + 1) = ((j + 1 : Nat) : Int) := by
  rw [wrap_id (by omega) (by omega)]; omega
theorem rd_nat (l : List Int) (j : Nat) : rd l (j : Int) = l.getD j 0 := by unfold rd; simp
theorem ifp {α : Type} {c : Prop} [Decidable c] {a b : α} (h : c) : (if c then a else b) = a := if_pos h
theorem ifn {α : Type} {c : Prop} [Decidable c] {a b : α} (h : ¬ c) : (if c then a else b) = b := if_neg h
theorem suc_of {k d : Nat} (h : d < k) : ∃ m, k = m + 1 := ⟨k - 1, by omega⟩
theorem getD_lt {α : Type} {l : List α} {j : Nat} {d : α} (h : j < l.length) : l.getD j d = l[j] := by
  rw [List.getD_eq_getElem?_getD, List.getElem?_eq_getElem h]; rfl
theorem drop_cons {α : Type} (l : List α) {j : Nat} (h : j < l.length) (d : α) : l.drop j = l.getD j d :: l.drop (j + 1) := by
  rw [getD_lt h]; exact List.drop_eq_getElem_cons h
theorem up {α : Type} {g : Nat → Option α} (hm : ∀ k, LeO (g k) (g (k + 1))) {k0 : Nat} {r : α} (h : g k0 = some r) : ∀ k, k0 ≤ k → g k = some r := by
  intro k hk
  induction hk with
  | refl => exact h
  | step _ ih => exact hm _ _ ih

theorem name_same (s : ByteArray) : ∀ (k : Nat) (i : Int), spec_l01Name.l0 k s i = impl_onlyNameBytes.l0 k s (s.size : Int) i := by
  intro k
  induction k with
  | zero => intro i; simp only [spec_l01Name.l0, impl_onlyNameBytes.l0]
  | succ k ih =>
    intro i
    simp only [spec_l01Name.l0, impl_onlyNameBytes.l0]
    unfold spec_l01Small.f spec_l01Digit.f
    rw [ih]
    generalize impl_onlyNameBytes.l0 k s (s.size : Int) (wrap64 (i + 1)) = e
    generalize bt s i = b
    by_cases h1 : i < (s.size : Int)
    · rw [if_pos h1, if_pos h1, if_pos h1]
      by_cases h2 : 0 ≤ i
      · rw [if_pos h2, if_pos h2]
        by_cases c1 : b < 97
        · rw [if_pos c1, if_neg (by omega)]
          by_cases c2 : b < 48
          · rw [if_pos c2, if_neg (by omega)]; simp
          · rw [if_neg c2, if_pos (by omega)]
            by_cases c3 : b > 57
            · rw [if_pos c3, decide_eq_false (by omega)]; simp
            · rw [if_neg c3, decide_eq_true (by omega)]; simp
        · rw [if_neg c1, if_pos (by omega)]
          by_cases c4 : b > 122
          · rw [if_pos c4, decide_eq_false (by omega), if_pos (by omega), if_neg (by omega), decide_eq_false (by omega), if_pos (by omega)]; simp
          · rw [if_neg c4, decide_eq_true (by omega)]; simp
      · rw [if_neg h2, if_neg h2]
    · rw [if_neg h1, if_neg h1]
theorem name_total (s : ByteArray) (hs : s.size ≤ 35184372088832) : ∀ (d j k : Nat), j + d = s.size → d < k → ∃ r, impl_onlyNameBytes.l0 k s (s.size : Int) (j : Int) = some r := by
  intro d
  induction d with
  | zero =>
    intro j k hj hk
    obtain ⟨k, rfl⟩ := suc_of hk
    simp only [impl_onlyNameBytes.l0]
    rw [if_neg (by omega)]; exact ⟨_, rfl⟩
  | succ d ih =>
    intro j k hj hk
    obtain ⟨k, rfl⟩ := suc_of hk
    obtain ⟨r, hr⟩ := ih (j + 1) k (by omega) (by omega)
    simp only [impl_onlyNameBytes.l0]
    rw [if_pos (by omega), if_pos (by omega), if_pos (by omega), next_nat (n := s.size) (by omega) (by omega), hr]
    split
    · split
      · exact ⟨_, rfl⟩
      · split
        · exact ⟨_, rfl⟩
        · exact ⟨_, rfl⟩
    · split
      · split
        · exact ⟨_, rfl⟩
        · split
          · exact ⟨_, rfl⟩
          · exact ⟨_, rfl⟩
      · exact ⟨_, rfl⟩
/-- A name is one for both. -/
theorem name_both (s : ByteArray) (hs : s.size ≤ 35184372088832) : ∃ b : Bool, (∀ k, s.size + 3 ≤ k → spec_l01Name.f k s = some b) ∧ (∀ k, s.size + 3 ≤ k → impl_IsName.f k s = some b) ∧ (b = true → 1 ≤ s.size ∧ s.size ≤ 10) := by
  obtain ⟨r, hr⟩ := name_total s hs s.size 0 (s.size + 2) (by omega) (by omega)
  have hr3 : impl_onlyNameBytes.l0 (s.size + 3) s (s.size : Int) 0 = some r := impl_onlyNameBytes.mono_l (s.size + 2) s (s.size : Int) 0 r hr
  have hr2 : impl_onlyNameBytes.l0 (s.size + 2) s (s.size : Int) 0 = some r := hr
  have key : ∃ b : Bool, spec_l01Name.f (s.size + 3) s = some b ∧ impl_IsName.f (s.size + 3) s = some b ∧ (b = true → 1 ≤ s.size ∧ s.size ≤ 10) := by
    have bad : spec_l01Name.j0 (s.size + 3) s true = some false := by simp only [spec_l01Name.j0]; simp
    unfold spec_l01Name.f impl_IsName.f impl_onlyNameBytes.f
    by_cases h0 : s.size = 0
    · have e : s.toList = [] := by
        rw [ByteArray.toList_eq]; exact List.eq_nil_of_length_eq_zero (by rw [Array.length_toList]; exact h0)
      rw [if_pos e, if_pos (by omega), bad]; exact ⟨_, rfl, rfl, by simp⟩
    · have e : ¬ s.toList = [] := by
        rw [ByteArray.toList_eq]
        intro h
        have : s.data.toList.length = 0 := by rw [h]; rfl
        rw [Array.length_toList] at this
        exact h0 this
      rw [if_neg e, if_neg (show ¬ (s.size : Int) < 1 by omega)]
      by_cases h1 : (s.size : Int) > 10
      · rw [if_pos h1, if_pos h1, bad]; exact ⟨_, rfl, rfl, by simp⟩
      · rw [if_neg h1, if_neg h1, if_pos (by omega), if_pos (by omega)]
        unfold spec_l01Small.f
        by_cases c1 : bt s 0 < 97
        · rw [if_pos c1, if_neg (by omega)]
          simp only [Option.bind_some, Bool.not_false]
          exact ⟨_, bad, rfl, by simp⟩
        · rw [if_neg c1, if_pos (by omega)]
          by_cases c2 : bt s 0 > 122
          · rw [if_pos c2, decide_eq_false (by omega)]
            simp only [Option.bind_some, Bool.not_false]
            exact ⟨_, bad, rfl, by simp⟩
          · rw [if_neg c2, decide_eq_true (by omega), hr3]
            simp only [Option.bind_some, Bool.not_true]
            refine ⟨r, ?_, rfl, fun _ => by omega⟩
            simp only [spec_l01Name.j0]
            rw [if_neg Bool.false_ne_true, name_same]
            exact hr2
  obtain ⟨b, h1, h2, h3⟩ := key
  exact ⟨b, up (spec_l01Name.mono s) h1, up (impl_IsName.mono s) h2, h3⟩

theorem impl_in (n lo hi : Int) : impl_within.f n lo hi = some (decide (lo ≤ n ∧ n ≤ hi)) := by unfold impl_within.f; split <;> simp <;> omega

theorem spec_in (n lo hi : Int) : spec_l00In.f n lo hi = some (decide (lo ≤ n ∧ n ≤ hi)) := by unfold spec_l00In.f; split <;> simp <;> omega

/-- A pipe is valid for both. -/
theorem pipe_both (s : ByteArray) (a b l w c : Int) (hs : s.size ≤ 35184372088832) : ∃ v : Bool, (∀ k, s.size + 4 ≤ k → spec_l03Ok.f k [(⟨s, a, b, l, w, c⟩ : S80)] = some v) ∧ (∀ k, s.size + 4 ≤ k → impl_ValidPipe.f k s a b l w c = some v) ∧
    (v = true → 1 ≤ s.size ∧ s.size ≤ 10 ∧ 0 ≤ a ∧ a ≤ 15 ∧ 0 ≤ b ∧ b ≤ 15 ∧ a ≠ b ∧ 1 ≤ l ∧ l ≤ 10000 ∧ 20 ≤ w ∧ w ≤ 1000 ∧ 0 ≤ c ∧ c ≤ 5000) := by
  obtain ⟨nb, n1, n2, n3⟩ := name_both s hs
  have key : ∃ v : Bool, (∀ k, s.size + 4 ≤ k → spec_l03Ok.f k [(⟨s, a, b, l, w, c⟩ : S80)] = some v ∧ impl_ValidPipe.f k s a b l w c = some v) ∧
    (v = true → 1 ≤ s.size ∧ s.size ≤ 10 ∧ 0 ≤ a ∧ a ≤ 15 ∧ 0 ≤ b ∧ b ≤ 15 ∧ a ≠ b ∧ 1 ≤ l ∧ l ≤ 10000 ∧ 20 ≤ w ∧ w ≤ 1000 ∧ 0 ≤ c ∧ c ≤ 5000) := by
    refine ⟨nb && decide (0 ≤ a ∧ a ≤ 15) && decide (0 ≤ b ∧ b ≤ 15) && !(a == b) && decide (1 ≤ l ∧ l ≤ 10000) && decide (20 ≤ w ∧ w ≤ 1000) && decide (0 ≤ c ∧ c ≤ 5000), fun k hk => ?_, fun h => ?_⟩
    · obtain ⟨k, rfl⟩ : ∃ k', k = k' + 1 := ⟨k - 1, by omega⟩
      have r0 : rd_T80 [(⟨s, a, b, l, w, c⟩ : S80)] 0 = ⟨s, a, b, l, w, c⟩ := rfl
      have l0 : 0 < (([(⟨s, a, b, l, w, c⟩ : S80)].length : Nat) : Int) := by simp
      have bad : spec_l03Ok.j0 (k + 1) [(⟨s, a, b, l, w, c⟩ : S80)] true = some false := by simp only [spec_l03Ok.j0]; simp
      have good : spec_l03Ok.j0 (k + 1) [(⟨s, a, b, l, w, c⟩ : S80)] false = some (decide (1 ≤ l ∧ l ≤ 10000) && decide (20 ≤ w ∧ w ≤ 1000) && decide (0 ≤ c ∧ c ≤ 5000)) := by
        simp only [spec_l03Ok.j0, r0]
        rw [if_neg Bool.false_ne_true, if_pos l0]
        simp only [spec_in, Option.bind_some]
        cases decide (1 ≤ l ∧ l ≤ 10000) <;> cases decide (20 ≤ w ∧ w ≤ 1000) <;> simp
      unfold spec_l03Ok.f impl_ValidPipe.f impl_nodeOk.f
      rw [r0, if_pos l0, n1 (k + 1) (by omega), n2 (k + 1) (by omega)]
      simp only [spec_in, impl_in, Option.bind_some]
      cases nb
      · simp [bad]
      · cases decide (0 ≤ a ∧ a ≤ 15)
        · simp [bad]
        · cases decide (0 ≤ b ∧ b ≤ 15)
          · simp [bad]
          · by_cases e : a = b
            · subst e; simp [bad]
            · have e' : (a == b) = false := by simpa using e
              rw [e', good]
              simp only [if_true, if_neg e, Bool.not_false, Bool.true_and]
              cases decide (1 ≤ l ∧ l ≤ 10000) <;> cases decide (20 ≤ w ∧ w ≤ 1000) <;> simp
    · simp only [Bool.and_eq_true, decide_eq_true_eq, Bool.not_eq_true', beq_eq_false_iff_ne] at h
      have := n3 h.1.1.1.1.1.1
      obtain ⟨⟨⟨⟨⟨⟨h1, h2⟩, h3⟩, h4⟩, h5⟩, h6⟩, h7⟩ := h
      exact ⟨this.1, this.2, h2.1, h2.2, h3.1, h3.2, h4, h5.1, h5.2, h6.1, h6.2, h7.1, h7.2⟩
  obtain ⟨v, h1, h2⟩ := key
  exact ⟨v, fun k hk => (h1 k hk).1, fun k hk => (h1 k hk).2, h2⟩

theorem sz_list {α : Type} (z : α) (L : Nat → List α → Int → Int → Option Int) (sz : Nat → α → Int → Option Int) (hL : ∀ k x n i, L (k + 1) x n i = if i < (x.length : Int) then (if 0 ≤ i then ((sz k (x.getD i.toNat z) n).bind fun t => if t < 0 then some (-1) else L k x t (wrap64 (i + 1))) else none) else some n)
    (Wf Sm : α → Prop) (K : Nat) (hsz : ∀ k x n, K < k → Wf x → 0 ≤ n → n ≤ 1048576 → ∃ r, sz k x n = some r ∧ r ≤ n ∧ (0 ≤ r → Sm x)) (l : List α) (hl : l.length ≤ 1048576) (hw : ∀ x ∈ l, Wf x) :
    ∀ (d j k : Nat) (n : Int), j + d = l.length → K + d < k → 0 ≤ n → n ≤ 1048576 → ∃ r, L k l n (j : Int) = some r ∧ r ≤ n ∧ -1 ≤ r ∧ (0 ≤ r → ∀ i (h : i < l.length), j ≤ i → Sm l[i]) := by
  intro d
  induction d with
  | zero =>
    intro j k n hj hk h0 h1
    obtain ⟨k, rfl⟩ := suc_of hk
    rw [hL, if_neg (by omega)]
    exact ⟨n, rfl, by omega, by omega, fun _ i h hi => by omega⟩
  | succ d ih =>
    intro j k n hj hk h0 h1
    obtain ⟨k, rfl⟩ := suc_of hk
    rw [hL, if_pos (by omega), if_pos (by omega), Int.toNat_natCast]
    obtain ⟨r, r1, r2, r4⟩ := hsz k (l.getD j z) n (by omega) (by rw [getD_lt (by omega)]; exact hw _ (List.getElem_mem _)) h0 h1
    rw [r1, Option.bind_some]
    by_cases c : r < 0
    · rw [if_pos c]; exact ⟨-1, rfl, by omega, by omega, fun h => by omega⟩
    · rw [if_neg c, next_nat (n := l.length) (by omega) (by omega)]
      obtain ⟨q, q1, q2, q3, q4⟩ := ih (j + 1) k r (by omega) (by omega) (by omega) (by omega)
      refine ⟨q, q1, by omega, by omega, fun hq i h hi => ?_⟩
      by_cases e : i = j
      · subst e
        have := r4 (by omega)
        rwa [getD_lt h] at this
      · exact q4 hq i h (by omega)
theorem to_list {α β : Type} (z : α) (L : Nat → List α → List β → Int → Option (List β)) (tov : Nat → α → Option β) (hL : ∀ k x m i, L (k + 1) x m i = if i < (x.length : Int) then (if 0 ≤ i then ((tov k (x.getD i.toNat z)).bind fun b => if i < (m.length : Int) then L k x (m.set i.toNat b) (wrap64 (i + 1)) else none) else none) else some m)
    (g : α → β) (K : Nat) (l : List α) (hl : l.length ≤ 1048576) (hto : ∀ k, K < k → ∀ x ∈ l, tov k x = some (g x)) :
    ∀ (d j k : Nat) (m : List β), j + d = l.length → K + d < k → m.length = l.length → (∀ i, i < j → m[i]? = (l.map g)[i]?) → L k l m (j : Int) = some (l.map g) := by
  intro d
  induction d with
  | zero =>
    intro j k m hj hk hm hp
    obtain ⟨k, rfl⟩ := suc_of hk
    rw [hL, if_neg (by omega)]
    congr 1
    apply List.ext_getElem?
    intro i
    by_cases hi : i < j
    · exact hp i hi
    · rw [List.getElem?_eq_none (by omega), List.getElem?_eq_none (by simp; omega)]
  | succ d ih =>
    intro j k m hj hk hm hp
    obtain ⟨k, rfl⟩ := suc_of hk
    rw [hL, if_pos (by omega), if_pos (by omega), Int.toNat_natCast, hto k (by omega) _ (by rw [getD_lt (by omega)]; exact List.getElem_mem _), Option.bind_some, if_pos (by omega), next_nat (n := l.length) (by omega) (by omega)]
    refine ih (j + 1) k _ (by omega) (by omega) (by simpa using hm) (fun i hi => ?_)
    rw [List.getElem?_set]
    by_cases e : j = i
    · subst e
      rw [if_pos rfl, if_pos (by omega), getD_lt (by omega), List.getElem?_map, List.getElem?_eq_getElem (by omega)]; rfl
    · rw [if_neg e]; exact hp i (by omega)
theorem eq_list {β : Type} (z : β) (L : Nat → List β → List β → Int → Option Bool) (eq : Nat → β → β → Option Bool) (hL : ∀ k x y i, L (k + 1) x y i = if i < (x.length : Int) then (if 0 ≤ i then (if i < (y.length : Int) then ((eq k (x.getD i.toNat z) (y.getD i.toNat z)).bind fun t => if t = true then L k x y (wrap64 (i + 1)) else some false) else none) else none) else some true)
    (K : Nat) (l : List β) (hl : l.length ≤ 1048576) (heq : ∀ k, K < k → ∀ x ∈ l, eq k x x = some true) :
    ∀ (d j k : Nat), j + d = l.length → K + d < k → L k l l (j : Int) = some true := by
  intro d
  induction d with
  | zero =>
    intro j k hj hk
    obtain ⟨k, rfl⟩ := suc_of hk
    rw [hL, if_neg (by omega)]
  | succ d ih =>
    intro j k hj hk
    obtain ⟨k, rfl⟩ := suc_of hk
    rw [hL, if_pos (by omega), if_pos (by omega), if_pos (by omega), Int.toNat_natCast, heq k (by omega) _ (by rw [getD_lt (by omega)]; exact List.getElem_mem _), Option.bind_some, if_pos rfl, next_nat (n := l.length) (by omega) (by omega)]
    exact ih (j + 1) k (by omega) (by omega)
theorem bne_cast (a b : Nat) : ((a : Int) != (b : Int)) = !(decide (a = b)) := by
  by_cases h : a = b
  · subst h; simp
  · have h2 : ¬ (a : Int) = (b : Int) := by omega
    rw [decide_eq_false h]; exact bne_iff_ne.2 h2

theorem toI_l0 (l : List Int) (hl : l.length ≤ 35184372088832) : ∀ (d j k : Nat) (m : List Int), j + d = l.length → d < k → m.length = l.length → (∀ i, i < j → m[i]? = l[i]?) → laws_toInt64S.l0 k l m (j : Int) = some l := by
  intro d
  induction d with
  | zero =>
    intro j k m hj hk hm hp
    obtain ⟨k, rfl⟩ := suc_of hk
    simp only [laws_toInt64S.l0]
    rw [if_neg (by omega)]
    congr 1
    apply List.ext_getElem?
    intro i
    by_cases hi : i < j
    · exact hp i hi
    · rw [List.getElem?_eq_none (by omega), List.getElem?_eq_none (by omega)]
  | succ d ih =>
    intro j k m hj hk hm hp
    obtain ⟨k, rfl⟩ := suc_of hk
    simp only [laws_toInt64S.l0]
    rw [if_pos (by omega), if_pos (by omega), if_pos (by omega), next_nat (n := l.length) (by omega) (by omega)]
    refine ih (j + 1) k _ (by omega) (by omega) (by simpa using hm) (fun i hi => ?_)
    rw [Int.toNat_natCast, rd_nat, List.getElem?_set]
    by_cases e : j = i
    · subst e
      rw [if_pos rfl, if_pos (by omega), getD_lt (by omega), List.getElem?_eq_getElem (by omega)]
    · rw [if_neg e]; exact hp i (by omega)
theorem toI (l : List Int) (hl : l.length ≤ 35184372088832) (k : Nat) (hk : l.length < k) : laws_toInt64S.f k l = some l := by
  unfold laws_toInt64S.f
  rw [if_pos (by omega), if_pos (by omega)]
  exact toI_l0 l hl l.length 0 k _ (by omega) hk (by simp) (fun i hi => absurd hi (by omega))

theorem eqI_l0 (l : List Int) (hl : l.length ≤ 35184372088832) : ∀ (d j k : Nat), j + d = l.length → d < k → laws_eqInt64S.l0 k l l (j : Int) = some true := by
  intro d
  induction d with
  | zero =>
    intro j k hj hk
    obtain ⟨k, rfl⟩ := suc_of hk
    simp only [laws_eqInt64S.l0]
    rw [if_neg (by omega)]
  | succ d ih =>
    intro j k hj hk
    obtain ⟨k, rfl⟩ := suc_of hk
    simp only [laws_eqInt64S.l0]
    rw [if_pos (by omega), if_pos (by omega), if_pos (by omega), if_pos trivial, next_nat (n := l.length) (by omega) (by omega)]
    exact ih (j + 1) k (by omega) (by omega)
theorem eqI (l : List Int) (hl : l.length ≤ 35184372088832) (k : Nat) (hk : l.length < k) : laws_eqInt64S.f k l l = some true := by
  unfold laws_eqInt64S.f
  rw [if_pos rfl]
  exact eqI_l0 l hl l.length 0 k (by omega) hk

theorem impl_all (l : List Int) (lo hi : Int) : impl_allWithin.f l lo hi = some (l.all fun x => decide (lo ≤ x ∧ x ≤ hi)) := rfl

def pip (x : S99) : S80 := ⟨x.f0, x.f1, x.f2, x.f3, x.f4, x.f5⟩
theorem szInts (l : List Int) (hl : l.length ≤ 9223372036854775807) (n : Int) (h0 : 0 ≤ n) (h1 : n ≤ 1048576) : ∃ r, laws_szInt64S.f l n = some r ∧ r ≤ n ∧ -1 ≤ r ∧ (0 ≤ r → l.length ≤ 1048576) := by
  unfold laws_szInt64S.f
  rw [wrap_id (x := n - (l.length : Int)) (by omega) (by omega)]
  by_cases c : n - (l.length : Int) < 0
  · rw [if_pos c]; exact ⟨-1, rfl, by omega, by omega, fun h => by omega⟩
  · rw [if_neg c]; exact ⟨_, rfl, by omega, by omega, fun h => by omega⟩
theorem szPipes (l : List S99) (hw : wfLT99 l) (n : Int) (h0 : 0 ≤ n) (h1 : n ≤ 1048576) (k : Nat) (hk : 1048577 < k) : ∃ r, laws_szPipeS.f k l n = some r ∧ r ≤ n ∧ -1 ≤ r ∧ (0 ≤ r → l.length ≤ 1048576 ∧ ∀ x ∈ l, x.f0.size ≤ 1048576) := by
  obtain ⟨hl, hw⟩ := hw
  unfold laws_szPipeS.f
  rw [wrap_id (x := n - (l.length : Int)) (by omega) (by omega)]
  by_cases c : n - (l.length : Int) < 0
  · rw [if_pos c]; exact ⟨-1, rfl, by omega, by omega, fun h => by omega⟩
  · rw [if_neg c]
    obtain ⟨r, r1, r2, r3, r4⟩ := sz_list z99 laws_szPipeS.l0 (fun _ x n => laws_szPipe.f x.f0 x.f1 x.f2 x.f3 x.f4 x.f5 n) (fun _ _ _ _ => rfl) wfT99 (fun x => x.f0.size ≤ 1048576) 0 (fun k x n _ hx h0 h1 => by
      have hs := hx.1
      simp only [maxLen] at hs
      unfold laws_szPipe.f
      rw [wrap_id (x := n - (x.f0.size : Int)) (by omega) (by omega)]
      by_cases c : n - (x.f0.size : Int) < 0
      · rw [if_pos c]; exact ⟨-1, rfl, by omega, fun h => by omega⟩
      · rw [if_neg c]; exact ⟨_, rfl, by omega, fun h => by omega⟩) l (by omega) hw l.length 0 k (n - (l.length : Int)) (by omega) (by omega) (by omega) (by omega)
    exact ⟨r, r1, by omega, r3, fun h => ⟨by omega, fun x hx => by
      obtain ⟨i, hi, rfl⟩ := List.mem_iff_getElem.1 hx
      exact r4 h i hi (by omega)⟩⟩
theorem toPipes (l : List S99) (hl : l.length ≤ 1048576) (k : Nat) (hk : 1048577 < k) : laws_toPipeS.f k l = some (l.map pip) := by
  unfold laws_toPipeS.f
  rw [if_pos (by omega), if_pos (by omega)]
  exact to_list z99 laws_toPipeS.l0 (fun _ x => some (pip x)) (fun k x m i => by
    simp only [laws_toPipeS.l0, laws_toPipe.f, Option.bind_some]; rfl) pip 0 l hl (fun _ _ _ _ => rfl) l.length 0 k _ (by omega) (by omega) (by simp) (fun i hi => absurd hi (by omega))
theorem eqPipes (l : List S80) (hl : l.length ≤ 1048576) (k : Nat) (hk : 1048577 < k) : laws_eqPipeS.f k l l = some true := by
  unfold laws_eqPipeS.f
  rw [if_pos rfl]
  exact eq_list z80 laws_eqPipeS.l0 (fun _ a b => laws_eqPipe.f a.f0 a.f1 a.f2 a.f3 a.f4 a.f5 b.f0 b.f1 b.f2 b.f3 b.f4 b.f5) (fun _ _ _ _ => rfl) 0 l hl (fun _ _ x _ => by simp [laws_eqPipe.f]) l.length 0 k (by omega) (by omega)
/-- The sizes of a network. -/
def NetSm (N : List Int) (P : List S99) : Prop := N.length ≤ 1048576 ∧ P.length ≤ 1048576 ∧ ∀ x ∈ P, x.f0.size ≤ 1048576
theorem szNet (x : S25) (hx : wfT25 x) (k : Nat) (hk : 1048577 < k) : ∃ r, laws_szNetwork.f k x.f0 x.f1 1048576 = some r ∧ r ≤ 1048576 ∧ -1 ≤ r ∧ (0 ≤ r → NetSm x.f0 x.f1) := by
  obtain ⟨h1, h2⟩ := hx
  unfold laws_szNetwork.f
  obtain ⟨r, r1, r2, r3, r4⟩ := szInts x.f0 h1.1 1048576 (by omega) (by omega)
  rw [r1, Option.bind_some]
  by_cases c : r < 0
  · rw [if_pos c]; exact ⟨-1, rfl, by omega, by omega, fun h => by omega⟩
  · rw [if_neg c]
    obtain ⟨q, q1, q2, q3, q4⟩ := szPipes x.f1 h2 r (by omega) (by omega) k hk
    rw [q1, Option.bind_some]
    by_cases c2 : q < 0
    · rw [if_pos c2]; exact ⟨-1, rfl, by omega, by omega, fun h => by omega⟩
    · rw [if_neg c2]; exact ⟨q, rfl, by omega, by omega, fun h => ⟨r4 (by omega), (q4 h).1, (q4 h).2⟩⟩
theorem toNet (N : List Int) (P : List S99) (h : NetSm N P) (k : Nat) (hk : 1048577 < k) : laws_toNetwork.f k N P = some (N, P.map pip) := by
  unfold laws_toNetwork.f
  have h1 := h.1
  rw [toI N (by omega) k (by omega), Option.bind_some, toPipes P h.2.1 k hk]; rfl
theorem eqNet (N : List Int) (P : List S99) (h : NetSm N P) (k : Nat) (hk : 1048577 < k) : laws_eqNetwork.f k N (P.map pip) N (P.map pip) = some true := by
  unfold laws_eqNetwork.f
  have h1 := h.1
  rw [eqI N (by omega) k (by omega), Option.bind_some, if_pos rfl, eqPipes (P.map pip) (by simpa using h.2.1) k hk]; rfl
/-- A pipe's validity. -/
def pv (x : S80) : Bool := (impl_ValidPipe.f 1048620 x.f0 x.f1 x.f2 x.f3 x.f4 x.f5).getD false
theorem pv_spec (x : S80) (hs : x.f0.size ≤ 1048576) : (∀ k, 1048620 ≤ k → spec_l03Ok.f k [x] = some (pv x)) ∧ (∀ k, 1048620 ≤ k → impl_ValidPipe.f k x.f0 x.f1 x.f2 x.f3 x.f4 x.f5 = some (pv x)) ∧ (pv x = true → (0 ≤ x.f1 ∧ x.f1 ≤ 15) ∧ (0 ≤ x.f2 ∧ x.f2 ≤ 15) ∧ x.f1 ≠ x.f2) := by
  obtain ⟨v, v1, v2, v3⟩ := pipe_both x.f0 x.f1 x.f2 x.f3 x.f4 x.f5 (by omega)
  have e : pv x = v := by unfold pv; rw [v2 1048620 (by omega)]; rfl
  exact ⟨fun k hk => by rw [e]; exact v1 k (by omega), fun k hk => by rw [e]; exact v2 k (by omega), fun h => by
    have p := v3 (e ▸ h)
    exact ⟨⟨p.2.2.1, p.2.2.2.1⟩, ⟨p.2.2.2.2.1, p.2.2.2.2.2.1⟩, p.2.2.2.2.2.2.1⟩⟩
def pat (P : List S80) (i : Nat) : S80 := P.getD i z80
theorem rdP (P : List S80) (i : Nat) : rd_T80 P (i : Int) = pat P i := rfl
theorem rdN (x : S32) : rd_T32 [x] 0 = x := rfl
def less (a b : ByteArray) : Bool := Op.bytesLess a.toList b.toList
def ptOk (n : Nat) (P : List S80) (i : Nat) : Bool := pv (pat P i) && (decide ((pat P i).f1 < (n : Int)) && (decide ((pat P i).f2 < (n : Int)) && (if i = 0 then true else less (pat P (i - 1)).f0 (pat P i).f0)))
def ptAll (n : Nat) (P : List S80) : Nat → Nat → Bool
  | 0, _ => true
  | d + 1, j => ptOk n P j && ptAll n P d (j + 1)
theorem fits_spec (N : List Int) (P : List S80) (p : S80) (hp : p.f0.size ≤ 1048576) (k : Nat) (hk : 1048620 ≤ k) : spec_l04Fits.f k [(⟨N, P⟩ : S32)] [p] = some (pv p && (decide (p.f1 < (N.length : Int)) && decide (p.f2 < (N.length : Int)))) := by
  unfold spec_l04Fits.f
  rw [(pv_spec p hp).1 k hk, Option.bind_some]
  cases pv p
  · rfl
  · rw [if_pos rfl, if_pos (by simp), if_pos (by simp), rdN, show rd_T80 [p] 0 = p from rfl]
    by_cases h : p.f1 < (N.length : Int)
    · rw [if_pos h, decide_eq_true h]; simp
    · rw [if_neg h, decide_eq_false h]; rfl
theorem ends_impl (N : List Int) (P : List S80) (p : S80) (hN : N.length ≤ 1048576) (hv : (0 ≤ p.f1 ∧ p.f1 ≤ 15) ∧ (0 ≤ p.f2 ∧ p.f2 ≤ 15)) : impl_Network_hasEnds.f N P p.f0 p.f1 p.f2 p.f3 p.f4 p.f5 = some (decide (p.f1 < (N.length : Int)) && decide (p.f2 < (N.length : Int))) := by
  unfold impl_Network_hasEnds.f impl_Network_hasNode.f
  rw [wrap_id (by omega) (by omega), impl_in, Option.bind_some, Option.bind_some, impl_in, Option.bind_some, Option.bind_some]
  have e1 : decide (0 ≤ p.f1 ∧ p.f1 ≤ (N.length : Int) - 1) = decide (p.f1 < (N.length : Int)) := decide_eq_decide.2 (by omega)
  have e2 : decide (0 ≤ p.f2 ∧ p.f2 ≤ (N.length : Int) - 1) = decide (p.f2 < (N.length : Int)) := decide_eq_decide.2 (by omega)
  rw [e1, e2]
  cases decide (p.f1 < (N.length : Int)) <;> rfl
theorem pat_lt {P : List S80} (hs : ∀ x ∈ P, x.f0.size ≤ 1048576) {j : Nat} (h : j < P.length) : (pat P j).f0.size ≤ 1048576 := by
  unfold pat; rw [getD_lt h]; exact hs _ (List.getElem_mem _)
theorem spec_net_l1 (N : List Int) (P : List S80) (hN : N.length ≤ 1048576) (hP : P.length ≤ 1048576) (hs : ∀ x ∈ P, x.f0.size ≤ 1048576) : ∀ (d j k : Nat), j + d = P.length → 1048620 + d < k → spec_l04Ok.l1 k [(⟨N, P⟩ : S32)] (j : Int) = some (ptAll N.length P d j) := by
  intro d
  induction d with
  | zero =>
    intro j k hj hk
    obtain ⟨k, rfl⟩ := suc_of hk
    simp only [spec_l04Ok.l1, show rd_T32 [(⟨N, P⟩ : S32)] 0 = ⟨N, P⟩ from rfl]
    rw [if_pos (by simp), if_neg (by omega)]; rfl
  | succ d ih =>
    intro j k hj hk
    obtain ⟨k, rfl⟩ := suc_of hk
    have hr := ih (j + 1) k (by omega) (by omega)
    simp only [spec_l04Ok.l1, show rd_T32 [(⟨N, P⟩ : S32)] 0 = ⟨N, P⟩ from rfl, show ∀ i : Nat, rd_T80 P (i : Int) = pat P i from fun _ => rfl]
    rw [if_pos (by simp), if_pos (by omega), if_pos (by omega), fits_spec N P (pat P j) (pat_lt hs (by omega)) k (by omega), Option.bind_some, next_nat (n := P.length) (by omega) (by omega), hr]
    rw [show ptAll N.length P (d + 1) j = (ptOk N.length P j && ptAll N.length P d (j + 1)) from rfl]
    generalize ptAll N.length P d (j + 1) = R
    unfold ptOk
    generalize pv (pat P j) = v
    generalize decide ((pat P j).f1 < (N.length : Int)) = a
    generalize decide ((pat P j).f2 < (N.length : Int)) = b
    cases v
    · rfl
    · cases a
      · rfl
      · cases b
        · rfl
        · rw [show (true && (true && true)) = true from rfl, if_pos rfl]
          simp only [Bool.true_and]
          by_cases hz : j = 0
          · rw [if_neg (show ¬ (j : Int) > 0 by omega), if_pos hz]; rfl
          · have ew : wrap64 ((j : Int) - 1) = ((j - 1 : Nat) : Int) := by rw [wrap_id (by omega) (by omega)]; omega
            rw [if_pos (show (j : Int) > 0 by omega), if_neg hz, ew, rdP, if_pos (by omega), if_pos (by omega)]
            show (if less (pat P (j - 1)).f0 (pat P j).f0 = true then _ else _) = _
            cases less (pat P (j - 1)).f0 (pat P j).f0 <;> rfl
theorem impl_net_l0 (N : List Int) (P : List S80) (hN : N.length ≤ 1048576) (hP : P.length ≤ 1048576) (hs : ∀ x ∈ P, x.f0.size ≤ 1048576) : ∀ (d j k : Nat), j + d = P.length → 1048620 + d < k → impl_ValidNetwork.l0 k P (P.length : Int) (j : Int) N P = some (ptAll N.length P d j) := by
  intro d
  induction d with
  | zero =>
    intro j k hj hk
    obtain ⟨k, rfl⟩ := suc_of hk
    simp only [impl_ValidNetwork.l0]
    rw [if_neg (by omega)]; rfl
  | succ d ih =>
    intro j k hj hk
    obtain ⟨k, rfl⟩ := suc_of hk
    have hr := ih (j + 1) k (by omega) (by omega)
    have hp := pv_spec (pat P j) (pat_lt hs (by omega))
    simp only [impl_ValidNetwork.l0, show ∀ i : Nat, rd_T80 P (i : Int) = pat P i from fun _ => rfl]
    rw [if_pos (by omega), if_pos (by omega), if_pos (by omega), hp.2.1 k (by omega), Option.bind_some, next_nat (n := P.length) (by omega) (by omega), hr]
    rw [show ptAll N.length P (d + 1) j = (ptOk N.length P j && ptAll N.length P d (j + 1)) from rfl]
    generalize ptAll N.length P d (j + 1) = R
    unfold ptOk
    cases hv : pv (pat P j)
    · rfl
    · rw [if_pos rfl, ends_impl N P (pat P j) hN ⟨(hp.2.2 hv).1, (hp.2.2 hv).2.1⟩, Option.bind_some]
      generalize decide ((pat P j).f1 < (N.length : Int)) = a
      generalize decide ((pat P j).f2 < (N.length : Int)) = b
      cases a
      · rfl
      · cases b
        · rfl
        · rw [show (true && true) = true from rfl, if_pos rfl]
          simp only [Bool.true_and]
          by_cases hz : j = 0
          · rw [if_neg (show ¬ (j : Int) > 0 by omega), if_pos hz]; rfl
          · have ew : wrap64 ((j : Int) - 1) = ((j - 1 : Nat) : Int) := by rw [wrap_id (by omega) (by omega)]; omega
            rw [if_pos (show (j : Int) > 0 by omega), if_neg hz, ew, rdP, if_pos (by omega), if_pos (by omega)]
            show (if less (pat P (j - 1)).f0 (pat P j).f0 = true then _ else _) = _
            cases less (pat P (j - 1)).f0 (pat P j).f0 <;> rfl
def netw (N : List Int) (P : List S80) : Bool := decide (1 ≤ N.length ∧ N.length ≤ 16) && (decide (P.length ≤ 20) && ptAll N.length P P.length 0)
def netv (N : List Int) (P : List S80) : Bool := (N.all fun x => decide ((-100000 : Int) ≤ x ∧ x ≤ 100000)) && netw N P
theorem spec_net_j1 (N : List Int) (P : List S80) (hN : N.length ≤ 1048576) (hP : P.length ≤ 1048576) (hs : ∀ x ∈ P, x.f0.size ≤ 1048576) (b : Bool) (k : Nat) (hk : 2097200 < k) : spec_l04Ok.j1 k [(⟨N, P⟩ : S32)] b = some (!b && ptAll N.length P P.length 0) := by
  obtain ⟨k, rfl⟩ := suc_of hk
  simp only [spec_l04Ok.j1]
  cases b
  · rw [if_neg Bool.false_ne_true]
    exact spec_net_l1 N P hN hP hs P.length 0 k (by omega) (by omega)
  · rfl
theorem spec_net_l0 (N : List Int) (P : List S80) (hN : N.length ≤ 1048576) (hP : P.length ≤ 1048576) (hs : ∀ x ∈ P, x.f0.size ≤ 1048576) : ∀ (d j k : Nat), j + d = N.length → 2097202 + d < k → spec_l04Ok.l0 k [(⟨N, P⟩ : S32)] (j : Int) = some (((N.drop j).all fun x => decide ((-100000 : Int) ≤ x ∧ x ≤ 100000)) && netw N P) := by
  intro d
  induction d with
  | zero =>
    intro j k hj hk
    obtain ⟨k, rfl⟩ := suc_of hk
    simp only [spec_l04Ok.l0, show rd_T32 [(⟨N, P⟩ : S32)] 0 = ⟨N, P⟩ from rfl]
    rw [if_pos (by simp), if_neg (by omega), List.drop_eq_nil_of_le (by omega)]
    simp only [List.all_nil, Bool.true_and]
    unfold netw
    by_cases c1 : (N.length : Int) < 1
    · rw [if_pos c1, spec_net_j1 N P hN hP hs true k (by omega), decide_eq_false (by omega)]; rfl
    · rw [if_neg c1]
      by_cases c2 : (N.length : Int) > 16
      · rw [if_pos c2, spec_net_j1 N P hN hP hs true k (by omega), decide_eq_false (by omega)]; rfl
      · rw [if_neg c2, spec_net_j1 N P hN hP hs _ k (by omega), decide_eq_true (p := 1 ≤ N.length ∧ N.length ≤ 16) (by omega)]
        by_cases c3 : P.length ≤ 20
        · rw [decide_eq_true c3, decide_eq_false (by omega)]; rfl
        · rw [decide_eq_false c3, decide_eq_true (by omega)]; rfl
  | succ d ih =>
    intro j k hj hk
    obtain ⟨k, rfl⟩ := suc_of hk
    have hr := ih (j + 1) k (by omega) (by omega)
    simp only [spec_l04Ok.l0, show rd_T32 [(⟨N, P⟩ : S32)] 0 = ⟨N, P⟩ from rfl]
    rw [if_pos (by simp), if_pos (by omega), if_pos (by omega), spec_in, Option.bind_some, next_nat (n := N.length) (by omega) (by omega), hr, drop_cons N (j := j) (by omega) 0, rd_nat]
    simp only [List.all_cons]
    cases decide ((-100000 : Int) ≤ N.getD j 0 ∧ N.getD j 0 ≤ 100000) <;> simp
/-- A network is valid for both. -/
theorem net_both (N : List Int) (P : List S80) (hN : N.length ≤ 1048576) (hP : P.length ≤ 1048576) (hs : ∀ x ∈ P, x.f0.size ≤ 1048576) (k : Nat) (hk : 3145780 < k) : spec_l04Ok.f k [(⟨N, P⟩ : S32)] = some (netv N P) ∧ impl_ValidNetwork.f k N P = some (netv N P) := by
  refine ⟨?_, ?_⟩
  · unfold spec_l04Ok.f netv
    exact spec_net_l0 N P hN hP hs N.length 0 k (by omega) (by omega)
  · obtain ⟨k, rfl⟩ := suc_of hk
    have bad : impl_ValidNetwork.j0 (k + 1) true N P = some false := by simp only [impl_ValidNetwork.j0]; simp
    unfold impl_ValidNetwork.f netv netw
    rw [impl_all, bad]
    simp only [Option.bind_some]
    by_cases c1 : (N.length : Int) < 1
    · rw [if_pos c1, decide_eq_false (p := 1 ≤ N.length ∧ N.length ≤ 16) (by omega)]; simp
    · rw [if_neg c1]
      by_cases c2 : (N.length : Int) > 16
      · rw [if_pos c2, decide_eq_false (p := 1 ≤ N.length ∧ N.length ≤ 16) (by omega)]; simp
      · rw [if_neg c2, decide_eq_true (p := 1 ≤ N.length ∧ N.length ≤ 16) (by omega)]
        cases N.all fun x => decide ((-100000 : Int) ≤ x ∧ x ≤ 100000)
        · rfl
        · rw [if_pos rfl]
          simp only [impl_ValidNetwork.j0, Bool.true_and]
          by_cases c3 : P.length ≤ 20
          · rw [decide_eq_true c3, decide_eq_false (by omega), if_neg Bool.false_ne_true]
            exact impl_net_l0 N P hN hP hs P.length 0 k (by omega) (by omega)
          · rw [decide_eq_false c3, decide_eq_true (by omega)]; rfl

def vlv (x : S60) : S64 := ⟨x.f0, x.f1, x.f2⟩
def VaSm (x : S60) : Prop := x.f0.size ≤ 1048576 ∧ x.f1.size ≤ 1048576
theorem szValves (l : List S60) (hw : wfLT60 l) (n : Int) (h0 : 0 ≤ n) (h1 : n ≤ 1048576) (k : Nat) (hk : 1048577 < k) : ∃ r, laws_szValveS.f k l n = some r ∧ (0 ≤ r → l.length ≤ 1048576 ∧ ∀ x ∈ l, VaSm x) := by
  obtain ⟨hl, hw⟩ := hw
  unfold laws_szValveS.f
  rw [wrap_id (x := n - (l.length : Int)) (by omega) (by omega)]
  by_cases c : n - (l.length : Int) < 0
  · rw [if_pos c]; exact ⟨-1, rfl, fun h => by omega⟩
  · rw [if_neg c]
    obtain ⟨r, r1, r2, r3, r4⟩ := sz_list z60 laws_szValveS.l0 (fun _ x n => laws_szValve.f x.f0 x.f1 x.f2 n) (fun _ _ _ _ => rfl) wfT60 VaSm 0 (fun k x n _ hx h0 h1 => by
      obtain ⟨hs, ht, _⟩ := hx
      simp only [maxLen] at hs ht
      unfold laws_szValve.f
      rw [wrap_id (x := n - (x.f0.size : Int)) (by omega) (by omega)]
      by_cases c : n - (x.f0.size : Int) < 0
      · rw [if_pos c]; exact ⟨-1, rfl, by omega, fun h => by omega⟩
      · rw [if_neg c, wrap_id (x := n - (x.f0.size : Int) - (x.f1.size : Int)) (by omega) (by omega)]
        by_cases c2 : n - (x.f0.size : Int) - (x.f1.size : Int) < 0
        · rw [if_pos c2]; exact ⟨-1, rfl, by omega, fun h => by omega⟩
        · rw [if_neg c2]; exact ⟨_, rfl, by omega, fun h => ⟨by omega, by omega⟩⟩) l (by omega) hw l.length 0 k (n - (l.length : Int)) (by omega) (by omega) (by omega) (by omega)
    exact ⟨r, r1, fun h => ⟨by omega, fun x hx => by
      obtain ⟨i, hi, rfl⟩ := List.mem_iff_getElem.1 hx
      exact r4 h i hi (by omega)⟩⟩
theorem toValves (l : List S60) (hl : l.length ≤ 1048576) (k : Nat) (hk : 1048577 < k) : laws_toValveS.f k l = some (l.map vlv) := by
  unfold laws_toValveS.f
  rw [if_pos (by omega), if_pos (by omega)]
  exact to_list z60 laws_toValveS.l0 (fun _ x => some (vlv x)) (fun k x m i => by
    simp only [laws_toValveS.l0, laws_toValve.f, Option.bind_some]; rfl) vlv 0 l hl (fun _ _ _ _ => rfl) l.length 0 k _ (by omega) (by omega) (by simp) (fun i hi => absurd hi (by omega))
theorem eqValves (l : List S64) (hl : l.length ≤ 1048576) (k : Nat) (hk : 1048577 < k) : laws_eqValveS.f k l l = some true := by
  unfold laws_eqValveS.f
  rw [if_pos rfl]
  exact eq_list z64 laws_eqValveS.l0 (fun _ a b => laws_eqValve.f a.f0 a.f1 a.f2 b.f0 b.f1 b.f2) (fun _ _ _ _ => rfl) 0 l hl (fun _ _ x _ => by simp [laws_eqValve.f]) l.length 0 k (by omega) (by omega)
def nv (s : ByteArray) : Bool := (impl_IsName.f 1048620 s).getD false
theorem nv_spec (s : ByteArray) (hs : s.size ≤ 1048576) : (∀ k, 1048620 ≤ k → spec_l01Name.f k s = some (nv s)) ∧ (∀ k, 1048620 ≤ k → impl_IsName.f k s = some (nv s)) := by
  obtain ⟨v, v1, v2, _⟩ := name_both s (by omega)
  have e : nv s = v := by unfold nv; rw [v2 1048620 (by omega)]; rfl
  exact ⟨fun k hk => by rw [e]; exact v1 k (by omega), fun k hk => by rw [e]; exact v2 k (by omega)⟩
/-- The index of a pipe's name. -/
def idx (P : List S80) (s : ByteArray) : Nat → Nat → Int
  | 0, _ => -1
  | d + 1, j => if (pat P j).f0.toList = s.toList then (j : Int) else idx P s d (j + 1)
theorem idx_s (P : List S80) (s : ByteArray) (d j : Nat) : idx P s (d + 1) j = if (pat P j).f0.toList = s.toList then (j : Int) else idx P s d (j + 1) := rfl
theorem spec_idx (N : List Int) (P : List S80) (hP : P.length ≤ 1048576) (v : S64) : ∀ (d j k : Nat), j + d = P.length → d < k → spec_l18Pipe.l0 k [(⟨N, P⟩ : S32)] [v] (j : Int) = some (idx P v.f1 d j) := by
  intro d
  induction d with
  | zero =>
    intro j k hj hk
    obtain ⟨k, rfl⟩ := suc_of hk
    simp only [spec_l18Pipe.l0, show rd_T32 [(⟨N, P⟩ : S32)] 0 = ⟨N, P⟩ from rfl]
    rw [if_pos (by simp), if_neg (by omega)]; rfl
  | succ d ih =>
    intro j k hj hk
    obtain ⟨k, rfl⟩ := suc_of hk
    have hr := ih (j + 1) k (by omega) (by omega)
    simp only [spec_l18Pipe.l0, show rd_T32 [(⟨N, P⟩ : S32)] 0 = ⟨N, P⟩ from rfl, show ∀ i : Nat, rd_T80 P (i : Int) = pat P i from fun _ => rfl]
    rw [if_pos (by simp), if_pos (by omega), if_pos (by omega), if_pos (by simp), next_nat (n := P.length) (by omega) (by omega), hr, show rd_T64 [v] 0 = v from rfl]
    rw [idx_s]
    by_cases c : (pat P j).f0.toList = v.f1.toList
    · rw [if_pos c, if_pos c]
    · rw [if_neg c, if_neg c]
theorem impl_idx (P : List S80) (hP : P.length ≤ 1048576) (s : ByteArray) : ∀ (d j k : Nat), j + d = P.length → d < k → impl_Pipe_c84.l0 k P (P.length : Int) (j : Int) [s] = some (idx P s d j) := by
  intro d
  induction d with
  | zero =>
    intro j k hj hk
    obtain ⟨k, rfl⟩ := suc_of hk
    simp only [impl_Pipe_c84.l0]
    rw [if_neg (by omega)]; rfl
  | succ d ih =>
    intro j k hj hk
    obtain ⟨k, rfl⟩ := suc_of hk
    have hr := ih (j + 1) k (by omega) (by omega)
    simp only [impl_Pipe_c84.l0, show ∀ i : Nat, rd_T80 P (i : Int) = pat P i from fun _ => rfl, impl_Network_pipeNamed_1.f]
    rw [if_pos (by omega), if_pos (by omega), if_pos (by omega), if_pos (by simp), Option.bind_some, next_nat (n := P.length) (by omega) (by omega), hr, show rdOf ByteArray.empty [s] 0 = s from rfl]
    rw [idx_s]
    by_cases c : (pat P j).f0.toList = s.toList
    · rw [if_pos (beq_iff_eq.2 c), if_pos c]
    · rw [if_neg (fun h => c (beq_iff_eq.1 h)), if_neg c]
def vat (V : List S64) (i : Nat) : S64 := V.getD i z64
theorem rdV (V : List S64) (i : Nat) : rd_T64 V (i : Int) = vat V i := rfl
theorem vat_lt {V : List S64} (hs : ∀ x ∈ V, x.f0.size ≤ 1048576) {j : Nat} (h : j < V.length) : (vat V j).f0.size ≤ 1048576 := by
  unfold vat; rw [getD_lt h]; exact hs _ (List.getElem_mem _)
def vhit (x y : S64) : Bool := decide (x.f1.toList = y.f1.toList) && (x.f2 == y.f2)
def dup (V : List S64) (x : S64) : Nat → Nat → Bool
  | 0, _ => false
  | d + 1, j => vhit (vat V j) x || dup V x d (j + 1)
theorem dup_s (V : List S64) (x : S64) (d j : Nat) : dup V x (d + 1) j = (vhit (vat V j) x || dup V x d (j + 1)) := rfl
theorem spec_dup (NP : List S32) (V : List S64) (hV : V.length ≤ 1048576) (i : Nat) (hi : i < V.length) (K : Nat) (r : Bool) (hr : ∀ k, K ≤ k → spec_l18Ok.l0 k NP V ((i + 1 : Nat) : Int) = some r) : ∀ (d j k : Nat), j + d = i → K + d < k → spec_l18Ok.l1 k NP V (i : Int) (j : Int) = some (!dup V (vat V i) d j && r) := by
  intro d
  induction d with
  | zero =>
    intro j k hj hk
    obtain ⟨k, rfl⟩ := suc_of hk
    simp only [spec_l18Ok.l1]
    rw [if_neg (by omega), next_nat (n := V.length) (by omega) (by omega), hr k (by omega)]; rfl
  | succ d ih =>
    intro j k hj hk
    obtain ⟨k, rfl⟩ := suc_of hk
    have h := ih (j + 1) k (by omega) (by omega)
    simp only [spec_l18Ok.l1, show ∀ (V : List S64) (i : Nat), rd_T64 V (i : Int) = vat V i from fun _ _ => rfl]
    rw [if_pos (by omega), if_pos (by omega), if_pos (by omega), if_pos (by omega), if_pos (by omega), next_nat (n := V.length) (by omega) (by omega), h]
    rw [dup_s]
    unfold vhit
    by_cases c : (vat V j).f1.toList = (vat V i).f1.toList
    · rw [if_pos c, decide_eq_true c, Bool.true_and]
      cases (vat V j).f2 == (vat V i).f2
      · rw [if_neg Bool.false_ne_true, Bool.false_or]
      · rfl
    · rw [if_neg c, decide_eq_false c, Bool.false_and, Bool.false_or]
theorem impl_dup (V : List S64) (hV : V.length ≤ 1048576) (x : S64) (i : Nat) (hi : i ≤ V.length) : ∀ (d j k : Nat), j + d = i → d < k → ∃ t, impl_Valve_51_c48.l0 k (V.take i) (i : Int) (j : Int) [x] = some t ∧ decide (t ≥ 0) = dup V x d j := by
  intro d
  induction d with
  | zero =>
    intro j k hj hk
    obtain ⟨k, rfl⟩ := suc_of hk
    simp only [impl_Valve_51_c48.l0]
    rw [if_neg (by omega)]; exact ⟨-1, rfl, rfl⟩
  | succ d ih =>
    intro j k hj hk
    obtain ⟨k, rfl⟩ := suc_of hk
    obtain ⟨t, t1, t2⟩ := ih (j + 1) k (by omega) (by omega)
    have hl : (V.take i).length = i := by simp; omega
    have he : vat (V.take i) j = vat V j := by unfold vat; rw [getD_lt (by omega), getD_lt (by omega)]; simp
    simp only [impl_Valve_51_c48.l0, show ∀ (V : List S64) (i : Nat), rd_T64 V (i : Int) = vat V i from fun _ _ => rfl, impl_ValidValves_1.f, he]
    rw [if_pos (by omega), if_pos (by omega), if_pos (by omega), if_pos (by simp), next_nat (n := V.length) (by omega) (by omega), t1, show rd_T64 [x] 0 = x from rfl]
    rw [dup_s]
    unfold vhit
    by_cases c : (vat V j).f1.toList = x.f1.toList
    · rw [if_pos c, decide_eq_true c, Bool.true_and, Option.bind_some]
      cases (vat V j).f2 == x.f2
      · rw [if_neg Bool.false_ne_true, Bool.false_or]; exact ⟨t, rfl, t2⟩
      · exact ⟨(j : Int), rfl, by simp⟩
    · rw [if_neg c, decide_eq_false c, Bool.false_and, Bool.false_or, Option.bind_some, if_neg Bool.false_ne_true]; exact ⟨t, rfl, t2⟩
def vok (P : List S80) (V : List S64) (i : Nat) : Bool := nv (vat V i).f0 && (decide (0 ≤ idx P (vat V i).f1 P.length 0) && ((if i = 0 then true else less (vat V (i - 1)).f0 (vat V i).f0) && !dup V (vat V i) i 0))
def vall (P : List S80) (V : List S64) : Nat → Nat → Bool
  | 0, _ => true
  | d + 1, j => vok P V j && vall P V d (j + 1)
theorem spec_vl0 (N : List Int) (P : List S80) (V : List S64) (hP : P.length ≤ 1048576) (hV : V.length ≤ 8) (hs : ∀ x ∈ V, x.f0.size ≤ 1048576) : ∀ (d j k : Nat), j + d = V.length → 2097250 + 20 * d < k → spec_l18Ok.l0 k [(⟨N, P⟩ : S32)] V (j : Int) = some (vall P V d j) := by
  intro d
  induction d with
  | zero =>
    intro j k hj hk
    obtain ⟨k, rfl⟩ := suc_of hk
    simp only [spec_l18Ok.l0]
    rw [if_neg (by omega)]; rfl
  | succ d ih =>
    intro j k hj hk
    obtain ⟨k, rfl⟩ : ∃ m, k = m + 1 + 1 := ⟨k - 2, by omega⟩
    have bad : spec_l18Ok.j2 (k + 1) [(⟨N, P⟩ : S32)] V (j : Int) true = some false := by simp only [spec_l18Ok.j2]; simp
    have good : spec_l18Ok.j2 (k + 1) [(⟨N, P⟩ : S32)] V (j : Int) false = some (!dup V (vat V j) j 0 && vall P V d (j + 1)) := by
      simp only [spec_l18Ok.j2]
      rw [if_neg Bool.false_ne_true]
      exact spec_dup _ V (by omega) j (by omega) (2097251 + 20 * d) _ (fun k hk => ih (j + 1) k (by omega) (by omega)) j 0 k (by omega) (by omega)
    simp only [spec_l18Ok.l0, show ∀ (V : List S64) (i : Nat), rd_T64 V (i : Int) = vat V i from fun _ _ => rfl]
    rw [if_pos (by omega), if_pos (by omega), (nv_spec _ (vat_lt hs (by omega))).1 (k + 1) (by omega), Option.bind_some]
    rw [show vall P V (d + 1) j = (vok P V j && vall P V d (j + 1)) from rfl]
    generalize vall P V d (j + 1) = R at *
    unfold vok
    cases nv (vat V j).f0
    · exact bad
    · rw [if_pos rfl, Bool.true_and]
      unfold spec_l18Pipe.f
      have hx := spec_idx N P hP (vat V j) P.length 0 (k + 1) (by omega) (by omega)
      rw [show ((0 : Nat) : Int) = 0 from rfl] at hx
      rw [hx, Option.bind_some]
      by_cases c : idx P (vat V j).f1 P.length 0 < 0
      · rw [if_pos c, decide_eq_false (by omega), bad]; rfl
      · rw [if_neg c, decide_eq_true (p := 0 ≤ idx P (vat V j).f1 P.length 0) (by omega), Bool.true_and]
        by_cases hz : j = 0
        · rw [if_neg (show ¬ (j : Int) > 0 by omega), if_pos hz, good, Bool.true_and]
        · have ew : wrap64 ((j : Int) - 1) = ((j - 1 : Nat) : Int) := by rw [wrap_id (by omega) (by omega)]; omega
          rw [if_pos (show (j : Int) > 0 by omega), if_neg hz, ew, rdV, if_pos (by omega), if_pos (by omega)]
          show spec_l18Ok.j2 (k + 1) _ V (j : Int) (!less (vat V (j - 1)).f0 (vat V j).f0) = _
          cases less (vat V (j - 1)).f0 (vat V j).f0
          · exact bad
          · exact good
theorem impl_vl0 (N : List Int) (P : List S80) (V : List S64) (hP : P.length ≤ 1048576) (hV : V.length ≤ 8) (hs : ∀ x ∈ V, x.f0.size ≤ 1048576) : ∀ (d j k : Nat), j + d = V.length → 2097250 + 20 * d < k → impl_ValidValves.l0 k V V (V.length : Int) (j : Int) N P = some (vall P V d j) := by
  intro d
  induction d with
  | zero =>
    intro j k hj hk
    obtain ⟨k, rfl⟩ := suc_of hk
    simp only [impl_ValidValves.l0]
    rw [if_neg (by omega)]; rfl
  | succ d ih =>
    intro j k hj hk
    obtain ⟨k, rfl⟩ : ∃ m, k = m + 1 + 1 := ⟨k - 2, by omega⟩
    have hr := ih (j + 1) k (by omega) (by omega)
    obtain ⟨t, t1, t2⟩ := impl_dup V (by omega) (vat V j) j (by omega) j 0 k (by omega) (by omega)
    have hl : ((V.take j).length : Int) = (j : Int) := by simp; omega
    have bad : impl_ValidValves.j2 (k + 1) V (j : Int) V (V.length : Int) (j : Int) true N P (vat V j).f0 (vat V j).f1 (vat V j).f2 = some false := by simp only [impl_ValidValves.j2]; simp
    have good : impl_ValidValves.j2 (k + 1) V (j : Int) V (V.length : Int) (j : Int) false N P (vat V j).f0 (vat V j).f1 (vat V j).f2 = some (!dup V (vat V j) j 0 && vall P V d (j + 1)) := by
      simp only [impl_ValidValves.j2]
      rw [if_neg Bool.false_ne_true, if_pos (by omega), if_pos (by omega), Int.toNat_natCast]
      unfold impl_Valve_47_c48.f impl_Valve_51_c48.f
      rw [hl, show (⟨(vat V j).f0, (vat V j).f1, (vat V j).f2⟩ : S64) = vat V j from rfl]
      rw [show ((0 : Nat) : Int) = 0 from rfl] at t1
      rw [t1, Option.bind_some, Option.bind_some, t2, next_nat (n := V.length) (by omega) (by omega), hr]
      cases dup V (vat V j) j 0
      · rw [if_neg Bool.false_ne_true]; rfl
      · rfl
    simp only [impl_ValidValves.l0, show ∀ (V : List S64) (i : Nat), rd_T64 V (i : Int) = vat V i from fun _ _ => rfl]
    rw [if_pos (by omega), if_pos (by omega), if_pos (by omega), (nv_spec _ (vat_lt hs (by omega))).2 (k + 1) (by omega), Option.bind_some]
    rw [show vall P V (d + 1) j = (vok P V j && vall P V d (j + 1)) from rfl]
    generalize vall P V d (j + 1) = R at *
    unfold vok
    cases nv (vat V j).f0
    · exact bad
    · rw [if_pos rfl, Bool.true_and]
      unfold impl_Network_pipeNamed.f impl_Pipe_c84.f
      have hx := impl_idx P hP (vat V j).f1 P.length 0 (k + 1) (by omega) (by omega)
      rw [show ((0 : Nat) : Int) = 0 from rfl] at hx
      rw [hx, Option.bind_some, Option.bind_some]
      by_cases c : idx P (vat V j).f1 P.length 0 < 0
      · rw [if_pos c, decide_eq_false (by omega), bad]; rfl
      · rw [if_neg c, decide_eq_true (p := 0 ≤ idx P (vat V j).f1 P.length 0) (by omega), Bool.true_and]
        by_cases hz : j = 0
        · rw [if_neg (show ¬ (j : Int) > 0 by omega), if_pos hz, good, Bool.true_and]
        · have ew : wrap64 ((j : Int) - 1) = ((j - 1 : Nat) : Int) := by rw [wrap_id (by omega) (by omega)]; omega
          rw [if_pos (show (j : Int) > 0 by omega), if_neg hz, ew, rdV, if_pos (by omega), if_pos (by omega)]
          show impl_ValidValves.j2 (k + 1) V (j : Int) V (V.length : Int) (j : Int) (!less (vat V (j - 1)).f0 (vat V j).f0) N P _ _ _ = _
          cases less (vat V (j - 1)).f0 (vat V j).f0
          · exact bad
          · exact good
def vv (N : List Int) (P : List S80) (V : List S64) : Bool := netv N P && (decide (V.length ≤ 8) && vall P V V.length 0)
/-- Valves are valid for both. -/
theorem valves_both (N : List Int) (P : List S80) (V : List S64) (hN : N.length ≤ 1048576) (hP : P.length ≤ 1048576) (hs : ∀ x ∈ P, x.f0.size ≤ 1048576) (hVs : ∀ x ∈ V, x.f0.size ≤ 1048576) (k : Nat) (hk : 3145800 < k) : spec_l18Ok.f k [(⟨N, P⟩ : S32)] V = some (vv N P V) ∧ impl_ValidValves.f k N P V = some (vv N P V) := by
  obtain ⟨n1, n2⟩ := net_both N P hN hP hs k (by omega)
  unfold spec_l18Ok.f impl_ValidValves.f vv
  rw [n1, n2, Option.bind_some, Option.bind_some]
  obtain ⟨k, rfl⟩ := suc_of hk
  have b1 : spec_l18Ok.j0 (k + 1) [(⟨N, P⟩ : S32)] V true = some false := by simp only [spec_l18Ok.j0]; simp
  have b2 : impl_ValidValves.j0 (k + 1) V true N P = some false := by simp only [impl_ValidValves.j0]; simp
  cases netv N P
  · exact ⟨b1, b2⟩
  · rw [if_pos rfl, if_pos rfl, Bool.true_and]
    by_cases c : V.length ≤ 8
    · rw [decide_eq_true c, decide_eq_false (by omega)]
      simp only [spec_l18Ok.j0, impl_ValidValves.j0, Bool.true_and]
      rw [if_neg Bool.false_ne_true, if_neg Bool.false_ne_true]
      exact ⟨spec_vl0 N P V hP c hVs V.length 0 k (by omega) (by omega), impl_vl0 N P V hP c hVs V.length 0 k (by omega) (by omega)⟩
    · rw [decide_eq_false c, decide_eq_true (by omega), b1, b2]
      exact ⟨rfl, rfl⟩
theorem pip_small {P : List S99} (h : ∀ x ∈ P, x.f0.size ≤ 1048576) : ∀ x ∈ P.map pip, x.f0.size ≤ 1048576 := by
  intro x hx
  obtain ⟨y, hy, rfl⟩ := List.mem_map.1 hx
  exact h y hy
theorem vlv_small {V : List S60} (h : ∀ x ∈ V, VaSm x) : ∀ x ∈ V.map vlv, x.f0.size ≤ 1048576 := by
  intro x hx
  obtain ⟨y, hy, rfl⟩ := List.mem_map.1 hx
  exact (h y hy).1

def vidx (V : List S64) (s : ByteArray) : Nat → Nat → Int
  | 0, _ => -1
  | d + 1, j => if (vat V j).f0.toList = s.toList then (j : Int) else vidx V s d (j + 1)
theorem vidx_s (V : List S64) (s : ByteArray) (d j : Nat) : vidx V s (d + 1) j = if (vat V j).f0.toList = s.toList then (j : Int) else vidx V s d (j + 1) := rfl
theorem vidx_ge (V : List S64) (s : ByteArray) : ∀ d j, -1 ≤ vidx V s d j := by
  intro d
  induction d with
  | zero => intro j; unfold vidx; omega
  | succ d ih => intro j; rw [vidx_s]; have := ih (j + 1); split <;> omega
theorem spec_vidx (V : List S64) (hV : V.length ≤ 1048576) (s : ByteArray) : ∀ (d j k : Nat), j + d = V.length → d < k → spec_ValveNamed.l0 k V s (j : Int) = some (if vidx V s d j ≥ 0 then (vidx V s d j, 0) else (0, 3)) := by
  intro d
  induction d with
  | zero =>
    intro j k hj hk
    obtain ⟨k, rfl⟩ := suc_of hk
    simp only [spec_ValveNamed.l0]
    rw [if_neg (by omega)]; rfl
  | succ d ih =>
    intro j k hj hk
    obtain ⟨k, rfl⟩ := suc_of hk
    have hr := ih (j + 1) k (by omega) (by omega)
    simp only [spec_ValveNamed.l0, show ∀ (V : List S64) (i : Nat), rd_T64 V (i : Int) = vat V i from fun _ _ => rfl]
    rw [if_pos (by omega), if_pos (by omega), next_nat (n := V.length) (by omega) (by omega), hr]
    rw [vidx_s]
    by_cases c : (vat V j).f0.toList = s.toList
    · rw [if_pos c, if_pos c, if_pos (by omega)]
    · rw [if_neg c, if_neg c]
theorem impl_vidx (V : List S64) (hV : V.length ≤ 1048576) (s : ByteArray) : ∀ (d j k : Nat), j + d = V.length → d < k → impl_Valve_51_c52.l0 k V (V.length : Int) (j : Int) [s] = some (vidx V s d j) := by
  intro d
  induction d with
  | zero =>
    intro j k hj hk
    obtain ⟨k, rfl⟩ := suc_of hk
    simp only [impl_Valve_51_c52.l0]
    rw [if_neg (by omega)]; rfl
  | succ d ih =>
    intro j k hj hk
    obtain ⟨k, rfl⟩ := suc_of hk
    have hr := ih (j + 1) k (by omega) (by omega)
    simp only [impl_Valve_51_c52.l0, show ∀ (V : List S64) (i : Nat), rd_T64 V (i : Int) = vat V i from fun _ _ => rfl, impl_ValveNamed_1.f]
    rw [if_pos (by omega), if_pos (by omega), if_pos (by omega), if_pos (by simp), Option.bind_some, next_nat (n := V.length) (by omega) (by omega), hr, show rdOf ByteArray.empty [s] 0 = s from rfl]
    rw [vidx_s]
    by_cases c : (vat V j).f0.toList = s.toList
    · rw [if_pos (beq_iff_eq.2 c), if_pos c]
    · rw [if_neg (fun h => c (beq_iff_eq.1 h)), if_neg c]
theorem FnExactValveNamed : laws_FnExactValveNamed.Pure := by
  intro x V s hx hV hs
  refine ⟨4000000, ?_⟩
  unfold laws_FnExactValveNamed.f
  by_cases c0 : (s.size : Int) > 1048576
  · rw [if_pos c0]
  · rw [if_neg c0]
    obtain ⟨r, r1, r2, r3, r4⟩ := szNet x hx 4000000 (by omega)
    rw [r1, Option.bind_some]
    by_cases c : r < 0
    · rw [if_pos c]
    · rw [if_neg c]
      obtain ⟨q, q1, q2⟩ := szValves V hV r (by omega) (by omega) 4000000 (by omega)
      rw [q1, Option.bind_some]
      by_cases c2 : q < 0
      · rw [if_pos c2]
      · rw [if_neg c2]
        have hn := r4 (by omega)
        obtain ⟨v1, v2⟩ := q2 (by omega)
        have h1 : (V.map vlv).length ≤ 1048576 := by simpa using v1
        rw [toNet x.f0 x.f1 hn 4000000 (by omega), toValves V v1 4000000 (by omega)]
        simp only [Option.bind_some]
        obtain ⟨b1, b2⟩ := valves_both x.f0 (x.f1.map pip) (V.map vlv) hn.1 (by simpa using hn.2.1) (pip_small hn.2.2) (vlv_small v2) 4000000 (by omega)
        have key : ∃ p : Int × Int, spec_ValveNamed.f 4000000 x.f0 (x.f1.map pip) (V.map vlv) s = some p ∧ impl_ValveNamed.f 4000000 x.f0 (x.f1.map pip) (V.map vlv) s = some p := by
          unfold spec_ValveNamed.f impl_ValveNamed.f
          rw [b1, b2, Option.bind_some, Option.bind_some]
          cases vv x.f0 (x.f1.map pip) (V.map vlv)
          · exact ⟨_, rfl, rfl⟩
          · rw [if_pos rfl, if_pos rfl]
            have e1 := spec_vidx (V.map vlv) h1 s (V.map vlv).length 0 4000000 (by omega) (by omega)
            have e2 := impl_vidx (V.map vlv) h1 s (V.map vlv).length 0 4000000 (by omega) (by omega)
            rw [show ((0 : Nat) : Int) = 0 from rfl] at e1 e2
            unfold impl_Valve_51_c52.f impl_orNotFound.f
            rw [e1, e2, Option.bind_some]
            by_cases c : vidx (V.map vlv) s (V.map vlv).length 0 ≥ 0
            · rw [if_pos c, if_pos (by simpa using c)]; exact ⟨_, rfl, rfl⟩
            · rw [if_neg c, if_neg (by simpa using c)]; exact ⟨_, rfl, rfl⟩
        obtain ⟨p, p1, p2⟩ := key
        rw [p1, p2]
        simp only [Option.bind_some]
        rw [if_pos trivial]
        show laws_FnExactValveNamed.j0 (3999999 + 1) _ _ _ _ _ _ _ = _
        simp only [laws_FnExactValveNamed.j0]
        rw [if_neg (by simp), toNet x.f0 x.f1 hn 3999999 (by omega)]
        simp only [Option.bind_some]
        rw [eqNet x.f0 x.f1 hn 3999999 (by omega), Option.bind_some, if_pos rfl, toValves V v1 3999999 (by omega), Option.bind_some, eqValves _ h1 3999999 (by omega)]
        rfl

end Go.Proofs.Ytjelfhmgbhidnaa.Pure
