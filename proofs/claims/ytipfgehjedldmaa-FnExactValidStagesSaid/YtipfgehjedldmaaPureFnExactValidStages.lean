/- ValidStages of the program returns what the reference's returns, for every list of stages. No condition. -/
import Derived.Test.YtipfgehjedldmaaPFnExactValidStagesx8
namespace Go.Proofs.Ytipfgehjedldmaa.Pure
open Go.RowKit Go.Proofs.Ytipfgehjedldmaa.PFnExactValidStages Go.Proofs.YtipfgehjedldmaaW.PrintWords Go.Proofs.YtipfgehjedldmaaW.PrintLast Go.Proofs.YtipfgehjedldmaaW.PrintMore
set_option linter.unusedVariables false
set_option linter.unusedSimpArgs false

theorem wrap_id {x : Int} (h1 : -9223372036854775808 ≤ x) (h2 : x ≤ 9223372036854775807) : wrap64 x = x := by unfold wrap64; omega
theorem wf_i64 {x : Int} (h : (Lit.int .i64 x).wf = true) : -9223372036854775808 ≤ x ∧ x ≤ 9223372036854775807 := by
  simp [Lit.wf, IntKind.min, IntKind.max, IntKind.bits, IntKind.signed] at h; omega
theorem mul_bounds {a b A B : Int} (h0 : 0 ≤ a) (hA : a ≤ A) (h1 : -B ≤ b) (h2 : b ≤ B) (hB : 0 ≤ B) : -(A * B) ≤ a * b ∧ a * b ≤ A * B := by
  have e1 := Int.mul_le_mul_of_nonneg_left h2 h0
  have e2 := Int.mul_le_mul_of_nonneg_right hA hB
  have e3 := Int.mul_le_mul_of_nonneg_left h1 h0
  have e4 : a * -B = -(a * B) := Int.mul_neg a B
  omega
theorem mul_nonneg' {a b : Int} (h0 : 0 ≤ a) (h1 : 0 ≤ b) : 0 ≤ a * b := Int.mul_nonneg h0 h1
theorem next_nat {j n : Nat} (h : j < n) (hn : n ≤ 4611686018427387904) : wrap64 ((j : Int) + 1) = ((j + 1 : Nat) : Int) := by
  rw [wrap_id (by omega) (by omega)]; omega
theorem rd_nat (l : List Int) (j : Nat) : rd l (j : Int) = l.getD j 0 := by unfold rd; simp
theorem ifp {α : Type} {c : Prop} [Decidable c] {a b : α} (h : c) : (if c then a else b) = a := if_pos h
theorem ifn {α : Type} {c : Prop} [Decidable c] {a b : α} (h : ¬ c) : (if c then a else b) = b := if_neg h
theorem suc_of {k d : Nat} (h : d < k) : ∃ m, k = m + 1 := ⟨k - 1, by omega⟩
theorem getD_lt {α : Type} {l : List α} {j : Nat} {d : α} (h : j < l.length) : l.getD j d = l[j] := by
  rw [List.getD_eq_getElem?_getD, List.getElem?_eq_getElem h]; rfl
theorem drop_cons {α : Type} (l : List α) {j : Nat} (h : j < l.length) (d : α) : l.drop j = l.getD j d :: l.drop (j + 1) := by
  rw [getD_lt h]; exact List.drop_eq_getElem_cons h
theorem up {α : Type} {g : Nat → Option α} (hm : ∀ k, LeO (g k) (g (k + 1))) {k0 : Nat} {r : α} (h : g k0 = some r) : ∀ k, k0 ≤ k → g k = some r := by
  intro k hk
  induction hk with
  | refl => exact h
  | step _ ih => exact hm _ _ ih

theorem sz_list {α : Type} (z : α) (L : Nat → List α → Int → Int → Option Int) (sz : Nat → α → Int → Option Int) (hL : ∀ k x n i, L (k + 1) x n i = if i < (x.length : Int) then (if 0 ≤ i then ((sz k (x.getD i.toNat z) n).bind fun t => if t < 0 then some (-1) else L k x t (wrap64 (i + 1))) else none) else some n)
    (Wf Sm : α → Prop) (K : Nat) (hsz : ∀ k x n, K < k → Wf x → 0 ≤ n → n ≤ 1048576 → ∃ r, sz k x n = some r ∧ r ≤ n ∧ (0 ≤ r → Sm x)) (l : List α) (hl : l.length ≤ 1048576) (hw : ∀ x ∈ l, Wf x) :
    ∀ (d j k : Nat) (n : Int), j + d = l.length → K + d < k → 0 ≤ n → n ≤ 1048576 → ∃ r, L k l n (j : Int) = some r ∧ r ≤ n ∧ -1 ≤ r ∧ (0 ≤ r → ∀ i (h : i < l.length), j ≤ i → Sm l[i]) := by
  intro d
  induction d with
  | zero =>
    intro j k n hj hk h0 h1
    obtain ⟨k, rfl⟩ := suc_of hk
    rw [hL, if_neg (by omega)]
    exact ⟨n, rfl, by omega, by omega, fun _ i h hi => by omega⟩
  | succ d ih =>
    intro j k n hj hk h0 h1
    obtain ⟨k, rfl⟩ := suc_of hk
    rw [hL, if_pos (by omega), if_pos (by omega), Int.toNat_natCast]
    obtain ⟨r, r1, r2, r4⟩ := hsz k (l.getD j z) n (by omega) (by rw [getD_lt (by omega)]; exact hw _ (List.getElem_mem _)) h0 h1
    rw [r1, Option.bind_some]
    by_cases c : r < 0
    · rw [if_pos c]; exact ⟨-1, rfl, by omega, by omega, fun h => by omega⟩
    · rw [if_neg c, next_nat (n := l.length) (by omega) (by omega)]
      obtain ⟨q, q1, q2, q3, q4⟩ := ih (j + 1) k r (by omega) (by omega) (by omega) (by omega)
      refine ⟨q, q1, by omega, by omega, fun hq i h hi => ?_⟩
      by_cases e : i = j
      · subst e
        have := r4 (by omega)
        rwa [getD_lt h] at this
      · exact q4 hq i h (by omega)
theorem to_list {α β : Type} (z : α) (L : Nat → List α → List β → Int → Option (List β)) (tov : Nat → α → Option β) (hL : ∀ k x m i, L (k + 1) x m i = if i < (x.length : Int) then (if 0 ≤ i then ((tov k (x.getD i.toNat z)).bind fun b => if i < (m.length : Int) then L k x (m.set i.toNat b) (wrap64 (i + 1)) else none) else none) else some m)
    (g : α → β) (K : Nat) (l : List α) (hl : l.length ≤ 1048576) (hto : ∀ k, K < k → ∀ x ∈ l, tov k x = some (g x)) :
    ∀ (d j k : Nat) (m : List β), j + d = l.length → K + d < k → m.length = l.length → (∀ i, i < j → m[i]? = (l.map g)[i]?) → L k l m (j : Int) = some (l.map g) := by
  intro d
  induction d with
  | zero =>
    intro j k m hj hk hm hp
    obtain ⟨k, rfl⟩ := suc_of hk
    rw [hL, if_neg (by omega)]
    congr 1
    apply List.ext_getElem?
    intro i
    by_cases hi : i < j
    · exact hp i hi
    · rw [List.getElem?_eq_none (by omega), List.getElem?_eq_none (by simp; omega)]
  | succ d ih =>
    intro j k m hj hk hm hp
    obtain ⟨k, rfl⟩ := suc_of hk
    rw [hL, if_pos (by omega), if_pos (by omega), Int.toNat_natCast, hto k (by omega) _ (by rw [getD_lt (by omega)]; exact List.getElem_mem _), Option.bind_some, if_pos (by omega), next_nat (n := l.length) (by omega) (by omega)]
    refine ih (j + 1) k _ (by omega) (by omega) (by simpa using hm) (fun i hi => ?_)
    rw [List.getElem?_set]
    by_cases e : j = i
    · subst e
      rw [if_pos rfl, if_pos (by omega), getD_lt (by omega), List.getElem?_map, List.getElem?_eq_getElem (by omega)]; rfl
    · rw [if_neg e]; exact hp i (by omega)
theorem eq_list {β : Type} (z : β) (L : Nat → List β → List β → Int → Option Bool) (eq : Nat → β → β → Option Bool) (hL : ∀ k x y i, L (k + 1) x y i = if i < (x.length : Int) then (if 0 ≤ i then (if i < (y.length : Int) then ((eq k (x.getD i.toNat z) (y.getD i.toNat z)).bind fun t => if t = true then L k x y (wrap64 (i + 1)) else some false) else none) else none) else some true)
    (K : Nat) (l : List β) (hl : l.length ≤ 1048576) (heq : ∀ k, K < k → ∀ x ∈ l, eq k x x = some true) :
    ∀ (d j k : Nat), j + d = l.length → K + d < k → L k l l (j : Int) = some true := by
  intro d
  induction d with
  | zero =>
    intro j k hj hk
    obtain ⟨k, rfl⟩ := suc_of hk
    rw [hL, if_neg (by omega)]
  | succ d ih =>
    intro j k hj hk
    obtain ⟨k, rfl⟩ := suc_of hk
    rw [hL, if_pos (by omega), if_pos (by omega), if_pos (by omega), Int.toNat_natCast, heq k (by omega) _ (by rw [getD_lt (by omega)]; exact List.getElem_mem _), Option.bind_some, if_pos rfl, next_nat (n := l.length) (by omega) (by omega)]
    exact ih (j + 1) k (by omega) (by omega)
theorem bne_cast (a b : Nat) : ((a : Int) != (b : Int)) = !(decide (a = b)) := by
  by_cases h : a = b
  · subst h; simp
  · have h2 : ¬ (a : Int) = (b : Int) := by omega
    rw [decide_eq_false h]; exact bne_iff_ne.2 h2

theorem szStrs (l : List ByteArray) (hl : l.length ≤ 9223372036854775807) (hw : ∀ x ∈ l, x.size ≤ maxLen) (n : Int) (h0 : 0 ≤ n) (h1 : n ≤ 1048576) (k : Nat) (hk : 1048577 < k) : ∃ r, laws_szStringS.f k l n = some r ∧ r ≤ n ∧ -1 ≤ r ∧ (0 ≤ r → l.length ≤ 1048576 ∧ ∀ x ∈ l, x.size ≤ 1048576) := by
  unfold laws_szStringS.f
  rw [wrap_id (x := n - (l.length : Int)) (by omega) (by omega)]
  by_cases c : n - (l.length : Int) < 0
  · rw [if_pos c]; exact ⟨-1, rfl, by omega, by omega, fun h => by omega⟩
  · rw [if_neg c]
    obtain ⟨r, r1, r2, r3, r4⟩ := sz_list ByteArray.empty laws_szStringS.l0 (fun _ x n => some (wrap64 (n - (x.size : Int)))) (fun _ _ _ _ => rfl) (fun x => x.size ≤ maxLen) (fun x => x.size ≤ 1048576) 0 (fun k x n _ hx h0 h1 => by
      simp only [maxLen] at hx
      rw [wrap_id (x := n - (x.size : Int)) (by omega) (by omega)]
      exact ⟨_, rfl, by omega, fun h => by omega⟩) l (by omega) hw l.length 0 k (n - (l.length : Int)) (by omega) (by omega) (by omega) (by omega)
    exact ⟨r, r1, by omega, r3, fun h => ⟨by omega, fun x hx => by
      obtain ⟨i, hi, rfl⟩ := List.mem_iff_getElem.1 hx
      exact r4 h i hi (by omega)⟩⟩
theorem toStrs (l : List ByteArray) (hl : l.length ≤ 1048576) (k : Nat) (hk : 1048577 < k) : laws_toStringS.f k l = some l := by
  unfold laws_toStringS.f
  rw [if_pos (by omega), if_pos (by omega)]
  have h := to_list ByteArray.empty laws_toStringS.l0 (fun _ x => some x) (fun _ _ _ _ => rfl) id 0 l hl (fun _ _ _ _ => rfl) l.length 0 k (List.replicate ((l.length : Int) : Int).toNat (⟨#[]⟩ : ByteArray)) (by omega) (by omega) (by simp) (fun i hi => absurd hi (by omega))
  rw [List.map_id] at h
  exact h
theorem eqStrs (l : List ByteArray) (hl : l.length ≤ 1048576) (k : Nat) (hk : 1048577 < k) : laws_eqStringS.f k l l = some true := by
  unfold laws_eqStringS.f
  rw [if_pos rfl]
  exact eq_list ByteArray.empty laws_eqStringS.l0 (fun _ a b => some (decide (a.toList = b.toList))) (fun k x y i => by
    simp only [laws_eqStringS.l0, Option.bind_some, decide_eq_true_eq]; rfl) 0 l hl (fun _ _ x _ => by simp) l.length 0 k (by omega) (by omega)

def stg (x : S53) : S54 := ⟨x.f0, x.f1, x.f2, x.f3⟩
def StSm (x : S53) : Prop := x.f0.size ≤ 1048576 ∧ x.f3.length ≤ 1048576 ∧ ∀ y ∈ x.f3, y.size ≤ 1048576
theorem szStage (x : S53) (hx : wfT53 x) (n : Int) (h0 : 0 ≤ n) (h1 : n ≤ 1048576) (k : Nat) (hk : 1048577 < k) : ∃ r, laws_szStage.f k x.f0 x.f1 x.f2 x.f3 n = some r ∧ r ≤ n ∧ (0 ≤ r → StSm x) := by
  obtain ⟨w0, _, _, w1, w2⟩ := hx
  simp only [maxLen] at w0
  unfold laws_szStage.f
  rw [wrap_id (x := n - (x.f0.size : Int)) (by omega) (by omega)]
  by_cases c : n - (x.f0.size : Int) < 0
  · rw [if_pos c]; exact ⟨-1, rfl, by omega, fun h => by omega⟩
  · rw [if_neg c]
    obtain ⟨r, r1, r2, r3, r4⟩ := szStrs x.f3 w1 w2 (n - (x.f0.size : Int)) (by omega) (by omega) k hk
    rw [r1, Option.bind_some]
    by_cases c2 : r < 0
    · rw [if_pos c2]; exact ⟨-1, rfl, by omega, fun h => by omega⟩
    · rw [if_neg c2]
      exact ⟨r, rfl, by omega, fun h => ⟨by omega, (r4 h).1, (r4 h).2⟩⟩
theorem szStages (l : List S53) (hw : wfLT53 l) (n : Int) (h0 : 0 ≤ n) (h1 : n ≤ 1048576) (k : Nat) (hk : 2097154 < k) : ∃ r, laws_szStageS.f k l n = some r ∧ r ≤ n ∧ -1 ≤ r ∧ (0 ≤ r → l.length ≤ 1048576 ∧ ∀ x ∈ l, StSm x) := by
  obtain ⟨hl, hw⟩ := hw
  unfold laws_szStageS.f
  rw [wrap_id (x := n - (l.length : Int)) (by omega) (by omega)]
  by_cases c : n - (l.length : Int) < 0
  · rw [if_pos c]; exact ⟨-1, rfl, by omega, by omega, fun h => by omega⟩
  · rw [if_neg c]
    obtain ⟨r, r1, r2, r3, r4⟩ := sz_list z53 laws_szStageS.l0 (fun k x n => laws_szStage.f k x.f0 x.f1 x.f2 x.f3 n) (fun _ _ _ _ => rfl) wfT53 StSm 1048577 (fun k x n hk hx h0 h1 => szStage x hx n h0 h1 k hk) l (by omega) hw l.length 0 k (n - (l.length : Int)) (by omega) (by omega) (by omega) (by omega)
    exact ⟨r, r1, by omega, r3, fun h => ⟨by omega, fun x hx => by
      obtain ⟨i, hi, rfl⟩ := List.mem_iff_getElem.1 hx
      exact r4 h i hi (by omega)⟩⟩
theorem toStages (l : List S53) (hl : l.length ≤ 1048576) (hs : ∀ x ∈ l, StSm x) (k : Nat) (hk : 2097154 < k) : laws_toStageS.f k l = some (l.map stg) := by
  unfold laws_toStageS.f
  rw [if_pos (by omega), if_pos (by omega)]
  exact to_list z53 laws_toStageS.l0 (fun k x => (laws_toStage.f k x.f0 x.f1 x.f2 x.f3).map fun b => (⟨b.1, b.2.1, b.2.2.1, b.2.2.2⟩ : S54)) (fun k x m i => by
    simp only [laws_toStageS.l0, Option.bind_map]; rfl) stg 1048577 l hl (fun k hk x hx => by
    simp only [laws_toStage.f, toStrs x.f3 (hs x hx).2.1 k hk, Option.bind_some, Option.map_some]; rfl) l.length 0 k _ (by omega) (by omega) (by simp) (fun i hi => absurd hi (by omega))
theorem eqStages (l : List S54) (hl : l.length ≤ 1048576) (hs : ∀ x ∈ l, x.f3.length ≤ 1048576) (k : Nat) (hk : 2097154 < k) : laws_eqStageS.f k l l = some true := by
  unfold laws_eqStageS.f
  rw [if_pos rfl]
  exact eq_list z54 laws_eqStageS.l0 (fun k a b => laws_eqStage.f k a.f0 a.f1 a.f2 a.f3 b.f0 b.f1 b.f2 b.f3) (fun _ _ _ _ => rfl) 1048577 l hl (fun k hk x hx => by
    unfold laws_eqStage.f
    rw [if_pos rfl, if_pos rfl, if_pos rfl, eqStrs x.f3 (hs x hx) k hk]; rfl) l.length 0 k (by omega) (by omega)

theorem name_same (s : ByteArray) : ∀ (k : Nat) (i : Int), spec_l01Name.l0 k s i = impl_onlyNameBytes.l0 k s (s.size : Int) i := by
  intro k
  induction k with
  | zero => intro i; simp only [spec_l01Name.l0, impl_onlyNameBytes.l0]
  | succ k ih =>
    intro i
    simp only [spec_l01Name.l0, impl_onlyNameBytes.l0]
    unfold spec_l01Small.f spec_l01Digit.f
    rw [ih]
    generalize impl_onlyNameBytes.l0 k s (s.size : Int) (wrap64 (i + 1)) = e
    generalize bt s i = b
    by_cases h1 : i < (s.size : Int)
    · rw [if_pos h1, if_pos h1, if_pos h1]
      by_cases h2 : 0 ≤ i
      · rw [if_pos h2, if_pos h2]
        by_cases c1 : b < 97
        · rw [if_pos c1, if_neg (by omega)]
          by_cases c2 : b < 48
          · rw [if_pos c2, if_neg (by omega)]; simp
          · rw [if_neg c2, if_pos (by omega)]
            by_cases c3 : b > 57
            · rw [if_pos c3, decide_eq_false (by omega)]; simp
            · rw [if_neg c3, decide_eq_true (by omega)]; simp
        · rw [if_neg c1, if_pos (by omega)]
          by_cases c4 : b > 122
          · rw [if_pos c4, decide_eq_false (by omega), if_pos (by omega), if_neg (by omega), decide_eq_false (by omega), if_pos (by omega)]; simp
          · rw [if_neg c4, decide_eq_true (by omega)]; simp
      · rw [if_neg h2, if_neg h2]
    · rw [if_neg h1, if_neg h1]
theorem name_total (s : ByteArray) (hs : s.size ≤ 35184372088832) : ∀ (d j k : Nat), j + d = s.size → d < k → ∃ r, impl_onlyNameBytes.l0 k s (s.size : Int) (j : Int) = some r := by
  intro d
  induction d with
  | zero =>
    intro j k hj hk
    obtain ⟨k, rfl⟩ := suc_of hk
    simp only [impl_onlyNameBytes.l0]
    rw [if_neg (by omega)]; exact ⟨_, rfl⟩
  | succ d ih =>
    intro j k hj hk
    obtain ⟨k, rfl⟩ := suc_of hk
    obtain ⟨r, hr⟩ := ih (j + 1) k (by omega) (by omega)
    simp only [impl_onlyNameBytes.l0]
    rw [if_pos (by omega), if_pos (by omega), if_pos (by omega), next_nat (n := s.size) (by omega) (by omega), hr]
    split
    · split
      · exact ⟨_, rfl⟩
      · split
        · exact ⟨_, rfl⟩
        · exact ⟨_, rfl⟩
    · split
      · split
        · exact ⟨_, rfl⟩
        · split
          · exact ⟨_, rfl⟩
          · exact ⟨_, rfl⟩
      · exact ⟨_, rfl⟩
/-- A name is one for both. -/
theorem name_both (s : ByteArray) (hs : s.size ≤ 35184372088832) : ∃ b : Bool, (∀ k, s.size + 3 ≤ k → spec_l01Name.f k s = some b) ∧ (∀ k, s.size + 3 ≤ k → impl_IsName.f k s = some b) ∧ (b = true → 1 ≤ s.size ∧ s.size ≤ 10) := by
  obtain ⟨r, hr⟩ := name_total s hs s.size 0 (s.size + 2) (by omega) (by omega)
  have hr3 : impl_onlyNameBytes.l0 (s.size + 3) s (s.size : Int) 0 = some r := impl_onlyNameBytes.mono_l (s.size + 2) s (s.size : Int) 0 r hr
  have hr2 : impl_onlyNameBytes.l0 (s.size + 2) s (s.size : Int) 0 = some r := hr
  have key : ∃ b : Bool, spec_l01Name.f (s.size + 3) s = some b ∧ impl_IsName.f (s.size + 3) s = some b ∧ (b = true → 1 ≤ s.size ∧ s.size ≤ 10) := by
    have bad : spec_l01Name.j0 (s.size + 3) s true = some false := by simp only [spec_l01Name.j0]; simp
    unfold spec_l01Name.f impl_IsName.f impl_onlyNameBytes.f
    by_cases h0 : s.size = 0
    · have e : s.toList = [] := by
        rw [ByteArray.toList_eq]; exact List.eq_nil_of_length_eq_zero (by rw [Array.length_toList]; exact h0)
      rw [if_pos e, if_pos (by omega), bad]; exact ⟨_, rfl, rfl, by simp⟩
    · have e : ¬ s.toList = [] := by
        rw [ByteArray.toList_eq]
        intro h
        have : s.data.toList.length = 0 := by rw [h]; rfl
        rw [Array.length_toList] at this
        exact h0 this
      rw [if_neg e, if_neg (show ¬ (s.size : Int) < 1 by omega)]
      by_cases h1 : (s.size : Int) > 10
      · rw [if_pos h1, if_pos h1, bad]; exact ⟨_, rfl, rfl, by simp⟩
      · rw [if_neg h1, if_neg h1, if_pos (by omega), if_pos (by omega)]
        unfold spec_l01Small.f
        by_cases c1 : bt s 0 < 97
        · rw [if_pos c1, if_neg (by omega)]
          simp only [Option.bind_some, Bool.not_false]
          exact ⟨_, bad, rfl, by simp⟩
        · rw [if_neg c1, if_pos (by omega)]
          by_cases c2 : bt s 0 > 122
          · rw [if_pos c2, decide_eq_false (by omega)]
            simp only [Option.bind_some, Bool.not_false]
            exact ⟨_, bad, rfl, by simp⟩
          · rw [if_neg c2, decide_eq_true (by omega), hr3]
            simp only [Option.bind_some, Bool.not_true]
            refine ⟨r, ?_, rfl, fun _ => by omega⟩
            simp only [spec_l01Name.j0]
            rw [if_neg Bool.false_ne_true, name_same]
            exact hr2
  obtain ⟨b, h1, h2, h3⟩ := key
  exact ⟨b, up (spec_l01Name.mono s) h1, up (impl_IsName.mono s) h2, h3⟩

theorem impl_in (n lo hi : Int) : impl_within.f n lo hi = some (decide (lo ≤ n ∧ n ≤ hi)) := by unfold impl_within.f; split <;> simp <;> omega

theorem spec_in (n lo hi : Int) : spec_l00In.f n lo hi = some (decide (lo ≤ n ∧ n ≤ hi)) := by unfold spec_l00In.f; split <;> simp <;> omega

def sat (L : List S54) (i : Nat) : S54 := L.getD i z54
theorem rdS (L : List S54) (i : Nat) : rd_T54 L (i : Int) = sat L i := rfl
def less (a b : ByteArray) : Bool := Op.bytesLess a.toList b.toList
def nv (s : ByteArray) : Bool := (impl_IsName.f 1048620 s).getD false
theorem nv_spec (s : ByteArray) (hs : s.size ≤ 1048576) : (∀ k, 1048620 ≤ k → spec_l01Name.f k s = some (nv s)) ∧ (∀ k, 1048620 ≤ k → impl_IsName.f k s = some (nv s)) := by
  obtain ⟨v, v1, v2, _⟩ := name_both s (by omega)
  have e : nv s = v := by unfold nv; rw [v2 1048620 (by omega)]; rfl
  exact ⟨fun k hk => by rw [e]; exact v1 k (by omega), fun k hk => by rw [e]; exact v2 k (by omega)⟩
def sfind (L : List S54) (s : ByteArray) : Nat → Nat → Int
  | 0, _ => -1
  | d + 1, j => if (sat L j).f0.toList = s.toList then (j : Int) else sfind L s d (j + 1)
theorem sfind_s (L : List S54) (s : ByteArray) (d j : Nat) : sfind L s (d + 1) j = if (sat L j).f0.toList = s.toList then (j : Int) else sfind L s d (j + 1) := rfl
theorem spec_find (L : List S54) (hL : L.length ≤ 8) (s : ByteArray) : ∀ (d j k : Nat), j + d = L.length → d < k → spec_l24Find.l0 k L s (j : Int) = some (sfind L s d j) := by
  intro d
  induction d with
  | zero =>
    intro j k hj hk
    obtain ⟨k, rfl⟩ := suc_of hk
    simp only [spec_l24Find.l0]
    rw [if_neg (by omega)]; rfl
  | succ d ih =>
    intro j k hj hk
    obtain ⟨k, rfl⟩ := suc_of hk
    have hr := ih (j + 1) k (by omega) (by omega)
    simp only [spec_l24Find.l0, show ∀ i : Nat, rd_T54 L (i : Int) = sat L i from fun _ => rfl]
    rw [if_pos (by omega), if_pos (by omega), next_nat (n := L.length) (by omega) (by omega), hr]
    rw [sfind_s]
    by_cases c : (sat L j).f0.toList = s.toList
    · rw [if_pos c, if_pos c]
    · rw [if_neg c, if_neg c]
theorem impl_find (L : List S54) (hL : L.length ≤ 8) (s : ByteArray) : ∀ (d j k : Nat), j + d = L.length → d < k → impl_Stage_c65.l0 k L (L.length : Int) (j : Int) [s] = some (sfind L s d j) := by
  intro d
  induction d with
  | zero =>
    intro j k hj hk
    obtain ⟨k, rfl⟩ := suc_of hk
    simp only [impl_Stage_c65.l0]
    rw [if_neg (by omega)]; rfl
  | succ d ih =>
    intro j k hj hk
    obtain ⟨k, rfl⟩ := suc_of hk
    have hr := ih (j + 1) k (by omega) (by omega)
    simp only [impl_Stage_c65.l0, show ∀ i : Nat, rd_T54 L (i : Int) = sat L i from fun _ => rfl, impl_stageAt_1.f]
    rw [if_pos (by omega), if_pos (by omega), if_pos (by omega), if_pos (by simp), Option.bind_some, next_nat (n := L.length) (by omega) (by omega), hr, show rdOf ByteArray.empty [s] 0 = s from rfl]
    rw [sfind_s]
    by_cases c : (sat L j).f0.toList = s.toList
    · rw [if_pos (beq_iff_eq.2 c), if_pos c]
    · rw [if_neg (fun h => c (beq_iff_eq.1 h)), if_neg c]
def fnd (L : List S54) (s : ByteArray) : Int := sfind L s L.length 0
theorem spec_fnd (L : List S54) (hL : L.length ≤ 8) (s : ByteArray) (k : Nat) (hk : 8 < k) : spec_l24Find.f k L s = some (fnd L s) := by
  unfold spec_l24Find.f fnd
  exact spec_find L hL s L.length 0 k (by omega) (by omega)
theorem impl_fnd (L : List S54) (hL : L.length ≤ 8) (s : ByteArray) (k : Nat) (hk : 8 < k) : impl_stageAt.f k L s = some (fnd L s) := by
  unfold impl_stageAt.f impl_Stage_c65.f fnd
  have h := impl_find L hL s L.length 0 k (by omega) (by omega)
  rw [show ((0 : Nat) : Int) = 0 from rfl] at h
  rw [h]; rfl
theorem spec_has_l0 (B : List Int) (hB : B.length ≤ 1048576) (x : Int) : ∀ (d j k : Nat), j + d = B.length → d < k → spec_l00Has.l0 k B x (j : Int) = some (decide (x ∈ B.drop j)) := by
  intro d
  induction d with
  | zero =>
    intro j k hj hk
    obtain ⟨k, rfl⟩ := suc_of hk
    simp only [spec_l00Has.l0]
    rw [if_neg (by omega), List.drop_eq_nil_of_le (by omega)]; simp
  | succ d ih =>
    intro j k hj hk
    obtain ⟨k, rfl⟩ := suc_of hk
    have hr := ih (j + 1) k (by omega) (by omega)
    simp only [spec_l00Has.l0]
    rw [if_pos (by omega), if_pos (by omega), next_nat (n := B.length) (by omega) (by omega), hr, rd_nat, drop_cons B (j := j) (by omega) 0]
    by_cases c : B.getD j 0 = x
    · rw [if_pos c, c]; simp
    · rw [if_neg c]
      have c2 : ¬ x = B.getD j 0 := fun h => c h.symm
      simp only [List.mem_cons, c2, false_or]
theorem spec_has (B : List Int) (hB : B.length ≤ 1048576) (x : Int) (k : Nat) (hk : B.length < k) : spec_l00Has.f k B x = some (decide (x ∈ B)) := by
  unfold spec_l00Has.f
  have h := spec_has_l0 B hB x B.length 0 k (by omega) hk
  rw [List.drop_zero] at h; exact h
theorem impl_has_l0 (B : List Int) (hB : B.length ≤ 1048576) (x : Int) : ∀ (d j k : Nat), j + d = B.length → d < k → ∃ t, slices_Index_int64_int64.l0 k B x (B.length : Int) (j : Int) = some t ∧ decide (t ≥ 0) = decide (x ∈ B.drop j) := by
  intro d
  induction d with
  | zero =>
    intro j k hj hk
    obtain ⟨k, rfl⟩ := suc_of hk
    simp only [slices_Index_int64_int64.l0]
    rw [if_neg (by omega), List.drop_eq_nil_of_le (by omega)]; exact ⟨-1, rfl, by simp⟩
  | succ d ih =>
    intro j k hj hk
    obtain ⟨k, rfl⟩ := suc_of hk
    obtain ⟨t, t1, t2⟩ := ih (j + 1) k (by omega) (by omega)
    simp only [slices_Index_int64_int64.l0]
    rw [if_pos (by omega), if_pos (by omega), if_pos (by omega), next_nat (n := B.length) (by omega) (by omega), t1, rd_nat, drop_cons B (j := j) (by omega) 0]
    by_cases c : x = B.getD j 0
    · rw [if_pos c, ← c]; exact ⟨(j : Int), rfl, by simp⟩
    · rw [if_neg c]; refine ⟨t, rfl, ?_⟩; rw [t2]; simp only [List.mem_cons, c, false_or]
theorem impl_has (B : List Int) (hB : B.length ≤ 1048576) (x : Int) (k : Nat) (hk : B.length < k) : slices_Contains_int64_int64.f k B x = some (decide (x ∈ B)) := by
  unfold slices_Contains_int64_int64.f slices_Index_int64_int64.f
  obtain ⟨t, t1, t2⟩ := impl_has_l0 B hB x B.length 0 k (by omega) hk
  rw [show ((0 : Nat) : Int) = 0 from rfl] at t1
  rw [t1, Option.bind_some, t2, List.drop_zero]
/-- All that is needed is there. -/
def rdy (L : List S54) (B : List Int) (N : List ByteArray) : Bool := N.all fun s => decide (fnd L s ∈ B)
theorem drop_consS (l : List ByteArray) {j : Nat} (h : j < l.length) : l.drop j = l.getD j ByteArray.empty :: l.drop (j + 1) := drop_cons l h _
theorem rdOf_nat (l : List ByteArray) (j : Nat) : rdOf ByteArray.empty l (j : Int) = l.getD j ByteArray.empty := rfl
theorem spec_rdy (L : List S54) (hL : L.length ≤ 8) (B : List Int) (hB : B.length ≤ 8) (i : Nat) (hi : i < L.length) (hN : (sat L i).f3.length ≤ 1048576) : ∀ (d j k : Nat), j + d = (sat L i).f3.length → 20 + d < k → spec_l24Ready.l0 k L B (i : Int) (j : Int) = some (rdy L B ((sat L i).f3.drop j)) := by
  intro d
  induction d with
  | zero =>
    intro j k hj hk
    obtain ⟨k, rfl⟩ := suc_of hk
    simp only [spec_l24Ready.l0, show ∀ i : Nat, rd_T54 L (i : Int) = sat L i from fun _ => rfl]
    rw [if_pos (by omega), if_pos (by omega), if_neg (by omega), List.drop_eq_nil_of_le (by omega)]; rfl
  | succ d ih =>
    intro j k hj hk
    obtain ⟨k, rfl⟩ := suc_of hk
    have hr := ih (j + 1) k (by omega) (by omega)
    simp only [spec_l24Ready.l0, show ∀ i : Nat, rd_T54 L (i : Int) = sat L i from fun _ => rfl, show ∀ (l : List ByteArray) (j : Nat), rdOf ByteArray.empty l (j : Int) = l.getD j ByteArray.empty from fun _ _ => rfl]
    rw [if_pos (by omega), if_pos (by omega), if_pos (by omega), if_pos (by omega), spec_fnd L hL _ k (by omega), Option.bind_some, spec_has B (by omega) _ k (by omega), Option.bind_some, next_nat (n := (sat L i).f3.length) (by omega) (by omega), hr, drop_consS _ (j := j) (by omega)]
    unfold rdy
    simp only [List.all_cons]
    cases decide (fnd L ((sat L i).f3.getD j ByteArray.empty) ∈ B) <;> simp
theorem impl_rdy_l0 (L : List S54) (hL : L.length ≤ 8) (B : List Int) (hB : B.length ≤ 8) (N : List ByteArray) (hN : N.length ≤ 1048576) : ∀ (d j k : Nat), j + d = N.length → 20 + d < k → ∃ t, slices_IndexFunc_string_string_c82.l0 k N (N.length : Int) (j : Int) [B] [L] = some t ∧ decide (t ≥ 0) = !rdy L B (N.drop j) := by
  intro d
  induction d with
  | zero =>
    intro j k hj hk
    obtain ⟨k, rfl⟩ := suc_of hk
    simp only [slices_IndexFunc_string_string_c82.l0]
    rw [if_neg (by omega), List.drop_eq_nil_of_le (by omega)]; exact ⟨-1, rfl, by simp [rdy]⟩
  | succ d ih =>
    intro j k hj hk
    obtain ⟨k, rfl⟩ := suc_of hk
    obtain ⟨t, t1, t2⟩ := ih (j + 1) k (by omega) (by omega)
    simp only [slices_IndexFunc_string_string_c82.l0, show ∀ (l : List ByteArray) (j : Nat), rdOf ByteArray.empty l (j : Int) = l.getD j ByteArray.empty from fun _ _ => rfl, impl_hasNeeds_1.f]
    rw [if_pos (by omega), if_pos (by omega), if_pos (by omega), if_pos (by simp), if_pos (by simp), show rd_L6 [L] 0 = L from rfl, show rd_L5 [B] 0 = B from rfl, impl_fnd L hL _ k (by omega), Option.bind_some, impl_has B (by omega) _ k (by omega), Option.bind_some, Option.bind_some, next_nat (n := N.length) (by omega) (by omega), t1, drop_consS N (j := j) (by omega)]
    unfold rdy
    simp only [List.all_cons]
    cases decide (fnd L (N.getD j ByteArray.empty) ∈ B)
    · exact ⟨(j : Int), rfl, by simp⟩
    · rw [if_neg (by simp)]; refine ⟨t, rfl, ?_⟩; rw [t2]; simp [rdy]
theorem impl_rdy (L : List S54) (hL : L.length ≤ 8) (B : List Int) (hB : B.length ≤ 8) (i : Nat) (hi : i < L.length) (hN : (sat L i).f3.length ≤ 1048576) (k : Nat) (hk : 1048600 < k) : impl_hasNeeds.f k L B (i : Int) = some (rdy L B (sat L i).f3) := by
  unfold impl_hasNeeds.f slices_ContainsFunc_string_string_c82.f slices_IndexFunc_string_string_c82.f
  rw [if_pos (by omega), if_pos (by omega), rdS]
  obtain ⟨t, t1, t2⟩ := impl_rdy_l0 L hL B hB (sat L i).f3 hN (sat L i).f3.length 0 k (by omega) (by omega)
  rw [show ((0 : Nat) : Int) = 0 from rfl] at t1
  rw [t1]
  simp only [Option.bind_some]
  rw [t2, List.drop_zero, Bool.not_not]
def pick (L : List S54) (B : List Int) (i : Nat) : Bool := !decide ((i : Int) ∈ B) && rdy L B (sat L i).f3
theorem impl_pick (L : List S54) (hL : L.length ≤ 8) (B : List Int) (hB : B.length ≤ 8) (i : Nat) (hi : i < L.length) (hN : (sat L i).f3.length ≤ 1048576) (k : Nat) (hk : 1048600 < k) : impl_firstOrder_1.f k (i : Int) [B] [L] = some (pick L B i) := by
  unfold impl_firstOrder_1.f pick
  rw [if_pos (by simp), if_pos (by simp), show rd_L6 [L] 0 = L from rfl, show rd_L5 [B] 0 = B from rfl, impl_has B (by omega) _ k (by omega), Option.bind_some, impl_rdy L hL B hB i hi hN k hk]
  cases decide ((i : Int) ∈ B) <;> rfl
/-- All stages. -/
def al (n : Nat) : List Int := (List.range n).map fun i : Nat => (i : Int)
theorem al_len (n : Nat) : (al n).length = n := by simp [al]
theorem al_get (n i : Nat) (h : i < n) : (al n).getD i 0 = (i : Int) := by
  rw [getD_lt (by rw [al_len]; exact h)]; simp [al]
theorem al_mem (n : Nat) (x : Int) : x ∈ al n ↔ 0 ≤ x ∧ x < (n : Int) := by
  unfold al
  rw [List.mem_map]
  constructor
  · rintro ⟨i, hi, rfl⟩
    rw [List.mem_range] at hi; omega
  · intro h
    exact ⟨x.toNat, List.mem_range.2 (by omega), by omega⟩
theorem impl_all_l0 (n : Nat) (hn : n ≤ 8) : ∀ (d j k : Nat) (m : List Int), j + d = n → d < k → m.length = n → (∀ i, i < j → m[i]? = (al n)[i]?) → impl_allStages.l0 k m (n : Int) (j : Int) = some (al n) := by
  intro d
  induction d with
  | zero =>
    intro j k m hj hk hm hp
    obtain ⟨k, rfl⟩ := suc_of hk
    simp only [impl_allStages.l0]
    rw [if_neg (by omega)]
    congr 1
    apply List.ext_getElem?
    intro i
    by_cases hi : i < j
    · exact hp i hi
    · rw [List.getElem?_eq_none (by omega), List.getElem?_eq_none (by rw [al_len]; omega)]
  | succ d ih =>
    intro j k m hj hk hm hp
    obtain ⟨k, rfl⟩ := suc_of hk
    simp only [impl_allStages.l0]
    rw [if_pos (by omega), if_pos (by omega), if_pos (by omega), next_nat (n := n) (by omega) (by omega), Int.toNat_natCast]
    refine ih (j + 1) k _ (by omega) (by omega) (by simpa using hm) (fun i hi => ?_)
    rw [List.getElem?_set]
    by_cases e : j = i
    · subst e
      rw [if_pos rfl, if_pos (by omega), List.getElem?_eq_getElem (by rw [al_len]; omega)]
      simp [al]
    · rw [if_neg e]; exact hp i (by omega)
theorem impl_alls (L : List S54) (hL : L.length ≤ 8) (k : Nat) (hk : 8 < k) : impl_allStages.f k L = some (al L.length) := by
  unfold impl_allStages.f
  rw [if_pos (by omega), if_pos (by omega), Option.bind_some]
  have e : ((List.replicate ((L.length : Int) : Int).toNat (0 : Int)).length : Int) = (L.length : Int) := by simp
  rw [e]
  exact impl_all_l0 L.length hL L.length 0 k _ (by omega) (by omega) (by simp) (fun i hi => absurd hi (by omega))
theorem len_le : ∀ (B C : List Int), B.Nodup → (∀ x ∈ B, x ∈ C) → B.length ≤ C.length
  | [], C, _, _ => by simp
  | b :: B, C, hn, hs => by
    rw [List.nodup_cons] at hn
    have h := len_le B (C.erase b) hn.2 (fun x hx => by
      have : x ≠ b := fun e => hn.1 (e ▸ hx)
      exact (List.mem_erase_of_ne this).2 (hs x (by simp [hx])))
    have hb : b ∈ C := hs b (by simp)
    rw [List.length_erase_of_mem hb] at h
    have := List.length_pos_of_mem hb
    simp only [List.length_cons]; omega
def Clo (L : List S54) (X : Int → Prop) : Prop := ∀ i : Nat, i < L.length → (∀ s ∈ (sat L i).f3, X (fnd L s)) → X (i : Int)
def Good (L : List S54) (B : List Int) : Prop := B.Nodup ∧ (∀ x ∈ B, 0 ≤ x ∧ x < (L.length : Int)) ∧ ∀ X : Int → Prop, Clo L X → ∀ x ∈ B, X x
theorem Good.len {L : List S54} {B : List Int} (h : Good L B) : B.length ≤ L.length := by
  have := len_le B (al L.length) h.1 (fun x hx => (al_mem _ x).2 (h.2.1 x hx))
  rwa [al_len] at this
theorem pick_iff {L : List S54} {B : List Int} {i : Nat} : pick L B i = true ↔ ¬ (i : Int) ∈ B ∧ ∀ s ∈ (sat L i).f3, fnd L s ∈ B := by
  unfold pick rdy
  rw [Bool.and_eq_true, Bool.not_eq_true', decide_eq_false_iff_not, List.all_eq_true]
  constructor
  · intro h; exact ⟨h.1, fun s hs => by simpa using h.2 s hs⟩
  · intro h; exact ⟨h.1, fun s hs => by simpa using h.2 s hs⟩
theorem Good.step {L : List S54} {B : List Int} (h : Good L B) {i : Nat} (hi : i < L.length) (hp : pick L B i = true) : Good L (B ++ [(i : Int)]) := by
  obtain ⟨p1, p2⟩ := pick_iff.1 hp
  refine ⟨?_, ?_, ?_⟩
  · rw [List.nodup_append]
    refine ⟨h.1, by simp, ?_⟩
    intro a ha b hb e
    simp only [List.mem_singleton] at hb
    subst hb; exact p1 (e ▸ ha)
  · intro x hx
    rcases List.mem_append.1 hx with hx | hx
    · exact h.2.1 x hx
    · simp only [List.mem_singleton] at hx; subst hx; omega
  · intro X hX x hx
    rcases List.mem_append.1 hx with hx | hx
    · exact h.2.2 X hX x hx
    · simp only [List.mem_singleton] at hx; subst hx
      exact hX i hi (fun s hs => h.2.2 X hX _ (p2 s hs))
theorem clo_of {L : List S54} {B : List Int} (h : ∀ i, i < L.length → pick L B i = false) : Clo L (fun x => x ∈ B) := by
  intro i hi hs
  by_cases c : (i : Int) ∈ B
  · exact c
  · have := h i hi
    rw [pick_iff.2 ⟨c, hs⟩] at this; cases this
theorem idx_pick (L : List S54) (hL : L.length ≤ 8) (hN : ∀ i, i < L.length → (sat L i).f3.length ≤ 1048576) (B : List Int) (hB : B.length ≤ 8) : ∀ (d j k : Nat), j + d = L.length → 1048610 + d < k → ∃ t, slices_IndexFunc_int64_int64_c67.l0 k (al L.length) (L.length : Int) (j : Int) [B] [L] = some t ∧ ((t = -1 ∧ ∀ i, j ≤ i → i < L.length → pick L B i = false) ∨ ∃ i : Nat, i < L.length ∧ t = (i : Int) ∧ pick L B i = true) := by
  intro d
  induction d with
  | zero =>
    intro j k hj hk
    obtain ⟨k, rfl⟩ := suc_of hk
    simp only [slices_IndexFunc_int64_int64_c67.l0]
    rw [if_neg (by omega)]; exact ⟨-1, rfl, Or.inl ⟨rfl, fun i h1 h2 => by omega⟩⟩
  | succ d ih =>
    intro j k hj hk
    obtain ⟨k, rfl⟩ := suc_of hk
    obtain ⟨t, t1, t2⟩ := ih (j + 1) k (by omega) (by omega)
    have hl := al_len L.length
    simp only [slices_IndexFunc_int64_int64_c67.l0]
    rw [if_pos (by omega), if_pos (by omega), if_pos (by omega), rd_nat, al_get _ _ (by omega), impl_pick L hL B hB j (by omega) (hN j (by omega)) k (by omega), Option.bind_some, next_nat (n := L.length) (by omega) (by omega), t1]
    cases c : pick L B j
    · rw [if_neg Bool.false_ne_true]
      refine ⟨t, rfl, ?_⟩
      rcases t2 with ⟨e, h⟩ | h
      · refine Or.inl ⟨e, fun i h1 h2 => ?_⟩
        by_cases e : i = j
        · subst e; exact c
        · exact h i (by omega) h2
      · exact Or.inr h
    · rw [if_pos rfl]; exact ⟨(j : Int), rfl, Or.inr ⟨j, by omega, rfl, c⟩⟩
theorem impl_order (L : List S54) (hL : L.length ≤ 8) (hN : ∀ i, i < L.length → (sat L i).f3.length ≤ 1048576) : ∀ (d : Nat) (B : List Int), Good L B → L.length ≤ B.length + d → ∃ B', Good L B' ∧ Clo L (fun x => x ∈ B') ∧ ∀ k, 1048630 + d < k → impl_firstOrder.l0 k (al L.length) L B = some B' := by
  intro d
  induction d with
  | zero =>
    intro B hB hd
    have hl := hB.len
    obtain ⟨t, t1, t2⟩ := idx_pick L hL hN B (by omega) L.length 0 1048630 (by omega) (by omega)
    have hno : ∀ i, i < L.length → pick L B i = false := by
      intro i hi
      cases c : pick L B i with
      | false => rfl
      | true =>
        have := (hB.step hi c).len
        rw [List.length_append] at this
        simp only [List.length_cons, List.length_nil] at this; omega
    refine ⟨B, hB, clo_of hno, fun k hk => ?_⟩
    obtain ⟨k, rfl⟩ := suc_of hk
    obtain ⟨t, t1, t2⟩ := idx_pick L hL hN B (by omega) L.length 0 k (by omega) (by omega)
    simp only [impl_firstOrder.l0, slices_IndexFunc_int64_int64_c67.f]
    rw [show ((0 : Nat) : Int) = 0 from rfl] at t1
    rw [al_len, t1, Option.bind_some]
    rcases t2 with ⟨e, _⟩ | ⟨i, h1, _, h3⟩
    · rw [if_pos (by omega)]
    · rw [hno i h1] at h3; cases h3
  | succ d ih =>
    intro B hB hd
    have hl := hB.len
    obtain ⟨t, t1, t2⟩ := idx_pick L hL hN B (by omega) L.length 0 1048630 (by omega) (by omega)
    have same : ∀ k, 1048620 < k → slices_IndexFunc_int64_int64_c67.l0 k (al L.length) (L.length : Int) 0 [B] [L] = some t := by
      intro k hk
      have hlow : ∀ q, 1048620 ≤ q → ∀ r, slices_IndexFunc_int64_int64_c67.l0 q (al L.length) (L.length : Int) 0 [B] [L] = some r → slices_IndexFunc_int64_int64_c67.l0 (q + 1) (al L.length) (L.length : Int) 0 [B] [L] = some r := fun q _ r h => slices_IndexFunc_int64_int64_c67.mono_l q |> fun m => (by first | exact m _ _ _ _ _ r h | exact m.1 _ _ _ _ _ r h)
      obtain ⟨t', t1', _⟩ := idx_pick L hL hN B (by omega) L.length 0 1048620 (by omega) (by omega)
      have g : ∀ e, slices_IndexFunc_int64_int64_c67.l0 (1048620 + e) (al L.length) (L.length : Int) 0 [B] [L] = some t' := by
        intro e
        induction e with
        | zero => exact t1'
        | succ e ihe => exact hlow (1048620 + e) (by omega) _ ihe
      have e1 := g 10
      rw [show (1048620 + 10 : Nat) = 1048630 from rfl] at e1
      have e2 := g (k - 1048620)
      rw [show 1048620 + (k - 1048620) = k by omega] at e2
      rw [show ((0 : Nat) : Int) = 0 from rfl] at t1
      rw [t1] at e1
      rw [e2, ← e1]
    rcases t2 with ⟨e, h⟩ | ⟨i, h1, h2, h3⟩
    · refine ⟨B, hB, clo_of (fun i hi => h i (by omega) hi), fun k hk => ?_⟩
      obtain ⟨k, rfl⟩ := suc_of hk
      simp only [impl_firstOrder.l0, slices_IndexFunc_int64_int64_c67.f]
      rw [al_len, same k (by omega), Option.bind_some, if_pos (by omega)]
    · obtain ⟨B', g1, g2, g3⟩ := ih (B ++ [(i : Int)]) (hB.step h1 h3) (by rw [List.length_append]; simp only [List.length_cons, List.length_nil]; omega)
      refine ⟨B', g1, g2, fun k hk => ?_⟩
      obtain ⟨k, rfl⟩ := suc_of hk
      simp only [impl_firstOrder.l0, slices_IndexFunc_int64_int64_c67.f]
      have hl2 := al_len L.length
      rw [al_len, same k (by omega), Option.bind_some, h2, if_neg (by omega), if_pos (by omega), if_pos (by omega), rd_nat, al_get _ _ h1, if_pos (by omega)]
      exact g3 k (by omega)
theorem spec_pass (L : List S54) (hL : L.length ≤ 8) (hN : ∀ i, i < L.length → (sat L i).f3.length ≤ 1048576) (t : Int) : ∀ (d j : Nat) (B : List Int), j + d = L.length → Good L B → ∃ B', Good L B' ∧ ((B' = B ∧ ∀ i, j ≤ i → i < L.length → pick L B i = false) ∨ B.length < B'.length) ∧ ∀ (r : Bool) (K : Nat), (∀ k, K ≤ k → spec_l24Ok.l2 k L B' (wrap64 (t + 1)) = some r) → ∀ k, K + d < k → 1048620 + d < k → spec_l24Ok.l3 k L B t (j : Int) = some r := by
  intro d
  induction d with
  | zero =>
    intro j B hj hB
    refine ⟨B, hB, Or.inl ⟨rfl, fun i h1 h2 => by omega⟩, fun r K hr k hk hk2 => ?_⟩
    obtain ⟨k, rfl⟩ := suc_of hk
    simp only [spec_l24Ok.l3]
    rw [if_neg (by omega)]
    exact hr k (by omega)
  | succ d ih =>
    intro j B hj hB
    have hl := hB.len
    have head : ∀ k, 1048620 < k → spec_l24Ok.l3 (k + 1) L B t (j : Int) = if pick L B j = true then spec_l24Ok.l3 k L (B ++ [(j : Int)]) t ((j + 1 : Nat) : Int) else spec_l24Ok.l3 k L B t ((j + 1 : Nat) : Int) := by
      intro k hk
      simp only [spec_l24Ok.l3]
      unfold spec_l24Ready.f
      have hr := spec_rdy L hL B (by omega) j (by omega) (hN j (by omega)) (sat L j).f3.length 0 k (by omega) (by have := hN j (by omega); omega)
      rw [show ((0 : Nat) : Int) = 0 from rfl, List.drop_zero] at hr
      rw [if_pos (by omega), spec_has B (by omega) _ k (by omega), Option.bind_some, hr, Option.bind_some, next_nat (n := L.length) (by omega) (by omega), if_pos (show B.length < 17592186044416 by omega)]
      unfold pick
      cases decide ((j : Int) ∈ B)
      · rw [if_neg Bool.false_ne_true]; cases rdy L B (sat L j).f3 <;> rfl
      · rfl
    cases c : pick L B j with
    | false =>
      obtain ⟨B', b1, b2, b3⟩ := ih (j + 1) B (by omega) hB
      refine ⟨B', b1, ?_, fun r K hr k hk hk2 => ?_⟩
      · rcases b2 with ⟨e, h⟩ | h
        · refine Or.inl ⟨e, fun i h1 h2 => ?_⟩
          by_cases e2 : i = j
          · subst e2; exact c
          · exact h i (by omega) h2
        · exact Or.inr h
      · obtain ⟨k, rfl⟩ := suc_of hk
        rw [head k (by omega), c, if_neg Bool.false_ne_true]
        exact b3 r K hr k (by omega) (by omega)
    | true =>
      obtain ⟨B', b1, b2, b3⟩ := ih (j + 1) (B ++ [(j : Int)]) (by omega) (hB.step (by omega) c)
      refine ⟨B', b1, Or.inr ?_, fun r K hr k hk hk2 => ?_⟩
      · have e : (B ++ [(j : Int)]).length = B.length + 1 := by simp
        rcases b2 with ⟨h, _⟩ | h
        · rw [h]; omega
        · omega
      · obtain ⟨k, rfl⟩ := suc_of hk
        rw [head k (by omega), c, if_pos rfl]
        exact b3 r K hr k (by omega) (by omega)
theorem spec_turns (L : List S54) (hL : L.length ≤ 8) (hN : ∀ i, i < L.length → (sat L i).f3.length ≤ 1048576) : ∀ (e t : Nat) (B : List Int), t + e = L.length → Good L B → (Clo L (fun x => x ∈ B) ∨ t ≤ B.length) → ∃ B', Good L B' ∧ (Clo L (fun x => x ∈ B') ∨ L.length ≤ B'.length) ∧ ∀ k, 1048650 + 20 * e < k → spec_l24Ok.l2 k L B (t : Int) = some ((B'.length : Int) == (L.length : Int)) := by
  intro e
  induction e with
  | zero =>
    intro t B ht hB hc
    refine ⟨B, hB, ?_, fun k hk => ?_⟩
    · rcases hc with h | h
      · exact Or.inl h
      · exact Or.inr (by omega)
    · obtain ⟨k, rfl⟩ := suc_of hk
      simp only [spec_l24Ok.l2]
      rw [if_neg (by omega)]
  | succ e ih =>
    intro t B ht hB hc
    obtain ⟨B1, b1, b2, b3⟩ := spec_pass L hL hN (t : Int) L.length 0 B (by omega) hB
    have hc1 : Clo L (fun x => x ∈ B1) ∨ t + 1 ≤ B1.length := by
      rcases b2 with ⟨e, h⟩ | h
      · subst e; exact Or.inl (clo_of (fun i hi => h i (by omega) hi))
      · rcases hc with hc | hc
        · have := len_le B1 B b1.1 (fun x hx => b1.2.2 _ hc x hx)
          omega
        · exact Or.inr (by omega)
    obtain ⟨B', g1, g2, g3⟩ := ih (t + 1) B1 (by omega) b1 hc1
    refine ⟨B', g1, g2, fun k hk => ?_⟩
    obtain ⟨k, rfl⟩ := suc_of hk
    simp only [spec_l24Ok.l2]
    rw [if_pos (by omega)]
    refine b3 _ (1048651 + 20 * e) (fun k hk => ?_) k (by omega) (by omega)
    rw [next_nat (n := L.length) (by omega) (by omega)]
    exact g3 k (by omega)
theorem good_nil (L : List S54) : Good L [] := ⟨by simp, by simp, by simp⟩
/-- All stages can be built, for both. -/
theorem order_both (L : List S54) (hL : L.length ≤ 8) (hN : ∀ i, i < L.length → (sat L i).f3.length ≤ 1048576) : ∃ r : Bool, (∀ k, 1048900 ≤ k → spec_l24Ok.l2 k L [] 0 = some r) ∧ (∀ k, 1048900 ≤ k → ((impl_allStages.f k L).bind fun t204 => ((impl_firstOrder.f k L t204).bind fun t207 => (some ((t207.length : Int) == (L.length : Int))))) = some r) := by
  obtain ⟨B, b1, b2, b3⟩ := spec_turns L hL hN L.length 0 [] (by omega) (good_nil L) (Or.inr (by simp))
  obtain ⟨C, c1, c2, c3⟩ := impl_order L hL hN L.length [] (good_nil L) (by simp)
  have hb := b1.len
  have hc := c1.len
  refine ⟨(B.length : Int) == (L.length : Int), fun k hk => b3 k (by omega), fun k hk => ?_⟩
  rw [impl_alls L hL k (by omega), Option.bind_some]
  unfold impl_firstOrder.f
  rw [c3 k (by omega), Option.bind_some]
  congr 1
  have key : C.length = L.length ↔ B.length = L.length := by
    constructor
    · intro h
      rcases b2 with b2 | b2
      · have := len_le C B c1.1 (fun x hx => c1.2.2 _ b2 x hx)
        omega
      · omega
    · intro h
      have := len_le B C b1.1 (fun x hx => b1.2.2 _ c2 x hx)
      omega
  by_cases h : C.length = L.length
  · rw [h, key.1 h]
  · have h2 : ¬ B.length = L.length := fun e => h (key.2 e)
    have e1 : ((C.length : Int) == (L.length : Int)) = false := by simpa using fun e => h (by omega)
    have e2 : ((B.length : Int) == (L.length : Int)) = false := by simpa using fun e => h2 (by omega)
    rw [e1, e2]
def ndOk (L : List S54) (N : List ByteArray) (j : Nat) : Bool := decide (0 ≤ fnd L (N.getD j ByteArray.empty)) && (if j = 0 then true else less (N.getD (j - 1) ByteArray.empty) (N.getD j ByteArray.empty))
def ndAll (L : List S54) (N : List ByteArray) : Nat → Nat → Bool
  | 0, _ => true
  | d + 1, j => ndOk L N j && ndAll L N d (j + 1)
theorem ndAll_s (L : List S54) (N : List ByteArray) (d j : Nat) : ndAll L N (d + 1) j = (ndOk L N j && ndAll L N d (j + 1)) := rfl
theorem spec_nd (L : List S54) (hL : L.length ≤ 8) (i : Nat) (hi : i < L.length) (hN : (sat L i).f3.length ≤ 8) (K : Nat) (r : Bool) (hr : ∀ k, K ≤ k → spec_l24Ok.l0 k L ((i + 1 : Nat) : Int) = some r) : ∀ (d j k : Nat), j + d = (sat L i).f3.length → K + d < k → 20 + d < k → spec_l24Ok.l1 k L (i : Int) (j : Int) = some (ndAll L (sat L i).f3 d j && r) := by
  intro d
  induction d with
  | zero =>
    intro j k hj hk hk2
    obtain ⟨k, rfl⟩ := suc_of hk
    simp only [spec_l24Ok.l1, show ∀ i : Nat, rd_T54 L (i : Int) = sat L i from fun _ => rfl]
    rw [if_pos (by omega), if_pos (by omega), if_neg (by omega), next_nat (n := L.length) (by omega) (by omega), hr k (by omega)]; rfl
  | succ d ih =>
    intro j k hj hk hk2
    obtain ⟨k, rfl⟩ := suc_of hk
    have h := ih (j + 1) k (by omega) (by omega) (by omega)
    simp only [spec_l24Ok.l1, show ∀ i : Nat, rd_T54 L (i : Int) = sat L i from fun _ => rfl, show ∀ (l : List ByteArray) (j : Nat), rdOf ByteArray.empty l (j : Int) = l.getD j ByteArray.empty from fun _ _ => rfl]
    rw [if_pos (by omega), if_pos (by omega), if_pos (by omega), if_pos (by omega), spec_fnd L hL _ k (by omega), Option.bind_some, next_nat (n := (sat L i).f3.length) (by omega) (by omega), h, ndAll_s]
    generalize ndAll L (sat L i).f3 d (j + 1) = R
    unfold ndOk
    by_cases c : fnd L ((sat L i).f3.getD j ByteArray.empty) < 0
    · rw [if_pos c, decide_eq_false (by omega)]; rfl
    · rw [if_neg c, decide_eq_true (p := 0 ≤ fnd L ((sat L i).f3.getD j ByteArray.empty)) (by omega), Bool.true_and]
      by_cases hz : j = 0
      · rw [if_neg (show ¬ (j : Int) > 0 by omega), if_pos hz]; rfl
      · have ew : wrap64 ((j : Int) - 1) = ((j - 1 : Nat) : Int) := by rw [wrap_id (by omega) (by omega)]; omega
        rw [if_pos (show (j : Int) > 0 by omega), if_neg hz, ew, rdOf_nat, if_pos (by omega), if_pos (by omega)]
        show (if less ((sat L i).f3.getD (j - 1) ByteArray.empty) ((sat L i).f3.getD j ByteArray.empty) = true then _ else _) = _
        cases less ((sat L i).f3.getD (j - 1) ByteArray.empty) ((sat L i).f3.getD j ByteArray.empty) <;> rfl
theorem impl_nd (L : List S54) (hL : L.length ≤ 8) (i : Nat) (hi : i < L.length) (N : List ByteArray) (a : ByteArray) (b c : Int) (hN : N.length ≤ 8) (K : Nat) (r : Bool) (hr : ∀ k, K ≤ k → impl_ValidStages.l0 k L L (L.length : Int) ((i + 1 : Nat) : Int) = some r) : ∀ (d j k : Nat), j + d = N.length → K + d < k → 20 + d < k → impl_ValidStages.l1 k L L (L.length : Int) (i : Int) N (N.length : Int) (j : Int) a b c N = some (ndAll L N d j && r) := by
  intro d
  induction d with
  | zero =>
    intro j k hj hk hk2
    obtain ⟨k, rfl⟩ := suc_of hk
    simp only [impl_ValidStages.l1]
    rw [if_neg (by omega), next_nat (n := L.length) (by omega) (by omega), hr k (by omega)]; rfl
  | succ d ih =>
    intro j k hj hk hk2
    obtain ⟨k, rfl⟩ := suc_of hk
    have h := ih (j + 1) k (by omega) (by omega) (by omega)
    simp only [impl_ValidStages.l1, show ∀ (l : List ByteArray) (j : Nat), rdOf ByteArray.empty l (j : Int) = l.getD j ByteArray.empty from fun _ _ => rfl]
    rw [if_pos (by omega), if_pos (by omega), if_pos (by omega), impl_fnd L hL _ k (by omega), Option.bind_some, next_nat (n := N.length) (by omega) (by omega), h, ndAll_s]
    generalize ndAll L N d (j + 1) = R
    unfold ndOk
    by_cases c : fnd L (N.getD j ByteArray.empty) < 0
    · rw [if_pos c, decide_eq_false (by omega)]; rfl
    · rw [if_neg c, decide_eq_true (p := 0 ≤ fnd L (N.getD j ByteArray.empty)) (by omega), Bool.true_and]
      by_cases hz : j = 0
      · rw [if_neg (show ¬ (j : Int) > 0 by omega), if_pos hz]; rfl
      · have ew : wrap64 ((j : Int) - 1) = ((j - 1 : Nat) : Int) := by rw [wrap_id (by omega) (by omega)]; omega
        rw [if_pos (show (j : Int) > 0 by omega), if_neg hz, ew, rdOf_nat, if_pos (by omega), if_pos (by omega)]
        show (if less (N.getD (j - 1) ByteArray.empty) (N.getD j ByteArray.empty) = true then _ else _) = _
        cases less (N.getD (j - 1) ByteArray.empty) (N.getD j ByteArray.empty) <;> rfl
def stOk (L : List S54) (i : Nat) : Bool := nv (sat L i).f0 && (decide ((1 : Int) ≤ (sat L i).f1 ∧ (sat L i).f1 ≤ 1000000) && (decide ((0 : Int) ≤ (sat L i).f2 ∧ (sat L i).f2 ≤ 1000000) && (decide ((sat L i).f3.length ≤ 8) && ((if i = 0 then true else less (sat L (i - 1)).f0 (sat L i).f0) && ndAll L (sat L i).f3 (sat L i).f3.length 0))))
def stAll (L : List S54) : Nat → Nat → Bool
  | 0, _ => true
  | d + 1, j => stOk L j && stAll L d (j + 1)
theorem stAll_s (L : List S54) (d j : Nat) : stAll L (d + 1) j = (stOk L j && stAll L d (j + 1)) := rfl
theorem spec_st (L : List S54) (hL : L.length ≤ 8) (hs : ∀ i, i < L.length → (sat L i).f0.size ≤ 1048576) (R : Bool) (hR : ∀ k, 1048900 ≤ k → spec_l24Ok.l2 k L [] 0 = some R) : ∀ (d j k : Nat), j + d = L.length → 1048900 + 20 * d < k → spec_l24Ok.l0 k L (j : Int) = some (stAll L d j && R) := by
  intro d
  induction d with
  | zero =>
    intro j k hj hk
    obtain ⟨k, rfl⟩ := suc_of hk
    simp only [spec_l24Ok.l0]
    rw [if_neg (by omega), hR k (by omega)]; rfl
  | succ d ih =>
    intro j k hj hk
    obtain ⟨k, rfl⟩ : ∃ m, k = m + 1 + 1 := ⟨k - 2, by omega⟩
    have bad : spec_l24Ok.j1 (k + 1) L (j : Int) true = some false := by
      simp only [spec_l24Ok.j1]
      rw [if_pos (by omega), if_pos (by omega)]; rfl
    have good : (sat L j).f3.length ≤ 8 → spec_l24Ok.j1 (k + 1) L (j : Int) false = some (ndAll L (sat L j).f3 (sat L j).f3.length 0 && (stAll L d (j + 1) && R)) := by
      intro h8
      simp only [spec_l24Ok.j1]
      rw [if_pos (by omega), if_pos (by omega), if_neg Bool.false_ne_true]
      exact spec_nd L hL j (by omega) h8 (1048901 + 20 * d) _ (fun k hk => ih (j + 1) k (by omega) (by omega)) (sat L j).f3.length 0 k (by omega) (by omega) (by omega)
    simp only [spec_l24Ok.l0, show ∀ i : Nat, rd_T54 L (i : Int) = sat L i from fun _ => rfl]
    rw [if_pos (by omega), if_pos (by omega), (nv_spec _ (hs j (by omega))).1 (k + 1) (by omega), Option.bind_some, stAll_s]
    generalize stAll L d (j + 1) = S at *
    unfold stOk
    rw [spec_in, spec_in, Option.bind_some, Option.bind_some]
    cases nv (sat L j).f0
    · exact bad
    · rw [if_pos rfl]
      cases decide ((1 : Int) ≤ (sat L j).f1 ∧ (sat L j).f1 ≤ 1000000)
      · exact bad
      · rw [if_pos rfl]
        cases decide ((0 : Int) ≤ (sat L j).f2 ∧ (sat L j).f2 ≤ 1000000)
        · exact bad
        · rw [if_pos rfl]
          by_cases c8 : (sat L j).f3.length ≤ 8
          · rw [if_neg (show ¬ ((sat L j).f3.length : Int) > 8 by omega), decide_eq_true c8]
            by_cases hz : j = 0
            · rw [if_neg (show ¬ (j : Int) > 0 by omega), if_pos hz, good c8]
              simp only [Bool.true_and, Bool.and_assoc]
            · have ew : wrap64 ((j : Int) - 1) = ((j - 1 : Nat) : Int) := by rw [wrap_id (by omega) (by omega)]; omega
              rw [if_pos (show (j : Int) > 0 by omega), if_neg hz, ew, rdS, if_pos (by omega), if_pos (by omega)]
              show spec_l24Ok.j1 (k + 1) L (j : Int) (!less (sat L (j - 1)).f0 (sat L j).f0) = _
              cases less (sat L (j - 1)).f0 (sat L j).f0
              · exact bad
              · rw [show (!true) = false from rfl, good c8]; simp only [Bool.true_and, Bool.and_assoc]
          · rw [if_pos (show ((sat L j).f3.length : Int) > 8 by omega), decide_eq_false c8]; exact bad
theorem impl_st (L : List S54) (hL : L.length ≤ 8) (hs : ∀ i, i < L.length → (sat L i).f0.size ≤ 1048576) (R : Bool) (hR : ∀ k, 1048900 ≤ k → ((impl_allStages.f k L).bind fun t204 => ((impl_firstOrder.f k L t204).bind fun t207 => (some ((t207.length : Int) == (L.length : Int))))) = some R) : ∀ (d j k : Nat), j + d = L.length → 1048900 + 20 * d < k → impl_ValidStages.l0 k L L (L.length : Int) (j : Int) = some (stAll L d j && R) := by
  intro d
  induction d with
  | zero =>
    intro j k hj hk
    obtain ⟨k, rfl⟩ := suc_of hk
    simp only [impl_ValidStages.l0]
    rw [if_neg (by omega), hR k (by omega)]; rfl
  | succ d ih =>
    intro j k hj hk
    obtain ⟨k, rfl⟩ : ∃ m, k = m + 1 + 1 := ⟨k - 2, by omega⟩
    have bad : impl_ValidStages.j1 (k + 1) L L (L.length : Int) (j : Int) true (sat L j).f0 (sat L j).f1 (sat L j).f2 (sat L j).f3 = some false := by
      simp only [impl_ValidStages.j1]; rfl
    have good : (sat L j).f3.length ≤ 8 → impl_ValidStages.j1 (k + 1) L L (L.length : Int) (j : Int) false (sat L j).f0 (sat L j).f1 (sat L j).f2 (sat L j).f3 = some (ndAll L (sat L j).f3 (sat L j).f3.length 0 && (stAll L d (j + 1) && R)) := by
      intro h8
      simp only [impl_ValidStages.j1]
      rw [if_neg Bool.false_ne_true]
      exact impl_nd L hL j (by omega) (sat L j).f3 _ _ _ h8 (1048901 + 20 * d) _ (fun k hk => ih (j + 1) k (by omega) (by omega)) (sat L j).f3.length 0 k (by omega) (by omega) (by omega)
    simp only [impl_ValidStages.l0, show ∀ i : Nat, rd_T54 L (i : Int) = sat L i from fun _ => rfl]
    rw [if_pos (by omega), if_pos (by omega), if_pos (by omega), (nv_spec _ (hs j (by omega))).2 (k + 1) (by omega), Option.bind_some, stAll_s]
    generalize stAll L d (j + 1) = S at *
    unfold stOk
    rw [impl_in, impl_in, Option.bind_some, Option.bind_some]
    cases nv (sat L j).f0
    · exact bad
    · rw [if_pos rfl]
      cases decide ((1 : Int) ≤ (sat L j).f1 ∧ (sat L j).f1 ≤ 1000000)
      · exact bad
      · rw [if_pos rfl]
        cases decide ((0 : Int) ≤ (sat L j).f2 ∧ (sat L j).f2 ≤ 1000000)
        · exact bad
        · rw [if_pos rfl]
          by_cases c8 : (sat L j).f3.length ≤ 8
          · rw [if_neg (show ¬ ((sat L j).f3.length : Int) > 8 by omega), decide_eq_true c8]
            by_cases hz : j = 0
            · rw [if_neg (show ¬ (j : Int) > 0 by omega), if_pos hz, good c8]
              simp only [Bool.true_and, Bool.and_assoc]
            · have ew : wrap64 ((j : Int) - 1) = ((j - 1 : Nat) : Int) := by rw [wrap_id (by omega) (by omega)]; omega
              rw [if_pos (show (j : Int) > 0 by omega), if_neg hz, ew, rdS, if_pos (by omega), if_pos (by omega)]
              show impl_ValidStages.j1 (k + 1) L L (L.length : Int) (j : Int) (!less (sat L (j - 1)).f0 (sat L j).f0) _ _ _ _ = _
              cases less (sat L (j - 1)).f0 (sat L j).f0
              · exact bad
              · rw [show (!true) = false from rfl, good c8]; simp only [Bool.true_and, Bool.and_assoc]
          · rw [if_pos (show ((sat L j).f3.length : Int) > 8 by omega), decide_eq_false c8]; exact bad
theorem stages_both (L : List S54) (hs : ∀ x ∈ L, x.f0.size ≤ 1048576 ∧ x.f3.length ≤ 1048576) (k : Nat) (hk : 1049200 < k) : ∃ v : Bool, spec_l24Ok.f k L = some v ∧ impl_ValidStages.f k L = some v := by
  unfold spec_l24Ok.f impl_ValidStages.f
  by_cases c : (L.length : Int) > 8
  · rw [if_pos c, if_pos c]; exact ⟨false, rfl, rfl⟩
  · rw [if_neg c, if_neg c]
    have hm : ∀ i, i < L.length → (sat L i).f0.size ≤ 1048576 ∧ (sat L i).f3.length ≤ 1048576 := fun i hi => by
      unfold sat; rw [getD_lt hi]; exact hs _ (List.getElem_mem _)
    obtain ⟨R, r1, r2⟩ := order_both L (by omega) (fun i hi => (hm i hi).2)
    exact ⟨_, spec_st L (by omega) (fun i hi => (hm i hi).1) R r1 L.length 0 k (by omega) (by omega), impl_st L (by omega) (fun i hi => (hm i hi).1) R r2 L.length 0 k (by omega) (by omega)⟩
theorem FnExactValidStages : laws_FnExactValidStages.Pure := by
  intro l hl
  refine ⟨4000000, ?_⟩
  unfold laws_FnExactValidStages.f
  obtain ⟨r, r1, r2, r3, r4⟩ := szStages l hl 1048576 (by omega) (by omega) 4000000 (by omega)
  rw [r1, Option.bind_some]
  by_cases c : r < 0
  · rw [if_pos c]
  · rw [if_neg c]
    obtain ⟨h1, h2⟩ := r4 (by omega)
    rw [toStages l h1 h2 4000000 (by omega)]
    simp only [Option.bind_some]
    have hm : ∀ x ∈ l.map stg, x.f0.size ≤ 1048576 ∧ x.f3.length ≤ 1048576 := by
      intro x hx
      obtain ⟨y, hy, rfl⟩ := List.mem_map.1 hx
      exact ⟨(h2 y hy).1, (h2 y hy).2.1⟩
    obtain ⟨v, v1, v2⟩ := stages_both (l.map stg) hm 4000000 (by omega)
    unfold spec_ValidStages.f
    rw [v1, v2]
    simp only [Option.bind_some]
    rw [if_neg (by simp), eqStages _ (by simpa using h1) (fun x hx => (hm x hx).2) 4000000 (by omega), Option.bind_some, if_pos rfl]

end Go.Proofs.Ytipfgehjedldmaa.Pure
