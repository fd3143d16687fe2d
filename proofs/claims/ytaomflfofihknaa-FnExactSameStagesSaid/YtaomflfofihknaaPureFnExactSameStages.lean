/- SameStages of the program returns what the reference's returns, for all lists of stages. No condition. -/
import Derived.Test.YtaomflfofihknaaPFnExactSameStagesx4
namespace Go.Proofs.Ytaomflfofihknaa.Pure
open Go.RowKit Go.Proofs.Ytaomflfofihknaa.PFnExactSameStages Go.Proofs.YtaomflfofihknaaW.PrintWords Go.Proofs.YtaomflfofihknaaW.PrintLast Go.Proofs.YtaomflfofihknaaW.PrintMore
set_option linter.unusedVariables false
set_option linter.unusedSimpArgs false

theorem wrap_id {x : Int} (h1 : -9223372036854775808 ≤ x) (h2 : x ≤ 9223372036854775807) : wrap64 x = x := by unfold wrap64; omega
theorem wf_i64 {x : Int} (h : (Lit.int .i64 x).wf = true) : -9223372036854775808 ≤ x ∧ x ≤ 9223372036854775807 := by
  simp [Lit.wf, IntKind.min, IntKind.max, IntKind.bits, IntKind.signed] at h; omega
theorem mul_bounds {a b A B : Int} (h0 : 0 ≤ a) (hA : a ≤ A) (h1 : -B ≤ b) (h2 : b ≤ B) (hB : 0 ≤ B) : -(A * B) ≤ a * b ∧ a * b ≤ A * B := by
  have e1 := Int.mul_le_mul_of_nonneg_left h2 h0
  have e2 := Int.mul_le_mul_of_nonneg_right hA hB
  have e3 := Int.mul_le_mul_of_nonneg_left h1 h0
  have e4 : a * -B = -(a * B) := Int.mul_neg a B
  omega
theorem mul_nonneg' {a b : Int} (h0 : 0 ≤ a) (h1 : 0 ≤ b) : 0 ≤ a * b := Int.mul_nonneg h0 h1
theorem next_nat {j n : Nat} (h : j < n) (hn : n ≤ 4611686018427387904) : wrap64 ((j : Int) + 1) = ((j + 1 : Nat) : Int) := by
  rw [wrap_id (by omega) (by omega)]; omega
theorem rd_nat (l : List Int) (j : Nat) : rd l (j : Int) = l.getD j 0 := by unfold rd; simp
theorem ifp {α : Type} {c : Prop} [Decidable c] {a b : α} (h : c) : (if c then a else b) = a := if_pos h
theorem ifn {α : Type} {c : Prop} [Decidable c] {a b : α} (h : ¬ c) : (if c then a else b) = b := if_neg h
theorem suc_of {k d : Nat} (h : d < k) : ∃ m, k = m + 1 := ⟨k - 1, by omega⟩
theorem getD_lt {α : Type} {l : List α} {j : Nat} {d : α} (h : j < l.length) : l.getD j d = l[j] := by
  rw [List.getD_eq_getElem?_getD, List.getElem?_eq_getElem h]; rfl
theorem drop_cons {α : Type} (l : List α) {j : Nat} (h : j < l.length) (d : α) : l.drop j = l.getD j d :: l.drop (j + 1) := by
  rw [getD_lt h]; exact List.drop_eq_getElem_cons h
theorem up {α : Type} {g : Nat → Option α} (hm : ∀ k, LeO (g k) (g (k + 1))) {k0 : Nat} {r : α} (h : g k0 = some r) : ∀ k, k0 ≤ k → g k = some r := by
  intro k hk
  induction hk with
  | refl => exact h
  | step _ ih => exact hm _ _ ih

theorem sz_list {α : Type} (z : α) (L : Nat → List α → Int → Int → Option Int) (sz : Nat → α → Int → Option Int) (hL : ∀ k x n i, L (k + 1) x n i = if i < (x.length : Int) then (if 0 ≤ i then ((sz k (x.getD i.toNat z) n).bind fun t => if t < 0 then some (-1) else L k x t (wrap64 (i + 1))) else none) else some n)
    (Wf Sm : α → Prop) (K : Nat) (hsz : ∀ k x n, K < k → Wf x → 0 ≤ n → n ≤ 1048576 → ∃ r, sz k x n = some r ∧ r ≤ n ∧ (0 ≤ r → Sm x)) (l : List α) (hl : l.length ≤ 1048576) (hw : ∀ x ∈ l, Wf x) :
    ∀ (d j k : Nat) (n : Int), j + d = l.length → K + d < k → 0 ≤ n → n ≤ 1048576 → ∃ r, L k l n (j : Int) = some r ∧ r ≤ n ∧ -1 ≤ r ∧ (0 ≤ r → ∀ i (h : i < l.length), j ≤ i → Sm l[i]) := by
  intro d
  induction d with
  | zero =>
    intro j k n hj hk h0 h1
    obtain ⟨k, rfl⟩ := suc_of hk
    rw [hL, if_neg (by omega)]
    exact ⟨n, rfl, by omega, by omega, fun _ i h hi => by omega⟩
  | succ d ih =>
    intro j k n hj hk h0 h1
    obtain ⟨k, rfl⟩ := suc_of hk
    rw [hL, if_pos (by omega), if_pos (by omega), Int.toNat_natCast]
    obtain ⟨r, r1, r2, r4⟩ := hsz k (l.getD j z) n (by omega) (by rw [getD_lt (by omega)]; exact hw _ (List.getElem_mem _)) h0 h1
    rw [r1, Option.bind_some]
    by_cases c : r < 0
    · rw [if_pos c]; exact ⟨-1, rfl, by omega, by omega, fun h => by omega⟩
    · rw [if_neg c, next_nat (n := l.length) (by omega) (by omega)]
      obtain ⟨q, q1, q2, q3, q4⟩ := ih (j + 1) k r (by omega) (by omega) (by omega) (by omega)
      refine ⟨q, q1, by omega, by omega, fun hq i h hi => ?_⟩
      by_cases e : i = j
      · subst e
        have := r4 (by omega)
        rwa [getD_lt h] at this
      · exact q4 hq i h (by omega)
theorem to_list {α β : Type} (z : α) (L : Nat → List α → List β → Int → Option (List β)) (tov : Nat → α → Option β) (hL : ∀ k x m i, L (k + 1) x m i = if i < (x.length : Int) then (if 0 ≤ i then ((tov k (x.getD i.toNat z)).bind fun b => if i < (m.length : Int) then L k x (m.set i.toNat b) (wrap64 (i + 1)) else none) else none) else some m)
    (g : α → β) (K : Nat) (l : List α) (hl : l.length ≤ 1048576) (hto : ∀ k, K < k → ∀ x ∈ l, tov k x = some (g x)) :
    ∀ (d j k : Nat) (m : List β), j + d = l.length → K + d < k → m.length = l.length → (∀ i, i < j → m[i]? = (l.map g)[i]?) → L k l m (j : Int) = some (l.map g) := by
  intro d
  induction d with
  | zero =>
    intro j k m hj hk hm hp
    obtain ⟨k, rfl⟩ := suc_of hk
    rw [hL, if_neg (by omega)]
    congr 1
    apply List.ext_getElem?
    intro i
    by_cases hi : i < j
    · exact hp i hi
    · rw [List.getElem?_eq_none (by omega), List.getElem?_eq_none (by simp; omega)]
  | succ d ih =>
    intro j k m hj hk hm hp
    obtain ⟨k, rfl⟩ := suc_of hk
    rw [hL, if_pos (by omega), if_pos (by omega), Int.toNat_natCast, hto k (by omega) _ (by rw [getD_lt (by omega)]; exact List.getElem_mem _), Option.bind_some, if_pos (by omega), next_nat (n := l.length) (by omega) (by omega)]
    refine ih (j + 1) k _ (by omega) (by omega) (by simpa using hm) (fun i hi => ?_)
    rw [List.getElem?_set]
    by_cases e : j = i
    · subst e
      rw [if_pos rfl, if_pos (by omega), getD_lt (by omega), List.getElem?_map, List.getElem?_eq_getElem (by omega)]; rfl
    · rw [if_neg e]; exact hp i (by omega)
theorem eq_list {β : Type} (z : β) (L : Nat → List β → List β → Int → Option Bool) (eq : Nat → β → β → Option Bool) (hL : ∀ k x y i, L (k + 1) x y i = if i < (x.length : Int) then (if 0 ≤ i then (if i < (y.length : Int) then ((eq k (x.getD i.toNat z) (y.getD i.toNat z)).bind fun t => if t = true then L k x y (wrap64 (i + 1)) else some false) else none) else none) else some true)
    (K : Nat) (l : List β) (hl : l.length ≤ 1048576) (heq : ∀ k, K < k → ∀ x ∈ l, eq k x x = some true) :
    ∀ (d j k : Nat), j + d = l.length → K + d < k → L k l l (j : Int) = some true := by
  intro d
  induction d with
  | zero =>
    intro j k hj hk
    obtain ⟨k, rfl⟩ := suc_of hk
    rw [hL, if_neg (by omega)]
  | succ d ih =>
    intro j k hj hk
    obtain ⟨k, rfl⟩ := suc_of hk
    rw [hL, if_pos (by omega), if_pos (by omega), if_pos (by omega), Int.toNat_natCast, heq k (by omega) _ (by rw [getD_lt (by omega)]; exact List.getElem_mem _), Option.bind_some, if_pos rfl, next_nat (n := l.length) (by omega) (by omega)]
    exact ih (j + 1) k (by omega) (by omega)
theorem bne_cast (a b : Nat) : ((a : Int) != (b : Int)) = !(decide (a = b)) := by
  by_cases h : a = b
  · subst h; simp
  · have h2 : ¬ (a : Int) = (b : Int) := by omega
    rw [decide_eq_false h]; exact bne_iff_ne.2 h2

theorem szStrs (l : List ByteArray) (hl : l.length ≤ 9223372036854775807) (hw : ∀ x ∈ l, x.size ≤ maxLen) (n : Int) (h0 : 0 ≤ n) (h1 : n ≤ 1048576) (k : Nat) (hk : 1048577 < k) : ∃ r, laws_szStringS.f k l n = some r ∧ r ≤ n ∧ -1 ≤ r ∧ (0 ≤ r → l.length ≤ 1048576 ∧ ∀ x ∈ l, x.size ≤ 1048576) := by
  unfold laws_szStringS.f
  rw [wrap_id (x := n - (l.length : Int)) (by omega) (by omega)]
  by_cases c : n - (l.length : Int) < 0
  · rw [if_pos c]; exact ⟨-1, rfl, by omega, by omega, fun h => by omega⟩
  · rw [if_neg c]
    obtain ⟨r, r1, r2, r3, r4⟩ := sz_list ByteArray.empty laws_szStringS.l0 (fun _ x n => some (wrap64 (n - (x.size : Int)))) (fun _ _ _ _ => rfl) (fun x => x.size ≤ maxLen) (fun x => x.size ≤ 1048576) 0 (fun k x n _ hx h0 h1 => by
      simp only [maxLen] at hx
      rw [wrap_id (x := n - (x.size : Int)) (by omega) (by omega)]
      exact ⟨_, rfl, by omega, fun h => by omega⟩) l (by omega) hw l.length 0 k (n - (l.length : Int)) (by omega) (by omega) (by omega) (by omega)
    exact ⟨r, r1, by omega, r3, fun h => ⟨by omega, fun x hx => by
      obtain ⟨i, hi, rfl⟩ := List.mem_iff_getElem.1 hx
      exact r4 h i hi (by omega)⟩⟩
theorem toStrs (l : List ByteArray) (hl : l.length ≤ 1048576) (k : Nat) (hk : 1048577 < k) : laws_toStringS.f k l = some l := by
  unfold laws_toStringS.f
  rw [if_pos (by omega), if_pos (by omega)]
  have h := to_list ByteArray.empty laws_toStringS.l0 (fun _ x => some x) (fun _ _ _ _ => rfl) id 0 l hl (fun _ _ _ _ => rfl) l.length 0 k (List.replicate ((l.length : Int) : Int).toNat (⟨#[]⟩ : ByteArray)) (by omega) (by omega) (by simp) (fun i hi => absurd hi (by omega))
  rw [List.map_id] at h
  exact h
theorem eqStrs (l : List ByteArray) (hl : l.length ≤ 1048576) (k : Nat) (hk : 1048577 < k) : laws_eqStringS.f k l l = some true := by
  unfold laws_eqStringS.f
  rw [if_pos rfl]
  exact eq_list ByteArray.empty laws_eqStringS.l0 (fun _ a b => some (decide (a.toList = b.toList))) (fun k x y i => by
    simp only [laws_eqStringS.l0, Option.bind_some, decide_eq_true_eq]; rfl) 0 l hl (fun _ _ x _ => by simp) l.length 0 k (by omega) (by omega)

def stg (x : S82) : S83 := ⟨x.f0, x.f1, x.f2, x.f3⟩
def StSm (x : S82) : Prop := x.f0.size ≤ 1048576 ∧ x.f3.length ≤ 1048576 ∧ ∀ y ∈ x.f3, y.size ≤ 1048576
theorem szStage (x : S82) (hx : wfT82 x) (n : Int) (h0 : 0 ≤ n) (h1 : n ≤ 1048576) (k : Nat) (hk : 1048577 < k) : ∃ r, laws_szStage.f k x.f0 x.f1 x.f2 x.f3 n = some r ∧ r ≤ n ∧ (0 ≤ r → StSm x) := by
  obtain ⟨w0, _, _, w1, w2⟩ := hx
  simp only [maxLen] at w0
  unfold laws_szStage.f
  rw [wrap_id (x := n - (x.f0.size : Int)) (by omega) (by omega)]
  by_cases c : n - (x.f0.size : Int) < 0
  · rw [if_pos c]; exact ⟨-1, rfl, by omega, fun h => by omega⟩
  · rw [if_neg c]
    obtain ⟨r, r1, r2, r3, r4⟩ := szStrs x.f3 w1 w2 (n - (x.f0.size : Int)) (by omega) (by omega) k hk
    rw [r1, Option.bind_some]
    by_cases c2 : r < 0
    · rw [if_pos c2]; exact ⟨-1, rfl, by omega, fun h => by omega⟩
    · rw [if_neg c2]
      exact ⟨r, rfl, by omega, fun h => ⟨by omega, (r4 h).1, (r4 h).2⟩⟩
theorem szStages (l : List S82) (hw : wfLT82 l) (n : Int) (h0 : 0 ≤ n) (h1 : n ≤ 1048576) (k : Nat) (hk : 2097154 < k) : ∃ r, laws_szStageS.f k l n = some r ∧ r ≤ n ∧ -1 ≤ r ∧ (0 ≤ r → l.length ≤ 1048576 ∧ ∀ x ∈ l, StSm x) := by
  obtain ⟨hl, hw⟩ := hw
  unfold laws_szStageS.f
  rw [wrap_id (x := n - (l.length : Int)) (by omega) (by omega)]
  by_cases c : n - (l.length : Int) < 0
  · rw [if_pos c]; exact ⟨-1, rfl, by omega, by omega, fun h => by omega⟩
  · rw [if_neg c]
    obtain ⟨r, r1, r2, r3, r4⟩ := sz_list z82 laws_szStageS.l0 (fun k x n => laws_szStage.f k x.f0 x.f1 x.f2 x.f3 n) (fun _ _ _ _ => rfl) wfT82 StSm 1048577 (fun k x n hk hx h0 h1 => szStage x hx n h0 h1 k hk) l (by omega) hw l.length 0 k (n - (l.length : Int)) (by omega) (by omega) (by omega) (by omega)
    exact ⟨r, r1, by omega, r3, fun h => ⟨by omega, fun x hx => by
      obtain ⟨i, hi, rfl⟩ := List.mem_iff_getElem.1 hx
      exact r4 h i hi (by omega)⟩⟩
theorem toStages (l : List S82) (hl : l.length ≤ 1048576) (hs : ∀ x ∈ l, StSm x) (k : Nat) (hk : 2097154 < k) : laws_toStageS.f k l = some (l.map stg) := by
  unfold laws_toStageS.f
  rw [if_pos (by omega), if_pos (by omega)]
  exact to_list z82 laws_toStageS.l0 (fun k x => (laws_toStage.f k x.f0 x.f1 x.f2 x.f3).map fun b => (⟨b.1, b.2.1, b.2.2.1, b.2.2.2⟩ : S83)) (fun k x m i => by
    simp only [laws_toStageS.l0, Option.bind_map]; rfl) stg 1048577 l hl (fun k hk x hx => by
    simp only [laws_toStage.f, toStrs x.f3 (hs x hx).2.1 k hk, Option.bind_some, Option.map_some]; rfl) l.length 0 k _ (by omega) (by omega) (by simp) (fun i hi => absurd hi (by omega))
theorem eqStages (l : List S83) (hl : l.length ≤ 1048576) (hs : ∀ x ∈ l, x.f3.length ≤ 1048576) (k : Nat) (hk : 2097154 < k) : laws_eqStageS.f k l l = some true := by
  unfold laws_eqStageS.f
  rw [if_pos rfl]
  exact eq_list z83 laws_eqStageS.l0 (fun k a b => laws_eqStage.f k a.f0 a.f1 a.f2 a.f3 b.f0 b.f1 b.f2 b.f3) (fun _ _ _ _ => rfl) 1048577 l hl (fun k hk x hx => by
    unfold laws_eqStage.f
    rw [if_pos rfl, if_pos rfl, if_pos rfl, eqStrs x.f3 (hs x hx) k hk]; rfl) l.length 0 k (by omega) (by omega)

def seqs : List ByteArray → List ByteArray → Bool
  | [], [] => true
  | a :: l, b :: m => decide (a.toList = b.toList) && seqs l m
  | _, _ => false
theorem seqs_cons (a b : ByteArray) (l m : List ByteArray) : seqs (a :: l) (b :: m) = (decide (a.toList = b.toList) && seqs l m) := rfl
def steq (a b : S83) : Bool := decide (a.f0.toList = b.f0.toList) && (decide (a.f1 = b.f1) && (decide (a.f2 = b.f2) && (decide (a.f3.length = b.f3.length) && seqs a.f3 b.f3)))
def alls : List S83 → List S83 → Bool
  | [], [] => true
  | a :: l, b :: m => steq a b && alls l m
  | _, _ => false
theorem alls_cons (a b : S83) (l m : List S83) : alls (a :: l) (b :: m) = (steq a b && alls l m) := rfl
theorem Equal_l0 (l m : List ByteArray) (hl : l.length ≤ 1048576) (he : m.length = l.length) : ∀ (d j k : Nat), j + d = l.length → d < k → slices_Equal_string_string.l0 k l m (l.length : Int) (j : Int) = some (seqs (l.drop j) (m.drop j)) := by
  intro d
  induction d with
  | zero =>
    intro j k hj hk
    obtain ⟨k, rfl⟩ := suc_of hk
    simp only [slices_Equal_string_string.l0]
    rw [if_neg (by omega), List.drop_eq_nil_of_le (by omega), List.drop_eq_nil_of_le (by omega)]; rfl
  | succ d ih =>
    intro j k hj hk
    obtain ⟨k, rfl⟩ := suc_of hk
    simp only [slices_Equal_string_string.l0]
    rw [if_pos (by omega), if_pos (by omega), if_pos (by omega), if_pos (by omega), next_nat (n := l.length) (by omega) (by omega), drop_cons l (j := j) (by omega) ByteArray.empty, drop_cons m (j := j) (by omega) ByteArray.empty]
    have e1 : rdOf ByteArray.empty l (j : Int) = l.getD j ByteArray.empty := rfl
    have e2 : rdOf ByteArray.empty m (j : Int) = m.getD j ByteArray.empty := rfl
    rw [e1, e2, ih (j + 1) k (by omega) (by omega)]
    rw [seqs_cons]
    by_cases c : (l.getD j ByteArray.empty).toList = (m.getD j ByteArray.empty).toList
    · rw [if_pos c, decide_eq_true c, Bool.true_and]
    · rw [if_neg c, decide_eq_false c, Bool.false_and]
theorem Equal_f (l m : List ByteArray) (hl : l.length ≤ 1048576) (k : Nat) (hk : 1048577 < k) : slices_Equal_string_string.f k l m = some (decide (l.length = m.length) && seqs l m) := by
  unfold slices_Equal_string_string.f
  by_cases c : l.length = m.length
  · rw [if_pos (by omega), decide_eq_true c, Bool.true_and]
    exact Equal_l0 l m hl c.symm l.length 0 k (by omega) (by omega)
  · rw [if_neg (by omega), decide_eq_false c, Bool.false_and]
theorem impl_one (a b : S83) (hl : a.f3.length ≤ 1048576) (k : Nat) (hk : 1048577 < k) : impl_SameStages_1.f k a.f0 a.f1 a.f2 a.f3 b.f0 b.f1 b.f2 b.f3 = some (steq a b) := by
  unfold impl_SameStages_1.f steq
  by_cases c1 : a.f0.toList = b.f0.toList
  · rw [if_pos c1, decide_eq_true c1, Bool.true_and]
    by_cases c2 : a.f1 = b.f1
    · rw [if_pos c2, decide_eq_true c2, Bool.true_and]
      by_cases c3 : a.f2 = b.f2
      · rw [if_pos c3, decide_eq_true c3, Bool.true_and, Equal_f _ _ hl k hk]; rfl
      · rw [if_neg c3, decide_eq_false c3, Bool.false_and]
    · rw [if_neg c2, decide_eq_false c2, Bool.false_and]
  · rw [if_neg c1, decide_eq_false c1, Bool.false_and]
theorem impl_l0 (l m : List S83) (hl : l.length ≤ 1048576) (he : m.length = l.length) (hs : ∀ x ∈ l, x.f3.length ≤ 1048576) : ∀ (d j k : Nat), j + d = l.length → d + 1048577 < k → impl_Stage_c56.l0 k m l (l.length : Int) (j : Int) = some (alls (l.drop j) (m.drop j)) := by
  intro d
  induction d with
  | zero =>
    intro j k hj hk
    obtain ⟨k, rfl⟩ := suc_of hk
    simp only [impl_Stage_c56.l0]
    rw [if_neg (by omega), List.drop_eq_nil_of_le (by omega), List.drop_eq_nil_of_le (by omega)]; rfl
  | succ d ih =>
    intro j k hj hk
    obtain ⟨k, rfl⟩ := suc_of hk
    simp only [impl_Stage_c56.l0]
    have e1 : rd_T83 l (j : Int) = l.getD j z83 := rfl
    have e2 : rd_T83 m (j : Int) = m.getD j z83 := rfl
    rw [if_pos (by omega), if_pos (by omega), if_pos (by omega), if_pos (by omega), next_nat (n := l.length) (by omega) (by omega), drop_cons l (j := j) (by omega) z83, drop_cons m (j := j) (by omega) z83, e1, e2, impl_one _ _ (hs _ (by rw [getD_lt (by omega)]; exact List.getElem_mem _)) k (by omega), Option.bind_some, ih (j + 1) k (by omega) (by omega)]
    rw [alls_cons]
    cases steq (l.getD j z83) (m.getD j z83)
    · rfl
    · rfl
theorem spec_l1 (X Y : List S83) (i : Nat) (hi : i < X.length) (hX : X.length ≤ 1048576) (he : Y.length = X.length) (hn : (X.getD i z83).f3.length ≤ 1048576) (hm : (Y.getD i z83).f3.length = (X.getD i z83).f3.length) : ∀ (d j k : Nat), j + d = (X.getD i z83).f3.length →
    spec_SameStages.l1 (k + d + 1) X Y (i : Int) (j : Int) = if seqs ((X.getD i z83).f3.drop j) ((Y.getD i z83).f3.drop j) = true then spec_SameStages.l0 k X Y ((i + 1 : Nat) : Int) else some false := by
  intro d
  have e1 : rd_T83 X (i : Int) = X.getD i z83 := rfl
  have e2 : rd_T83 Y (i : Int) = Y.getD i z83 := rfl
  induction d with
  | zero =>
    intro j k hj
    simp only [spec_SameStages.l1]
    rw [e1, e2, if_pos (by omega), if_pos (by omega), if_neg (by omega), List.drop_eq_nil_of_le (by omega), List.drop_eq_nil_of_le (by omega), next_nat (n := X.length) (by omega) (by omega)]
    rfl
  | succ d ih =>
    intro j k hj
    have h := ih (j + 1) k (by omega)
    rw [show k + (d + 1) + 1 = k + d + 1 + 1 by omega]
    generalize k + d + 1 = q at h ⊢
    simp only [spec_SameStages.l1]
    rw [e1, e2, if_pos (by omega), if_pos (by omega), if_pos (by omega), if_pos (by omega), if_pos (by omega), if_pos (by omega), next_nat (n := (X.getD i z83).f3.length) (by omega) (by omega), drop_cons _ (j := j) (by omega) ByteArray.empty, drop_cons (Y.getD i z83).f3 (j := j) (by omega) ByteArray.empty]
    have r1 : rdOf ByteArray.empty (X.getD i z83).f3 (j : Int) = (X.getD i z83).f3.getD j ByteArray.empty := rfl
    have r2 : rdOf ByteArray.empty (Y.getD i z83).f3 (j : Int) = (Y.getD i z83).f3.getD j ByteArray.empty := rfl
    rw [r1, r2, h]
    rw [seqs_cons]
    by_cases c : ((X.getD i z83).f3.getD j ByteArray.empty).toList = ((Y.getD i z83).f3.getD j ByteArray.empty).toList
    · rw [if_pos c, decide_eq_true c, Bool.true_and]
    · rw [if_neg c, decide_eq_false c, Bool.false_and, if_neg (by simp)]
theorem spec_l0 (X Y : List S83) (hX : X.length ≤ 1048576) (he : Y.length = X.length) (hs : ∀ x ∈ X, x.f3.length ≤ 1048576) (M : Nat) (hM : 1048580 ≤ M) : ∀ (d i k : Nat), i + d = X.length → d * M < k → spec_SameStages.l0 k X Y (i : Int) = some (alls (X.drop i) (Y.drop i)) := by
  intro d
  induction d with
  | zero =>
    intro i k hj hk
    obtain ⟨k, rfl⟩ := suc_of hk
    simp only [spec_SameStages.l0]
    rw [if_neg (by omega), List.drop_eq_nil_of_le (by omega), List.drop_eq_nil_of_le (by omega)]; rfl
  | succ d ih =>
    intro i k hj hk
    have e1 : rd_T83 X (i : Int) = X.getD i z83 := rfl
    have e2 : rd_T83 Y (i : Int) = Y.getD i z83 := rfl
    have hn : (X.getD i z83).f3.length ≤ 1048576 := hs _ (by rw [getD_lt (by omega)]; exact List.getElem_mem _)
    obtain ⟨n, hnn⟩ : ∃ n, n = (X.getD i z83).f3.length := ⟨_, rfl⟩
    obtain ⟨k, rfl⟩ : ∃ m, k = m + n + 1 + 1 + 1 := ⟨k - n - 3, by rw [Nat.succ_mul] at hk; omega⟩
    rw [Nat.succ_mul] at hk
    have hk2 : d * M < k := by omega
    have h9 := ih (i + 1) k (by omega) hk2
    have h := spec_l1 X Y i (by omega) hX he hn
    obtain ⟨q, hq⟩ : ∃ q, q = k + n + 1 := ⟨_, rfl⟩
    rw [← hq]
    have bad : spec_SameStages.j1 (q + 1) X Y (i : Int) true = some false := by simp only [spec_SameStages.j1]; rfl
    have good : spec_SameStages.j1 (q + 1) X Y (i : Int) false = spec_SameStages.l1 q X Y (i : Int) 0 := by simp only [spec_SameStages.j1]; rfl
    rw [drop_cons X (j := i) (by omega) z83, drop_cons Y (j := i) (by omega) z83, alls_cons]
    simp only [spec_SameStages.l0]
    rw [e1, e2, if_pos (by omega), if_pos (by omega), if_pos (by omega), bne_cast]
    unfold steq
    generalize X.getD i z83 = a at *
    generalize Y.getD i z83 = b at *
    by_cases c1 : a.f0.toList = b.f0.toList
    · rw [if_pos c1, decide_eq_true c1, Bool.true_and]
      by_cases c2 : a.f1 = b.f1
      · rw [if_pos c2, decide_eq_true c2, Bool.true_and]
        by_cases c3 : a.f2 = b.f2
        · rw [if_pos c3, decide_eq_true c3, Bool.true_and]
          by_cases c4 : a.f3.length = b.f3.length
          · have h2 := h c4.symm a.f3.length 0 k (by omega)
            rw [h9, List.drop_zero, List.drop_zero, ← hnn, ← hq] at h2
            rw [decide_eq_true c4, Bool.true_and, show (!true) = false from rfl, good]
            rw [show ((0 : Nat) : Int) = 0 from rfl] at h2
            rw [h2]
            cases seqs a.f3 b.f3 <;> rfl
          · rw [decide_eq_false c4, show (!false) = true from rfl, bad]; rfl
        · rw [if_neg c3, bad, decide_eq_false c3]; rfl
      · rw [if_neg c2, bad, decide_eq_false c2]; rfl
    · rw [if_neg c1, bad, decide_eq_false c1]; rfl
theorem Same_both (X Y : List S83) (hX : X.length ≤ 1048576) (hs : ∀ x ∈ X, x.f3.length ≤ 1048576) (k : Nat) (hk : 1099515822081 ≤ k) : ∃ v, spec_SameStages.f k X Y = some v ∧ impl_SameStages.f k X Y = some v := by
  unfold spec_SameStages.f impl_SameStages.f impl_Stage_c56.f
  by_cases c : X.length = Y.length
  · rw [if_pos (by omega), if_pos (by omega)]
    refine ⟨alls X Y, spec_l0 X Y hX c.symm hs 1048580 (by omega) X.length 0 k (by omega) (by omega), ?_⟩
    have h := impl_l0 X Y hX c.symm hs X.length 0 k (by omega) (by omega)
    rw [show ((0 : Nat) : Int) = 0 from rfl] at h
    rw [h]; rfl
  · rw [if_neg (by omega), if_neg (by omega)]
    exact ⟨_, rfl, rfl⟩
theorem FnExactSameStages : laws_FnExactSameStages.Pure := by
  intro x y hx hy
  obtain ⟨k, hk⟩ : ∃ k, k = 1099515822081 := ⟨_, rfl⟩
  refine ⟨k, ?_⟩
  unfold laws_FnExactSameStages.f
  obtain ⟨r, r1, r2, r3, r4⟩ := szStages x hx 1048576 (by omega) (by omega) k (by omega)
  rw [r1, Option.bind_some]
  by_cases c : r < 0
  · rw [if_pos c]
  · rw [if_neg c]
    obtain ⟨q, q1, q2, q3, q4⟩ := szStages y hy r (by omega) (by omega) k (by omega)
    rw [q1, Option.bind_some]
    by_cases c2 : q < 0
    · rw [if_pos c2]
    · rw [if_neg c2]
      obtain ⟨l1, l2⟩ := r4 (by omega)
      obtain ⟨m1, m2⟩ := q4 (by omega)
      have sx : ∀ z ∈ x.map stg, z.f3.length ≤ 1048576 := fun z hz => by
        obtain ⟨y, hy, rfl⟩ := List.mem_map.1 hz
        exact (l2 y hy).2.1
      have sy : ∀ z ∈ y.map stg, z.f3.length ≤ 1048576 := fun z hz => by
        obtain ⟨y, hy, rfl⟩ := List.mem_map.1 hz
        exact (m2 y hy).2.1
      obtain ⟨v, v1, v2⟩ := Same_both (x.map stg) (y.map stg) (by simpa using l1) sx k (by omega)
      simp only [toStages x l1 l2 k (by omega), toStages y m1 m2 k (by omega), Option.bind_some, v1, v2, eqStages (x.map stg) (by simpa using l1) sx k (by omega), eqStages (y.map stg) (by simpa using m1) sy k (by omega), if_true]
      rw [if_neg (by simp)]

end Go.Proofs.Ytaomflfofihknaa.Pure
