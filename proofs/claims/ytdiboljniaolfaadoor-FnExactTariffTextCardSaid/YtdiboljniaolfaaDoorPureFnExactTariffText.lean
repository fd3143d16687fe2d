/- TariffText of the program returns what the reference's returns, for every tariff. No condition. -/
import Derived.Test.YtdiboljniaolfaaDoorPFnExactTariffTextx8
namespace Go.Proofs.YtdiboljniaolfaaDoor.Pure
open Go.RowKit Go.Proofs.YtdiboljniaolfaaDoor.PFnExactTariffText Go.Proofs.YtdiboljniaolfaaDoorW.PrintWords Go.Proofs.YtdiboljniaolfaaDoorW.PrintLast Go.Proofs.YtdiboljniaolfaaDoorW.PrintMore
set_option linter.unusedVariables false
set_option linter.unusedSimpArgs false

theorem wrap_id {x : Int} (h1 : -9223372036854775808 ≤ x) (h2 : x ≤ 9223372036854775807) : wrap64 x = x := by unfold wrap64; omega
theorem wf_i64 {x : Int} (h : (Lit.int .i64 x).wf = true) : -9223372036854775808 ≤ x ∧ x ≤ 9223372036854775807 := by
  simp [Lit.wf, IntKind.min, IntKind.max, IntKind.bits, IntKind.signed] at h; omega
theorem mul_bounds {a b A B : Int} (h0 : 0 ≤ a) (hA : a ≤ A) (h1 : -B ≤ b) (h2 : b ≤ B) (hB : 0 ≤ B) : -(A * B) ≤ a * b ∧ a * b ≤ A * B := by
  have e1 := Int.mul_le_mul_of_nonneg_left h2 h0
  have e2 := Int.mul_le_mul_of_nonneg_right hA hB
  have e3 := Int.mul_le_mul_of_nonneg_left h1 h0
  have e4 : a * -B = -(a * B) := Int.mul_neg a B
  omega
theorem mul_nonneg' {a b : Int} (h0 : 0 ≤ a) (h1 : 0 ≤ b) : 0 ≤ a * b := Int.mul_nonneg h0 h1
theorem next_nat {j n : Nat} (h : j < n) (hn : n ≤ 4611686018427387904) : wrap64 ((j : Int) + 1) = ((j + 1 : Nat) : Int) := by
  rw [wrap_id (by omega) (by omega)]; omega
theorem rd_nat (l : List Int) (j : Nat) : rd l (j : Int) = l.getD j 0 := by unfold rd; simp
theorem ifp {α : Type} {c : Prop} [Decidable c] {a b : α} (h : c) : (if c then a else b) = a := if_pos h
theorem ifn {α : Type} {c : Prop} [Decidable c] {a b : α} (h : ¬ c) : (if c then a else b) = b := if_neg h
theorem suc_of {k d : Nat} (h : d < k) : ∃ m, k = m + 1 := ⟨k - 1, by omega⟩
theorem getD_lt {α : Type} {l : List α} {j : Nat} {d : α} (h : j < l.length) : l.getD j d = l[j] := by
  rw [List.getD_eq_getElem?_getD, List.getElem?_eq_getElem h]; rfl
theorem drop_cons {α : Type} (l : List α) {j : Nat} (h : j < l.length) (d : α) : l.drop j = l.getD j d :: l.drop (j + 1) := by
  rw [getD_lt h]; exact List.drop_eq_getElem_cons h
theorem up {α : Type} {g : Nat → Option α} (hm : ∀ k, LeO (g k) (g (k + 1))) {k0 : Nat} {r : α} (h : g k0 = some r) : ∀ k, k0 ≤ k → g k = some r := by
  intro k hk
  induction hk with
  | refl => exact h
  | step _ ih => exact hm _ _ ih

theorem rdll_nat (l : List (List Int)) (j : Nat) : rd_L1 l (j : Int) = l.getD j [] := by unfold rd_L1; simp

theorem szII_l0 (l : List (List Int)) (hl : l.length ≤ 1048576) (hi : ∀ x ∈ l, x.length ≤ 9223372036854775807) : ∀ (d j k : Nat) (n : Int), j + d = l.length → d < k → 0 ≤ n → n ≤ 1048576 → ∃ r, laws_szInt64SS.l0 k l n (j : Int) = some r ∧ r ≤ n ∧ (0 ≤ r → ∀ i, j ≤ i → i < l.length → (l.getD i []).length ≤ 1048576) := by
  intro d
  induction d with
  | zero =>
    intro j k n hj hk h0 h1
    obtain ⟨k, rfl⟩ := suc_of hk
    simp only [laws_szInt64SS.l0]
    rw [if_neg (by omega)]
    exact ⟨n, rfl, by omega, fun _ i hi1 hi2 => by omega⟩
  | succ d ih =>
    intro j k n hj hk h0 h1
    obtain ⟨k, rfl⟩ := suc_of hk
    simp only [laws_szInt64SS.l0]
    rw [if_pos (by omega), if_pos (by omega), rdll_nat]
    have hx := hi (l.getD j []) (by rw [getD_lt (by omega)]; exact List.getElem_mem _)
    unfold laws_szInt64S.f
    rw [wrap_id (x := n - ((l.getD j []).length : Int)) (by omega) (by omega)]
    by_cases c : n - ((l.getD j []).length : Int) < 0
    · rw [if_pos c]
      simp only [Option.bind_some]
      rw [if_pos (by omega)]
      exact ⟨-1, rfl, by omega, fun h => by omega⟩
    · rw [if_neg c]
      simp only [Option.bind_some]
      rw [if_neg c, next_nat (n := l.length) (by omega) (by omega)]
      obtain ⟨r, h2, h3, h4⟩ := ih (j + 1) k (n - ((l.getD j []).length : Int)) (by omega) (by omega) (by omega) (by omega)
      refine ⟨r, h2, by omega, fun hr i hi1 hi2 => ?_⟩
      by_cases e : i = j
      · subst e; omega
      · exact h4 hr i (by omega) hi2
theorem szII (l : List (List Int)) (hl : l.length ≤ 9223372036854775807) (hi : ∀ x ∈ l, x.length ≤ 9223372036854775807) (k : Nat) (hk : 1048576 < k) : ∃ r, laws_szInt64SS.f k l 1048576 = some r ∧ (0 ≤ r → l.length ≤ 1048576 ∧ ∀ x ∈ l, x.length ≤ 1048576) := by
  unfold laws_szInt64SS.f
  rw [wrap_id (x := 1048576 - (l.length : Int)) (by omega) (by omega)]
  by_cases c : (1048576 : Int) - (l.length : Int) < 0
  · rw [if_pos c]; exact ⟨-1, rfl, fun h => by omega⟩
  · rw [if_neg c]
    obtain ⟨r, h2, _, h4⟩ := szII_l0 l (by omega) hi l.length 0 k (1048576 - (l.length : Int)) (by omega) (by omega) (by omega) (by omega)
    refine ⟨r, h2, fun hr => ⟨by omega, fun x hx => ?_⟩⟩
    obtain ⟨i, hi1, rfl⟩ := List.mem_iff_getElem.1 hx
    have := h4 hr i (by omega) hi1
    rwa [getD_lt hi1] at this

theorem toI_l0 (l : List Int) (hl : l.length ≤ 35184372088832) : ∀ (d j k : Nat) (m : List Int), j + d = l.length → d < k → m.length = l.length → (∀ i, i < j → m[i]? = l[i]?) → laws_toInt64S.l0 k l m (j : Int) = some l := by
  intro d
  induction d with
  | zero =>
    intro j k m hj hk hm hp
    obtain ⟨k, rfl⟩ := suc_of hk
    simp only [laws_toInt64S.l0]
    rw [if_neg (by omega)]
    congr 1
    apply List.ext_getElem?
    intro i
    by_cases hi : i < j
    · exact hp i hi
    · rw [List.getElem?_eq_none (by omega), List.getElem?_eq_none (by omega)]
  | succ d ih =>
    intro j k m hj hk hm hp
    obtain ⟨k, rfl⟩ := suc_of hk
    simp only [laws_toInt64S.l0]
    rw [if_pos (by omega), if_pos (by omega), if_pos (by omega), next_nat (n := l.length) (by omega) (by omega)]
    refine ih (j + 1) k _ (by omega) (by omega) (by simpa using hm) (fun i hi => ?_)
    rw [Int.toNat_natCast, rd_nat, List.getElem?_set]
    by_cases e : j = i
    · subst e
      rw [if_pos rfl, if_pos (by omega), getD_lt (by omega), List.getElem?_eq_getElem (by omega)]
    · rw [if_neg e]; exact hp i (by omega)
theorem toI (l : List Int) (hl : l.length ≤ 35184372088832) (k : Nat) (hk : l.length < k) : laws_toInt64S.f k l = some l := by
  unfold laws_toInt64S.f
  rw [if_pos (by omega), if_pos (by omega)]
  exact toI_l0 l hl l.length 0 k _ (by omega) hk (by simp) (fun i hi => absurd hi (by omega))

theorem eqI_l0 (l : List Int) (hl : l.length ≤ 35184372088832) : ∀ (d j k : Nat), j + d = l.length → d < k → laws_eqInt64S.l0 k l l (j : Int) = some true := by
  intro d
  induction d with
  | zero =>
    intro j k hj hk
    obtain ⟨k, rfl⟩ := suc_of hk
    simp only [laws_eqInt64S.l0]
    rw [if_neg (by omega)]
  | succ d ih =>
    intro j k hj hk
    obtain ⟨k, rfl⟩ := suc_of hk
    simp only [laws_eqInt64S.l0]
    rw [if_pos (by omega), if_pos (by omega), if_pos (by omega), if_pos trivial, next_nat (n := l.length) (by omega) (by omega)]
    exact ih (j + 1) k (by omega) (by omega)
theorem eqI (l : List Int) (hl : l.length ≤ 35184372088832) (k : Nat) (hk : l.length < k) : laws_eqInt64S.f k l l = some true := by
  unfold laws_eqInt64S.f
  rw [if_pos rfl]
  exact eqI_l0 l hl l.length 0 k (by omega) hk

theorem toII_l0 (l : List (List Int)) (hl : l.length ≤ 1048576) (hi : ∀ x ∈ l, x.length ≤ 1048576) : ∀ (d j k : Nat) (m : List (List Int)), j + d = l.length → d + 1048577 < k → m.length = l.length → (∀ i, i < j → m[i]? = l[i]?) → laws_toInt64SS.l0 k l m (j : Int) = some l := by
  intro d
  induction d with
  | zero =>
    intro j k m hj hk hm hp
    obtain ⟨k, rfl⟩ := suc_of hk
    simp only [laws_toInt64SS.l0]
    rw [if_neg (by omega)]
    congr 1
    apply List.ext_getElem?
    intro i
    by_cases hi : i < j
    · exact hp i hi
    · rw [List.getElem?_eq_none (by omega), List.getElem?_eq_none (by omega)]
  | succ d ih =>
    intro j k m hj hk hm hp
    obtain ⟨k, rfl⟩ := suc_of hk
    have hx := hi (l.getD j []) (by rw [getD_lt (by omega)]; exact List.getElem_mem _)
    simp only [laws_toInt64SS.l0]
    rw [if_pos (by omega), if_pos (by omega), rdll_nat, toI _ (by omega) k (by omega)]
    simp only [Option.bind_some]
    rw [if_pos (by omega), next_nat (n := l.length) (by omega) (by omega)]
    refine ih (j + 1) k _ (by omega) (by omega) (by simpa using hm) (fun i hi => ?_)
    rw [Int.toNat_natCast, List.getElem?_set]
    by_cases e : j = i
    · subst e
      rw [if_pos rfl, if_pos (by omega), getD_lt (by omega), List.getElem?_eq_getElem (by omega)]
    · rw [if_neg e]; exact hp i (by omega)
theorem toII (l : List (List Int)) (hl : l.length ≤ 1048576) (hi : ∀ x ∈ l, x.length ≤ 1048576) (k : Nat) (hk : 2097154 < k) : laws_toInt64SS.f k l = some l := by
  unfold laws_toInt64SS.f
  rw [if_pos (by omega), if_pos (by omega)]
  exact toII_l0 l hl hi l.length 0 k _ (by omega) (by omega) (by simp) (fun i hi => absurd hi (by omega))
theorem eqII_l0 (l : List (List Int)) (hl : l.length ≤ 1048576) (hi : ∀ x ∈ l, x.length ≤ 1048576) : ∀ (d j k : Nat), j + d = l.length → d + 1048577 < k → laws_eqInt64SS.l0 k l l (j : Int) = some true := by
  intro d
  induction d with
  | zero =>
    intro j k hj hk
    obtain ⟨k, rfl⟩ := suc_of hk
    simp only [laws_eqInt64SS.l0]
    rw [if_neg (by omega)]
  | succ d ih =>
    intro j k hj hk
    obtain ⟨k, rfl⟩ := suc_of hk
    have hx := hi (l.getD j []) (by rw [getD_lt (by omega)]; exact List.getElem_mem _)
    simp only [laws_eqInt64SS.l0]
    rw [if_pos (by omega), if_pos (by omega), if_pos (by omega), rdll_nat, eqI _ (by omega) k (by omega)]
    simp only [Option.bind_some, if_true]
    rw [next_nat (n := l.length) (by omega) (by omega)]
    exact ih (j + 1) k (by omega) (by omega)
theorem eqII (l : List (List Int)) (hl : l.length ≤ 1048576) (hi : ∀ x ∈ l, x.length ≤ 1048576) (k : Nat) (hk : 2097154 < k) : laws_eqInt64SS.f k l l = some true := by
  unfold laws_eqInt64SS.f
  rw [if_pos rfl]
  exact eqII_l0 l hl hi l.length 0 k (by omega) (by omega)

theorem szTariff (s : ByteArray) (f p : Int) (l : List (List Int)) (hs : s.size ≤ maxLen) (hl : l.length ≤ 9223372036854775807) (hi : ∀ x ∈ l, x.length ≤ 9223372036854775807) (n : Int) (hn : 0 ≤ n) (hn2 : n ≤ 1048576) (k : Nat) (hk : 1048576 < k) :
    ∃ r, laws_szTariff.f k s f p l n = some r ∧ r ≤ n ∧ -1 ≤ r ∧ (0 ≤ r → s.size ≤ 1048576 ∧ l.length ≤ 1048576 ∧ ∀ x ∈ l, x.length ≤ 1048576) := by
  unfold laws_szTariff.f laws_szInt64SS.f
  simp only [maxLen] at hs
  rw [wrap_id (x := n - (s.size : Int)) (by omega) (by omega)]
  by_cases c : n - (s.size : Int) < 0
  · rw [if_pos c]; exact ⟨-1, rfl, by omega, by omega, fun h => by omega⟩
  · rw [if_neg c, wrap_id (x := n - (s.size : Int) - (l.length : Int)) (by omega) (by omega)]
    by_cases c2 : n - (s.size : Int) - (l.length : Int) < 0
    · rw [if_pos c2]; exact ⟨-1, rfl, by omega, by omega, fun h => by omega⟩
    · rw [if_neg c2]
      obtain ⟨r, h2, h3, h4⟩ := szII_l0 l (by omega) hi l.length 0 k (n - (s.size : Int) - (l.length : Int)) (by omega) (by omega) (by omega) (by omega)
      have h2' : laws_szInt64SS.l0 k l (n - (s.size : Int) - (l.length : Int)) 0 = some r := h2
      rw [h2']
      simp only [Option.bind_some]
      by_cases c3 : r < 0
      · rw [if_pos c3]; exact ⟨-1, rfl, by omega, by omega, fun h => by omega⟩
      · rw [if_neg c3]
        refine ⟨r, rfl, by omega, by omega, fun hr => ⟨by omega, by omega, fun x hx => ?_⟩⟩
        obtain ⟨i, hi1, rfl⟩ := List.mem_iff_getElem.1 hx
        have := h4 hr i (by omega) hi1
        rwa [getD_lt hi1] at this
theorem toTariff (s : ByteArray) (f p : Int) (l : List (List Int)) (hl : l.length ≤ 1048576) (hi : ∀ x ∈ l, x.length ≤ 1048576) (k : Nat) (hk : 2097154 < k) : laws_toTariff.f k s f p l = some (s, f, p, l) := by
  unfold laws_toTariff.f
  rw [toII l hl hi k hk]; rfl
theorem eqTariff (s : ByteArray) (f p : Int) (l : List (List Int)) (hl : l.length ≤ 1048576) (hi : ∀ x ∈ l, x.length ≤ 1048576) (k : Nat) (hk : 2097154 < k) : laws_eqTariff.f k s f p l s f p l = some true := by
  unfold laws_eqTariff.f
  rw [if_pos rfl, if_pos rfl, if_pos rfl, eqII l hl hi k hk]; rfl

theorem sn_eq (l : List UInt8) : strOfNums (l.map fun b => (b.toNat : Int)) = ⟨l.toArray⟩ := by
  unfold strOfNums
  congr 1
  rw [List.map_map]
  have : ((fun x : Int => UInt8.ofNat x.toNat) ∘ fun b : UInt8 => (b.toNat : Int)) = id := by
    funext b
    simp
  first | (rw [this, List.map_id]) | simp [this]
theorem dd_small {m : Nat} (h : m < 10) : Lib.decDigits m = [UInt8.ofNat (48 + m)] := by
  rw [Lib.decDigits, dif_pos h]
theorem dd_big {m : Nat} (h : ¬ m < 10) : Lib.decDigits m = Lib.decDigits (m / 10) ++ [UInt8.ofNat (48 + m % 10)] := by
  rw [Lib.decDigits, dif_neg h]
theorem dd_len : ∀ (j m : Nat), m < 10 ^ (j + 1) → (Lib.decDigits m).length ≤ j + 1 := by
  intro j
  induction j with
  | zero => intro m h; rw [dd_small (by simpa using h)]; exact Nat.le_refl _
  | succ j ih =>
    intro m h
    by_cases c : m < 10
    · rw [dd_small c]; simp
    · rw [dd_big c, List.length_append, List.length_singleton]
      have := ih (m / 10) (by rw [Nat.pow_succ] at h; omega)
      omega
theorem dig_byte (d : Nat) (h : d < 10) : (48 + (d : Int)) % 256 = ((UInt8.ofNat (48 + d)).toNat : Int) := by
  exact (by decide : ∀ d : Fin 10, (48 + (d.val : Int)) % 256 = ((UInt8.ofNat (48 + d.val)).toNat : Int)) ⟨d, h⟩
def u8i (l : List UInt8) : List Int := l.map fun b => (b.toNat : Int)
theorem dec_l0 (x0 : Int) (hx : ¬ x0 < 0) : ∀ (j m : Nat), 0 < m → m < 10 ^ (j + 1) → m < 9223372036854775808 → ∀ (A : List Int) (k : Nat), A.length + j < 1000 →
    spec_l01Dec.l0 (k + (Lib.decDigits m).length + 1) x0 A (m : Int) = spec_l01Dec.j1 k (A ++ u8i (Lib.decDigits m).reverse) := by
  intro j
  induction j with
  | zero =>
    intro m h0 h1 _ A k hA
    have h1 : m < 10 := by simpa using h1
    rw [dd_small h1, spec_l01Dec.l0.eq_def]
    simp only [List.length_singleton]
    have e1 : Int.tmod (m : Int) 10 = (m : Int) := by rw [Int.tmod_eq_emod_of_nonneg (by omega)]; omega
    have e2 : Int.tdiv (m : Int) 10 = 0 := by rw [Int.tdiv_eq_ediv_of_nonneg (by omega)]; omega
    have e3 : wrap64 (48 + (m : Int)) = 48 + (m : Int) := wrap_id (by omega) (by omega)
    have e4 : wrap64 (0 : Int) = 0 := wrap_id (by omega) (by omega)
    rw [if_neg (by omega), e1, if_neg (by omega), if_pos (by omega), e2, e3, e4, dig_byte m h1]
    show spec_l01Dec.l0 (k + 1) x0 _ 0 = _
    rw [spec_l01Dec.l0.eq_def]
    simp only []
    rw [if_pos (by trivial), if_neg hx]
    rfl
  | succ j ih =>
    intro m h0 h1 h2 A k hA
    by_cases c : m < 10
    · have hp : 1 ≤ 10 ^ j := Nat.one_le_pow _ _ (by decide)
      rw [dd_small c, spec_l01Dec.l0.eq_def]
      simp only [List.length_singleton]
      have e1 : Int.tmod (m : Int) 10 = (m : Int) := by rw [Int.tmod_eq_emod_of_nonneg (by omega)]; omega
      have e2 : Int.tdiv (m : Int) 10 = 0 := by rw [Int.tdiv_eq_ediv_of_nonneg (by omega)]; omega
      have e3 : wrap64 (48 + (m : Int)) = 48 + (m : Int) := wrap_id (by omega) (by omega)
      have e4 : wrap64 (0 : Int) = 0 := wrap_id (by omega) (by omega)
      rw [if_neg (by omega), e1, if_neg (by omega), if_pos (by omega), e2, e3, e4, dig_byte m c]
      show spec_l01Dec.l0 (k + 1) x0 _ 0 = _
      rw [spec_l01Dec.l0.eq_def]
      simp only []
      rw [if_pos (by trivial), if_neg hx]
      rfl
    · rw [dd_big c, List.length_append, List.length_singleton, spec_l01Dec.l0.eq_def]
      simp only []
      have e1 : Int.tmod (m : Int) 10 = ((m % 10 : Nat) : Int) := by rw [Int.tmod_eq_emod_of_nonneg (by omega)]; omega
      have e2 : Int.tdiv (m : Int) 10 = ((m / 10 : Nat) : Int) := by rw [Int.tdiv_eq_ediv_of_nonneg (by omega)]; omega
      have e3 : wrap64 (48 + ((m % 10 : Nat) : Int)) = 48 + ((m % 10 : Nat) : Int) := wrap_id (by omega) (by omega)
      have e4 : wrap64 (((m / 10 : Nat) : Int)) = ((m / 10 : Nat) : Int) := wrap_id (by omega) (by omega)
      rw [if_neg (by omega), e1, if_neg (by omega), if_pos (by omega), e2, e3, e4, dig_byte (m % 10) (by omega)]
      have q := ih (m / 10) (by omega) (by rw [Nat.pow_succ] at h1; omega) (by omega) (A ++ [((UInt8.ofNat (48 + m % 10)).toNat : Int)]) k (by simp only [List.length_append, List.length_singleton]; omega)
      rw [← Nat.add_assoc] 
      rw [q, List.append_assoc, List.reverse_append]
      rfl
theorem dec_l1 (X : List Int) (hX : X.length < 1000) : ∀ (n : Nat) (O : List Int) (k : Nat), n ≤ X.length → O.length + n < 2000 →
    spec_l01Dec.l1 (k + n + 1) X O ((n : Int) - 1) = some (strOfNums (O ++ (X.take n).reverse)) := by
  intro n
  induction n with
  | zero =>
    intro O k _ _
    rw [spec_l01Dec.l1.eq_def]
    simp only []
    rw [if_neg (by omega)]
    simp
  | succ n ih =>
    intro O k hn hO
    rw [spec_l01Dec.l1.eq_def]
    simp only []
    have e0 : ((n + 1 : Nat) : Int) - 1 = (n : Int) := by omega
    have e1 : wrap64 ((n : Int) - 1) = (n : Int) - 1 := wrap_id (by omega) (by omega)
    rw [e0, if_pos (by omega), if_pos (by omega), if_pos (by omega), if_pos (by omega), e1, ← Nat.add_assoc, ih _ k (by omega) (by simp only [List.length_append, List.length_singleton]; omega)]
    have hg : X[n]? = some (rd X (n : Int)) := by
      unfold rd
      rw [Int.toNat_natCast]
      rw [List.getD_eq_getElem?_getD, List.getElem?_eq_getElem (by omega)]
      rfl
    rw [List.take_add_one, hg, List.append_assoc]
    simp
theorem dec_spec (n : Int) (h0 : 0 ≤ n) (h1 : n ≤ 1000000000000) (k : Nat) (hk : 100 ≤ k) : spec_l01Dec.f k n = some ⟨(Lib.itoa n).toArray⟩ := by
  obtain ⟨m, rfl⟩ : ∃ m : Nat, n = (m : Int) := ⟨n.toNat, by omega⟩
  have ei : Lib.itoa (m : Int) = Lib.decDigits m := by
    unfold Lib.itoa
    rw [if_neg (by omega), Int.toNat_natCast]
  rw [ei]
  unfold spec_l01Dec.f
  by_cases c : (m : Int) = 0
  · rw [if_pos c]
    obtain rfl : m = 0 := by omega
    rw [dd_small (by decide)]
    rfl
  · rw [if_neg c]
    have hl := dd_len 12 m (by omega)
    obtain ⟨q, hq⟩ : ∃ q, k = ((q + (Lib.decDigits m).length + 1) + 1) + (Lib.decDigits m).length + 1 := ⟨k - 2 * (Lib.decDigits m).length - 3, by omega⟩
    rw [hq, dec_l0 (m : Int) (by omega) 12 m (by omega) (by omega) (by omega) [] _ (by simp)]
    rw [List.nil_append, spec_l01Dec.j1.eq_def]
    simp only []
    have hle : (u8i (Lib.decDigits m).reverse).length = (Lib.decDigits m).length := by unfold u8i; rw [List.length_map, List.length_reverse]
    have ew : wrap64 (((u8i (Lib.decDigits m).reverse).length : Int) - 1) = (((Lib.decDigits m).length : Nat) : Int) - 1 := by rw [hle]; exact wrap_id (by omega) (by omega)
    rw [ew, dec_l1 _ (by rw [hle]; omega) (Lib.decDigits m).length [] q (by rw [hle]; exact Nat.le_refl _) (by simp only [List.length_nil]; omega)]
    rw [List.nil_append, ← hle, List.take_length]
    unfold u8i
    rw [← List.map_reverse, List.reverse_reverse, sn_eq]
theorem itoa_len (n : Int) (h0 : 0 ≤ n) (h1 : n ≤ 1000000000000) : (Lib.itoa n).length ≤ 13 := by
  unfold Lib.itoa
  rw [if_neg (by omega)]
  exact dd_len 12 _ (by omega)

theorem name_same (s : ByteArray) : ∀ (k : Nat) (i : Int), spec_l01Name.l0 k s i = impl_onlyNameBytes.l0 k s (s.size : Int) i := by
  intro k
  induction k with
  | zero => intro i; simp only [spec_l01Name.l0, impl_onlyNameBytes.l0]
  | succ k ih =>
    intro i
    simp only [spec_l01Name.l0, impl_onlyNameBytes.l0]
    unfold spec_l01Small.f spec_l01Digit.f
    rw [ih]
    generalize impl_onlyNameBytes.l0 k s (s.size : Int) (wrap64 (i + 1)) = e
    generalize bt s i = b
    by_cases h1 : i < (s.size : Int)
    · rw [if_pos h1, if_pos h1, if_pos h1]
      by_cases h2 : 0 ≤ i
      · rw [if_pos h2, if_pos h2]
        by_cases c1 : b < 97
        · rw [if_pos c1, if_neg (by omega)]
          by_cases c2 : b < 48
          · rw [if_pos c2, if_neg (by omega)]; simp
          · rw [if_neg c2, if_pos (by omega)]
            by_cases c3 : b > 57
            · rw [if_pos c3, decide_eq_false (by omega)]; simp
            · rw [if_neg c3, decide_eq_true (by omega)]; simp
        · rw [if_neg c1, if_pos (by omega)]
          by_cases c4 : b > 122
          · rw [if_pos c4, decide_eq_false (by omega), if_pos (by omega), if_neg (by omega), decide_eq_false (by omega), if_pos (by omega)]; simp
          · rw [if_neg c4, decide_eq_true (by omega)]; simp
      · rw [if_neg h2, if_neg h2]
    · rw [if_neg h1, if_neg h1]
theorem name_total (s : ByteArray) (hs : s.size ≤ 35184372088832) : ∀ (d j k : Nat), j + d = s.size → d < k → ∃ r, impl_onlyNameBytes.l0 k s (s.size : Int) (j : Int) = some r := by
  intro d
  induction d with
  | zero =>
    intro j k hj hk
    obtain ⟨k, rfl⟩ := suc_of hk
    simp only [impl_onlyNameBytes.l0]
    rw [if_neg (by omega)]; exact ⟨_, rfl⟩
  | succ d ih =>
    intro j k hj hk
    obtain ⟨k, rfl⟩ := suc_of hk
    obtain ⟨r, hr⟩ := ih (j + 1) k (by omega) (by omega)
    simp only [impl_onlyNameBytes.l0]
    rw [if_pos (by omega), if_pos (by omega), if_pos (by omega), next_nat (n := s.size) (by omega) (by omega), hr]
    split
    · split
      · exact ⟨_, rfl⟩
      · split
        · exact ⟨_, rfl⟩
        · exact ⟨_, rfl⟩
    · split
      · split
        · exact ⟨_, rfl⟩
        · split
          · exact ⟨_, rfl⟩
          · exact ⟨_, rfl⟩
      · exact ⟨_, rfl⟩
/-- A name is one for both. -/
theorem name_both (s : ByteArray) (hs : s.size ≤ 35184372088832) : ∃ b : Bool, (∀ k, s.size + 3 ≤ k → spec_l01Name.f k s = some b) ∧ (∀ k, s.size + 3 ≤ k → impl_IsName.f k s = some b) ∧ (b = true → 1 ≤ s.size ∧ s.size ≤ 10) := by
  obtain ⟨r, hr⟩ := name_total s hs s.size 0 (s.size + 2) (by omega) (by omega)
  have hr3 : impl_onlyNameBytes.l0 (s.size + 3) s (s.size : Int) 0 = some r := impl_onlyNameBytes.mono_l (s.size + 2) s (s.size : Int) 0 r hr
  have hr2 : impl_onlyNameBytes.l0 (s.size + 2) s (s.size : Int) 0 = some r := hr
  have key : ∃ b : Bool, spec_l01Name.f (s.size + 3) s = some b ∧ impl_IsName.f (s.size + 3) s = some b ∧ (b = true → 1 ≤ s.size ∧ s.size ≤ 10) := by
    have bad : spec_l01Name.j0 (s.size + 3) s true = some false := by simp only [spec_l01Name.j0]; simp
    unfold spec_l01Name.f impl_IsName.f impl_onlyNameBytes.f
    by_cases h0 : s.size = 0
    · have e : s.toList = [] := by
        rw [ByteArray.toList_eq]; exact List.eq_nil_of_length_eq_zero (by rw [Array.length_toList]; exact h0)
      rw [if_pos e, if_pos (by omega), bad]; exact ⟨_, rfl, rfl, by simp⟩
    · have e : ¬ s.toList = [] := by
        rw [ByteArray.toList_eq]
        intro h
        have : s.data.toList.length = 0 := by rw [h]; rfl
        rw [Array.length_toList] at this
        exact h0 this
      rw [if_neg e, if_neg (show ¬ (s.size : Int) < 1 by omega)]
      by_cases h1 : (s.size : Int) > 10
      · rw [if_pos h1, if_pos h1, bad]; exact ⟨_, rfl, rfl, by simp⟩
      · rw [if_neg h1, if_neg h1, if_pos (by omega), if_pos (by omega)]
        unfold spec_l01Small.f
        by_cases c1 : bt s 0 < 97
        · rw [if_pos c1, if_neg (by omega)]
          simp only [Option.bind_some, Bool.not_false]
          exact ⟨_, bad, rfl, by simp⟩
        · rw [if_neg c1, if_pos (by omega)]
          by_cases c2 : bt s 0 > 122
          · rw [if_pos c2, decide_eq_false (by omega)]
            simp only [Option.bind_some, Bool.not_false]
            exact ⟨_, bad, rfl, by simp⟩
          · rw [if_neg c2, decide_eq_true (by omega), hr3]
            simp only [Option.bind_some, Bool.not_true]
            refine ⟨r, ?_, rfl, fun _ => by omega⟩
            simp only [spec_l01Name.j0]
            rw [if_neg Bool.false_ne_true, name_same]
            exact hr2
  obtain ⟨b, h1, h2, h3⟩ := key
  exact ⟨b, up (spec_l01Name.mono s) h1, up (impl_IsName.mono s) h2, h3⟩

theorem impl_in (n lo hi : Int) : impl_within.f n lo hi = some (decide (lo ≤ n ∧ n ≤ hi)) := by unfold impl_within.f; split <;> simp <;> omega

theorem spec_in (n lo hi : Int) : spec_l00In.f n lo hi = some (decide (lo ≤ n ∧ n ≤ hi)) := by unfold spec_l00In.f; split <;> simp <;> omega

def lv0 (L : List (List Int)) (i : Nat) : Int := rd (L.getD i []) 0
def lv1 (L : List (List Int)) (i : Nat) : Int := rd (L.getD i []) 1
def stepOk (L : List (List Int)) (i : Nat) : Bool := decide ((L.getD i []).length = 2) && (decide (0 ≤ lv0 L i ∧ lv0 L i ≤ 1000000) && (decide (0 ≤ lv1 L i ∧ lv1 L i ≤ 10000) && (if i = 0 then decide (lv0 L i = 0) else decide (lv0 L (i - 1) < lv0 L i))))
def allFrom (L : List (List Int)) : Nat → Nat → Bool
  | 0, _ => true
  | d + 1, j => stepOk L j && allFrom L d (j + 1)
theorem spec_lv_l0 (s : ByteArray) (f p : Int) (L : List (List Int)) (hL : L.length ≤ 6) : ∀ (d j k : Nat), j + d = L.length → 2 * d < k → (0 < j → (L.getD (j - 1) []).length = 2) →
    spec_l21Ok.l0 k [(⟨s, f, p, L⟩ : S27)] (j : Int) = some (allFrom L d j) := by
  intro d
  induction d with
  | zero =>
    intro j k hj hk hp
    obtain ⟨k, rfl⟩ := suc_of (show 0 < k by omega)
    simp only [spec_l21Ok.l0, show rd_T27 [(⟨s, f, p, L⟩ : S27)] 0 = ⟨s, f, p, L⟩ from rfl]
    rw [if_pos (by simp), if_neg (by omega)]
    rfl
  | succ d ih =>
    intro j k hj hk hp
    obtain ⟨k, rfl⟩ : ∃ m, k = m + 1 + 1 := ⟨k - 2, by omega⟩
    have bad : spec_l21Ok.j2 (k + 1) [(⟨s, f, p, L⟩ : S27)] (j : Int) true = some false := by simp only [spec_l21Ok.j2]; simp
    have good : spec_l21Ok.j2 (k + 1) [(⟨s, f, p, L⟩ : S27)] (j : Int) false = spec_l21Ok.l0 k [(⟨s, f, p, L⟩ : S27)] ((j + 1 : Nat) : Int) := by
      simp only [spec_l21Ok.j2]
      rw [if_neg Bool.false_ne_true, next_nat (n := L.length) (by omega) (by omega)]
    simp only [spec_l21Ok.l0, show rd_T27 [(⟨s, f, p, L⟩ : S27)] 0 = ⟨s, f, p, L⟩ from rfl]
    rw [if_pos (by simp), if_pos (by omega), if_pos (by omega), rdll_nat]
    unfold allFrom stepOk lv0 lv1
    by_cases hlen : (L.getD j []).length = 2
    · have hr := ih (j + 1) k (by omega) (by omega) (fun _ => hlen)
      rw [if_pos (show ((L.getD j []).length : Int) = 2 by omega), if_pos (show (0 : Int) < ((L.getD j []).length : Int) by omega), if_pos (show (1 : Int) < ((L.getD j []).length : Int) by omega), decide_eq_true hlen, Bool.true_and]
      simp only [spec_in, Option.bind_some]
      generalize hx0 : rd (L.getD j []) 0 = x0
      generalize rd (L.getD j []) 1 = x1
      by_cases hA : 0 ≤ x0 ∧ x0 ≤ 1000000
      · rw [decide_eq_true hA, if_pos rfl, Bool.true_and]
        by_cases hB : 0 ≤ x1 ∧ x1 ≤ 10000
        · rw [decide_eq_true hB, if_pos rfl, Bool.true_and]
          by_cases hz : j = 0
          · rw [if_pos (show (j : Int) = 0 by omega), if_pos hz]
            by_cases h00 : x0 = 0
            · rw [if_pos h00, if_neg (show ¬ (j : Int) > 0 by omega), good, hr, decide_eq_true h00, Bool.true_and]
            · rw [if_neg h00, bad, decide_eq_false h00]; rfl
          · have hpv := hp (by omega)
            rw [if_neg (show ¬ (j : Int) = 0 by omega), if_neg hz, if_pos (show (j : Int) > 0 by omega)]
            have ew : wrap64 ((j : Int) - 1) = ((j - 1 : Nat) : Int) := by rw [wrap_id (by omega) (by omega)]; omega
            rw [ew, rdll_nat, if_pos (show (0 : Int) ≤ ((j - 1 : Nat) : Int) by omega), if_pos (show ((j - 1 : Nat) : Int) < (L.length : Int) by omega), if_pos (show (0 : Int) < ((L.getD (j - 1) []).length : Int) by omega)]
            generalize rd (L.getD (j - 1) []) 0 = y0
            by_cases hc : y0 < x0
            · rw [decide_eq_false (show ¬ y0 ≥ x0 by omega), good, hr, decide_eq_true hc, Bool.true_and]
            · rw [decide_eq_true (show y0 ≥ x0 by omega), bad, decide_eq_false hc]; rfl
        · rw [decide_eq_false hB, if_neg Bool.false_ne_true, bad]; rfl
      · rw [decide_eq_false hA, if_neg Bool.false_ne_true, bad]; rfl
    · rw [if_neg (show ¬ ((L.getD j []).length : Int) = 2 by omega), bad, decide_eq_false hlen]; rfl
theorem impl_lv_l0 (s : ByteArray) (f p : Int) (L : List (List Int)) (hL : L.length ≤ 6) : ∀ (d j k : Nat), j + d = L.length → 2 * d < k → (0 < j → (L.getD (j - 1) []).length = 2) →
    impl_ValidTariff.l0 k L (L.length : Int) (j : Int) s f p L = some (allFrom L d j) := by
  intro d
  induction d with
  | zero =>
    intro j k hj hk hp
    obtain ⟨k, rfl⟩ := suc_of (show 0 < k by omega)
    simp only [impl_ValidTariff.l0]
    rw [if_neg (by omega)]
    rfl
  | succ d ih =>
    intro j k hj hk hp
    obtain ⟨k, rfl⟩ : ∃ m, k = m + 1 + 1 := ⟨k - 2, by omega⟩
    have bad : impl_ValidTariff.j2 (k + 1) L (L.length : Int) (j : Int) true s f p L = some false := by simp only [impl_ValidTariff.j2]; simp
    have good : impl_ValidTariff.j2 (k + 1) L (L.length : Int) (j : Int) false s f p L = impl_ValidTariff.l0 k L (L.length : Int) ((j + 1 : Nat) : Int) s f p L := by
      simp only [impl_ValidTariff.j2]
      rw [if_neg Bool.false_ne_true, next_nat (n := L.length) (by omega) (by omega)]
    simp only [impl_ValidTariff.l0]
    rw [if_pos (by omega), if_pos (by omega), if_pos (by omega), rdll_nat]
    unfold allFrom stepOk lv0 lv1
    by_cases hlen : (L.getD j []).length = 2
    · have hr := ih (j + 1) k (by omega) (by omega) (fun _ => hlen)
      rw [if_pos (show ((L.getD j []).length : Int) = 2 by omega), if_pos (show (0 : Int) < ((L.getD j []).length : Int) by omega), if_pos (show (1 : Int) < ((L.getD j []).length : Int) by omega), decide_eq_true hlen, Bool.true_and]
      simp only [impl_in, Option.bind_some]
      generalize hx0 : rd (L.getD j []) 0 = x0
      generalize rd (L.getD j []) 1 = x1
      by_cases hA : 0 ≤ x0 ∧ x0 ≤ 1000000
      · rw [decide_eq_true hA, if_pos rfl, Bool.true_and]
        by_cases hB : 0 ≤ x1 ∧ x1 ≤ 10000
        · rw [decide_eq_true hB, if_pos rfl, Bool.true_and]
          by_cases hz : j = 0
          · rw [if_pos (show (j : Int) = 0 by omega), if_pos hz]
            by_cases h00 : x0 = 0
            · rw [if_pos h00, if_neg (show ¬ (j : Int) > 0 by omega), good, hr, decide_eq_true h00, Bool.true_and]
            · rw [if_neg h00, bad, decide_eq_false h00]; rfl
          · have hpv := hp (by omega)
            rw [if_neg (show ¬ (j : Int) = 0 by omega), if_neg hz, if_pos (show (j : Int) > 0 by omega)]
            have ew : wrap64 ((j : Int) - 1) = ((j - 1 : Nat) : Int) := by rw [wrap_id (by omega) (by omega)]; omega
            rw [ew, rdll_nat, if_pos (show (0 : Int) ≤ ((j - 1 : Nat) : Int) by omega), if_pos (show ((j - 1 : Nat) : Int) < (L.length : Int) by omega), if_pos (show (0 : Int) < ((L.getD (j - 1) []).length : Int) by omega)]
            generalize rd (L.getD (j - 1) []) 0 = y0
            by_cases hc : y0 < x0
            · rw [decide_eq_false (show ¬ x0 ≤ y0 by omega), good, hr, decide_eq_true hc, Bool.true_and]
            · rw [decide_eq_true (show x0 ≤ y0 by omega), bad, decide_eq_false hc]; rfl
        · rw [decide_eq_false hB, if_neg Bool.false_ne_true, bad]; rfl
      · rw [decide_eq_false hA, if_neg Bool.false_ne_true, bad]; rfl
    · rw [if_neg (show ¬ ((L.getD j []).length : Int) = 2 by omega), bad, decide_eq_false hlen]; rfl
theorem allFrom_at (L : List (List Int)) : ∀ (d j : Nat), allFrom L d j = true → ∀ i, j ≤ i → i < j + d → stepOk L i = true := by
  intro d
  induction d with
  | zero => intro j _ i h1 h2; omega
  | succ d ih =>
    intro j h i h1 h2
    unfold allFrom at h
    rw [Bool.and_eq_true] at h
    by_cases e : i = j
    · subst e; exact h.1
    · exact ih (j + 1) h.2 i (by omega) (by omega)
def TarOk (f p : Int) (L : List (List Int)) : Prop := (0 ≤ f ∧ f ≤ 1000000) ∧ (0 ≤ p ∧ p ≤ 10000) ∧ 1 ≤ L.length ∧ L.length ≤ 6 ∧ ∀ i, i < L.length → (L.getD i []).length = 2 ∧ (0 ≤ lv0 L i ∧ lv0 L i ≤ 1000000) ∧ (0 ≤ lv1 L i ∧ lv1 L i ≤ 10000) ∧ (i = 0 → lv0 L i = 0) ∧ (0 < i → lv0 L (i - 1) < lv0 L i)
theorem tariff_both (s : ByteArray) (f p : Int) (L : List (List Int)) (hs : s.size ≤ 35184372088832) : ∃ v : Bool, (∀ k, s.size + 30 ≤ k → spec_l21Ok.f k [(⟨s, f, p, L⟩ : S27)] = some v) ∧ (∀ k, s.size + 30 ≤ k → impl_ValidTariff.f k s f p L = some v) ∧ (v = true → TarOk f p L ∧ s.size ≤ 10) := by
  obtain ⟨b, n1, n2, n3⟩ := name_both s hs
  have e : rd_T27 [(⟨s, f, p, L⟩ : S27)] 0 = ⟨s, f, p, L⟩ := rfl
  have sbad : ∀ k, spec_l21Ok.j0 (k + 1) [(⟨s, f, p, L⟩ : S27)] true = some false := fun k => by simp only [spec_l21Ok.j0]; simp
  have ibad : ∀ k, impl_ValidTariff.j0 (k + 1) true s f p L = some false := fun k => by simp only [impl_ValidTariff.j0]; simp
  refine ⟨b && (decide (0 ≤ f ∧ f ≤ 1000000) && (decide (0 ≤ p ∧ p ≤ 10000) && (decide (1 ≤ (L.length : Int) ∧ (L.length : Int) ≤ 6) && allFrom L L.length 0))), fun k hk => ?_, fun k hk => ?_, fun h => ?_⟩
  · obtain ⟨k, rfl⟩ := suc_of (show 0 < k by omega)
    unfold spec_l21Ok.f
    rw [if_pos (by simp)]
    simp only [e, spec_in, n1 (k + 1) (by omega), Option.bind_some, sbad]
    cases b
    · rfl
    · cases decide (0 ≤ f ∧ f ≤ 1000000)
      · rfl
      · cases decide (0 ≤ p ∧ p ≤ 10000)
        · rfl
        · simp only [if_true, Bool.true_and]
          by_cases h : 1 ≤ (L.length : Int) ∧ (L.length : Int) ≤ 6
          · rw [decide_eq_true h]
            simp only [Bool.not_true, spec_l21Ok.j0, Bool.true_and]
            rw [if_neg Bool.false_ne_true]
            exact spec_lv_l0 s f p L (by omega) L.length 0 k (by omega) (by omega) (fun h => absurd h (by omega))
          · rw [decide_eq_false h, Bool.not_false, sbad]; rfl
  · obtain ⟨k, rfl⟩ := suc_of (show 0 < k by omega)
    unfold impl_ValidTariff.f
    simp only [impl_in, n2 (k + 1) (by omega), Option.bind_some, ibad]
    cases b
    · rfl
    · cases decide (0 ≤ f ∧ f ≤ 1000000)
      · rfl
      · cases decide (0 ≤ p ∧ p ≤ 10000)
        · rfl
        · simp only [if_true, Bool.true_and]
          by_cases h1 : (L.length : Int) < 1
          · rw [if_pos h1, decide_eq_false (by omega)]; rfl
          · rw [if_neg h1]
            by_cases h2 : (L.length : Int) > 6
            · rw [decide_eq_true h2, ibad, decide_eq_false (by omega)]; rfl
            · rw [decide_eq_false h2, decide_eq_true (by omega)]
              simp only [impl_ValidTariff.j0, Bool.true_and]
              rw [if_neg Bool.false_ne_true]
              exact impl_lv_l0 s f p L (by omega) L.length 0 k (by omega) (by omega) (fun h => absurd h (by omega))
  · simp only [Bool.and_eq_true, decide_eq_true_eq] at h
    obtain ⟨hb, hf, hp, hl, ha⟩ := h
    refine ⟨⟨hf, hp, by omega, by omega, fun i hi => ?_⟩, (n3 hb).2⟩
    have h := allFrom_at L L.length 0 ha i (by omega) (by omega)
    unfold stepOk at h
    simp only [Bool.and_eq_true, decide_eq_true_eq] at h
    obtain ⟨g1, g2, g3, g4⟩ := h
    refine ⟨g1, g2, g3, fun hz => ?_, fun hz => ?_⟩
    · rw [if_pos hz] at g4; exact of_decide_eq_true g4
    · rw [if_neg (by omega)] at g4; exact of_decide_eq_true g4

theorem ba_ext {x y : ByteArray} (h : x.data.toList = y.data.toList) : x = y := by
  cases x with | mk a =>
  cases y with | mk b =>
  have : a = b := Array.toList_inj.mp h
  rw [this]
def pairT (x : List Int) : List UInt8 := 32 :: (Lib.itoa (rd x 0) ++ 58 :: Lib.itoa (rd x 1))
def rowsT : List (List Int) → List UInt8
  | [] => []
  | x :: r => pairT x ++ rowsT r
def headT (s : ByteArray) (f p : Int) : List UInt8 := s.data.toList ++ 32 :: (Lib.itoa f ++ 43 :: Lib.itoa p)
theorem imp_dec (n : Int) (h0 : 0 ≤ n) (h1 : n ≤ 1000000000000) : impl_Decimal.f n = some ⟨(Lib.itoa n).toArray⟩ := by
  unfold impl_Decimal.f strconv_FormatInt_23.f
  rw [if_pos ⟨rfl, by omega, by omega⟩]
  rfl
theorem sz_mk (l : List UInt8) : (⟨l.toArray⟩ : ByteArray).size = l.length := by simp [ByteArray.size]
theorem sz_one (b : UInt8) : (⟨#[b]⟩ : ByteArray).size = 1 := rfl
theorem app_T (a b : ByteArray) : (a ++ b).data.toList = a.data.toList ++ b.data.toList := by
  rw [ByteArray.data_append, Array.toList_append]
theorem rows_l0 (s : ByteArray) (f p : Int) (L : List (List Int)) (hL : L.length ≤ 6) (hx : ∀ i, i < L.length → (L.getD i []).length = 2 ∧ (0 ≤ lv0 L i ∧ lv0 L i ≤ 1000000) ∧ (0 ≤ lv1 L i ∧ lv1 L i ≤ 10000)) :
    ∀ (d i : Nat) (A : ByteArray) (k : Nat), i + d = L.length → A.size + d * 100 ≤ 10000000 → 200 + d < k →
    spec_l21Text.l0 k [(⟨s, f, p, L⟩ : S27)] A (i : Int) = some ⟨(A.data.toList ++ rowsT (L.drop i)).toArray⟩ ∧ impl_TariffText.l0 k A L (L.length : Int) (i : Int) = some ⟨(A.data.toList ++ rowsT (L.drop i)).toArray⟩ := by
  intro d
  induction d with
  | zero =>
    intro i A k hi _ hk
    obtain ⟨k, rfl⟩ := suc_of hk
    have e : L.drop i = [] := List.drop_of_length_le (by omega)
    have eA : (⟨(A.data.toList ++ rowsT (L.drop i)).toArray⟩ : ByteArray) = A := by
      rw [e]
      refine ba_ext ?_
      simp [rowsT]
    rw [eA, spec_l21Text.l0.eq_def, impl_TariffText.l0.eq_def]
    simp only [List.length_singleton]
    have r0 : (rd_T27 [(⟨s, f, p, L⟩ : S27)] 0).f3 = L := rfl
    rw [r0, if_pos (by omega), if_neg (by omega), if_neg (by omega)]
    exact ⟨rfl, rfl⟩
  | succ d ih =>
    intro i A k hi hA hk
    obtain ⟨k, rfl⟩ := suc_of hk
    have c2 : (i : Int) < (L.length : Int) := by omega
    have c3 : (0 : Int) ≤ (i : Int) := by omega
    have c1 : (0 : Int) < ((1 : Nat) : Int) := by omega
    have hil : i < L.length := by omega
    have hnx : wrap64 ((i : Int) + 1) = ((i + 1 : Nat) : Int) := next_nat (n := 6) (by omega) (by omega)
    obtain ⟨h2, ⟨a0, a1⟩, ⟨b0, b1⟩⟩ := hx i hil
    have c4 : (0 : Int) < ((L.getD i []).length : Int) := by rw [h2]; decide
    have c5 : (1 : Int) < ((L.getD i []).length : Int) := by rw [h2]; decide
    have r0 : (rd_T27 [(⟨s, f, p, L⟩ : S27)] 0).f3 = L := rfl
    have r1 : rd_L1 L (i : Int) = L.getD i [] := by unfold rd_L1; rw [Int.toNat_natCast]
    have s0 := dec_spec (lv0 L i) a0 (Int.le_trans a1 (by decide)) k (by clear a0 a1 b0 b1; omega)
    have s1 := dec_spec (lv1 L i) b0 (Int.le_trans b1 (by decide)) k (by clear a0 a1 b0 b1; omega)
    have i0 := imp_dec (lv0 L i) a0 (Int.le_trans a1 (by decide))
    have i1 := imp_dec (lv1 L i) b0 (Int.le_trans b1 (by decide))
    have n0 := itoa_len (lv0 L i) a0 (Int.le_trans a1 (by decide))
    have n1 := itoa_len (lv1 L i) b0 (Int.le_trans b1 (by decide))
    clear a0 a1 b0 b1
    have ep : pairT (L.getD i []) = 32 :: (Lib.itoa (lv0 L i) ++ 58 :: Lib.itoa (lv1 L i)) := rfl
    have g0 : rd (L.getD i []) 0 = lv0 L i := rfl
    have g1 : rd (L.getD i []) 1 = lv1 L i := rfl
    rw [← g0] at s0 i0 n0 ep
    rw [← g1] at s1 i1 n1 ep
    clear g0 g1
    obtain ⟨t0, e0⟩ : ∃ t, Lib.itoa (rd (L.getD i []) 0) = t := ⟨_, rfl⟩
    obtain ⟨t1, e1⟩ : ∃ t, Lib.itoa (rd (L.getD i []) 1) = t := ⟨_, rfl⟩
    rw [e0] at s0 i0 n0 ep
    rw [e1] at s1 i1 n1 ep
    have ed : L.drop i = L.getD i [] :: L.drop (i + 1) := by
      rw [List.drop_eq_getElem_cons (show i < L.length by omega), List.getD_eq_getElem?_getD, List.getElem?_eq_getElem (by omega)]
      rfl
    obtain ⟨B, hB⟩ : ∃ B : ByteArray, B = A ++ ((((⟨#[32]⟩ : ByteArray) ++ ⟨t0.toArray⟩) ++ (⟨#[58]⟩ : ByteArray)) ++ ⟨t1.toArray⟩) := ⟨_, rfl⟩
    have hBd : B.data.toList = A.data.toList ++ pairT (L.getD i []) := by
      rw [hB]
      simp only [app_T]
      rw [ep]
      simp
    have hBs : B.size ≤ A.size + 28 := by
      rw [hB]
      simp only [ByteArray.size_append, sz_mk, sz_one, List.length_singleton]
      omega
    obtain ⟨q1, q2⟩ := ih (i + 1) B k (by omega) (by omega) (by omega)
    rw [hBd, List.append_assoc] at q1 q2
    have ee : pairT (L.getD i []) ++ rowsT (L.drop (i + 1)) = rowsT (L.drop i) := by rw [ed]; rfl
    rw [ee] at q1 q2
    have z : ∀ l : List UInt8, (⟨l.toArray⟩ : ByteArray).size = l.length := sz_mk
    constructor
    · rw [spec_l21Text.l0.eq_def]
      simp only [List.length_singleton]
      rw [r0, r1, s0, s1, if_pos c1, if_pos c2, if_pos c3, if_pos c4, Option.bind_some, if_pos (by rw [z]; omega), if_pos (by simp only [ByteArray.size_append, sz_mk, sz_one, List.length_singleton]; omega), if_pos c5, Option.bind_some, if_pos (by simp only [ByteArray.size_append, sz_mk, sz_one, List.length_singleton]; omega), if_pos (by simp only [ByteArray.size_append, sz_mk, sz_one, List.length_singleton]; omega), ← hB, hnx]
      exact q1
    · rw [impl_TariffText.l0.eq_def]
      simp only []
      rw [r1, i0, i1, if_pos c2, if_pos c3, if_pos c2, if_pos c4, Option.bind_some, if_pos (by rw [z]; omega), if_pos (by simp only [ByteArray.size_append, sz_mk, sz_one, List.length_singleton]; omega), if_pos c5, Option.bind_some, if_pos (by simp only [ByteArray.size_append, sz_mk, sz_one, List.length_singleton]; omega), if_pos (by simp only [ByteArray.size_append, sz_mk, sz_one, List.length_singleton]; omega), ← hB, hnx]
      exact q2
theorem text_both (s : ByteArray) (f p : Int) (L : List (List Int)) (ht : TarOk f p L) (hs : s.size ≤ 10) (k : Nat) (hk : 1000 ≤ k) :
    spec_l21Text.f k [(⟨s, f, p, L⟩ : S27)] = some ⟨(headT s f p ++ rowsT L).toArray⟩ ∧
    (∀ v, impl_ValidTariff.f k s f p L = some v → v = true → impl_TariffText.f k s f p L = some ⟨(headT s f p ++ rowsT L).toArray⟩) := by
  obtain ⟨⟨f0, f1⟩, ⟨p0, p1⟩, _, l6, hx⟩ := ht
  have r0 : rd_T27 [(⟨s, f, p, L⟩ : S27)] 0 = ⟨s, f, p, L⟩ := rfl
  have s0 := dec_spec f f0 (by omega) k (by omega)
  have s1 := dec_spec p p0 (by omega) k (by omega)
  have i0 := imp_dec f f0 (by omega)
  have i1 := imp_dec p p0 (by omega)
  have n0 := itoa_len f f0 (by omega)
  have n1 := itoa_len p p0 (by omega)
  obtain ⟨B, hB⟩ : ∃ B : ByteArray, B = (((s ++ (⟨#[32]⟩ : ByteArray)) ++ ⟨(Lib.itoa f).toArray⟩) ++ (⟨#[43]⟩ : ByteArray)) ++ ⟨(Lib.itoa p).toArray⟩ := ⟨_, rfl⟩
  have hBd : B.data.toList = headT s f p := by
    rw [hB]
    simp only [app_T]
    unfold headT
    simp
  have hBs : B.size ≤ 100 := by
    rw [hB]
    simp only [ByteArray.size_append, sz_mk, sz_one, List.length_singleton]
    omega
  obtain ⟨q1, q2⟩ := rows_l0 s f p L l6 (fun i hi => ⟨(hx i hi).1, (hx i hi).2.1, (hx i hi).2.2.1⟩) L.length 0 B k (by omega) (by omega) (by omega)
  rw [hBd, List.drop_zero] at q1 q2
  constructor
  · unfold spec_l21Text.f
    simp only [List.length_singleton]
    simp only [r0]
    rw [s0, s1, if_pos (by omega), if_pos (by omega), Option.bind_some, if_pos (by simp only [ByteArray.size_append, sz_mk, sz_one, List.length_singleton]; omega), if_pos (by simp only [ByteArray.size_append, sz_mk, sz_one, List.length_singleton]; omega), Option.bind_some, if_pos (by simp only [ByteArray.size_append, sz_mk, sz_one, List.length_singleton]; omega), ← hB]
    exact q1
  · intro v hv hv2
    unfold impl_TariffText.f
    rw [hv, hv2, Option.bind_some, if_pos rfl, i0, i1, if_pos (by omega), Option.bind_some, if_pos (by simp only [ByteArray.size_append, sz_mk, sz_one, List.length_singleton]; omega), if_pos (by simp only [ByteArray.size_append, sz_mk, sz_one, List.length_singleton]; omega), Option.bind_some, if_pos (by simp only [ByteArray.size_append, sz_mk, sz_one, List.length_singleton]; omega), ← hB]
    exact q2

theorem FnExactTariffText : laws_FnExactTariffText.Pure := by
  intro x hx
  obtain ⟨s, f, p, L⟩ := x
  obtain ⟨hs, _, _, hl, hi⟩ := hx
  obtain ⟨n, hn⟩ : ∃ n, n = 2097200 := ⟨_, rfl⟩
  refine ⟨n, ?_⟩
  obtain ⟨r, r1, r2, r3, r4⟩ := szTariff s f p L hs hl (fun x h => (hi x h).1) 1048576 (by omega) (by omega) n (by omega)
  unfold laws_FnExactTariffText.f
  simp only [r1, Option.bind_some]
  by_cases hr : r < 0
  · rw [if_pos hr]
  · rw [if_neg hr]
    obtain ⟨q1, q2, q3⟩ := r4 (by omega)
    obtain ⟨v, v1, v2, v3⟩ := tariff_both s f p L (by omega)
    have v1 := v1 n (by omega)
    have v2 := v2 n (by omega)
    obtain ⟨T, t1, t2⟩ : ∃ T, spec_TariffText.f n s f p L = some T ∧ impl_TariffText.f n s f p L = some T := by
      unfold spec_TariffText.f
      rw [v1]
      cases v with
      | false =>
        unfold impl_TariffText.f
        rw [v2]
        exact ⟨_, rfl, rfl⟩
      | true =>
        obtain ⟨w1, w2⟩ := text_both s f p L (v3 rfl).1 (v3 rfl).2 n (by omega)
        rw [Option.bind_some, if_pos rfl, w1, w2 true v2 rfl]
        exact ⟨_, rfl, rfl⟩
    simp only [toTariff s f p L q2 q3 n (by omega), t1, t2, eqTariff s f p L q2 q3 n (by omega), Option.bind_some, if_true]

end Go.Proofs.YtdiboljniaolfaaDoor.Pure
