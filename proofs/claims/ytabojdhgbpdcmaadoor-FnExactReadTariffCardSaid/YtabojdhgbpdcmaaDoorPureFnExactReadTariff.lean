/- ReadTariff of the program returns what the reference's returns, for every text. No condition. -/
import Derived.Lib.AtoiTie
import Derived.Lib.AtoiAllCases
import Derived.Test.YtabojdhgbpdcmaaDoorPFnExactReadTariffx9
namespace Go.Proofs.YtabojdhgbpdcmaaDoor.Pure
open Go.RowKit Go.Proofs.YtabojdhgbpdcmaaDoor.PFnExactReadTariff Go.Proofs.YtabojdhgbpdcmaaDoorW.PrintWords Go.Proofs.YtabojdhgbpdcmaaDoorW.PrintLast Go.Proofs.YtabojdhgbpdcmaaDoorW.PrintMore
set_option linter.unusedVariables false
set_option linter.unusedSimpArgs false

theorem wrap_id {x : Int} (h1 : -9223372036854775808 ≤ x) (h2 : x ≤ 9223372036854775807) : wrap64 x = x := by unfold wrap64; omega
theorem wf_i64 {x : Int} (h : (Lit.int .i64 x).wf = true) : -9223372036854775808 ≤ x ∧ x ≤ 9223372036854775807 := by
  simp [Lit.wf, IntKind.min, IntKind.max, IntKind.bits, IntKind.signed] at h; omega
theorem mul_bounds {a b A B : Int} (h0 : 0 ≤ a) (hA : a ≤ A) (h1 : -B ≤ b) (h2 : b ≤ B) (hB : 0 ≤ B) : -(A * B) ≤ a * b ∧ a * b ≤ A * B := by
  have e1 := Int.mul_le_mul_of_nonneg_left h2 h0
  have e2 := Int.mul_le_mul_of_nonneg_right hA hB
  have e3 := Int.mul_le_mul_of_nonneg_left h1 h0
  have e4 : a * -B = -(a * B) := Int.mul_neg a B
  omega
theorem mul_nonneg' {a b : Int} (h0 : 0 ≤ a) (h1 : 0 ≤ b) : 0 ≤ a * b := Int.mul_nonneg h0 h1
theorem next_nat {j n : Nat} (h : j < n) (hn : n ≤ 4611686018427387904) : wrap64 ((j : Int) + 1) = ((j + 1 : Nat) : Int) := by
  rw [wrap_id (by omega) (by omega)]; omega
theorem rd_nat (l : List Int) (j : Nat) : rd l (j : Int) = l.getD j 0 := by unfold rd; simp
theorem ifp {α : Type} {c : Prop} [Decidable c] {a b : α} (h : c) : (if c then a else b) = a := if_pos h
theorem ifn {α : Type} {c : Prop} [Decidable c] {a b : α} (h : ¬ c) : (if c then a else b) = b := if_neg h
theorem suc_of {k d : Nat} (h : d < k) : ∃ m, k = m + 1 := ⟨k - 1, by omega⟩
theorem getD_lt {α : Type} {l : List α} {j : Nat} {d : α} (h : j < l.length) : l.getD j d = l[j] := by
  rw [List.getD_eq_getElem?_getD, List.getElem?_eq_getElem h]; rfl
theorem drop_cons {α : Type} (l : List α) {j : Nat} (h : j < l.length) (d : α) : l.drop j = l.getD j d :: l.drop (j + 1) := by
  rw [getD_lt h]; exact List.drop_eq_getElem_cons h
theorem up {α : Type} {g : Nat → Option α} (hm : ∀ k, LeO (g k) (g (k + 1))) {k0 : Nat} {r : α} (h : g k0 = some r) : ∀ k, k0 ≤ k → g k = some r := by
  intro k hk
  induction hk with
  | refl => exact h
  | step _ ih => exact hm _ _ ih

theorem dd_small {m : Nat} (h : m < 10) : Lib.decDigits m = [UInt8.ofNat (48 + m)] := by
  rw [Lib.decDigits, dif_pos h]
theorem dd_big {m : Nat} (h : ¬ m < 10) : Lib.decDigits m = Lib.decDigits (m / 10) ++ [UInt8.ofNat (48 + m % 10)] := by
  rw [Lib.decDigits, dif_neg h]
theorem dd_len : ∀ (j m : Nat), m < 10 ^ (j + 1) → (Lib.decDigits m).length ≤ j + 1 := by
  intro j
  induction j with
  | zero => intro m h; rw [dd_small (by simpa using h)]; exact Nat.le_refl _
  | succ j ih =>
    intro m h
    by_cases c : m < 10
    · rw [dd_small c]; simp
    · rw [dd_big c, List.length_append, List.length_singleton]
      have := ih (m / 10) (by rw [Nat.pow_succ] at h; omega)
      omega
theorem itoa_len (n : Int) (h0 : 0 ≤ n) (h1 : n ≤ 1000000000000) : (Lib.itoa n).length ≤ 13 := by
  unfold Lib.itoa
  rw [if_neg (by omega)]
  exact dd_len 12 _ (by omega)

/-! Pieces between bytes of one kind. -/
def spl (c : UInt8) : List UInt8 → List (List UInt8)
  | [] => [[]]
  | b :: l => if b = c then [] :: spl c l else match spl c l with
    | [] => [[b]]
    | h :: t => (b :: h) :: t
theorem spl_hit (c : UInt8) (l : List UInt8) : spl c (c :: l) = [] :: spl c l := by rw [spl, if_pos rfl]
theorem spl_cons {c b : UInt8} (h : b ≠ c) {l x : List UInt8} {t : List (List UInt8)} (hx : spl c l = x :: t) : spl c (b :: l) = (b :: x) :: t := by rw [spl, if_neg h, hx]
theorem spl_some (c : UInt8) : ∀ l, ∃ x t, spl c l = x :: t
  | [] => ⟨[], [], rfl⟩
  | b :: l => by
    by_cases h : b = c
    · subst h; exact ⟨_, _, spl_hit _ _⟩
    · obtain ⟨x, t, e⟩ := spl_some c l
      exact ⟨_, _, spl_cons h e⟩
theorem splitK_one (c : UInt8) : ∀ s : List UInt8, Lib.splitK [c] 0 (s.count c) s = spl c s
  | [] => rfl
  | b :: l => by
    have ih := splitK_one c l
    by_cases h : b = c
    · subst h
      rw [List.count_cons_self, spl_hit, ← ih]
      have e : Lib.index (b :: l) [b] = 0 := by rw [Lib.index_one, Lib.indexByte, if_pos (by simp)]
      rw [Lib.splitK, e, if_neg (by decide)]
      rfl
    · rw [List.count_cons_of_ne h]
      by_cases k0 : l.count c = 0
      · rw [k0] at ih ⊢
        have e : spl c l = [l] := ih.symm
        rw [spl_cons h e]; rfl
      · obtain ⟨k, hk⟩ : ∃ k, l.count c = k + 1 := ⟨l.count c - 1, by omega⟩
        rw [hk] at ih ⊢
        have hi : 0 ≤ Lib.indexByte l c := by
          have := Lib.indexByte_ge l c
          rcases Int.lt_or_le (Lib.indexByte l c) 0 with q | q
          · have e : Lib.indexByte l c = -1 := by omega
            have hn := Lib.indexByte_none e
            exfalso; apply k0
            rw [List.count_eq_zero]
            intro hm
            obtain ⟨i, h1, h2⟩ := List.mem_iff_getElem.1 hm
            exact hn i (by rw [List.getElem?_eq_getElem h1, h2])
          · exact q
        obtain ⟨n, hn⟩ : ∃ n : Nat, Lib.indexByte l c = (n : Int) := ⟨(Lib.indexByte l c).toNat, by omega⟩
        have e1 : Lib.index l [c] = (n : Int) := by rw [Lib.index_one, hn]
        have e2 : Lib.index (b :: l) [c] = ((n + 1 : Nat) : Int) := by
          rw [Lib.index_one, Lib.indexByte, if_neg (by simpa using h), hn, if_neg (by simp)]; rfl
        have m1 : ¬ (((n : Int) == -1) = true) := by simp
        have m2 : ¬ ((((n + 1 : Nat) : Int) == -1) = true) := by
          intro q; have := beq_iff_eq.1 q; omega
        rw [Lib.splitK, e1, if_neg m1, Int.toNat_natCast] at ih
        rw [Lib.splitK, e2, if_neg m2, Int.toNat_natCast, spl_cons h ih.symm]
        rfl
def joinc (c : UInt8) : List (List UInt8) → List UInt8
  | [] => []
  | [x] => x
  | x :: y :: t => x ++ c :: joinc c (y :: t)
theorem joinc_cons (c b : UInt8) (x : List UInt8) : ∀ t, joinc c ((b :: x) :: t) = b :: joinc c (x :: t)
  | [] => rfl
  | _ :: _ => rfl
theorem join_spl (c : UInt8) : ∀ s, joinc c (spl c s) = s
  | [] => rfl
  | b :: l => by
    have ih := join_spl c l
    obtain ⟨x, t, e⟩ := spl_some c l
    rw [e] at ih
    by_cases h : b = c
    · subst h
      rw [spl_hit, e]
      show [] ++ b :: joinc b (x :: t) = _
      rw [ih]; rfl
    · rw [spl_cons h e, joinc_cons, ih]

theorem tl (s : ByteArray) : s.toList = s.data.toList := ByteArray.toList_eq ..
theorem bt_T (s : ByteArray) (i : Nat) (h : i < s.data.toList.length) : bt s (i : Int) = ((s.data.toList[i]).toNat : Int) := by
  have hs : i < s.size := by rw [Array.length_toList] at h; exact h
  unfold bt
  rw [dif_pos (by simpa using hs)]
  simp only [Int.toNat_natCast, Array.getElem_toList]
  rfl
theorem spl_pre (c : UInt8) : ∀ (U V x : List UInt8) (t : List (List UInt8)), (∀ b ∈ U, b ≠ c) → spl c V = x :: t → spl c (U ++ V) = (U ++ x) :: t := by
  intro U
  induction U with
  | nil => intro V x t _ h; exact h
  | cons b U ih =>
    intro V x t hU h
    exact spl_cons (hU b (by simp)) (ih V x t (fun z hz => hU z (by simp [hz])) h)
theorem spl_end (c : UInt8) (U : List UInt8) (hU : ∀ b ∈ U, b ≠ c) : spl c U = [U] := by
  have h := spl_pre c U [] [] [] hU rfl
  rw [List.append_nil] at h
  exact h
theorem spl_at (c : UInt8) (U V : List UInt8) (hU : ∀ b ∈ U, b ≠ c) : spl c (U ++ c :: V) = U :: spl c V := by
  have h := spl_pre c U (c :: V) [] (spl c V) hU (spl_hit _ _)
  rw [List.append_nil] at h
  exact h
theorem spl_le (c : UInt8) : ∀ (l : List UInt8), ∀ x ∈ spl c l, x.length ≤ l.length
  | [] => fun x hx => by
    rw [show spl c [] = [[]] from rfl, List.mem_singleton] at hx
    rw [hx]; exact Nat.le_refl _
  | b :: l => fun x hx => by
    obtain ⟨y, t, e⟩ := spl_some c l
    have ih := spl_le c l
    by_cases h : b = c
    · subst h
      rw [spl_hit] at hx
      rcases List.mem_cons.1 hx with rfl | hx
      · simp
      · have := ih x hx
        simp only [List.length_cons]; omega
    · rw [spl_cons h e] at hx
      rw [e] at ih
      rcases List.mem_cons.1 hx with rfl | hx
      · have := ih y (by simp)
        simp only [List.length_cons]; omega
      · have := ih x (by simp [hx])
        simp only [List.length_cons]; omega
theorem spl_len (c : UInt8) : ∀ l, (spl c l).length = l.count c + 1
  | [] => rfl
  | b :: l => by
    obtain ⟨y, t, e⟩ := spl_some c l
    have ih := spl_len c l
    by_cases h : b = c
    · subst h
      rw [spl_hit, List.count_cons_self, List.length_cons, ih]
    · rw [spl_cons h e, List.count_cons_of_ne h, ← ih, e]
      rfl
theorem splitK_le (c : UInt8) : ∀ (n : Nat) (l : List UInt8), ∀ x ∈ Lib.splitK [c] 0 n l, x.length ≤ l.length
  | 0, l => fun x hx => by
    rw [show Lib.splitK [c] 0 0 l = [l] from rfl, List.mem_singleton] at hx
    rw [hx]; exact Nat.le_refl _
  | n + 1, l => fun x hx => by
    rw [Lib.splitK] at hx
    split at hx
    · rw [List.mem_singleton] at hx
      rw [hx]; exact Nat.le_refl _
    · rcases List.mem_cons.1 hx with rfl | hx
      · rw [List.length_take]; omega
      · have := splitK_le c n _ x hx
        rw [List.length_drop] at this
        omega
theorem splitK_ge (c : UInt8) : ∀ (s : List UInt8) (n : Nat), s.count c ≤ n → Lib.splitK [c] 0 n s = spl c s
  | [], n => fun _ => by
    cases n with
    | zero => rfl
    | succ n =>
      have e : Lib.index [] [c] = -1 := by rw [Lib.index_one]; rfl
      rw [Lib.splitK, e, if_pos (by decide)]
      rfl
  | b :: l, n => fun hn => by
    by_cases h : b = c
    · subst h
      rw [List.count_cons_self] at hn
      obtain ⟨n, rfl⟩ := suc_of (show 0 < n by omega)
      have ih := splitK_ge b l n (by omega)
      rw [spl_hit, ← ih]
      have e : Lib.index (b :: l) [b] = 0 := by rw [Lib.index_one, Lib.indexByte, if_pos (by simp)]
      rw [Lib.splitK, e, if_neg (by decide)]
      rfl
    · rw [List.count_cons_of_ne h] at hn
      have ih := splitK_ge c l n hn
      cases n with
      | zero =>
        have e : spl c l = [l] := ih.symm
        rw [spl_cons h e]; rfl
      | succ k =>
        by_cases hm : Lib.indexByte l c = -1
        · have e1 : Lib.index l [c] = -1 := by rw [Lib.index_one, hm]
          have e2 : Lib.index (b :: l) [c] = -1 := by rw [Lib.index_one, Lib.indexByte, if_neg (by simpa using h), hm, if_pos (by decide)]
          rw [Lib.splitK, e1, if_pos (by decide)] at ih
          rw [Lib.splitK, e2, if_pos (by decide), spl_cons h ih.symm]
        · have hge := Lib.indexByte_ge l c
          obtain ⟨i, hi⟩ : ∃ i : Nat, Lib.indexByte l c = (i : Int) := ⟨(Lib.indexByte l c).toNat, by omega⟩
          have e1 : Lib.index l [c] = (i : Int) := by rw [Lib.index_one, hi]
          have e2 : Lib.index (b :: l) [c] = ((i + 1 : Nat) : Int) := by
            rw [Lib.index_one, Lib.indexByte, if_neg (by simpa using h), hi, if_neg (by simp)]; rfl
          have m1 : ¬ (((i : Int) == -1) = true) := by simp
          have m2 : ¬ ((((i + 1 : Nat) : Int) == -1) = true) := by
            intro q; have := beq_iff_eq.1 q; omega
          rw [Lib.splitK, e1, if_neg m1, Int.toNat_natCast] at ih
          rw [Lib.splitK, e2, if_neg m2, Int.toNat_natCast, spl_cons h ih.symm]
          rfl
theorem ex_data (s : ByteArray) (a b : Nat) : (s.extract a b).data.toList = (s.data.toList.drop a).take (b - a) := by
  rw [Lib.extract_data]
theorem spec_splc (c : UInt8) (s : ByteArray) (hs : s.size ≤ 1048576) : ∀ (d i f : Nat) (A : List ByteArray) (k : Nat), i + d = s.data.toList.length → f ≤ i → (∀ b ∈ (s.data.toList.drop f).take (i - f), b ≠ c) → A.length ≤ i → d < k →
    ∃ Q, spec_l01Split.l0 k s (c.toNat : Int) A (f : Int) (i : Int) = some (A ++ Q) ∧ Q.map (·.data.toList) = spl c (s.data.toList.drop f) := by
  have hT : s.data.toList.length = s.size := Array.length_toList ..
  intro d
  induction d with
  | zero =>
    intro i f A k hi hf hU hA hk
    obtain ⟨k, rfl⟩ := suc_of hk
    refine ⟨[s.extract f s.size], ?_, ?_⟩
    · simp only [spec_l01Split.l0]
      rw [if_neg (by omega), if_pos (by omega), if_pos (by omega), if_pos (by omega), Int.toNat_natCast]
    · have e : (s.data.toList.drop f).take (i - f) = s.data.toList.drop f := List.take_of_length_le (by rw [List.length_drop]; omega)
      rw [e] at hU
      rw [spl_end c _ hU, List.map_cons, List.map_nil, ex_data, ← hT, List.take_of_length_le (by rw [List.length_drop]; omega)]
  | succ d ih =>
    intro i f A k hi hf hU hA hk
    obtain ⟨k, rfl⟩ := suc_of (show 0 < k by omega)
    have hil : i < s.data.toList.length := by omega
    have hsplit : s.data.toList.drop f = (s.data.toList.drop f).take (i - f) ++ s.data.toList[i] :: s.data.toList.drop (i + 1) := by
      have h1 := (List.take_append_drop (i - f) (s.data.toList.drop f)).symm
      rw [List.drop_drop, show f + (i - f) = i by omega, List.drop_eq_getElem_cons hil] at h1
      exact h1
    simp only [spec_l01Split.l0]
    rw [if_pos (by omega), if_pos (by omega), bt_T s i hil]
    by_cases e : s.data.toList[i] = c
    · rw [if_pos (by rw [e]), if_pos (by omega), if_pos (by omega), if_pos (by omega), if_pos (by omega), next_nat (n := s.size) (by omega) (by omega), Int.toNat_natCast, Int.toNat_natCast]
      obtain ⟨Q, q1, q2⟩ := ih (i + 1) (i + 1) (A ++ [s.extract f i]) k (by omega) (Nat.le_refl _) (by simp) (by simp; omega) (by omega)
      refine ⟨s.extract f i :: Q, by rw [q1, List.append_assoc]; rfl, ?_⟩
      rw [hsplit, e, spl_at c _ _ hU, List.map_cons, q2, ex_data]
    · rw [if_neg (fun q => e (UInt8.toNat_inj.mp (by omega))), next_nat (n := s.size) (by omega) (by omega)]
      refine ih (i + 1) f A k (by omega) (by omega) (fun b hb => ?_) (by omega) (by omega)
      have e2 : (s.data.toList.drop f).take (i + 1 - f) = (s.data.toList.drop f).take (i - f) ++ [s.data.toList[i]] := by
        rw [show i + 1 - f = (i - f) + 1 by omega, List.take_add_one, List.getElem?_drop, show f + (i - f) = i by omega, List.getElem?_eq_getElem hil]
        rfl
      rw [e2, List.mem_append, List.mem_singleton] at hb
      rcases hb with hb | hb
      · exact hU b hb
      · rw [hb]; exact e
theorem spec_split (c : UInt8) (s : ByteArray) (hs : s.size ≤ 1048576) (k : Nat) (hk : 1048577 < k) : ∃ Q, spec_l01Split.f k s (c.toNat : Int) = some Q ∧ Q.map (·.data.toList) = spl c s.data.toList := by
  have hT : s.data.toList.length = s.size := Array.length_toList ..
  obtain ⟨Q, q1, q2⟩ := spec_splc c s hs s.data.toList.length 0 0 [] k (by omega) (Nat.le_refl _) (by simp) (by simp) (by omega)
  rw [List.drop_zero] at q2
  rw [List.nil_append] at q1
  exact ⟨Q, q1, q2⟩
theorem ixb_at (c : UInt8) (V : List UInt8) : ∀ U : List UInt8, (∀ b ∈ U, b ≠ c) → Lib.indexByte (U ++ c :: V) c = (U.length : Int)
  | [], _ => by rw [List.nil_append, Lib.indexByte, if_pos (by simp)]; rfl
  | b :: U, h => by
    have ih := ixb_at c V U (fun x hx => h x (by simp [hx]))
    have hb := h b (by simp)
    rw [List.cons_append, Lib.indexByte, if_neg (by simpa using hb), ih, if_neg (by intro q; have := beq_iff_eq.1 q; omega)]
    simp
theorem imp_cut (c : UInt8) (s : ByteArray) (hs : s.size ≤ 1048576) : ∃ a b f, strings_Cut.f s ⟨#[c]⟩ = some (a, b, f) ∧ a.size ≤ s.size ∧ b.size ≤ s.size ∧ ∀ U V, (∀ x ∈ U, x ≠ c) → s.data.toList = U ++ c :: V → a.data.toList = U ∧ b.data.toList = V := by
  have hT : s.data.toList.length = s.size := Array.length_toList ..
  have e0 : stringslite_Index.f s ⟨#[c]⟩ = some (Lib.indexByte s.data.toList c) := rfl
  have e1 : ((⟨#[c]⟩ : ByteArray).size : Int) = 1 := rfl
  unfold strings_Cut.f stringslite_Cut.f
  rw [e0, e1, Option.bind_some]
  have hge := Lib.indexByte_ge s.data.toList c
  by_cases hm : Lib.indexByte s.data.toList c = -1
  · rw [hm, if_neg (by decide), Option.bind_some]
    refine ⟨_, _, _, rfl, Nat.le_refl _, Nat.zero_le _, fun U V hU he => ?_⟩
    have := ixb_at c V U hU
    rw [← he, hm] at this
    omega
  · obtain ⟨i, hi⟩ : ∃ i : Nat, Lib.indexByte s.data.toList c = (i : Int) := ⟨(Lib.indexByte s.data.toList c).toNat, by omega⟩
    obtain ⟨h1, h2⟩ := Lib.indexByte_some hi
    have hil : i < s.data.toList.length := by
      rcases Nat.lt_or_ge i s.data.toList.length with q | q
      · exact q
      · rw [List.getElem?_eq_none q] at h1; cases h1
    rw [hi, next_nat (n := s.size) (by omega) (by omega), if_pos (by omega), if_pos (by omega), if_pos (by omega), if_pos (by omega), if_pos (by omega), Option.bind_some, Int.toNat_natCast, Int.toNat_natCast]
    refine ⟨_, _, _, rfl, ?_, ?_, fun U V hU he => ?_⟩
    · simp only [ByteArray.size_extract]; omega
    · simp only [ByteArray.size_extract]; omega
    · have hl := ixb_at c V U hU
      rw [← he, hi] at hl
      have hl : i = U.length := by omega
      have hV : s.data.toList.drop (i + 1) = V := by
        rw [he, hl, show U.length + 1 = U.length + 1 from rfl, ← List.drop_drop, List.drop_left]
        rfl
      rw [ex_data, ex_data, hV, List.drop_zero, Nat.sub_zero, he, hl, List.take_left]
      refine ⟨rfl, List.take_of_length_le ?_⟩
      rw [← hV, List.length_drop, hT]; omega
theorem imp_splitn (s : ByteArray) (hs : s.size ≤ 1048576) : ∃ P, strings_SplitN.f s ⟨#[32]⟩ 9 = some P ∧ 1 ≤ P.length ∧ P.length ≤ 9 ∧ P.length ≤ s.size + 1 ∧ (∀ x ∈ P, x.size ≤ s.size) ∧ ((spl 32 s.data.toList).length ≤ 9 → P.map (·.data.toList) = spl 32 s.data.toList) := by
  have hT : s.data.toList.length = s.size := Array.length_toList ..
  obtain ⟨n, hn⟩ : ∃ n, min 9 (s.size + 1) - 1 = n := ⟨_, rfl⟩
  have hd := Lib.splitB_data ⟨#[32]⟩ 0 n s
  have hd : (Lib.splitB ⟨#[32]⟩ 0 n s).map (·.data.toList) = Lib.splitK [32] 0 n s.data.toList := hd
  have hle := Lib.splitB_length_le ⟨#[32]⟩ 0 n s
  refine ⟨Lib.splitB ⟨#[32]⟩ 0 n s, ?_, ?_, by omega, by omega, fun x hx => ?_, fun hl => ?_⟩
  · unfold strings_SplitN.f
    rw [if_pos ⟨by rw [tl], rfl, by omega⟩, hn]
  · rw [show (Lib.splitB ⟨#[32]⟩ 0 n s).length = ((Lib.splitB ⟨#[32]⟩ 0 n s).map (·.data.toList)).length by rw [List.length_map], hd]
    cases n with
    | zero => exact Nat.le_refl _
    | succ n =>
      rw [Lib.splitK]
      split
      · exact Nat.le_refl _
      · simp
  · have := splitK_le 32 n s.data.toList x.data.toList (by rw [← hd]; exact List.mem_map.2 ⟨x, hx, rfl⟩)
    have hx2 : x.data.toList.length = x.size := Array.length_toList ..
    omega
  · rw [spl_len] at hl
    have hc := List.count_le_length (a := (32 : UInt8)) (l := s.data.toList)
    rw [hd]
    exact splitK_ge 32 s.data.toList n (by omega)

theorem dv_some {b : UInt8} {d : Nat} (h : Lib.digitVal b = some d) : b.toNat = 48 + d ∧ d < 10 := by
  unfold Lib.digitVal at h
  split at h
  · have := Option.some.inj h
    omega
  · cases h
theorem dv_of {d : Nat} (h : d < 10) : Lib.digitVal (UInt8.ofNat (48 + d)) = some d := (by decide : ∀ d : Fin 10, Lib.digitVal (UInt8.ofNat (48 + d.val)) = some d.val) ⟨d, h⟩
theorem dv_byte {b : UInt8} {d : Nat} (h : Lib.digitVal b = some d) : UInt8.ofNat (48 + d) = b := by
  obtain ⟨h1, h2⟩ := dv_some h
  rw [← h1]
  simp
theorem df_app : ∀ (A B : List UInt8) (a : Nat), Lib.decFrom a (A ++ B) = (Lib.decFrom a A).bind fun x => Lib.decFrom x B
  | [], B, a => rfl
  | b :: A, B, a => by
    rw [List.cons_append, Lib.decFrom, Lib.decFrom]
    cases Lib.digitVal b with
    | none => rfl
    | some d => exact df_app A B _
theorem df_one (b : UInt8) (a : Nat) : Lib.decFrom a [b] = (Lib.digitVal b).map fun d => a * 10 + d := by
  rw [Lib.decFrom]
  cases Lib.digitVal b <;> rfl
theorem df_ge : ∀ (l : List UInt8) (a m : Nat), Lib.decFrom a l = some m → a ≤ m
  | [], a, m => fun h => by
    rw [Lib.decFrom] at h
    have := Option.some.inj h
    omega
  | b :: l, a, m => fun h => by
    rw [Lib.decFrom] at h
    cases hd : Lib.digitVal b with
    | none => rw [hd] at h; cases h
    | some d =>
      rw [hd] at h
      have := df_ge l _ m h
      omega
theorem df_dd : ∀ (j m : Nat), m < 10 ^ (j + 1) → Lib.decFrom 0 (Lib.decDigits m) = some m := by
  intro j
  induction j with
  | zero =>
    intro m h
    have h : m < 10 := by simpa using h
    rw [dd_small h, df_one, dv_of h]
    simp
  | succ j ih =>
    intro m h
    by_cases c : m < 10
    · rw [dd_small c, df_one, dv_of c]
      simp
    · rw [dd_big c, df_app, ih (m / 10) (by rw [Nat.pow_succ] at h; omega), Option.bind_some, df_one, dv_of (by omega)]
      show some (m / 10 * 10 + m % 10) = some m
      congr 1
      omega
theorem dd_digits : ∀ (j m : Nat), m < 10 ^ (j + 1) → ∀ b ∈ Lib.decDigits m, 48 ≤ b.toNat ∧ b.toNat ≤ 57 := by
  have one : ∀ d : Fin 10, 48 ≤ (UInt8.ofNat (48 + d.val)).toNat ∧ (UInt8.ofNat (48 + d.val)).toNat ≤ 57 := by decide
  intro j
  induction j with
  | zero =>
    intro m h b hb
    have h : m < 10 := by simpa using h
    rw [dd_small h, List.mem_singleton] at hb
    rw [hb]
    exact one ⟨m, h⟩
  | succ j ih =>
    intro m h b hb
    by_cases c : m < 10
    · rw [dd_small c, List.mem_singleton] at hb
      rw [hb]
      exact one ⟨m, c⟩
    · rw [dd_big c, List.mem_append, List.mem_singleton] at hb
      rcases hb with hb | hb
      · exact ih (m / 10) (by rw [Nat.pow_succ] at h; omega) b hb
      · rw [hb]
        exact one ⟨m % 10, by omega⟩
theorem dd_head : ∀ (j m : Nat), 0 < m → m < 10 ^ (j + 1) → ∃ c r, Lib.decDigits m = c :: r ∧ c ≠ 48 := by
  have one : ∀ d : Fin 10, 0 < d.val → UInt8.ofNat (48 + d.val) ≠ 48 := by decide
  intro j
  induction j with
  | zero =>
    intro m h0 h
    have h : m < 10 := by simpa using h
    exact ⟨_, [], dd_small h, one ⟨m, h⟩ h0⟩
  | succ j ih =>
    intro m h0 h
    by_cases c : m < 10
    · exact ⟨_, [], dd_small c, one ⟨m, c⟩ h0⟩
    · obtain ⟨x, r, e, hx⟩ := ih (m / 10) (by omega) (by rw [Nat.pow_succ] at h; omega)
      exact ⟨x, r ++ [UInt8.ofNat (48 + m % 10)], by rw [dd_big c, e]; rfl, hx⟩
theorem canon : ∀ (n : Nat) (l : List UInt8) (m : Nat), l.length = n + 1 → Lib.decFrom 0 l = some m → (n = 0 ∨ ∃ c r, l = c :: r ∧ c ≠ 48) → Lib.decDigits m = l := by
  intro n
  induction n with
  | zero =>
    intro l m hl h _
    match l, hl with
    | [b], _ =>
      rw [df_one] at h
      cases hd : Lib.digitVal b with
      | none => rw [hd] at h; cases h
      | some d =>
        rw [hd] at h
        have : 0 * 10 + d = m := Option.some.inj h
        obtain rfl : m = d := by omega
        rw [dd_small (dv_some hd).2, dv_byte hd]
  | succ n ih =>
    intro l m hl h hc
    have hne : l ≠ [] := by intro e; rw [e] at hl; cases hl
    have hsp := List.dropLast_concat_getLast hne
    generalize l.getLast hne = b at hsp
    have hA : l.dropLast.length = n + 1 := by rw [List.length_dropLast]; omega
    generalize l.dropLast = A at hsp hA
    subst hsp
    rw [df_app] at h
    cases ha : Lib.decFrom 0 A with
    | none => rw [ha] at h; cases h
    | some a =>
      rw [ha, Option.bind_some, df_one] at h
      cases hd : Lib.digitVal b with
      | none => rw [hd] at h; cases h
      | some d =>
        rw [hd] at h
        have hm : a * 10 + d = m := Option.some.inj h
        obtain ⟨c, r, e, hc0⟩ : ∃ c r, A ++ [b] = c :: r ∧ c ≠ 48 := hc.resolve_left (by omega)
        match A, hA, ha, e with
        | y :: A, hA, ha, e =>
          obtain ⟨rfl, _⟩ := List.cons.inj e
          have e1 := ih (y :: A) a hA ha (Or.inr ⟨y, A, rfl, hc0⟩)
          have h1 : 1 ≤ a := by
            rw [Lib.decFrom] at ha
            cases hy : Lib.digitVal y with
            | none => rw [hy] at ha; cases ha
            | some z =>
              rw [hy] at ha
              have := df_ge A _ a ha
              have hz := dv_some hy
              have : z ≠ 0 := by
                intro q
                rw [q] at hz
                exact hc0 (UInt8.toNat_inj.mp hz.1)
              omega
          have hd9 := (dv_some hd).2
          rw [dd_big (by omega), show m / 10 = a by omega, show m % 10 = d by omega, e1, dv_byte hd]
theorem num_l0 (s : ByteArray) (hs : s.size ≤ 1048576) (at_ : Int) : ∀ (R : List UInt8) (i n j k : Nat), s.data.toList.drop i = R → n < 10 ^ j → j + R.length ≤ 18 → i + R.length = s.size → R.length < k →
    spec_l01Number.l0 k s at_ (n : Int) (i : Int) = match Lib.decFrom n R with
      | some m => some (if at_ = 1 then -(m : Int) else (m : Int), true)
      | none => some (0, false) := by
  have hT : s.data.toList.length = s.size := Array.length_toList ..
  intro R
  induction R with
  | nil =>
    intro i n j k _ hn hj hi hk
    obtain ⟨k, rfl⟩ := suc_of hk
    have hp : 10 ^ j ≤ 1000000000000000000 := Nat.le_trans (Nat.pow_le_pow_right (by decide) (show j ≤ 18 by simp at hj; omega)) (by decide)
    rw [spec_l01Number.l0.eq_def]
    simp only [List.length_nil] at hi ⊢
    rw [if_neg (by omega)]
    show _ = some (if at_ = 1 then -(n : Int) else (n : Int), true)
    by_cases c : at_ = 1
    · rw [if_pos c, if_pos c, wrap_id (by omega) (by omega)]
    · rw [if_neg c, if_neg c]
  | cons b R ih =>
    intro i n j k hd hn hj hi hk
    obtain ⟨k, rfl⟩ := suc_of (show 0 < k by omega)
    simp only [List.length_cons] at hj hi hk
    have hil : i < s.data.toList.length := by omega
    rw [List.drop_eq_getElem_cons hil] at hd
    obtain ⟨hb, hd⟩ := List.cons.inj hd
    have hp : 10 ^ j ≤ 100000000000000000 := Nat.le_trans (Nat.pow_le_pow_right (by decide) (show j ≤ 17 by omega)) (by decide)
    rw [spec_l01Number.l0.eq_def]
    simp only []
    rw [if_pos (by omega), if_pos (by omega), bt_T s i hil, hb, next_nat (n := s.size) (by omega) (by omega)]
    rw [Lib.decFrom]
    unfold spec_l01Digit.f Lib.digitVal
    by_cases c : 48 ≤ b.toNat ∧ b.toNat ≤ 57
    · rw [if_pos c, if_pos (by omega), decide_eq_true (by omega), Option.bind_some, if_pos rfl]
      have e : wrap64 (wrap64 (10 * (n : Int)) + ((b.toNat : Int) - 48) % 256) = ((n * 10 + (b.toNat - 48) : Nat) : Int) := by
        rw [wrap_id (x := 10 * (n : Int)) (by omega) (by omega), wrap_id (by omega) (by omega)]
        omega
      rw [e, ih (i + 1) (n * 10 + (b.toNat - 48)) (j + 1) k hd (by rw [Nat.pow_succ]; omega) (by omega) (by omega) (by omega)]
    · rw [if_neg c]
      by_cases c1 : (48 : Int) ≤ (b.toNat : Int)
      · rw [if_pos c1, decide_eq_false (by omega), Option.bind_some, if_neg Bool.false_ne_true]
      · rw [if_neg c1, Option.bind_some, if_neg Bool.false_ne_true]
theorem itoa_nat (m : Nat) : Lib.itoa (m : Int) = Lib.decDigits m := by
  unfold Lib.itoa
  rw [if_neg (by omega), Int.toNat_natCast]
theorem num_spec (s : ByteArray) (hs : s.size ≤ 1048576) (k : Nat) (hk : 100 ≤ k) : ∃ v b, spec_l01Number.f k s = some (v, b) ∧ (b = true → 0 ≤ v → s.data.toList = Lib.itoa v) ∧ ∀ n : Int, 0 ≤ n → n ≤ 1000000000000 → s.data.toList = Lib.itoa n → v = n ∧ b = true := by
  have hT : s.data.toList.length = s.size := Array.length_toList ..
  have nil : ∀ k x, spec_l01Number.j2 (k + 1) s x true = some (0, false) := fun k x => by rw [spec_l01Number.j2.eq_def]; simp
  have go : ∀ k x, spec_l01Number.j2 (k + 1) s x false = spec_l01Number.l0 k s x 0 x := fun k x => by rw [spec_l01Number.j2.eq_def]; simp
  obtain ⟨k, rfl⟩ : ∃ q, k = q + 1 + 1 + 1 := ⟨k - 3, by omega⟩
  have head : ∀ n : Int, 0 ≤ n → n ≤ 1000000000000 → ∃ c r, Lib.itoa n = c :: r ∧ (48 ≤ c.toNat ∧ c.toNat ≤ 57) ∧ (r ≠ [] → c ≠ 48) ∧ r.length ≤ 12 := by
    intro n h0 h1
    obtain ⟨m, rfl⟩ : ∃ m : Nat, n = (m : Int) := ⟨n.toNat, by omega⟩
    rw [itoa_nat]
    have hl := dd_len 12 m (by omega)
    have hg := dd_digits 12 m (by omega)
    by_cases c : m < 10
    · rw [dd_small c] at hg ⊢
      exact ⟨_, [], rfl, hg _ (by simp), fun h => absurd rfl h, Nat.zero_le _⟩
    · obtain ⟨x, r, e, hx⟩ := dd_head 12 m (by omega) (by omega)
      rw [e] at hg hl ⊢
      exact ⟨x, r, rfl, hg x (by simp), fun _ => hx, by simp only [List.length_cons] at hl; omega⟩
  unfold spec_l01Number.f
  by_cases h0 : s.size = 0
  · rw [if_neg (by omega), spec_l01Number.j0.eq_def]
    simp only []
    rw [if_neg Bool.false_ne_true, spec_l01Number.j1.eq_def]
    simp only []
    rw [if_pos (by omega), nil]
    refine ⟨_, _, rfl, fun h => (by cases h), fun n n0 n1 e => ?_⟩
    obtain ⟨c, r, e2, _⟩ := head n n0 n1
    rw [e, e2] at hT
    simp only [List.length_cons] at hT
    omega
  · rw [if_pos (by omega), if_pos (by omega), spec_l01Number.j0.eq_def]
    simp only []
    have h0l : 0 < s.data.toList.length := by omega
    have b0 := bt_T s 0 h0l
    rw [show ((0 : Nat) : Int) = 0 from rfl] at b0
    obtain ⟨c, r, e⟩ : ∃ c r, s.data.toList = c :: r := by
      match s.data.toList, h0l with
      | c :: r, _ => exact ⟨c, r, rfl⟩
    have ec : s.data.toList[0] = c := by simp only [e, List.getElem_cons_zero]
    rw [ec] at b0
    have hr : r.length + 1 = s.size := by rw [← hT, e]; rfl
    rw [b0]
    by_cases c45 : c = 45
    · have comp : ∀ n : Int, 0 ≤ n → n ≤ 1000000000000 → s.data.toList ≠ Lib.itoa n := by
        intro n n0 n1 q
        obtain ⟨c', r', e2, hc, _⟩ := head n n0 n1
        rw [e, e2] at q
        obtain ⟨q1, _⟩ := List.cons.inj q
        rw [← q1, c45] at hc
        exact absurd hc (by decide)
      rw [show ((c.toNat : Int) == 45) = true by rw [c45]; rfl, if_pos rfl, spec_l01Number.j1.eq_def]
      simp only []
      have bad : ∃ v b, (some ((0 : Int), false) : Option (Int × Bool)) = some (v, b) ∧ (b = true → 0 ≤ v → s.data.toList = Lib.itoa v) ∧ ∀ n : Int, 0 ≤ n → n ≤ 1000000000000 → s.data.toList = Lib.itoa n → v = n ∧ b = true :=
        ⟨_, _, rfl, fun h => (by cases h), fun n n0 n1 q => absurd q (comp n n0 n1)⟩
      by_cases h1 : s.size = 1
      · rw [if_pos (by omega), nil]; exact bad
      · rw [if_neg (by omega), wrap_id (by omega) (by omega)]
        by_cases h2 : (s.size : Int) - 1 > 18
        · rw [if_pos h2, nil]; exact bad
        · rw [if_neg h2, if_pos (by omega), if_pos (by omega)]
          have b1 := bt_T s 1 (by omega)
          rw [show ((1 : Nat) : Int) = 1 from rfl] at b1
          obtain ⟨c1, r1, e1⟩ : ∃ c1 r1, r = c1 :: r1 := by
            match r, hr with
            | [], hr => exact absurd hr (by simp; omega)
            | c1 :: r1, _ => exact ⟨c1, r1, rfl⟩
          have ec1 : s.data.toList[1]'(by omega) = c1 := by simp only [e, e1, List.getElem_cons_succ, List.getElem_cons_zero]
          rw [ec1] at b1
          rw [b1]
          by_cases h3 : c1 = 48
          · rw [if_pos (by rw [h3]; rfl), decide_eq_true (by omega), nil]; exact bad
          · have h3' : ¬ (c1.toNat : Int) = 48 := fun q => h3 (UInt8.toNat_inj.mp (show c1.toNat = 48 by omega))
            rw [if_neg h3', go]
            have hl := num_l0 s hs 1 r 1 0 0 k (by rw [e]; rfl) (by decide) (by omega) (by omega) (by omega)
            have hl : spec_l01Number.l0 k s 1 0 1 = _ := hl
            rw [hl]
            cases hm : Lib.decFrom 0 r with
            | none => exact bad
            | some m =>
              refine ⟨_, _, rfl, fun _ hv => ?_, fun n n0 n1 q => absurd q (comp n n0 n1)⟩
              rw [if_pos rfl] at hv
              exfalso
              rw [e1, Lib.decFrom] at hm
              cases hy : Lib.digitVal c1 with
              | none => rw [hy] at hm; cases hm
              | some z =>
                rw [hy] at hm
                have h4 := df_ge r1 _ m hm
                have hz := dv_some hy
                have : z ≠ 0 := by
                  intro q
                  rw [q] at hz
                  exact h3 (UInt8.toNat_inj.mp hz.1)
                omega
    · have e45 : ((c.toNat : Int) == 45) = false := by
        rw [beq_eq_false_iff_ne]
        intro q
        exact c45 (UInt8.toNat_inj.mp (show c.toNat = 45 by omega))
      rw [e45, if_neg Bool.false_ne_true, spec_l01Number.j1.eq_def]
      simp only []
      rw [if_neg (by omega), wrap_id (by omega) (by omega)]
      by_cases h2 : (s.size : Int) - 0 > 18
      · rw [if_pos h2, nil]
        refine ⟨_, _, rfl, fun h => (by cases h), fun n n0 n1 q => ?_⟩
        obtain ⟨c', r', e2, _, _, h12⟩ := head n n0 n1
        rw [q, e2] at hT
        simp only [List.length_cons] at hT
        omega
      · rw [if_neg h2, if_pos (by omega), if_pos (by omega), b0]
        have fin : (r = [] ∨ c ≠ 48) → ∃ v b, spec_l01Number.l0 k s 0 0 0 = some (v, b) ∧ (b = true → 0 ≤ v → s.data.toList = Lib.itoa v) ∧ ∀ n : Int, 0 ≤ n → n ≤ 1000000000000 → s.data.toList = Lib.itoa n → v = n ∧ b = true := by
          intro hc
          have hl := num_l0 s hs 0 (c :: r) 0 0 0 k (by rw [e]; rfl) (by decide) (by simp only [List.length_cons]; omega) (by simp only [List.length_cons]; omega) (by simp only [List.length_cons]; omega)
          have hl : spec_l01Number.l0 k s 0 0 0 = _ := hl
          rw [hl]
          cases hm : Lib.decFrom 0 (c :: r) with
          | none =>
            refine ⟨_, _, rfl, fun h => (by cases h), fun n n0 n1 q => ?_⟩
            obtain ⟨m, rfl⟩ : ∃ m : Nat, n = (m : Int) := ⟨n.toNat, by omega⟩
            rw [e, itoa_nat] at q
            rw [q, df_dd 12 m (by omega)] at hm
            cases hm
          | some m =>
            refine ⟨_, _, rfl, fun _ hv => ?_, fun n n0 n1 q => ?_⟩
            · rw [if_neg (by decide), itoa_nat, e]
              exact (canon r.length (c :: r) m rfl hm (by
                rcases hc with rfl | hc
                · exact Or.inl rfl
                · exact Or.inr ⟨c, r, rfl, hc⟩)).symm
            · obtain ⟨x, rfl⟩ : ∃ x : Nat, n = (x : Int) := ⟨n.toNat, by omega⟩
              rw [e, itoa_nat] at q
              rw [q, df_dd 12 x (by omega)] at hm
              have := Option.some.inj hm
              rw [if_neg (by decide)]
              exact ⟨by omega, rfl⟩
        by_cases h3 : c = 48
        · rw [if_pos (by rw [h3]; rfl)]
          by_cases h4 : (s.size : Int) > 1
          · rw [decide_eq_true h4, nil]
            refine ⟨_, _, rfl, fun h => (by cases h), fun n n0 n1 q => ?_⟩
            obtain ⟨c', r', e2, _, hc', _⟩ := head n n0 n1
            rw [e, e2] at q
            obtain ⟨q1, q2⟩ := List.cons.inj q
            exfalso
            refine hc' ?_ (q1.symm.trans h3)
            rw [← q2]
            intro q3
            rw [q3] at hr
            simp at hr
            omega
          · rw [decide_eq_false h4, go]
            exact fin (Or.inl (List.eq_nil_of_length_eq_zero (by omega)))
        · have h3' : ¬ (c.toNat : Int) = 48 := fun q => h3 (UInt8.toNat_inj.mp (show c.toNat = 48 by omega))
          rw [if_neg h3', go]
          exact fin (Or.inr h3)

theorem imp_dec_all (n : Int) (h0 : -9223372036854775808 ≤ n) (h1 : n ≤ 9223372036854775807) : impl_Decimal.f n = some ⟨(Lib.itoa n).toArray⟩ := by
  unfold impl_Decimal.f strconv_FormatInt_40.f
  rw [if_pos ⟨rfl, h0, h1⟩]
  rfl
theorem readdec_total (s : ByteArray) (hs : s.size ≤ 1048576) : ∃ v b, impl_ReadDecimal.f s = some (v, b) := by
  unfold impl_ReadDecimal.f
  rw [if_pos (by omega)]
  rcases hP : Lib.parseIntB 64 s.data.toList with v | _ | _
  · skip
    simp only
    rw [Lib.parseIntB_64] at hP
    obtain ⟨h0, h1⟩ := Lib.atoiAll_bounds hP
    split
    · exact ⟨_, _, rfl⟩
    · rw [imp_dec_all v h0 h1, Option.bind_some]
      split
      · exact ⟨_, _, rfl⟩
      · exact ⟨_, _, rfl⟩
  · exact ⟨_, _, rfl⟩
  · exact ⟨_, _, rfl⟩
theorem readdec_itoa (s : ByteArray) (hs : s.size ≤ 1048576) (n : Int) (h0 : 0 ≤ n) (h1 : n ≤ 1000000000000) (he : s.data.toList = Lib.itoa n) : impl_ReadDecimal.f s = some (n, true) := by
  obtain ⟨m, rfl⟩ : ∃ m : Nat, n = (m : Int) := ⟨n.toNat, by omega⟩
  have hd := df_dd 12 m (by omega)
  have hl := dd_len 12 m (by omega)
  have hg := dd_digits 12 m (by omega)
  have hi := imp_dec_all (m : Int) (by omega) (by omega)
  rw [itoa_nat] at he hi
  unfold impl_ReadDecimal.f
  rw [if_pos (by omega), he]
  have hne : Lib.decDigits m ≠ [] := by
    intro e
    by_cases c : m < 10
    · rw [dd_small c] at e; cases e
    · rw [dd_big c] at e; simp at e
  have hP : Lib.parseIntB 64 (Lib.decDigits m) = .ok (m : Int) := by
    rw [Lib.parseIntB_64, Lib.atoiAll_short _ (by omega)]
    match Lib.decDigits m, hne, hd, hg with
    | b :: r, _, hd, hg =>
      have hb := hg b (by simp)
      have e1 : ¬ (b == 45) = true := by intro q; rw [beq_iff_eq] at q; rw [q] at hb; exact absurd hb (by decide)
      have e2 : ¬ (b == 43) = true := by intro q; rw [beq_iff_eq] at q; rw [q] at hb; exact absurd hb (by decide)
      rw [Lib.atoi, if_neg e1, if_neg e2, Lib.decNat, if_neg (by simp), hd]
      rfl
  have hT : Lib.trimPrefix (Lib.decDigits m) [45] = Lib.decDigits m := by
    match Lib.decDigits m, hne, hg with
    | b :: r, _, hg =>
      have hb := hg b (by simp)
      unfold Lib.trimPrefix Lib.hasPrefix
      rw [if_neg]
      intro q
      simp at q
      rw [← q] at hb
      exact absurd hb (by decide)
  rw [hP]
  simp only
  rw [hT, if_neg (by omega), hi, Option.bind_some, if_pos]
  rw [beq_iff_eq, tl, tl, he]

theorem name_same (s : ByteArray) : ∀ (k : Nat) (i : Int), spec_l01Name.l0 k s i = impl_onlyNameBytes.l0 k s (s.size : Int) i := by
  intro k
  induction k with
  | zero => intro i; simp only [spec_l01Name.l0, impl_onlyNameBytes.l0]
  | succ k ih =>
    intro i
    simp only [spec_l01Name.l0, impl_onlyNameBytes.l0]
    unfold spec_l01Small.f spec_l01Digit.f
    rw [ih]
    generalize impl_onlyNameBytes.l0 k s (s.size : Int) (wrap64 (i + 1)) = e
    generalize bt s i = b
    by_cases h1 : i < (s.size : Int)
    · rw [if_pos h1, if_pos h1, if_pos h1]
      by_cases h2 : 0 ≤ i
      · rw [if_pos h2, if_pos h2]
        by_cases c1 : b < 97
        · rw [if_pos c1, if_neg (by omega)]
          by_cases c2 : b < 48
          · rw [if_pos c2, if_neg (by omega)]; simp
          · rw [if_neg c2, if_pos (by omega)]
            by_cases c3 : b > 57
            · rw [if_pos c3, decide_eq_false (by omega)]; simp
            · rw [if_neg c3, decide_eq_true (by omega)]; simp
        · rw [if_neg c1, if_pos (by omega)]
          by_cases c4 : b > 122
          · rw [if_pos c4, decide_eq_false (by omega), if_pos (by omega), if_neg (by omega), decide_eq_false (by omega), if_pos (by omega)]; simp
          · rw [if_neg c4, decide_eq_true (by omega)]; simp
      · rw [if_neg h2, if_neg h2]
    · rw [if_neg h1, if_neg h1]
theorem name_total (s : ByteArray) (hs : s.size ≤ 35184372088832) : ∀ (d j k : Nat), j + d = s.size → d < k → ∃ r, impl_onlyNameBytes.l0 k s (s.size : Int) (j : Int) = some r := by
  intro d
  induction d with
  | zero =>
    intro j k hj hk
    obtain ⟨k, rfl⟩ := suc_of hk
    simp only [impl_onlyNameBytes.l0]
    rw [if_neg (by omega)]; exact ⟨_, rfl⟩
  | succ d ih =>
    intro j k hj hk
    obtain ⟨k, rfl⟩ := suc_of hk
    obtain ⟨r, hr⟩ := ih (j + 1) k (by omega) (by omega)
    simp only [impl_onlyNameBytes.l0]
    rw [if_pos (by omega), if_pos (by omega), if_pos (by omega), next_nat (n := s.size) (by omega) (by omega), hr]
    split
    · split
      · exact ⟨_, rfl⟩
      · split
        · exact ⟨_, rfl⟩
        · exact ⟨_, rfl⟩
    · split
      · split
        · exact ⟨_, rfl⟩
        · split
          · exact ⟨_, rfl⟩
          · exact ⟨_, rfl⟩
      · exact ⟨_, rfl⟩
/-- A name is one for both. -/
theorem name_both (s : ByteArray) (hs : s.size ≤ 35184372088832) : ∃ b : Bool, (∀ k, s.size + 3 ≤ k → spec_l01Name.f k s = some b) ∧ (∀ k, s.size + 3 ≤ k → impl_IsName.f k s = some b) ∧ (b = true → 1 ≤ s.size ∧ s.size ≤ 10) := by
  obtain ⟨r, hr⟩ := name_total s hs s.size 0 (s.size + 2) (by omega) (by omega)
  have hr3 : impl_onlyNameBytes.l0 (s.size + 3) s (s.size : Int) 0 = some r := impl_onlyNameBytes.mono_l (s.size + 2) s (s.size : Int) 0 r hr
  have hr2 : impl_onlyNameBytes.l0 (s.size + 2) s (s.size : Int) 0 = some r := hr
  have key : ∃ b : Bool, spec_l01Name.f (s.size + 3) s = some b ∧ impl_IsName.f (s.size + 3) s = some b ∧ (b = true → 1 ≤ s.size ∧ s.size ≤ 10) := by
    have bad : spec_l01Name.j0 (s.size + 3) s true = some false := by simp only [spec_l01Name.j0]; simp
    unfold spec_l01Name.f impl_IsName.f impl_onlyNameBytes.f
    by_cases h0 : s.size = 0
    · have e : s.toList = [] := by
        rw [ByteArray.toList_eq]; exact List.eq_nil_of_length_eq_zero (by rw [Array.length_toList]; exact h0)
      rw [if_pos e, if_pos (by omega), bad]; exact ⟨_, rfl, rfl, by simp⟩
    · have e : ¬ s.toList = [] := by
        rw [ByteArray.toList_eq]
        intro h
        have : s.data.toList.length = 0 := by rw [h]; rfl
        rw [Array.length_toList] at this
        exact h0 this
      rw [if_neg e, if_neg (show ¬ (s.size : Int) < 1 by omega)]
      by_cases h1 : (s.size : Int) > 10
      · rw [if_pos h1, if_pos h1, bad]; exact ⟨_, rfl, rfl, by simp⟩
      · rw [if_neg h1, if_neg h1, if_pos (by omega), if_pos (by omega)]
        unfold spec_l01Small.f
        by_cases c1 : bt s 0 < 97
        · rw [if_pos c1, if_neg (by omega)]
          simp only [Option.bind_some, Bool.not_false]
          exact ⟨_, bad, rfl, by simp⟩
        · rw [if_neg c1, if_pos (by omega)]
          by_cases c2 : bt s 0 > 122
          · rw [if_pos c2, decide_eq_false (by omega)]
            simp only [Option.bind_some, Bool.not_false]
            exact ⟨_, bad, rfl, by simp⟩
          · rw [if_neg c2, decide_eq_true (by omega), hr3]
            simp only [Option.bind_some, Bool.not_true]
            refine ⟨r, ?_, rfl, fun _ => by omega⟩
            simp only [spec_l01Name.j0]
            rw [if_neg Bool.false_ne_true, name_same]
            exact hr2
  obtain ⟨b, h1, h2, h3⟩ := key
  exact ⟨b, up (spec_l01Name.mono s) h1, up (impl_IsName.mono s) h2, h3⟩

theorem impl_in (n lo hi : Int) : impl_within.f n lo hi = some (decide (lo ≤ n ∧ n ≤ hi)) := by unfold impl_within.f; split <;> simp <;> omega

theorem spec_in (n lo hi : Int) : spec_l00In.f n lo hi = some (decide (lo ≤ n ∧ n ≤ hi)) := by unfold spec_l00In.f; split <;> simp <;> omega

theorem rdll_nat (l : List (List Int)) (j : Nat) : rd_L2 l (j : Int) = l.getD j [] := by unfold rd_L2; simp

def lv0 (L : List (List Int)) (i : Nat) : Int := rd (L.getD i []) 0
def lv1 (L : List (List Int)) (i : Nat) : Int := rd (L.getD i []) 1
def stepOk (L : List (List Int)) (i : Nat) : Bool := decide ((L.getD i []).length = 2) && (decide (0 ≤ lv0 L i ∧ lv0 L i ≤ 1000000) && (decide (0 ≤ lv1 L i ∧ lv1 L i ≤ 10000) && (if i = 0 then decide (lv0 L i = 0) else decide (lv0 L (i - 1) < lv0 L i))))
def allFrom (L : List (List Int)) : Nat → Nat → Bool
  | 0, _ => true
  | d + 1, j => stepOk L j && allFrom L d (j + 1)
theorem spec_lv_l0 (s : ByteArray) (f p : Int) (L : List (List Int)) (hL : L.length ≤ 6) : ∀ (d j k : Nat), j + d = L.length → 2 * d < k → (0 < j → (L.getD (j - 1) []).length = 2) →
    spec_l21Ok.l0 k [(⟨s, f, p, L⟩ : S24)] (j : Int) = some (allFrom L d j) := by
  intro d
  induction d with
  | zero =>
    intro j k hj hk hp
    obtain ⟨k, rfl⟩ := suc_of (show 0 < k by omega)
    simp only [spec_l21Ok.l0, show rd_T24 [(⟨s, f, p, L⟩ : S24)] 0 = ⟨s, f, p, L⟩ from rfl]
    rw [if_pos (by simp), if_neg (by omega)]
    rfl
  | succ d ih =>
    intro j k hj hk hp
    obtain ⟨k, rfl⟩ : ∃ m, k = m + 1 + 1 := ⟨k - 2, by omega⟩
    have bad : spec_l21Ok.j2 (k + 1) [(⟨s, f, p, L⟩ : S24)] (j : Int) true = some false := by simp only [spec_l21Ok.j2]; simp
    have good : spec_l21Ok.j2 (k + 1) [(⟨s, f, p, L⟩ : S24)] (j : Int) false = spec_l21Ok.l0 k [(⟨s, f, p, L⟩ : S24)] ((j + 1 : Nat) : Int) := by
      simp only [spec_l21Ok.j2]
      rw [if_neg Bool.false_ne_true, next_nat (n := L.length) (by omega) (by omega)]
    simp only [spec_l21Ok.l0, show rd_T24 [(⟨s, f, p, L⟩ : S24)] 0 = ⟨s, f, p, L⟩ from rfl]
    rw [if_pos (by simp), if_pos (by omega), if_pos (by omega), rdll_nat]
    unfold allFrom stepOk lv0 lv1
    by_cases hlen : (L.getD j []).length = 2
    · have hr := ih (j + 1) k (by omega) (by omega) (fun _ => hlen)
      rw [if_pos (show ((L.getD j []).length : Int) = 2 by omega), if_pos (show (0 : Int) < ((L.getD j []).length : Int) by omega), if_pos (show (1 : Int) < ((L.getD j []).length : Int) by omega), decide_eq_true hlen, Bool.true_and]
      simp only [spec_in, Option.bind_some]
      generalize hx0 : rd (L.getD j []) 0 = x0
      generalize rd (L.getD j []) 1 = x1
      by_cases hA : 0 ≤ x0 ∧ x0 ≤ 1000000
      · rw [decide_eq_true hA, if_pos rfl, Bool.true_and]
        by_cases hB : 0 ≤ x1 ∧ x1 ≤ 10000
        · rw [decide_eq_true hB, if_pos rfl, Bool.true_and]
          by_cases hz : j = 0
          · rw [if_pos (show (j : Int) = 0 by omega), if_pos hz]
            by_cases h00 : x0 = 0
            · rw [if_pos h00, if_neg (show ¬ (j : Int) > 0 by omega), good, hr, decide_eq_true h00, Bool.true_and]
            · rw [if_neg h00, bad, decide_eq_false h00]; rfl
          · have hpv := hp (by omega)
            rw [if_neg (show ¬ (j : Int) = 0 by omega), if_neg hz, if_pos (show (j : Int) > 0 by omega)]
            have ew : wrap64 ((j : Int) - 1) = ((j - 1 : Nat) : Int) := by rw [wrap_id (by omega) (by omega)]; omega
            rw [ew, rdll_nat, if_pos (show (0 : Int) ≤ ((j - 1 : Nat) : Int) by omega), if_pos (show ((j - 1 : Nat) : Int) < (L.length : Int) by omega), if_pos (show (0 : Int) < ((L.getD (j - 1) []).length : Int) by omega)]
            generalize rd (L.getD (j - 1) []) 0 = y0
            by_cases hc : y0 < x0
            · rw [decide_eq_false (show ¬ y0 ≥ x0 by omega), good, hr, decide_eq_true hc, Bool.true_and]
            · rw [decide_eq_true (show y0 ≥ x0 by omega), bad, decide_eq_false hc]; rfl
        · rw [decide_eq_false hB, if_neg Bool.false_ne_true, bad]; rfl
      · rw [decide_eq_false hA, if_neg Bool.false_ne_true, bad]; rfl
    · rw [if_neg (show ¬ ((L.getD j []).length : Int) = 2 by omega), bad, decide_eq_false hlen]; rfl
theorem impl_lv_l0 (s : ByteArray) (f p : Int) (L : List (List Int)) (hL : L.length ≤ 6) : ∀ (d j k : Nat), j + d = L.length → 2 * d < k → (0 < j → (L.getD (j - 1) []).length = 2) →
    impl_ValidTariff.l0 k L (L.length : Int) (j : Int) s f p L = some (allFrom L d j) := by
  intro d
  induction d with
  | zero =>
    intro j k hj hk hp
    obtain ⟨k, rfl⟩ := suc_of (show 0 < k by omega)
    simp only [impl_ValidTariff.l0]
    rw [if_neg (by omega)]
    rfl
  | succ d ih =>
    intro j k hj hk hp
    obtain ⟨k, rfl⟩ : ∃ m, k = m + 1 + 1 := ⟨k - 2, by omega⟩
    have bad : impl_ValidTariff.j2 (k + 1) L (L.length : Int) (j : Int) true s f p L = some false := by simp only [impl_ValidTariff.j2]; simp
    have good : impl_ValidTariff.j2 (k + 1) L (L.length : Int) (j : Int) false s f p L = impl_ValidTariff.l0 k L (L.length : Int) ((j + 1 : Nat) : Int) s f p L := by
      simp only [impl_ValidTariff.j2]
      rw [if_neg Bool.false_ne_true, next_nat (n := L.length) (by omega) (by omega)]
    simp only [impl_ValidTariff.l0]
    rw [if_pos (by omega), if_pos (by omega), if_pos (by omega), rdll_nat]
    unfold allFrom stepOk lv0 lv1
    by_cases hlen : (L.getD j []).length = 2
    · have hr := ih (j + 1) k (by omega) (by omega) (fun _ => hlen)
      rw [if_pos (show ((L.getD j []).length : Int) = 2 by omega), if_pos (show (0 : Int) < ((L.getD j []).length : Int) by omega), if_pos (show (1 : Int) < ((L.getD j []).length : Int) by omega), decide_eq_true hlen, Bool.true_and]
      simp only [impl_in, Option.bind_some]
      generalize hx0 : rd (L.getD j []) 0 = x0
      generalize rd (L.getD j []) 1 = x1
      by_cases hA : 0 ≤ x0 ∧ x0 ≤ 1000000
      · rw [decide_eq_true hA, if_pos rfl, Bool.true_and]
        by_cases hB : 0 ≤ x1 ∧ x1 ≤ 10000
        · rw [decide_eq_true hB, if_pos rfl, Bool.true_and]
          by_cases hz : j = 0
          · rw [if_pos (show (j : Int) = 0 by omega), if_pos hz]
            by_cases h00 : x0 = 0
            · rw [if_pos h00, if_neg (show ¬ (j : Int) > 0 by omega), good, hr, decide_eq_true h00, Bool.true_and]
            · rw [if_neg h00, bad, decide_eq_false h00]; rfl
          · have hpv := hp (by omega)
            rw [if_neg (show ¬ (j : Int) = 0 by omega), if_neg hz, if_pos (show (j : Int) > 0 by omega)]
            have ew : wrap64 ((j : Int) - 1) = ((j - 1 : Nat) : Int) := by rw [wrap_id (by omega) (by omega)]; omega
            rw [ew, rdll_nat, if_pos (show (0 : Int) ≤ ((j - 1 : Nat) : Int) by omega), if_pos (show ((j - 1 : Nat) : Int) < (L.length : Int) by omega), if_pos (show (0 : Int) < ((L.getD (j - 1) []).length : Int) by omega)]
            generalize rd (L.getD (j - 1) []) 0 = y0
            by_cases hc : y0 < x0
            · rw [decide_eq_false (show ¬ x0 ≤ y0 by omega), good, hr, decide_eq_true hc, Bool.true_and]
            · rw [decide_eq_true (show x0 ≤ y0 by omega), bad, decide_eq_false hc]; rfl
        · rw [decide_eq_false hB, if_neg Bool.false_ne_true, bad]; rfl
      · rw [decide_eq_false hA, if_neg Bool.false_ne_true, bad]; rfl
    · rw [if_neg (show ¬ ((L.getD j []).length : Int) = 2 by omega), bad, decide_eq_false hlen]; rfl
theorem allFrom_at (L : List (List Int)) : ∀ (d j : Nat), allFrom L d j = true → ∀ i, j ≤ i → i < j + d → stepOk L i = true := by
  intro d
  induction d with
  | zero => intro j _ i h1 h2; omega
  | succ d ih =>
    intro j h i h1 h2
    unfold allFrom at h
    rw [Bool.and_eq_true] at h
    by_cases e : i = j
    · subst e; exact h.1
    · exact ih (j + 1) h.2 i (by omega) (by omega)
def TarOk (f p : Int) (L : List (List Int)) : Prop := (0 ≤ f ∧ f ≤ 1000000) ∧ (0 ≤ p ∧ p ≤ 10000) ∧ 1 ≤ L.length ∧ L.length ≤ 6 ∧ ∀ i, i < L.length → (L.getD i []).length = 2 ∧ (0 ≤ lv0 L i ∧ lv0 L i ≤ 1000000) ∧ (0 ≤ lv1 L i ∧ lv1 L i ≤ 10000) ∧ (i = 0 → lv0 L i = 0) ∧ (0 < i → lv0 L (i - 1) < lv0 L i)
theorem tariff_both (s : ByteArray) (f p : Int) (L : List (List Int)) (hs : s.size ≤ 35184372088832) : ∃ v : Bool, (∀ k, s.size + 30 ≤ k → spec_l21Ok.f k [(⟨s, f, p, L⟩ : S24)] = some v) ∧ (∀ k, s.size + 30 ≤ k → impl_ValidTariff.f k s f p L = some v) ∧ (v = true → TarOk f p L ∧ s.size ≤ 10) := by
  obtain ⟨b, n1, n2, n3⟩ := name_both s hs
  have e : rd_T24 [(⟨s, f, p, L⟩ : S24)] 0 = ⟨s, f, p, L⟩ := rfl
  have sbad : ∀ k, spec_l21Ok.j0 (k + 1) [(⟨s, f, p, L⟩ : S24)] true = some false := fun k => by simp only [spec_l21Ok.j0]; simp
  have ibad : ∀ k, impl_ValidTariff.j0 (k + 1) true s f p L = some false := fun k => by simp only [impl_ValidTariff.j0]; simp
  refine ⟨b && (decide (0 ≤ f ∧ f ≤ 1000000) && (decide (0 ≤ p ∧ p ≤ 10000) && (decide (1 ≤ (L.length : Int) ∧ (L.length : Int) ≤ 6) && allFrom L L.length 0))), fun k hk => ?_, fun k hk => ?_, fun h => ?_⟩
  · obtain ⟨k, rfl⟩ := suc_of (show 0 < k by omega)
    unfold spec_l21Ok.f
    rw [if_pos (by simp)]
    simp only [e, spec_in, n1 (k + 1) (by omega), Option.bind_some, sbad]
    cases b
    · rfl
    · cases decide (0 ≤ f ∧ f ≤ 1000000)
      · rfl
      · cases decide (0 ≤ p ∧ p ≤ 10000)
        · rfl
        · simp only [if_true, Bool.true_and]
          by_cases h : 1 ≤ (L.length : Int) ∧ (L.length : Int) ≤ 6
          · rw [decide_eq_true h]
            simp only [Bool.not_true, spec_l21Ok.j0, Bool.true_and]
            rw [if_neg Bool.false_ne_true]
            exact spec_lv_l0 s f p L (by omega) L.length 0 k (by omega) (by omega) (fun h => absurd h (by omega))
          · rw [decide_eq_false h, Bool.not_false, sbad]; rfl
  · obtain ⟨k, rfl⟩ := suc_of (show 0 < k by omega)
    unfold impl_ValidTariff.f
    simp only [impl_in, n2 (k + 1) (by omega), Option.bind_some, ibad]
    cases b
    · rfl
    · cases decide (0 ≤ f ∧ f ≤ 1000000)
      · rfl
      · cases decide (0 ≤ p ∧ p ≤ 10000)
        · rfl
        · simp only [if_true, Bool.true_and]
          by_cases h1 : (L.length : Int) < 1
          · rw [if_pos h1, decide_eq_false (by omega)]; rfl
          · rw [if_neg h1]
            by_cases h2 : (L.length : Int) > 6
            · rw [decide_eq_true h2, ibad, decide_eq_false (by omega)]; rfl
            · rw [decide_eq_false h2, decide_eq_true (by omega)]
              simp only [impl_ValidTariff.j0, Bool.true_and]
              rw [if_neg Bool.false_ne_true]
              exact impl_lv_l0 s f p L (by omega) L.length 0 k (by omega) (by omega) (fun h => absurd h (by omega))
  · simp only [Bool.and_eq_true, decide_eq_true_eq] at h
    obtain ⟨hb, hf, hp, hl, ha⟩ := h
    refine ⟨⟨hf, hp, by omega, by omega, fun i hi => ?_⟩, (n3 hb).2⟩
    have h := allFrom_at L L.length 0 ha i (by omega) (by omega)
    unfold stepOk at h
    simp only [Bool.and_eq_true, decide_eq_true_eq] at h
    obtain ⟨g1, g2, g3, g4⟩ := h
    refine ⟨g1, g2, g3, fun hz => ?_, fun hz => ?_⟩
    · rw [if_pos hz] at g4; exact of_decide_eq_true g4
    · rw [if_neg (by omega)] at g4; exact of_decide_eq_true g4

theorem ba_ext {x y : ByteArray} (h : x.data.toList = y.data.toList) : x = y := by
  cases x with | mk a =>
  cases y with | mk b =>
  have : a = b := Array.toList_inj.mp h
  rw [this]
def pairT (x : List Int) : List UInt8 := 32 :: (Lib.itoa (rd x 0) ++ 58 :: Lib.itoa (rd x 1))
def rowsT : List (List Int) → List UInt8
  | [] => []
  | x :: r => pairT x ++ rowsT r
def headT (s : ByteArray) (f p : Int) : List UInt8 := s.data.toList ++ 32 :: (Lib.itoa f ++ 43 :: Lib.itoa p)
theorem imp_dec (n : Int) (h0 : 0 ≤ n) (h1 : n ≤ 1000000000000) : impl_Decimal.f n = some ⟨(Lib.itoa n).toArray⟩ := imp_dec_all n (by omega) (by omega)
theorem sz_mk (l : List UInt8) : (⟨l.toArray⟩ : ByteArray).size = l.length := by simp [ByteArray.size]
theorem sz_one (b : UInt8) : (⟨#[b]⟩ : ByteArray).size = 1 := rfl
theorem app_T (a b : ByteArray) : (a ++ b).data.toList = a.data.toList ++ b.data.toList := by
  rw [ByteArray.data_append, Array.toList_append]
theorem rows_imp (L : List (List Int)) (hL : L.length ≤ 6) (hx : ∀ i, i < L.length → (L.getD i []).length = 2 ∧ (0 ≤ lv0 L i ∧ lv0 L i ≤ 1000000) ∧ (0 ≤ lv1 L i ∧ lv1 L i ≤ 10000)) :
    ∀ (d i : Nat) (A : ByteArray) (k : Nat), i + d = L.length → A.size + d * 100 ≤ 10000000 → 200 + d < k →
    impl_TariffText.l0 k A L (L.length : Int) (i : Int) = some ⟨(A.data.toList ++ rowsT (L.drop i)).toArray⟩ := by
  intro d
  induction d with
  | zero =>
    intro i A k hi _ hk
    obtain ⟨k, rfl⟩ := suc_of hk
    have e : L.drop i = [] := List.drop_of_length_le (by omega)
    have eA : (⟨(A.data.toList ++ rowsT (L.drop i)).toArray⟩ : ByteArray) = A := by
      rw [e]
      refine ba_ext ?_
      simp [rowsT]
    rw [eA, impl_TariffText.l0.eq_def]
    simp only []
    rw [if_neg (by omega)]
  | succ d ih =>
    intro i A k hi hA hk
    obtain ⟨k, rfl⟩ := suc_of hk
    have c2 : (i : Int) < (L.length : Int) := by omega
    have c3 : (0 : Int) ≤ (i : Int) := by omega
    have c1 : (0 : Int) < ((1 : Nat) : Int) := by omega
    have hil : i < L.length := by omega
    have hnx : wrap64 ((i : Int) + 1) = ((i + 1 : Nat) : Int) := next_nat (n := 6) (by omega) (by omega)
    obtain ⟨h2, ⟨a0, a1⟩, ⟨b0, b1⟩⟩ := hx i hil
    have c4 : (0 : Int) < ((L.getD i []).length : Int) := by rw [h2]; decide
    have c5 : (1 : Int) < ((L.getD i []).length : Int) := by rw [h2]; decide
    have r1 : rd_L2 L (i : Int) = L.getD i [] := by unfold rd_L2; rw [Int.toNat_natCast]
    have i0 := imp_dec (lv0 L i) a0 (Int.le_trans a1 (by decide))
    have i1 := imp_dec (lv1 L i) b0 (Int.le_trans b1 (by decide))
    have n0 := itoa_len (lv0 L i) a0 (Int.le_trans a1 (by decide))
    have n1 := itoa_len (lv1 L i) b0 (Int.le_trans b1 (by decide))
    clear a0 a1 b0 b1
    have ep : pairT (L.getD i []) = 32 :: (Lib.itoa (lv0 L i) ++ 58 :: Lib.itoa (lv1 L i)) := rfl
    have g0 : rd (L.getD i []) 0 = lv0 L i := rfl
    have g1 : rd (L.getD i []) 1 = lv1 L i := rfl
    rw [← g0] at i0 n0 ep
    rw [← g1] at i1 n1 ep
    clear g0 g1
    obtain ⟨t0, e0⟩ : ∃ t, Lib.itoa (rd (L.getD i []) 0) = t := ⟨_, rfl⟩
    obtain ⟨t1, e1⟩ : ∃ t, Lib.itoa (rd (L.getD i []) 1) = t := ⟨_, rfl⟩
    rw [e0] at i0 n0 ep
    rw [e1] at i1 n1 ep
    have ed : L.drop i = L.getD i [] :: L.drop (i + 1) := by
      rw [List.drop_eq_getElem_cons (show i < L.length by omega), List.getD_eq_getElem?_getD, List.getElem?_eq_getElem (by omega)]
      rfl
    obtain ⟨B, hB⟩ : ∃ B : ByteArray, B = A ++ ((((⟨#[32]⟩ : ByteArray) ++ ⟨t0.toArray⟩) ++ (⟨#[58]⟩ : ByteArray)) ++ ⟨t1.toArray⟩) := ⟨_, rfl⟩
    have hBd : B.data.toList = A.data.toList ++ pairT (L.getD i []) := by
      rw [hB]
      simp only [app_T]
      rw [ep]
      simp
    have hBs : B.size ≤ A.size + 28 := by
      rw [hB]
      simp only [ByteArray.size_append, sz_mk, sz_one, List.length_singleton]
      omega
    have q2 := ih (i + 1) B k (by omega) (by omega) (by omega)
    rw [hBd, List.append_assoc] at q2
    have ee : pairT (L.getD i []) ++ rowsT (L.drop (i + 1)) = rowsT (L.drop i) := by rw [ed]; rfl
    rw [ee] at q2
    have z : ∀ l : List UInt8, (⟨l.toArray⟩ : ByteArray).size = l.length := sz_mk
    rw [impl_TariffText.l0.eq_def]
    simp only []
    rw [r1, i0, i1, if_pos c2, if_pos c3, if_pos c2, if_pos c4, Option.bind_some, if_pos (by rw [z]; omega), if_pos (by simp only [ByteArray.size_append, sz_mk, sz_one, List.length_singleton]; omega), if_pos c5, Option.bind_some, if_pos (by simp only [ByteArray.size_append, sz_mk, sz_one, List.length_singleton]; omega), if_pos (by simp only [ByteArray.size_append, sz_mk, sz_one, List.length_singleton]; omega), ← hB, hnx]
    exact q2
theorem text_imp (s : ByteArray) (f p : Int) (L : List (List Int)) (ht : TarOk f p L) (hs : s.size ≤ 10) (k : Nat) (hk : 1000 ≤ k) :
    (∀ v, impl_ValidTariff.f k s f p L = some v → v = true → impl_TariffText.f k s f p L = some ⟨(headT s f p ++ rowsT L).toArray⟩) := by
  obtain ⟨⟨f0, f1⟩, ⟨p0, p1⟩, _, l6, hx⟩ := ht
  have i0 := imp_dec f f0 (by omega)
  have i1 := imp_dec p p0 (by omega)
  have n0 := itoa_len f f0 (by omega)
  have n1 := itoa_len p p0 (by omega)
  obtain ⟨B, hB⟩ : ∃ B : ByteArray, B = (((s ++ (⟨#[32]⟩ : ByteArray)) ++ ⟨(Lib.itoa f).toArray⟩) ++ (⟨#[43]⟩ : ByteArray)) ++ ⟨(Lib.itoa p).toArray⟩ := ⟨_, rfl⟩
  have hBd : B.data.toList = headT s f p := by
    rw [hB]
    simp only [app_T]
    unfold headT
    simp
  have hBs : B.size ≤ 100 := by
    rw [hB]
    simp only [ByteArray.size_append, sz_mk, sz_one, List.length_singleton]
    omega
  have q2 := rows_imp L l6 (fun i hi => ⟨(hx i hi).1, (hx i hi).2.1, (hx i hi).2.2.1⟩) L.length 0 B k (by omega) (by omega) (by omega)
  rw [hBd, List.drop_zero] at q2
  intro v hv hv2
  unfold impl_TariffText.f
  rw [hv, hv2, Option.bind_some, if_pos rfl, i0, i1, if_pos (by omega), Option.bind_some, if_pos (by simp only [ByteArray.size_append, sz_mk, sz_one, List.length_singleton]; omega), if_pos (by simp only [ByteArray.size_append, sz_mk, sz_one, List.length_singleton]; omega), Option.bind_some, if_pos (by simp only [ByteArray.size_append, sz_mk, sz_one, List.length_singleton]; omega), ← hB]
  exact q2

abbrev RT := ByteArray × Int × Int × List (List Int) × Bool
def noT : RT := (⟨#[]⟩, 0, 0, [], false)
def rowB (x : List Int) : List UInt8 := Lib.itoa (rd x 0) ++ 58 :: Lib.itoa (rd x 1)
def textT (n : ByteArray) (f p : Int) (L : List (List Int)) : List UInt8 := headT n f p ++ rowsT L
def GoodT (n : ByteArray) (f p : Int) (L : List (List Int)) : Prop := (∀ k, 2000000 ≤ k → spec_l21Ok.f k [(⟨n, f, p, L⟩ : S24)] = some true) ∧ (∀ k, 2000000 ≤ k → impl_ValidTariff.f k n f p L = some true) ∧ TarOk f p L ∧ n.size ≤ 10 ∧ ∀ b ∈ n.data.toList, b ≠ 32
theorem name_no32_l0 (s : ByteArray) (hs : s.size ≤ 1048576) : ∀ (k i : Nat), spec_l01Name.l0 k s (i : Int) = some true → ∀ j, i ≤ j → (h : j < s.data.toList.length) → s.data.toList[j] ≠ 32 := by
  have hT : s.data.toList.length = s.size := Array.length_toList ..
  intro k
  induction k with
  | zero => intro i h; rw [spec_l01Name.l0.eq_def] at h; cases h
  | succ k ih =>
    intro i h j hij hj
    rw [spec_l01Name.l0.eq_def] at h
    simp only at h
    rw [if_pos (by omega), if_pos (by omega), next_nat (n := s.size) (by omega) (by omega), bt_T s i (by omega)] at h
    by_cases e : i = j
    · subst e
      intro q
      rw [q] at h
      have e1 : spec_l01Small.f (((32 : UInt8).toNat : Nat) : Int) = some false := by decide
      have e2 : spec_l01Digit.f (((32 : UInt8).toNat : Nat) : Int) = some false := by decide
      rw [e1, Option.bind_some, if_neg Bool.false_ne_true, e2, Option.bind_some, if_neg Bool.false_ne_true] at h
      cases h
    · refine ih (i + 1) ?_ j (by omega) hj
      generalize ((s.data.toList[i]'(by omega)).toNat : Int) = b at h
      unfold spec_l01Small.f spec_l01Digit.f at h
      generalize spec_l01Name.l0 k s ((i + 1 : Nat) : Int) = R at h ⊢
      split at h
      · rw [Option.bind_some] at h
        split at h
        · exact h
        · split at h
          · rw [Option.bind_some] at h
            split at h
            · exact h
            · cases h
          · rw [Option.bind_some, if_neg Bool.false_ne_true] at h
            cases h
      · rw [Option.bind_some, if_neg Bool.false_ne_true] at h
        split at h
        · rw [Option.bind_some] at h
          split at h
          · exact h
          · cases h
        · rw [Option.bind_some, if_neg Bool.false_ne_true] at h
          cases h
theorem name_no32 (s : ByteArray) (hs : s.size ≤ 1048576) (k : Nat) (h : spec_l01Name.f k s = some true) : ∀ b ∈ s.data.toList, b ≠ 32 := by
  have key : ∀ k x, spec_l01Name.j0 k s x = some true → ∀ b ∈ s.data.toList, b ≠ 32 := by
    intro k x h
    cases k with
    | zero => rw [spec_l01Name.j0.eq_def] at h; cases h
    | succ k =>
      rw [spec_l01Name.j0.eq_def] at h
      simp only at h
      split at h
      · cases h
      · intro b hb
        obtain ⟨j, hj, rfl⟩ := List.mem_iff_getElem.1 hb
        exact name_no32_l0 s hs k 0 h j (Nat.zero_le _) hj
  unfold spec_l01Name.f at h
  split at h
  · exact key _ _ h
  · split at h
    · exact key _ _ h
    · split at h
      · cases hv : spec_l01Small.f (bt s 0) with
        | none => rw [hv] at h; cases h
        | some v => rw [hv] at h; exact key _ _ h
      · cases h
theorem ok_name (n : ByteArray) (hn : n.size ≤ 1048576) (f p : Int) (L : List (List Int)) (k : Nat) (h : spec_l21Ok.f k [(⟨n, f, p, L⟩ : S24)] = some true) : ∀ b ∈ n.data.toList, b ≠ 32 := by
  have r0 : (rd_T24 [(⟨n, f, p, L⟩ : S24)] 0).f0 = n := rfl
  unfold spec_l21Ok.f at h
  rw [r0, if_pos (by simp)] at h
  cases hv : spec_l01Name.f k n with
  | none => rw [hv] at h; cases h
  | some v =>
    cases v with
    | true => exact name_no32 n hn k hv
    | false =>
      rw [hv, Option.bind_some, if_neg Bool.false_ne_true] at h
      cases k with
      | zero => rw [spec_l21Ok.j0.eq_def] at h; cases h
      | succ k =>
        rw [spec_l21Ok.j0.eq_def] at h
        simp only at h
        rw [if_pos (by trivial)] at h
        cases h
theorem good_cases (n : ByteArray) (f p : Int) (L : List (List Int)) (hn : n.size ≤ 1048576) : GoodT n f p L ∨ ((∀ k, 2000000 ≤ k → spec_l21Ok.f k [(⟨n, f, p, L⟩ : S24)] = some false) ∧ (∀ k, 2000000 ≤ k → impl_ValidTariff.f k n f p L = some false)) := by
  obtain ⟨v, v1, v2, v3⟩ := tariff_both n f p L (by omega)
  cases v with
  | true =>
    have w1 : ∀ k, 2000000 ≤ k → spec_l21Ok.f k [(⟨n, f, p, L⟩ : S24)] = some true := fun k hk => v1 k (by omega)
    exact Or.inl ⟨w1, fun k hk => v2 k (by omega), (v3 rfl).1, (v3 rfl).2, ok_name n hn f p L _ (w1 2000000 (Nat.le_refl _))⟩
  | false => exact Or.inr ⟨fun k hk => v1 k (by omega), fun k hk => v2 k (by omega)⟩
theorem text_cases (n : ByteArray) (f p : Int) (L : List (List Int)) (hn : n.size ≤ 1048576) : ∃ T : ByteArray, (∀ k, 2000000 ≤ k → impl_TariffText.f k n f p L = some T) ∧ ((GoodT n f p L ∧ T.data.toList = textT n f p L) ∨ (¬ GoodT n f p L ∧ T.data.toList = [])) := by
  rcases good_cases n f p L hn with hg | ⟨h1, h2⟩
  · refine ⟨⟨(textT n f p L).toArray⟩, fun k hk => ?_, Or.inl ⟨hg, rfl⟩⟩
    exact text_imp n f p L hg.2.2.1 hg.2.2.2.1 k (by omega) true (hg.2.1 k hk) rfl
  · refine ⟨⟨#[]⟩, fun k hk => ?_, Or.inr ⟨fun hg => ?_, rfl⟩⟩
    · unfold impl_TariffText.f
      rw [h2 k hk]
      rfl
    · have := (h2 2000000 (Nat.le_refl _)).symm.trans (hg.2.1 2000000 (Nat.le_refl _))
      cases this
theorem itoa_digits (n : Int) (h0 : 0 ≤ n) (h1 : n ≤ 1000000000000) : ∀ b ∈ Lib.itoa n, 48 ≤ b.toNat ∧ b.toNat ≤ 57 := by
  obtain ⟨m, rfl⟩ : ∃ m : Nat, n = (m : Int) := ⟨n.toNat, by omega⟩
  rw [itoa_nat]
  exact dd_digits 12 m (by omega)
theorem itoa_no (c : UInt8) (hc : c.toNat < 48 ∨ 57 < c.toNat) (n : Int) (h0 : 0 ≤ n) (h1 : n ≤ 1000000000000) : ∀ b ∈ Lib.itoa n, b ≠ c := by
  intro b hb e
  have := itoa_digits n h0 h1 b hb
  rw [e] at this
  omega
theorem pair_no32 (c : UInt8) (hc : c ≠ 32) (u v : Int) (hu : 0 ≤ u ∧ u ≤ 1000000000000) (hv : 0 ≤ v ∧ v ≤ 1000000000000) : ∀ b ∈ Lib.itoa u ++ c :: Lib.itoa v, b ≠ 32 := by
  intro b hb
  rw [List.mem_append, List.mem_cons] at hb
  rcases hb with hb | hb | hb
  · exact itoa_no 32 (by decide) u hu.1 hu.2 b hb
  · rw [hb]; exact hc
  · exact itoa_no 32 (by decide) v hv.1 hv.2 b hb
theorem join_rows : ∀ (L : List (List Int)) (y : List UInt8), joinc 32 (y :: L.map rowB) = y ++ rowsT L
  | [], y => by
    show y = y ++ []
    rw [List.append_nil]
  | x :: L, y => by
    have ih := join_rows L (rowB x)
    rw [List.map_cons]
    show y ++ 32 :: joinc 32 (rowB x :: L.map rowB) = _
    rw [ih]
    rfl
theorem spl_rows : ∀ (L : List (List Int)) (y : List UInt8), (∀ b ∈ y, b ≠ 32) → (∀ x ∈ L, ∀ b ∈ rowB x, b ≠ 32) → spl 32 (y ++ rowsT L) = y :: L.map rowB
  | [], y, hy, _ => by
    rw [show rowsT [] = [] from rfl, List.append_nil]
    exact spl_end 32 y hy
  | x :: L, y, hy, hL => by
    have ih := spl_rows L (rowB x) (hL x (by simp)) (fun z hz => hL z (by simp [hz]))
    rw [show rowsT (x :: L) = 32 :: (rowB x ++ rowsT L) from rfl, spl_at 32 y _ hy, ih]
    rfl
theorem text_spl (n : ByteArray) (f p : Int) (L : List (List Int)) (hg : GoodT n f p L) : spl 32 (textT n f p L) = n.data.toList :: (Lib.itoa f ++ 43 :: Lib.itoa p) :: L.map rowB := by
  obtain ⟨_, _, ⟨f0, p0, _, _, hx⟩, _, hb⟩ := hg
  have e : textT n f p L = n.data.toList ++ 32 :: ((Lib.itoa f ++ 43 :: Lib.itoa p) ++ rowsT L) := by
    unfold textT headT
    simp
  rw [e, spl_at 32 _ _ hb, spl_rows L _ (pair_no32 43 (by decide) f p ⟨f0.1, by omega⟩ ⟨p0.1, by omega⟩) (fun x hx2 => ?_)]
  obtain ⟨i, hi, rfl⟩ := List.mem_iff_getElem.1 hx2
  obtain ⟨_, ⟨a0, a1⟩, ⟨b0, b1⟩, _⟩ := hx i hi
  unfold lv0 at a0 a1
  unfold lv1 at b0 b1
  rw [getD_lt hi] at a0 a1 b0 b1
  exact pair_no32 58 (by decide) _ _ ⟨a0, Int.le_trans a1 (by decide)⟩ ⟨b0, Int.le_trans b1 (by decide)⟩
theorem text_join (n : ByteArray) (f p : Int) (L : List (List Int)) : joinc 32 (n.data.toList :: (Lib.itoa f ++ 43 :: Lib.itoa p) :: L.map rowB) = textT n f p L := by
  show n.data.toList ++ 32 :: joinc 32 ((Lib.itoa f ++ 43 :: Lib.itoa p) :: L.map rowB) = _
  rw [join_rows]
  unfold textT headT
  simp
theorem two_of {x : List Int} (h : x.length = 2) : x = [rd x 0, rd x 1] := by
  match x, h with
  | [a, b], _ => rfl

theorem spec_pair (c : UInt8) (hc : c.toNat < 48 ∨ 57 < c.toNat) (s : ByteArray) (hs : s.size ≤ 1048576) (k : Nat) (hk : 1048577 < k) : ∃ X b, spec_l21Pair.f k s (c.toNat : Int) = some (X, b) ∧ (b = true → ∃ u v, X = [u, v] ∧ (0 ≤ u → 0 ≤ v → s.data.toList = Lib.itoa u ++ c :: Lib.itoa v)) ∧
    ∀ u v : Int, 0 ≤ u ∧ u ≤ 1000000000000 → 0 ≤ v ∧ v ≤ 1000000000000 → s.data.toList = Lib.itoa u ++ c :: Lib.itoa v → X = [u, v] ∧ b = true := by
  obtain ⟨Q, q1, q2⟩ := spec_split c s hs k hk
  have hj := join_spl c s.data.toList
  have hle := spl_le c s.data.toList
  rw [← q2] at hj hle
  have comp : ∀ u v : Int, 0 ≤ u ∧ u ≤ 1000000000000 → 0 ≤ v ∧ v ≤ 1000000000000 → s.data.toList = Lib.itoa u ++ c :: Lib.itoa v → Q.map (·.data.toList) = [Lib.itoa u, Lib.itoa v] := by
    intro u v hu hv e
    rw [q2, e, spl_at c _ _ (itoa_no c hc u hu.1 hu.2), spl_end c _ (itoa_no c hc v hv.1 hv.2)]
  unfold spec_l21Pair.f
  rw [q1, Option.bind_some]
  by_cases h2 : Q.length = 2
  · match Q, h2, hj, hle, comp with
    | [a, b], _, hj, hle, comp =>
      have ha : a.data.toList.length = a.size := Array.length_toList ..
      have hb : b.data.toList.length = b.size := Array.length_toList ..
      have hT : s.data.toList.length = s.size := Array.length_toList ..
      have la := hle a.data.toList (by simp)
      have lb := hle b.data.toList (by simp)
      obtain ⟨u, x, n1, n2, n3⟩ := num_spec a (by omega) k (by omega)
      obtain ⟨v, y, m1, m2, m3⟩ := num_spec b (by omega) k (by omega)
      have e0 : rdOf ByteArray.empty [a, b] 0 = a := rfl
      have e1 : rdOf ByteArray.empty [a, b] 1 = b := rfl
      have e2 : (([a, b] : List ByteArray).length : Int) = 2 := rfl
      rw [e0, e1, e2, if_pos rfl, if_pos (by decide), n1, Option.bind_some, if_pos (by decide), m1, Option.bind_some, Option.bind_some]
      have hjj : a.data.toList ++ c :: b.data.toList = s.data.toList := hj
      cases x with
      | true =>
        rw [if_pos rfl]
        refine ⟨_, _, rfl, fun hy => ⟨u, v, rfl, fun hu hv => ?_⟩, fun u' v' hu hv e => ?_⟩
        · rw [← hjj, n2 rfl hu, m2 hy hv]
        · have h := comp u' v' hu hv e
          rw [List.map_cons, List.map_cons, List.map_nil] at h
          obtain ⟨h1, h⟩ := List.cons.inj h
          obtain ⟨h2, _⟩ := List.cons.inj h
          obtain ⟨r1, _⟩ := n3 u' hu.1 hu.2 h1
          obtain ⟨r2, r3⟩ := m3 v' hv.1 hv.2 h2
          exact ⟨by rw [r1, r2], r3⟩
      | false =>
        rw [if_neg Bool.false_ne_true]
        refine ⟨_, _, rfl, fun hy => (by cases hy), fun u' v' hu hv e => ?_⟩
        have h := comp u' v' hu hv e
        rw [List.map_cons, List.map_cons, List.map_nil] at h
        obtain ⟨h1, h⟩ := List.cons.inj h
        have := (n3 u' hu.1 hu.2 h1).2
        cases this
  · rw [if_neg (by omega)]
    refine ⟨_, _, rfl, fun hy => (by cases hy), fun u' v' hu hv e => ?_⟩
    have h := congrArg List.length (comp u' v' hu hv e)
    rw [List.length_map] at h
    exact absurd h h2
def rel2 : List ByteArray → List (List Int) → Prop
  | [], [] => True
  | p :: P, x :: X => (x.length = 2 ∧ (0 ≤ rd x 0 → 0 ≤ rd x 1 → p.data.toList = rowB x)) ∧ rel2 P X
  | _, _ => False
theorem rel2_map : ∀ (P : List ByteArray) (X : List (List Int)), rel2 P X → (∀ x ∈ X, 0 ≤ rd x 0 ∧ 0 ≤ rd x 1) → P.map (·.data.toList) = X.map rowB
  | [], [], _, _ => rfl
  | [], _ :: _, h, _ => by cases h
  | _ :: _, [], h, _ => by cases h
  | p :: P, x :: X, h, hx => by
    have h0 := hx x (by simp)
    rw [List.map_cons, List.map_cons, rel2_map P X h.2 (fun z hz => hx z (by simp [hz])), h.1.2 h0.1 h0.2]
theorem good_rows {n : ByteArray} {f p : Int} {L : List (List Int)} (hg : GoodT n f p L) : ∀ x ∈ L, x.length = 2 ∧ (0 ≤ rd x 0 ∧ rd x 0 ≤ 1000000000000) ∧ (0 ≤ rd x 1 ∧ rd x 1 ≤ 1000000000000) := by
  intro x hx2
  obtain ⟨_, _, ⟨_, _, _, _, hx⟩, _, _⟩ := hg
  obtain ⟨i, hi, rfl⟩ := List.mem_iff_getElem.1 hx2
  obtain ⟨l2, ⟨a0, a1⟩, ⟨b0, b1⟩, _⟩ := hx i hi
  unfold lv0 at a0 a1
  unfold lv1 at b0 b1
  rw [getD_lt hi] at a0 a1 b0 b1 l2
  exact ⟨l2, ⟨a0, Int.le_trans a1 (by decide)⟩, ⟨b0, Int.le_trans b1 (by decide)⟩⟩
theorem rdo_nat (P : List ByteArray) (i : Nat) (h : i < P.length) : rdOf ByteArray.empty P (i : Int) = P[i] := by
  unfold rdOf
  rw [Int.toNat_natCast]
  exact getD_lt h
theorem spec_rows (P : List ByteArray) (hP : ∀ x ∈ P, x.size ≤ 1048576) (hl : P.length ≤ 1048577) (n : ByteArray) (hn : n.size ≤ 1048576) (f p : Int) : ∀ (d i : Nat) (A : List (List Int)) (k : Nat), i + d = P.length → A.length ≤ i → 2000000 + d < k →
    ∃ r : RT, spec_ReadTariff.l0 k P (i : Int) n f p A = some r ∧ (r = noT ∨ ∃ X, r = (n, f, p, A ++ X, true) ∧ rel2 (P.drop i) X ∧ GoodT n f p (A ++ X)) ∧
      ∀ X, (P.drop i).map (·.data.toList) = X.map rowB → GoodT n f p (A ++ X) → r = (n, f, p, A ++ X, true) := by
  intro d
  induction d with
  | zero =>
    intro i A k hi hA hk
    obtain ⟨k, rfl⟩ := suc_of (show 0 < k by omega)
    have e : P.drop i = [] := List.drop_of_length_le (by omega)
    rw [spec_ReadTariff.l0.eq_def]
    simp only
    rw [if_neg (by omega), e]
    rcases good_cases n f p A hn with hg | ⟨h1, h2⟩
    · rw [hg.1 k (by omega), Option.bind_some, if_pos rfl]
      refine ⟨_, rfl, Or.inr ⟨[], by rw [List.append_nil], trivial, by rw [List.append_nil]; exact hg⟩, fun X hX _ => ?_⟩
      have : X = [] := by
        match X, hX with
        | [], _ => rfl
      rw [this, List.append_nil]
    · rw [h1 k (by omega), Option.bind_some, if_neg Bool.false_ne_true]
      refine ⟨_, rfl, Or.inl rfl, fun X hX hg => ?_⟩
      have : X = [] := by
        match X, hX with
        | [], _ => rfl
      rw [this, List.append_nil] at hg
      have := (h1 2000000 (Nat.le_refl _)).symm.trans (hg.1 2000000 (Nat.le_refl _))
      cases this
  | succ d ih =>
    intro i A k hi hA hk
    obtain ⟨k, rfl⟩ := suc_of (show 0 < k by omega)
    have hil : i < P.length := by omega
    have ed : P.drop i = P[i] :: P.drop (i + 1) := List.drop_eq_getElem_cons hil
    obtain ⟨X, b, p1, p2, p3⟩ := spec_pair 58 (by decide) P[i] (hP _ (List.getElem_mem _)) k (by omega)
    have p1 : spec_l21Pair.f k P[i] 58 = some (X, b) := p1
    rw [spec_ReadTariff.l0.eq_def]
    simp only
    rw [if_pos (by omega), if_pos (by omega), rdo_nat P i hil, p1, Option.bind_some]
    simp only
    cases b with
    | false =>
      rw [if_neg Bool.false_ne_true]
      refine ⟨_, rfl, Or.inl rfl, fun Y hY hg => ?_⟩
      rw [ed] at hY
      match Y, hY with
      | y :: Y, hY =>
        rw [List.map_cons, List.map_cons] at hY
        have hr := good_rows hg y (by simp)
        have := (p3 _ _ hr.2.1 hr.2.2 (List.cons.inj hY).1).2
        cases this
    | true =>
      obtain ⟨u, v, rfl, huv⟩ := p2 rfl
      rw [if_pos rfl, if_pos (by omega), next_nat (n := 1048577) (by omega) (by omega)]
      obtain ⟨r, r1, r2, r3⟩ := ih (i + 1) (A ++ [[u, v]]) k (by omega) (by simp; omega) (by omega)
      refine ⟨r, r1, ?_, fun Y hY hg => ?_⟩
      · rcases r2 with r2 | ⟨Y, y1, y2, y3⟩
        · exact Or.inl r2
        · rw [List.append_assoc] at y1 y3
          refine Or.inr ⟨[u, v] :: Y, y1, ?_, y3⟩
          rw [ed]
          exact ⟨⟨rfl, huv⟩, y2⟩
      · rw [ed] at hY
        match Y, hY with
        | y :: Y, hY =>
          rw [List.map_cons, List.map_cons] at hY
          have hr := good_rows hg y (by simp)
          have e1 := (p3 _ _ hr.2.1 hr.2.2 (List.cons.inj hY).1).1
          have e2 : y = [u, v] := (two_of hr.1).trans e1.symm
          subst e2
          have := r3 Y (List.cons.inj hY).2 (by rw [List.append_assoc]; exact hg)
          rw [List.append_assoc] at this
          exact this
theorem spec_read (s : ByteArray) (hs : s.size ≤ 1048576) (k : Nat) (hk : 4000000 ≤ k) : ∃ r : RT, spec_ReadTariff.f k s = some r ∧ (r = noT ∨ ∃ n f p L, r = (n, f, p, L, true) ∧ GoodT n f p L ∧ textT n f p L = s.data.toList) ∧
    ∀ n f p L, GoodT n f p L → textT n f p L = s.data.toList → r = (n, f, p, L, true) := by
  have hT : s.data.toList.length = s.size := Array.length_toList ..
  obtain ⟨P, p1, p2⟩ := spec_split 32 s hs k (by omega)
  have p1 : spec_l01Split.f k s 32 = some P := p1
  have hj := join_spl 32 s.data.toList
  have hle := spl_le 32 s.data.toList
  have hlen := spl_len 32 s.data.toList
  have hcl := List.count_le_length (a := (32 : UInt8)) (l := s.data.toList)
  rw [← p2] at hj hle hlen
  rw [List.length_map] at hlen
  have hP : ∀ x ∈ P, x.size ≤ 1048576 := fun x hx => by
    have h := hle x.data.toList (List.mem_map.2 ⟨x, hx, rfl⟩)
    have hx2 : x.data.toList.length = x.size := Array.length_toList ..
    omega
  have comp : ∀ n f p L, GoodT n f p L → textT n f p L = s.data.toList → P.map (·.data.toList) = n.data.toList :: (Lib.itoa f ++ 43 :: Lib.itoa p) :: L.map rowB := by
    intro n f p L hg e
    rw [p2, ← e, text_spl n f p L hg]
  unfold spec_ReadTariff.f
  rw [p1, Option.bind_some]
  by_cases h3 : P.length < 3
  · rw [if_pos (by omega)]
    refine ⟨_, rfl, Or.inl rfl, fun n f p L hg e => ?_⟩
    have h := congrArg List.length (comp n f p L hg e)
    have := hg.2.2.1.2.2.1
    simp only [List.length_map, List.length_cons] at h
    omega
  · match P, h3, hj, hle, hlen, hP, comp, p2 with
    | [_], h3, _, _, _, _, _, _ => exact absurd (show 1 < 3 by decide) h3
    | a :: w :: R, h3, hj, hle, hlen, hP, comp, p2 =>
      have h3 : 1 ≤ R.length := by simp only [List.length_cons] at h3; omega
      have e0 : rdOf ByteArray.empty (a :: w :: R) 0 = a := rfl
      have e1 : rdOf ByteArray.empty (a :: w :: R) 1 = w := rfl
      have e2 : ((a :: w :: R).length : Int) = (R.length : Int) + 2 := by simp only [List.length_cons]; omega
      rw [e0, e1, e2, if_neg (by omega), if_pos (by omega)]
      obtain ⟨X, b, q1, q2, q3⟩ := spec_pair 43 (by decide) w (hP w (by simp)) k (by omega)
      have q1 : spec_l21Pair.f k w 43 = some (X, b) := q1
      rw [q1, Option.bind_some]
      simp only
      cases b with
      | false =>
        rw [if_neg Bool.false_ne_true]
        refine ⟨_, rfl, Or.inl rfl, fun n f p L hg e => ?_⟩
        have h := comp n f p L hg e
        rw [List.map_cons, List.map_cons] at h
        have hok := hg.2.2.1
        have := (q3 f p ⟨hok.1.1, by have := hok.1.2; omega⟩ ⟨hok.2.1.1, by have := hok.2.1.2; omega⟩ (List.cons.inj (List.cons.inj h).2).1).2
        cases this
      | true =>
        obtain ⟨f, p, rfl, hfp⟩ := q2 rfl
        have g0 : rd [f, p] 0 = f := rfl
        have g1 : rd [f, p] 1 = p := rfl
        have g2 : (([f, p] : List Int).length : Int) = 2 := rfl
        rw [if_pos rfl, if_pos (by omega), g2, if_pos (by decide), if_pos (by decide), g0, g1]
        obtain ⟨r, r1, r2, r3⟩ := spec_rows (a :: w :: R) hP (by omega) a (hP a (by simp)) f p R.length 2 [] k (by simp only [List.length_cons]; omega) (Nat.zero_le _) (by simp only [List.length_cons] at hlen; omega)
        refine ⟨r, r1, ?_, fun n' f' p' L hg e => ?_⟩
        · rcases r2 with r2 | ⟨L, y1, y2, y3⟩
          · exact Or.inl r2
          · rw [List.nil_append] at y1 y3
            refine Or.inr ⟨a, f, p, L, y1, y3, ?_⟩
            have hok := y3.2.2.1
            have hm := rel2_map _ _ y2 (fun x hx => ⟨(good_rows y3 x hx).2.1.1, (good_rows y3 x hx).2.2.1⟩)
            rw [← text_join, ← hj, List.map_cons, List.map_cons, hfp hok.1.1 hok.2.1.1, ← hm]
            rfl
        · have h := comp n' f' p' L hg e
          rw [List.map_cons, List.map_cons] at h
          obtain ⟨h1, hB⟩ := List.cons.inj h
          obtain ⟨h2, hC⟩ := List.cons.inj hB
          have hok := hg.2.2.1
          have e3 := (q3 f' p' ⟨hok.1.1, by have := hok.1.2; omega⟩ ⟨hok.2.1.1, by have := hok.2.1.2; omega⟩ h2).1
          obtain ⟨e4, e5⟩ := List.cons.inj e3
          obtain ⟨e5, _⟩ := List.cons.inj e5
          have e6 : a = n' := ba_ext h1
          subst e4
          subst e5
          subst e6
          exact r3 L hC (by rw [List.nil_append]; exact hg)
theorem impl_rows (s : ByteArray) (hs0 : 0 < s.size) (one two : Bool) (P : List ByteArray) (hP : ∀ x ∈ P, x.size ≤ 1048576) (hl : P.length ≤ 9) (n : ByteArray) (hn : n.size ≤ 1048576) (f p : Int) : ∀ (d i : Nat) (A : List (List Int)) (k : Nat), i + d = P.length → A.length ≤ i → 2000000 + d < k →
    ∃ r : RT, impl_ReadTariff.l0 k s one two P (P.length : Int) (i : Int) n f p A = some r ∧ (r = noT ∨ ∃ L, r = (n, f, p, L, true) ∧ GoodT n f p L ∧ textT n f p L = s.data.toList) ∧
      ∀ X, (P.drop i).map (·.data.toList) = X.map rowB → GoodT n f p (A ++ X) → one = true → two = true → textT n f p (A ++ X) = s.data.toList → r = (n, f, p, A ++ X, true) := by
  have hT : s.data.toList.length = s.size := Array.length_toList ..
  intro d
  induction d with
  | zero =>
    intro i A k hi hA hk
    obtain ⟨k, rfl⟩ := suc_of (show 0 < k by omega)
    have e : P.drop i = [] := List.drop_of_length_le (by omega)
    rw [impl_ReadTariff.l0.eq_def]
    simp only
    rw [if_neg (by omega), e]
    cases one with
    | false =>
      rw [if_neg Bool.false_ne_true]
      exact ⟨_, rfl, Or.inl rfl, fun X _ _ h => (by cases h)⟩
    | true =>
      cases two with
      | false =>
        rw [if_pos rfl, if_neg Bool.false_ne_true]
        exact ⟨_, rfl, Or.inl rfl, fun X _ _ _ h => (by cases h)⟩
      | true =>
        obtain ⟨T, t1, t2⟩ := text_cases n f p A hn
        rw [if_pos rfl, if_pos rfl, t1 k (by omega), Option.bind_some, tl, tl]
        have nilX : ∀ X : List (List Int), ([] : List ByteArray).map (·.data.toList) = X.map rowB → X = [] := fun X hX => by
          match X, hX with
          | [], _ => rfl
        rcases t2 with ⟨hg, ht⟩ | ⟨hg, ht⟩
        · rw [ht]
          by_cases q : textT n f p A = s.data.toList
          · rw [if_pos q]
            refine ⟨_, rfl, Or.inr ⟨A, rfl, hg, q⟩, fun X hX _ _ _ _ => ?_⟩
            rw [nilX X hX, List.append_nil]
          · rw [if_neg q]
            refine ⟨_, rfl, Or.inl rfl, fun X hX _ _ _ q2 => ?_⟩
            rw [nilX X hX, List.append_nil] at q2
            exact absurd q2 q
        · rw [ht, if_neg (fun q => by rw [← q] at hT; simp at hT; omega)]
          refine ⟨_, rfl, Or.inl rfl, fun X hX hg2 _ _ _ => ?_⟩
          rw [nilX X hX, List.append_nil] at hg2
          exact absurd hg2 hg
  | succ d ih =>
    intro i A k hi hA hk
    obtain ⟨k, rfl⟩ := suc_of (show 0 < k by omega)
    have hil : i < P.length := by omega
    have ed : P.drop i = P[i] :: P.drop (i + 1) := List.drop_eq_getElem_cons hil
    have hPi := hP P[i] (List.getElem_mem _)
    obtain ⟨a, b, g, c1, c2, c3, c4⟩ := imp_cut 58 P[i] hPi
    obtain ⟨u, x, n1⟩ := readdec_total a (by omega)
    obtain ⟨v, y, m1⟩ := readdec_total b (by omega)
    rw [impl_ReadTariff.l0.eq_def]
    simp only
    rw [if_pos (by omega), if_pos (by omega), if_pos (by omega), rdo_nat P i hil, c1, Option.bind_some]
    simp only
    rw [n1, Option.bind_some, m1, Option.bind_some]
    simp only
    have comp : ∀ z : List Int, z.length = 2 ∧ (0 ≤ rd z 0 ∧ rd z 0 ≤ 1000000000000) ∧ (0 ≤ rd z 1 ∧ rd z 1 ≤ 1000000000000) → P[i].data.toList = rowB z → [u, v] = z ∧ x = true ∧ y = true := by
      intro z hz e
      obtain ⟨d1, d2⟩ := c4 (Lib.itoa (rd z 0)) (Lib.itoa (rd z 1)) (itoa_no 58 (by decide) _ hz.2.1.1 hz.2.1.2) e
      have e1 := readdec_itoa a (by omega) (rd z 0) hz.2.1.1 hz.2.1.2 d1
      have e2 := readdec_itoa b (by omega) (rd z 1) hz.2.2.1 hz.2.2.2 d2
      rw [n1] at e1
      rw [m1] at e2
      obtain ⟨e1, e3⟩ := Prod.mk.inj (Option.some.inj e1)
      obtain ⟨e2, e4⟩ := Prod.mk.inj (Option.some.inj e2)
      exact ⟨by rw [two_of hz.1, e1, e2], e3, e4⟩
    have bad : x = false ∨ y = false → ∃ r : RT, (some ((⟨#[]⟩ : ByteArray), (0 : Int), (0 : Int), ([] : List (List Int)), false) : Option RT) = some r ∧ (r = noT ∨ ∃ L, r = (n, f, p, L, true) ∧ GoodT n f p L ∧ textT n f p L = s.data.toList) ∧
      ∀ X, (P.drop i).map (·.data.toList) = X.map rowB → GoodT n f p (A ++ X) → one = true → two = true → textT n f p (A ++ X) = s.data.toList → r = (n, f, p, A ++ X, true) := by
      intro hxy
      refine ⟨_, rfl, Or.inl rfl, fun Y hY hg _ _ _ => ?_⟩
      rw [ed] at hY
      match Y, hY with
      | z :: Y, hY =>
        rw [List.map_cons, List.map_cons] at hY
        obtain ⟨_, h1, h2⟩ := comp z (good_rows hg z (by simp)) (List.cons.inj hY).1
        rcases hxy with h | h
        · rw [h] at h1; cases h1
        · rw [h] at h2; cases h2
    cases x with
    | false => rw [if_neg Bool.false_ne_true]; exact bad (Or.inl rfl)
    | true =>
      rw [if_pos rfl]
      cases y with
      | false => rw [if_neg Bool.false_ne_true]; exact bad (Or.inr rfl)
      | true =>
        rw [if_pos rfl, if_pos (by omega), next_nat (n := 9) (by omega) (by omega)]
        obtain ⟨r, r1, r2, r3⟩ := ih (i + 1) (A ++ [[u, v]]) k (by omega) (by simp; omega) (by omega)
        refine ⟨r, r1, r2, fun Y hY hg h1 h2 ht => ?_⟩
        rw [ed] at hY
        match Y, hY with
        | z :: Y, hY =>
          rw [List.map_cons, List.map_cons] at hY
          obtain ⟨e2, _⟩ := comp z (good_rows hg z (by simp)) (List.cons.inj hY).1
          subst e2
          have := r3 Y (List.cons.inj hY).2 (by rw [List.append_assoc]; exact hg) h1 h2 (by rw [List.append_assoc]; exact ht)
          rw [List.append_assoc] at this
          exact this
theorem impl_read (s : ByteArray) (hs : s.size ≤ 1048576) (k : Nat) (hk : 4000000 ≤ k) : ∃ r : RT, impl_ReadTariff.f k s = some r ∧ (r = noT ∨ ∃ n f p L, r = (n, f, p, L, true) ∧ GoodT n f p L ∧ textT n f p L = s.data.toList) ∧
    ∀ n f p L, GoodT n f p L → textT n f p L = s.data.toList → r = (n, f, p, L, true) := by
  have hT : s.data.toList.length = s.size := Array.length_toList ..
  obtain ⟨P, p1, _, p9, pz, pl, p2⟩ := imp_splitn s hs
  have comp : ∀ n f p L, GoodT n f p L → textT n f p L = s.data.toList → P.map (·.data.toList) = n.data.toList :: (Lib.itoa f ++ 43 :: Lib.itoa p) :: L.map rowB := by
    intro n f p L hg e
    have hL := hg.2.2.1.2.2.2.1
    have h := text_spl n f p L hg
    rw [e] at h
    rw [p2 (by rw [h]; simp only [List.length_cons, List.length_map]; omega), h]
  unfold impl_ReadTariff.f
  rw [p1, Option.bind_some]
  by_cases h3 : P.length < 2
  · rw [if_pos (by omega)]
    refine ⟨_, rfl, Or.inl rfl, fun n f p L hg e => ?_⟩
    have h := congrArg List.length (comp n f p L hg e)
    simp only [List.length_map, List.length_cons] at h
    omega
  · match P, h3, p9, pz, pl, comp with
    | [_], h3, _, _, _, _ => exact absurd (show 1 < 2 by decide) h3
    | a :: w :: R, h3, p9, pz, pl, comp =>
      have e0 : rdOf ByteArray.empty (a :: w :: R) 0 = a := rfl
      have e1 : rdOf ByteArray.empty (a :: w :: R) 1 = w := rfl
      have e2 : ((a :: w :: R).length : Int) = (R.length : Int) + 2 := by simp only [List.length_cons]; omega
      have e3 : (a :: w :: R).drop 2 = R := rfl
      simp only [List.length_cons] at p9 pz
      have pa := pl a (by simp)
      have pw := pl w (by simp)
      obtain ⟨x, y, g, c1, c2, c3, c4⟩ := imp_cut 43 w (by omega)
      obtain ⟨f, one, n1⟩ := readdec_total x (by omega)
      obtain ⟨p, two, m1⟩ := readdec_total y (by omega)
      rw [e0, e1, e2, e3, if_neg (by omega), if_pos (by omega), c1, Option.bind_some]
      simp only
      rw [n1, Option.bind_some, m1, Option.bind_some, if_pos (by omega), if_pos (by omega), Option.bind_some]
      simp only
      obtain ⟨r, r1, r2, r3⟩ := impl_rows s (by omega) one two R (fun z hz => by have := pl z (by simp [hz]); omega) (by omega) a (by omega) f p R.length 0 [] k (by omega) (Nat.zero_le _) (by omega)
      refine ⟨r, r1, ?_, fun n' f' p' L hg e => ?_⟩
      · rcases r2 with r2 | ⟨L, y1, y2, y3⟩
        · exact Or.inl r2
        · exact Or.inr ⟨a, f, p, L, y1, y2, y3⟩
      · have h := comp n' f' p' L hg e
        rw [List.map_cons, List.map_cons] at h
        obtain ⟨h1, hB⟩ := List.cons.inj h
        obtain ⟨h2, hC⟩ := List.cons.inj hB
        have hok := hg.2.2.1
        have hf : 0 ≤ f' ∧ f' ≤ 1000000000000 := ⟨hok.1.1, by have := hok.1.2; omega⟩
        have hp : 0 ≤ p' ∧ p' ≤ 1000000000000 := ⟨hok.2.1.1, by have := hok.2.1.2; omega⟩
        obtain ⟨d1, d2⟩ := c4 _ _ (itoa_no 43 (by decide) f' hf.1 hf.2) h2
        have k1 := readdec_itoa x (by omega) f' hf.1 hf.2 d1
        have k2 := readdec_itoa y (by omega) p' hp.1 hp.2 d2
        rw [n1] at k1
        rw [m1] at k2
        obtain ⟨k1, k3⟩ := Prod.mk.inj (Option.some.inj k1)
        obtain ⟨k2, k4⟩ := Prod.mk.inj (Option.some.inj k2)
        have e6 : a = n' := ba_ext h1
        subst k1
        subst k2
        subst e6
        exact r3 L (by rw [List.drop_zero]; exact hC) (by rw [List.nil_append]; exact hg) k3 k4 (by rw [List.nil_append]; exact e)
theorem read_both (s : ByteArray) (hs : s.size ≤ 1048576) : ∃ (n : ByteArray) (f p : Int) (L : List (List Int)) (b : Bool), (∀ k, 4000000 ≤ k → spec_ReadTariff.f k s = some (n, f, p, L, b)) ∧ (∀ k, 4000000 ≤ k → impl_ReadTariff.f k s = some (n, f, p, L, b)) ∧ L.length ≤ 6 ∧ (∀ x ∈ L, x.length = 2) ∧ (b = true → GoodT n f p L ∧ textT n f p L = s.data.toList) ∧ ∀ n' f' p' L', GoodT n' f' p' L' → textT n' f' p' L' = s.data.toList → (n, f, p, L, b) = (n', f', p', L', true) := by
  obtain ⟨r, r1, r2, r3⟩ := spec_read s hs 4000000 (Nat.le_refl _)
  obtain ⟨q, q1, q2, q3⟩ := impl_read s hs 4000000 (Nat.le_refl _)
  have e : q = r := by
    rcases r2 with r2 | ⟨n, f, p, L, rfl, hg, ht⟩
    · rcases q2 with q2 | ⟨n, f, p, L, rfl, hg, ht⟩
      · rw [r2, q2]
      · exact (r3 n f p L hg ht).symm
    · exact q3 n f p L hg ht
  subst e
  obtain ⟨n, f, p, L, b⟩ := q
  refine ⟨n, f, p, L, b, up (spec_ReadTariff.mono s) r1, up (impl_ReadTariff.mono s) q1, ?_, ?_, fun hb => ?_, r3⟩
  all_goals rcases r2 with r2 | ⟨n', f', p', L', e, hg, ht⟩
  · unfold noT at r2
    simp only [Prod.mk.injEq] at r2
    rw [r2.2.2.2.1]; simp
  · simp only [Prod.mk.injEq] at e
    rw [e.2.2.2.1]; exact hg.2.2.1.2.2.2.1
  · unfold noT at r2
    simp only [Prod.mk.injEq] at r2
    rw [r2.2.2.2.1]; simp
  · simp only [Prod.mk.injEq] at e
    rw [e.2.2.2.1]; exact fun x hx => (good_rows hg x hx).1
  · unfold noT at r2
    simp only [Prod.mk.injEq] at r2
    rw [r2.2.2.2.2] at hb
    cases hb
  · simp only [Prod.mk.injEq] at e
    obtain ⟨rfl, rfl, rfl, rfl, _⟩ := e
    exact ⟨hg, ht⟩

theorem eqI_l0 (l : List Int) (hl : l.length ≤ 35184372088832) : ∀ (d j k : Nat), j + d = l.length → d < k → laws_eqInt64S.l0 k l l (j : Int) = some true := by
  intro d
  induction d with
  | zero =>
    intro j k hj hk
    obtain ⟨k, rfl⟩ := suc_of hk
    simp only [laws_eqInt64S.l0]
    rw [if_neg (by omega)]
  | succ d ih =>
    intro j k hj hk
    obtain ⟨k, rfl⟩ := suc_of hk
    simp only [laws_eqInt64S.l0]
    rw [if_pos (by omega), if_pos (by omega), if_pos (by omega), if_pos trivial, next_nat (n := l.length) (by omega) (by omega)]
    exact ih (j + 1) k (by omega) (by omega)
theorem eqI (l : List Int) (hl : l.length ≤ 35184372088832) (k : Nat) (hk : l.length < k) : laws_eqInt64S.f k l l = some true := by
  unfold laws_eqInt64S.f
  rw [if_pos rfl]
  exact eqI_l0 l hl l.length 0 k (by omega) hk

theorem eqII_l0 (l : List (List Int)) (hl : l.length ≤ 1048576) (hi : ∀ x ∈ l, x.length ≤ 1048576) : ∀ (d j k : Nat), j + d = l.length → d + 1048577 < k → laws_eqInt64SS.l0 k l l (j : Int) = some true := by
  intro d
  induction d with
  | zero =>
    intro j k hj hk
    obtain ⟨k, rfl⟩ := suc_of hk
    simp only [laws_eqInt64SS.l0]
    rw [if_neg (by omega)]
  | succ d ih =>
    intro j k hj hk
    obtain ⟨k, rfl⟩ := suc_of hk
    have hx := hi (l.getD j []) (by rw [getD_lt (by omega)]; exact List.getElem_mem _)
    simp only [laws_eqInt64SS.l0]
    rw [if_pos (by omega), if_pos (by omega), if_pos (by omega), rdll_nat, eqI _ (by omega) k (by omega)]
    simp only [Option.bind_some, if_true]
    rw [next_nat (n := l.length) (by omega) (by omega)]
    exact ih (j + 1) k (by omega) (by omega)
theorem eqII (l : List (List Int)) (hl : l.length ≤ 1048576) (hi : ∀ x ∈ l, x.length ≤ 1048576) (k : Nat) (hk : 2097154 < k) : laws_eqInt64SS.f k l l = some true := by
  unfold laws_eqInt64SS.f
  rw [if_pos rfl]
  exact eqII_l0 l hl hi l.length 0 k (by omega) (by omega)
theorem eqTariff (s : ByteArray) (f p : Int) (l : List (List Int)) (hl : l.length ≤ 1048576) (hi : ∀ x ∈ l, x.length ≤ 1048576) (k : Nat) (hk : 2097154 < k) : laws_eqTariff.f k s f p l s f p l = some true := by
  unfold laws_eqTariff.f
  rw [if_pos rfl, if_pos rfl, if_pos rfl, eqII l hl hi k hk]; rfl

theorem markc_l0 (c0 : Int) (hc0 : 0 ≤ c0) (hc1 : c0 ≤ 1000000000000000) : ∀ (d j k : Nat) (m : List Int) (c : Int), j + d = m.length → m.length ≤ 35184372088832 → d < k → c = c0 + (j : Int) → (∀ i, i < j → m[i]? = some (c0 + (i : Int))) →
    ∃ m', laws_markInt64S.l0 k m c (j : Int) = some (c0 + (m.length : Int), m') ∧ m'.length = m.length ∧ ∀ i, i < m'.length → m'[i]? = some (c0 + (i : Int)) := by
  intro d
  induction d with
  | zero =>
    intro j k m c hj hl hk hc hp
    obtain ⟨k, rfl⟩ := suc_of hk
    simp only [laws_markInt64S.l0]
    rw [if_neg (by omega)]
    exact ⟨m, by rw [hc]; congr 2; omega, rfl, fun i hi => hp i (by omega)⟩
  | succ d ih =>
    intro j k m c hj hl hk hc hp
    obtain ⟨k, rfl⟩ := suc_of hk
    simp only [laws_markInt64S.l0]
    rw [if_pos (by omega), if_pos (by omega), next_nat (n := m.length) (by omega) (by omega), wrap_id (x := c + 1) (by omega) (by omega), Int.toNat_natCast]
    obtain ⟨m', h1, h2, h3⟩ := ih (j + 1) k (m.set j c) (c + 1) (by simp; omega) (by simpa using hl) (by omega) (by omega) (fun i hi => by
      rw [List.getElem?_set]
      by_cases e : j = i
      · subst e; rw [if_pos rfl, if_pos (by omega), hc]
      · rw [if_neg e]; exact hp i (by omega))
    exact ⟨m', by rw [h1]; simp, by simpa using h2, h3⟩
theorem heldc_l0 (c0 : Int) (hc0 : 0 ≤ c0) (hc1 : c0 ≤ 1000000000000000) (m : List Int) (hl : m.length ≤ 35184372088832) (hm : ∀ i, i < m.length → m[i]? = some (c0 + (i : Int))) : ∀ (d j k : Nat) (c : Int), j + d = m.length → d < k → c = c0 + (j : Int) → laws_heldInt64S.l0 k m c (j : Int) = some (c0 + (m.length : Int)) := by
  intro d
  induction d with
  | zero =>
    intro j k c hj hk hc
    obtain ⟨k, rfl⟩ := suc_of hk
    simp only [laws_heldInt64S.l0]
    rw [if_neg (by omega)]
    congr 1; omega
  | succ d ih =>
    intro j k c hj hk hc
    obtain ⟨k, rfl⟩ := suc_of hk
    simp only [laws_heldInt64S.l0]
    have e : rd m (j : Int) = c := by
      rw [rd_nat, List.getD_eq_getElem?_getD, hm j (by omega), hc]; rfl
    rw [if_pos (by omega), if_pos (by omega), if_pos e, next_nat (n := m.length) (by omega) (by omega), wrap_id (x := c + 1) (by omega) (by omega)]
    exact ih (j + 1) k (c + 1) (by omega) (by omega) (by omega)
theorem markc_held (l : List Int) (c0 : Int) (hc0 : 0 ≤ c0) (hc1 : c0 ≤ 1000000000000000) (hl : l.length ≤ 35184372088832) (k : Nat) (hk : l.length < k) : ∃ m', laws_markInt64S.f k l c0 = some (c0 + (l.length : Int), m') ∧ m'.length = l.length ∧ (∀ k', l.length < k' → laws_heldInt64S.f k' m' c0 = some (c0 + (l.length : Int))) := by
  obtain ⟨m', h1, h2, h3⟩ := markc_l0 c0 hc0 hc1 l.length 0 k l c0 (by omega) hl hk (by omega) (fun i hi => absurd hi (by omega))
  refine ⟨m', h1, h2, fun k' hk' => ?_⟩
  have := heldc_l0 c0 hc0 hc1 m' (by omega) h3 m'.length 0 k' c0 (by omega) (by omega) (by omega)
  rw [h2] at this
  exact this

theorem set_at {α : Type} {l : List α} {j i : Nat} {x d : α} (hj : j < l.length) : (l.set j x).getD i d = if i = j then x else l.getD i d := by
  rw [List.getD_eq_getElem?_getD, List.getD_eq_getElem?_getD, List.getElem?_set]
  by_cases h : j = i
  · subst h; rw [if_pos rfl, if_pos hj, if_pos rfl]; rfl
  · rw [if_neg h, if_neg (fun e => h e.symm)]
theorem marks2_l0 : ∀ (d j k : Nat) (l : List (List Int)) (c : Int), j + d = l.length → l.length ≤ 1048576 → (∀ x ∈ l, x.length ≤ 1048576) → 1048577 + d < k → 0 ≤ c → c ≤ 1 + (j : Int) * 1048576 →
    ∃ t l', laws_markInt64SS.l0 k l c (j : Int) = some (t, l') ∧ 0 ≤ t ∧ l'.length = l.length ∧ (∀ i, i < j → l'.getD i [] = l.getD i []) ∧ ∀ k', 1048577 + d < k' → laws_heldInt64SS.l0 k' l' c (j : Int) = some t := by
  intro d
  induction d with
  | zero =>
    intro j k l c hj hl hi hk h0 h1
    obtain ⟨k, rfl⟩ := suc_of (show 0 < k by omega)
    simp only [laws_markInt64SS.l0]
    rw [if_neg (by omega)]
    refine ⟨c, l, rfl, h0, rfl, fun _ _ => rfl, fun k' hk' => ?_⟩
    obtain ⟨k', rfl⟩ := suc_of (show 0 < k' by omega)
    simp only [laws_heldInt64SS.l0]
    rw [if_neg (by omega)]
  | succ d ih =>
    intro j k l c hj hl hi hk h0 h1
    obtain ⟨k, rfl⟩ := suc_of (show 0 < k by omega)
    have hx : (l.getD j []).length ≤ 1048576 := by
      rw [List.getD_eq_getElem?_getD, List.getElem?_eq_getElem (by omega)]
      exact hi _ (List.getElem_mem _)
    obtain ⟨m', m1, m2, m3⟩ := markc_held (l.getD j []) c h0 (by omega) (by omega) k (by omega)
    obtain ⟨t, l', a1, a2, a3, a4, a5⟩ := ih (j + 1) k (l.set j m') (c + ((l.getD j []).length : Int)) (by simp; omega) (by simpa using hl) (fun x hx2 => by
      rcases List.mem_or_eq_of_mem_set hx2 with h | h
      · exact hi x h
      · rw [h]; omega) (by omega) (by omega) (by omega)
    refine ⟨t, l', ?_, a2, by rw [a3, List.length_set], fun i hij => ?_, fun k' hk' => ?_⟩
    · simp only [laws_markInt64SS.l0]
      rw [if_pos (by omega), if_pos (by omega), Int.toNat_natCast, m1]
      simp only [Option.bind_some]
      rw [next_nat (n := l.length) (by omega) (by omega)]
      exact a1
    · rw [a4 i (by omega), set_at (by omega), if_neg (by omega)]
    · obtain ⟨k', rfl⟩ := suc_of (show 0 < k' by omega)
      have e : l'.getD j [] = m' := by rw [a4 j (by omega), set_at (by omega), if_pos rfl]
      have hl' : l'.length = l.length := by rw [a3, List.length_set]
      simp only [laws_heldInt64SS.l0]
      rw [if_pos (by omega), if_pos (by omega), rdll_nat, e, m3 k' (by omega), Option.bind_some, if_neg (by omega), next_nat (n := l.length) (by omega) (by omega)]
      exact a5 k' (by omega)
theorem marks2 (s : ByteArray) (f p : Int) (l : List (List Int)) (hl : l.length ≤ 1048576) (hi : ∀ x ∈ l, x.length ≤ 1048576) (k : Nat) (hk : 2097154 < k) : ∃ t l', laws_markTariff.f k s f p l 1 = some (t, l') ∧ 0 ≤ t ∧ ∀ k', 2097154 < k' → laws_heldTariff.f k' s f p l' 1 = some t := by
  obtain ⟨t, l', h1, h2, _, _, h5⟩ := marks2_l0 l.length 0 k l 1 (by omega) hl hi (by omega) (by omega) (by omega)
  refine ⟨t, l', h1, h2, fun k' hk' => ?_⟩
  unfold laws_heldTariff.f laws_heldInt64SS.f
  have e := h5 k' (by omega)
  rw [show ((0 : Nat) : Int) = 0 from rfl] at e
  rw [e, Option.bind_some, if_neg (by omega)]

theorem FnExactReadTariff : laws_FnExactReadTariff.Pure := by
  intro s _
  obtain ⟨m, hm⟩ : ∃ m, m = 5000000 := ⟨_, rfl⟩
  refine ⟨m + 3, ?_⟩
  unfold laws_FnExactReadTariff.f
  by_cases hs : (s.size : Int) > 1048576
  · rw [if_pos hs]
  rw [if_neg hs]
  obtain ⟨n, f, p, R, e, w1, i1, b2, b3, _, _⟩ := read_both s (by omega)
  have er : (e != e) = false := by simp
  have eR : ∀ k, 2097154 < k → laws_eqTariff.f k n f p R n f p R = some true := fun k hk => eqTariff n f p R (by omega) (fun x hx => by rw [b3 x hx]; omega) k hk
  rw [w1 _ (by omega), Option.bind_some]
  simp only
  rw [i1 _ (by omega), Option.bind_some]
  simp only
  rw [eR _ (by omega), Option.bind_some, if_pos rfl, er]
  rw [laws_FnExactReadTariff.j0.eq_def]
  simp only
  obtain ⟨t2, l2, g1, g2, g3⟩ := marks2 n f p R (by omega) (fun x hx => by rw [b3 x hx]; omega) (m + 2) (by omega)
  rw [if_neg Bool.false_ne_true, g1, Option.bind_some]
  simp only
  rw [g3 _ (by omega), Option.bind_some, if_neg (by omega), if_pos rfl, i1 _ (by omega), Option.bind_some]
  simp only
  rw [eR _ (by omega), Option.bind_some, if_pos rfl, er]
  rw [laws_FnExactReadTariff.j1.eq_def]
  simp only
  rw [if_neg Bool.false_ne_true, g3 _ (by omega), Option.bind_some, if_neg (by omega), if_pos rfl]

end Go.Proofs.YtabojdhgbpdcmaaDoor.Pure
