/- ReadValve of the program returns what the reference's returns, for every text. No condition. -/
import Derived.Test.YtdlpkndopfocpaaDoorPFnExactReadValvex3
namespace Go.Proofs.YtdlpkndopfocpaaDoor.Pure
open Go.RowKit Go.Proofs.YtdlpkndopfocpaaDoor.PFnExactReadValve Go.Proofs.YtdlpkndopfocpaaDoorW.PrintWords Go.Proofs.YtdlpkndopfocpaaDoorW.PrintLast Go.Proofs.YtdlpkndopfocpaaDoorW.PrintMore
set_option linter.unusedVariables false
set_option linter.unusedSimpArgs false

theorem wrap_id {x : Int} (h1 : -9223372036854775808 ≤ x) (h2 : x ≤ 9223372036854775807) : wrap64 x = x := by unfold wrap64; omega
theorem wf_i64 {x : Int} (h : (Lit.int .i64 x).wf = true) : -9223372036854775808 ≤ x ∧ x ≤ 9223372036854775807 := by
  simp [Lit.wf, IntKind.min, IntKind.max, IntKind.bits, IntKind.signed] at h; omega
theorem mul_bounds {a b A B : Int} (h0 : 0 ≤ a) (hA : a ≤ A) (h1 : -B ≤ b) (h2 : b ≤ B) (hB : 0 ≤ B) : -(A * B) ≤ a * b ∧ a * b ≤ A * B := by
  have e1 := Int.mul_le_mul_of_nonneg_left h2 h0
  have e2 := Int.mul_le_mul_of_nonneg_right hA hB
  have e3 := Int.mul_le_mul_of_nonneg_left h1 h0
  have e4 : a * -B = -(a * B) := Int.mul_neg a B
  omega
theorem mul_nonneg' {a b : Int} (h0 : 0 ≤ a) (h1 : 0 ≤ b) : 0 ≤ a * b := Int.mul_nonneg h0 h1
theorem next_nat {j n : Nat} (h : j < n) (hn : n ≤ 4611686018427387904) : wrap64 ((j : Int) + 1) = ((j + 1 : Nat) : Int) := by
  rw [wrap_id (by omega) (by omega)]; omega
theorem rd_nat (l : List Int) (j : Nat) : rd l (j : Int) = l.getD j 0 := by unfold rd; simp
theorem ifp {α : Type} {c : Prop} [Decidable c] {a b : α} (h : c) : (if c then a else b) = a := if_pos h
theorem ifn {α : Type} {c : Prop} [Decidable c] {a b : α} (h : ¬ c) : (if c then a else b) = b := if_neg h
theorem suc_of {k d : Nat} (h : d < k) : ∃ m, k = m + 1 := ⟨k - 1, by omega⟩
theorem getD_lt {α : Type} {l : List α} {j : Nat} {d : α} (h : j < l.length) : l.getD j d = l[j] := by
  rw [List.getD_eq_getElem?_getD, List.getElem?_eq_getElem h]; rfl
theorem drop_cons {α : Type} (l : List α) {j : Nat} (h : j < l.length) (d : α) : l.drop j = l.getD j d :: l.drop (j + 1) := by
  rw [getD_lt h]; exact List.drop_eq_getElem_cons h
theorem up {α : Type} {g : Nat → Option α} (hm : ∀ k, LeO (g k) (g (k + 1))) {k0 : Nat} {r : α} (h : g k0 = some r) : ∀ k, k0 ≤ k → g k = some r := by
  intro k hk
  induction hk with
  | refl => exact h
  | step _ ih => exact hm _ _ ih

/-! Pieces between bytes of one kind. -/
def spl (c : UInt8) : List UInt8 → List (List UInt8)
  | [] => [[]]
  | b :: l => if b = c then [] :: spl c l else match spl c l with
    | [] => [[b]]
    | h :: t => (b :: h) :: t
theorem spl_hit (c : UInt8) (l : List UInt8) : spl c (c :: l) = [] :: spl c l := by rw [spl, if_pos rfl]
theorem spl_cons {c b : UInt8} (h : b ≠ c) {l x : List UInt8} {t : List (List UInt8)} (hx : spl c l = x :: t) : spl c (b :: l) = (b :: x) :: t := by rw [spl, if_neg h, hx]
theorem spl_some (c : UInt8) : ∀ l, ∃ x t, spl c l = x :: t
  | [] => ⟨[], [], rfl⟩
  | b :: l => by
    by_cases h : b = c
    · subst h; exact ⟨_, _, spl_hit _ _⟩
    · obtain ⟨x, t, e⟩ := spl_some c l
      exact ⟨_, _, spl_cons h e⟩
theorem splitK_one (c : UInt8) : ∀ s : List UInt8, Lib.splitK [c] 0 (s.count c) s = spl c s
  | [] => rfl
  | b :: l => by
    have ih := splitK_one c l
    by_cases h : b = c
    · subst h
      rw [List.count_cons_self, spl_hit, ← ih]
      have e : Lib.index (b :: l) [b] = 0 := by rw [Lib.index_one, Lib.indexByte, if_pos (by simp)]
      rw [Lib.splitK, e, if_neg (by decide)]
      rfl
    · rw [List.count_cons_of_ne h]
      by_cases k0 : l.count c = 0
      · rw [k0] at ih ⊢
        have e : spl c l = [l] := ih.symm
        rw [spl_cons h e]; rfl
      · obtain ⟨k, hk⟩ : ∃ k, l.count c = k + 1 := ⟨l.count c - 1, by omega⟩
        rw [hk] at ih ⊢
        have hi : 0 ≤ Lib.indexByte l c := by
          have := Lib.indexByte_ge l c
          rcases Int.lt_or_le (Lib.indexByte l c) 0 with q | q
          · have e : Lib.indexByte l c = -1 := by omega
            have hn := Lib.indexByte_none e
            exfalso; apply k0
            rw [List.count_eq_zero]
            intro hm
            obtain ⟨i, h1, h2⟩ := List.mem_iff_getElem.1 hm
            exact hn i (by rw [List.getElem?_eq_getElem h1, h2])
          · exact q
        obtain ⟨n, hn⟩ : ∃ n : Nat, Lib.indexByte l c = (n : Int) := ⟨(Lib.indexByte l c).toNat, by omega⟩
        have e1 : Lib.index l [c] = (n : Int) := by rw [Lib.index_one, hn]
        have e2 : Lib.index (b :: l) [c] = ((n + 1 : Nat) : Int) := by
          rw [Lib.index_one, Lib.indexByte, if_neg (by simpa using h), hn, if_neg (by simp)]; rfl
        have m1 : ¬ (((n : Int) == -1) = true) := by simp
        have m2 : ¬ ((((n + 1 : Nat) : Int) == -1) = true) := by
          intro q; have := beq_iff_eq.1 q; omega
        rw [Lib.splitK, e1, if_neg m1, Int.toNat_natCast] at ih
        rw [Lib.splitK, e2, if_neg m2, Int.toNat_natCast, spl_cons h ih.symm]
        rfl
def joinc (c : UInt8) : List (List UInt8) → List UInt8
  | [] => []
  | [x] => x
  | x :: y :: t => x ++ c :: joinc c (y :: t)
theorem joinc_cons (c b : UInt8) (x : List UInt8) : ∀ t, joinc c ((b :: x) :: t) = b :: joinc c (x :: t)
  | [] => rfl
  | _ :: _ => rfl
theorem join_spl (c : UInt8) : ∀ s, joinc c (spl c s) = s
  | [] => rfl
  | b :: l => by
    have ih := join_spl c l
    obtain ⟨x, t, e⟩ := spl_some c l
    rw [e] at ih
    by_cases h : b = c
    · subst h
      rw [spl_hit, e]
      show [] ++ b :: joinc b (x :: t) = _
      rw [ih]; rfl
    · rw [spl_cons h e, joinc_cons, ih]

theorem name_same (s : ByteArray) : ∀ (k : Nat) (i : Int), spec_l01Name.l0 k s i = impl_onlyNameBytes.l0 k s (s.size : Int) i := by
  intro k
  induction k with
  | zero => intro i; simp only [spec_l01Name.l0, impl_onlyNameBytes.l0]
  | succ k ih =>
    intro i
    simp only [spec_l01Name.l0, impl_onlyNameBytes.l0]
    unfold spec_l01Small.f spec_l01Digit.f
    rw [ih]
    generalize impl_onlyNameBytes.l0 k s (s.size : Int) (wrap64 (i + 1)) = e
    generalize bt s i = b
    by_cases h1 : i < (s.size : Int)
    · rw [if_pos h1, if_pos h1, if_pos h1]
      by_cases h2 : 0 ≤ i
      · rw [if_pos h2, if_pos h2]
        by_cases c1 : b < 97
        · rw [if_pos c1, if_neg (by omega)]
          by_cases c2 : b < 48
          · rw [if_pos c2, if_neg (by omega)]; simp
          · rw [if_neg c2, if_pos (by omega)]
            by_cases c3 : b > 57
            · rw [if_pos c3, decide_eq_false (by omega)]; simp
            · rw [if_neg c3, decide_eq_true (by omega)]; simp
        · rw [if_neg c1, if_pos (by omega)]
          by_cases c4 : b > 122
          · rw [if_pos c4, decide_eq_false (by omega), if_pos (by omega), if_neg (by omega), decide_eq_false (by omega), if_pos (by omega)]; simp
          · rw [if_neg c4, decide_eq_true (by omega)]; simp
      · rw [if_neg h2, if_neg h2]
    · rw [if_neg h1, if_neg h1]
theorem name_total (s : ByteArray) (hs : s.size ≤ 35184372088832) : ∀ (d j k : Nat), j + d = s.size → d < k → ∃ r, impl_onlyNameBytes.l0 k s (s.size : Int) (j : Int) = some r := by
  intro d
  induction d with
  | zero =>
    intro j k hj hk
    obtain ⟨k, rfl⟩ := suc_of hk
    simp only [impl_onlyNameBytes.l0]
    rw [if_neg (by omega)]; exact ⟨_, rfl⟩
  | succ d ih =>
    intro j k hj hk
    obtain ⟨k, rfl⟩ := suc_of hk
    obtain ⟨r, hr⟩ := ih (j + 1) k (by omega) (by omega)
    simp only [impl_onlyNameBytes.l0]
    rw [if_pos (by omega), if_pos (by omega), if_pos (by omega), next_nat (n := s.size) (by omega) (by omega), hr]
    split
    · split
      · exact ⟨_, rfl⟩
      · split
        · exact ⟨_, rfl⟩
        · exact ⟨_, rfl⟩
    · split
      · split
        · exact ⟨_, rfl⟩
        · split
          · exact ⟨_, rfl⟩
          · exact ⟨_, rfl⟩
      · exact ⟨_, rfl⟩
/-- A name is one for both. -/
theorem name_both (s : ByteArray) (hs : s.size ≤ 35184372088832) : ∃ b : Bool, (∀ k, s.size + 3 ≤ k → spec_l01Name.f k s = some b) ∧ (∀ k, s.size + 3 ≤ k → impl_IsName.f k s = some b) ∧ (b = true → 1 ≤ s.size ∧ s.size ≤ 10) := by
  obtain ⟨r, hr⟩ := name_total s hs s.size 0 (s.size + 2) (by omega) (by omega)
  have hr3 : impl_onlyNameBytes.l0 (s.size + 3) s (s.size : Int) 0 = some r := impl_onlyNameBytes.mono_l (s.size + 2) s (s.size : Int) 0 r hr
  have hr2 : impl_onlyNameBytes.l0 (s.size + 2) s (s.size : Int) 0 = some r := hr
  have key : ∃ b : Bool, spec_l01Name.f (s.size + 3) s = some b ∧ impl_IsName.f (s.size + 3) s = some b ∧ (b = true → 1 ≤ s.size ∧ s.size ≤ 10) := by
    have bad : spec_l01Name.j0 (s.size + 3) s true = some false := by simp only [spec_l01Name.j0]; simp
    unfold spec_l01Name.f impl_IsName.f impl_onlyNameBytes.f
    by_cases h0 : s.size = 0
    · have e : s.toList = [] := by
        rw [ByteArray.toList_eq]; exact List.eq_nil_of_length_eq_zero (by rw [Array.length_toList]; exact h0)
      rw [if_pos e, if_pos (by omega), bad]; exact ⟨_, rfl, rfl, by simp⟩
    · have e : ¬ s.toList = [] := by
        rw [ByteArray.toList_eq]
        intro h
        have : s.data.toList.length = 0 := by rw [h]; rfl
        rw [Array.length_toList] at this
        exact h0 this
      rw [if_neg e, if_neg (show ¬ (s.size : Int) < 1 by omega)]
      by_cases h1 : (s.size : Int) > 10
      · rw [if_pos h1, if_pos h1, bad]; exact ⟨_, rfl, rfl, by simp⟩
      · rw [if_neg h1, if_neg h1, if_pos (by omega), if_pos (by omega)]
        unfold spec_l01Small.f
        by_cases c1 : bt s 0 < 97
        · rw [if_pos c1, if_neg (by omega)]
          simp only [Option.bind_some, Bool.not_false]
          exact ⟨_, bad, rfl, by simp⟩
        · rw [if_neg c1, if_pos (by omega)]
          by_cases c2 : bt s 0 > 122
          · rw [if_pos c2, decide_eq_false (by omega)]
            simp only [Option.bind_some, Bool.not_false]
            exact ⟨_, bad, rfl, by simp⟩
          · rw [if_neg c2, decide_eq_true (by omega), hr3]
            simp only [Option.bind_some, Bool.not_true]
            refine ⟨r, ?_, rfl, fun _ => by omega⟩
            simp only [spec_l01Name.j0]
            rw [if_neg Bool.false_ne_true, name_same]
            exact hr2
  obtain ⟨b, h1, h2, h3⟩ := key
  exact ⟨b, up (spec_l01Name.mono s) h1, up (impl_IsName.mono s) h2, h3⟩

theorem tl (s : ByteArray) : s.toList = s.data.toList := ByteArray.toList_eq ..
theorem bt_T (s : ByteArray) (i : Nat) (h : i < s.data.toList.length) : bt s (i : Int) = ((s.data.toList[i]).toNat : Int) := by
  have hs : i < s.size := by rw [Array.length_toList] at h; exact h
  unfold bt
  rw [dif_pos (by simpa using hs)]
  simp only [Int.toNat_natCast, Array.getElem_toList]
  rfl
theorem spl_pre (c : UInt8) : ∀ (U V x : List UInt8) (t : List (List UInt8)), (∀ b ∈ U, b ≠ c) → spl c V = x :: t → spl c (U ++ V) = (U ++ x) :: t := by
  intro U
  induction U with
  | nil => intro V x t _ h; exact h
  | cons b U ih =>
    intro V x t hU h
    exact spl_cons (hU b (by simp)) (ih V x t (fun z hz => hU z (by simp [hz])) h)
theorem ex_data (s : ByteArray) (a b : Nat) : (s.extract a b).data.toList = (s.data.toList.drop a).take (b - a) := by
  rw [Lib.extract_data]
theorem spec_spl (s : ByteArray) (hs : s.size ≤ 1048576) : ∀ (d i f : Nat) (A : List ByteArray) (k : Nat), i + d = s.data.toList.length → f ≤ i → (∀ b ∈ (s.data.toList.drop f).take (i - f), b ≠ 32) → A.length ≤ i → d < k →
    ∃ Q, spec_l01Split.l0 k s 32 A (f : Int) (i : Int) = some (A ++ Q) ∧ Q.map (·.data.toList) = spl 32 (s.data.toList.drop f) := by
  have hT : s.data.toList.length = s.size := Array.length_toList ..
  intro d
  induction d with
  | zero =>
    intro i f A k hi hf hU hA hk
    obtain ⟨k, rfl⟩ := suc_of hk
    refine ⟨[s.extract f s.size], ?_, ?_⟩
    · simp only [spec_l01Split.l0]
      rw [if_neg (by omega), if_pos (by omega), if_pos (by omega), if_pos (by omega), Int.toNat_natCast]
    · have e : (s.data.toList.drop f).take (i - f) = s.data.toList.drop f := List.take_of_length_le (by rw [List.length_drop]; omega)
      rw [e] at hU
      have h := spl_pre 32 (s.data.toList.drop f) [] [] [] hU rfl
      rw [List.append_nil] at h
      rw [h, List.map_cons, List.map_nil, ex_data, ← hT, List.take_of_length_le (by rw [List.length_drop]; omega)]
  | succ d ih =>
    intro i f A k hi hf hU hA hk
    obtain ⟨k, rfl⟩ := suc_of (show 0 < k by omega)
    have hil : i < s.data.toList.length := by omega
    have hsplit : s.data.toList.drop f = (s.data.toList.drop f).take (i - f) ++ s.data.toList[i] :: s.data.toList.drop (i + 1) := by
      have h1 := (List.take_append_drop (i - f) (s.data.toList.drop f)).symm
      rw [List.drop_drop, show f + (i - f) = i by omega, List.drop_eq_getElem_cons hil] at h1
      exact h1
    simp only [spec_l01Split.l0]
    rw [if_pos (by omega), if_pos (by omega), bt_T s i hil]
    by_cases c : s.data.toList[i] = 32
    · rw [if_pos (by rw [c]; rfl), if_pos (by omega), if_pos (by omega), if_pos (by omega), if_pos (by omega), next_nat (n := s.size) (by omega) (by omega), Int.toNat_natCast, Int.toNat_natCast]
      obtain ⟨Q, q1, q2⟩ := ih (i + 1) (i + 1) (A ++ [s.extract f i]) k (by omega) (Nat.le_refl _) (by simp) (by simp; omega) (by omega)
      refine ⟨s.extract f i :: Q, by rw [q1, List.append_assoc]; rfl, ?_⟩
      have h := spl_pre 32 ((s.data.toList.drop f).take (i - f)) (32 :: s.data.toList.drop (i + 1)) [] (spl 32 (s.data.toList.drop (i + 1))) hU (spl_hit _ _)
      rw [List.append_nil] at h
      rw [hsplit, c, h, List.map_cons, q2, ex_data]
    · rw [if_neg (fun e => c (UInt8.toNat_inj.mp (by have : ((s.data.toList[i]).toNat : Int) = 32 := e; show _ = 32; omega))), next_nat (n := s.size) (by omega) (by omega)]
      refine ih (i + 1) f A k (by omega) (by omega) (fun b hb => ?_) (by omega) (by omega)
      have e : (s.data.toList.drop f).take (i + 1 - f) = (s.data.toList.drop f).take (i - f) ++ [s.data.toList[i]] := by
        rw [show i + 1 - f = (i - f) + 1 by omega, List.take_add_one, List.getElem?_drop, show f + (i - f) = i by omega, List.getElem?_eq_getElem hil]
        rfl
      rw [e, List.mem_append, List.mem_singleton] at hb
      rcases hb with hb | hb
      · exact hU b hb
      · rw [hb]; exact c
theorem ba_ext {x y : ByteArray} (h : x.data.toList = y.data.toList) : x = y := by
  cases x with | mk a =>
  cases y with | mk b =>
  have : a = b := Array.toList_inj.mp h
  rw [this]
theorem maps_eq : ∀ {P Q : List ByteArray}, P.map (·.data.toList) = Q.map (·.data.toList) → P = Q
  | [], [], _ => rfl
  | [], _ :: _, h => by simp at h
  | _ :: _, [], h => by simp at h
  | p :: P, q :: Q, h => by
    simp only [List.map_cons, List.cons.injEq] at h
    rw [ba_ext h.1, maps_eq h.2]
theorem split_both (s : ByteArray) (hs : s.size ≤ 1048576) : ∃ P, P.map (·.data.toList) = spl 32 s.data.toList ∧ strings_Split.f s ⟨#[32]⟩ = some P ∧ ∀ k, 1048577 < k → spec_l01Split.f k s 32 = some P := by
  have hT : s.data.toList.length = s.size := Array.length_toList ..
  have h1 : (Lib.splitB ⟨#[32]⟩ 0 (Lib.countB s ⟨#[32]⟩) s).map (·.data.toList) = spl 32 s.data.toList := by
    rw [Lib.splitB_data, show Lib.countB s ⟨#[32]⟩ = s.data.toList.count 32 from Lib.count_one _ _]
    exact splitK_one 32 s.data.toList
  refine ⟨_, h1, ?_, fun k hk => ?_⟩
  · unfold strings_Split.f
    rw [if_pos ⟨by rw [tl], by omega⟩]
  · obtain ⟨Q, q1, q2⟩ := spec_spl s hs s.data.toList.length 0 0 [] k (by omega) (Nat.le_refl _) (by simp) (by simp) (by omega)
    rw [List.drop_zero] at q2
    have e := maps_eq (h1.trans q2.symm)
    rw [e]
    unfold spec_l01Split.f
    rw [List.nil_append] at q1
    exact q1
abbrev RV := ByteArray × ByteArray × Bool × Bool
def noV : RV := (⟨#[]⟩, ⟨#[]⟩, false, false)
theorem app_T (a b : ByteArray) : (a ++ b).data.toList = a.data.toList ++ b.data.toList := by
  rw [ByteArray.data_append, Array.toList_append]
theorem read_both (s : ByteArray) (hs : s.size ≤ 1048576) (k : Nat) (hk : 3000000 ≤ k) : ∃ r : RV, spec_ReadValve.f k s = some r ∧ impl_ReadValve.f k s = some r := by
  have hT : s.data.toList.length = s.size := Array.length_toList ..
  obtain ⟨P, p1, p2, p3⟩ := split_both s hs
  have p3 := p3 k (by omega)
  have hj := join_spl 32 s.data.toList
  rw [← p1] at hj
  unfold spec_ReadValve.f spec_l18Read.f impl_ReadValve.f
  rw [p2, p3, Option.bind_some, Option.bind_some]
  match P, hj with
  | [a, b, c], hj =>
    have hj : a.data.toList ++ 32 :: (b.data.toList ++ 32 :: c.data.toList) = s.data.toList := hj
    have hlen := congrArg List.length hj
    simp only [List.length_append, List.length_cons] at hlen
    have za : a.data.toList.length = a.size := Array.length_toList ..
    have zb : b.data.toList.length = b.size := Array.length_toList ..
    have zc : c.data.toList.length = c.size := Array.length_toList ..
    obtain ⟨x, x1, x2, _⟩ := name_both a (by omega)
    obtain ⟨y, y1, y2, _⟩ := name_both b (by omega)
    have e0 : rdOf ByteArray.empty [a, b, c] 0 = a := rfl
    have e1 : rdOf ByteArray.empty [a, b, c] 1 = b := rfl
    have e2 : rdOf ByteArray.empty [a, b, c] 2 = c := rfl
    have l3 : (([a, b, c] : List ByteArray).length : Int) = 3 := rfl
    obtain ⟨k, rfl⟩ := suc_of (show 0 < k by omega)
    have bad : ∀ q, impl_ValveText.j0 (k + 1) true a b q = some ⟨#[]⟩ := fun q => by simp only [impl_ValveText.j0]; rfl
    have ne : ¬ (⟨#[]⟩ : ByteArray).toList = s.toList := by
      rw [tl, tl, ← hj]
      intro e
      have := congrArg List.length e
      simp at this
    have t0 : ((3 : Int) = 3) = True := eq_true rfl
    have t1 : ((0 : Int) < 3) = True := eq_true (by omega)
    have t2 : ((1 : Int) < 3) = True := eq_true (by omega)
    have t3 : ((2 : Int) < 3) = True := eq_true (by omega)
    simp only [e0, e1, e2, l3, t0, t1, t2, t3, if_true]
    rw [x1 (k + 1) (by omega), Option.bind_some]
    unfold impl_ValveText.f
    rw [x2 (k + 1) (by omega), Option.bind_some]
    cases x with
    | false =>
      rw [if_neg Bool.false_ne_true, if_neg Bool.false_ne_true, bad, Option.bind_some, Option.bind_some, if_neg ne]
      exact ⟨noV, rfl, rfl⟩
    | true =>
      rw [if_pos rfl, if_pos rfl, y1 (k + 1) (by omega), y2 (k + 1) (by omega), Option.bind_some, Option.bind_some]
      cases y with
      | false =>
        rw [if_neg Bool.false_ne_true, Bool.not_false, bad, Option.bind_some, Option.bind_some, if_neg ne]
        exact ⟨noV, rfl, rfl⟩
      | true =>
        rw [if_pos rfl, Bool.not_true]
        have w1 : (⟨#[32]⟩ : ByteArray).size = 1 := rfl
        have w2 : (⟨#[32, 116, 111]⟩ : ByteArray).size = 3 := rfl
        have d1 : (⟨#[32]⟩ : ByteArray).data.toList = [32] := rfl
        have d2 : (⟨#[32, 116, 111]⟩ : ByteArray).data.toList = [32, 116, 111] := rfl
        have d3 : (⟨#[32, 102, 114, 111, 109]⟩ : ByteArray).data.toList = [32, 102, 114, 111, 109] := rfl
        simp only [impl_ValveText.j0]
        rw [if_neg Bool.false_ne_true]
        by_cases ct : c.toList = [116, 111]
        · have eb : (c.toList == ([116, 111] : List UInt8)) = true := beq_iff_eq.mpr ct
          rw [if_pos ct, eb, if_pos rfl, if_pos (by omega), if_pos (by simp only [ByteArray.size_append, w1]; omega), if_pos (by simp only [ByteArray.size_append, w1]; omega), Option.bind_some, Option.bind_some, if_pos (by
            rw [tl] at ct
            rw [tl, tl, ← hj, app_T, app_T, app_T, d1, d2, ct]
            simp)]
          exact ⟨(a, b, true, true), rfl, rfl⟩
        · have eb : (c.toList == ([116, 111] : List UInt8)) = false := Bool.eq_false_iff.mpr (fun e => ct (beq_iff_eq.mp e))
          by_cases cf : c.toList = [102, 114, 111, 109]
          · rw [if_neg ct, if_pos cf, eb, if_neg Bool.false_ne_true, if_pos (by omega), if_pos (by simp only [ByteArray.size_append, w1]; omega), if_pos (by simp only [ByteArray.size_append, w1]; omega), Option.bind_some, Option.bind_some, if_pos (by
              rw [tl] at cf
              rw [tl, tl, ← hj, app_T, app_T, app_T, d1, d3, cf]
              simp)]
            exact ⟨(a, b, false, true), rfl, rfl⟩
          · rw [if_neg ct, if_neg cf, eb, if_neg Bool.false_ne_true, if_pos (by omega), if_pos (by simp only [ByteArray.size_append, w1]; omega), if_pos (by simp only [ByteArray.size_append, w1]; omega), Option.bind_some, Option.bind_some, if_neg (fun e => cf (by
              rw [tl, tl, ← hj, app_T, app_T, app_T, d1, d3] at e
              rw [tl]
              simp at e
              exact e.symm))]
            exact ⟨noV, rfl, rfl⟩
  | [], _ => exact ⟨noV, rfl, rfl⟩
  | [_], _ => exact ⟨noV, rfl, rfl⟩
  | [_, _], _ => exact ⟨noV, rfl, rfl⟩
  | _ :: _ :: _ :: _ :: t, _ =>
    rw [if_neg (by simp only [List.length_cons]; omega), if_neg (by simp only [List.length_cons]; omega)]
    exact ⟨noV, rfl, rfl⟩
theorem FnExactReadValve : laws_FnExactReadValve.Pure := by
  intro s hs
  refine ⟨3000000, ?_⟩
  obtain ⟨k, hk⟩ : ∃ k, k = 3000000 := ⟨_, rfl⟩
  rw [← hk]
  unfold laws_FnExactReadValve.f
  by_cases c : (s.size : Int) > 1048576
  · rw [if_pos c]
  · rw [if_neg c]
    obtain ⟨⟨a, b, q, z⟩, r1, r2⟩ := read_both s (by omega) k (by omega)
    rw [r1, Option.bind_some, r2, Option.bind_some]
    have eq : (q != q) = false := by simp
    have ez : (z != z) = false := by simp
    have ev : laws_eqValve.f a b q a b q = some true := by
      unfold laws_eqValve.f
      rw [if_pos rfl, if_pos rfl, eq, if_neg Bool.false_ne_true]
    simp only
    rw [ev, Option.bind_some, if_pos rfl, ez, if_neg Bool.false_ne_true]

end Go.Proofs.YtdlpkndopfocpaaDoor.Pure
