/- A leak that makes a noise lies between its places, places that all allow are allowed by each, and a test without change falls by nothing. No condition. -/
import Derived.Test.YtkacnmgcgakioaaPFnPlacesx5
namespace Go.Proofs.Ytkacnmgcgakioaa.Pure
open Go.RowKit Go.Proofs.Ytkacnmgcgakioaa.PFnPlaces Go.Proofs.YtkacnmgcgakioaaW.PrintWords Go.Proofs.YtkacnmgcgakioaaW.PrintLast Go.Proofs.YtkacnmgcgakioaaW.PrintMore
set_option linter.unusedVariables false
set_option linter.unusedSimpArgs false

theorem wrap_id {x : Int} (h1 : -9223372036854775808 ≤ x) (h2 : x ≤ 9223372036854775807) : wrap64 x = x := by unfold wrap64; omega
theorem wf_i64 {x : Int} (h : (Lit.int .i64 x).wf = true) : -9223372036854775808 ≤ x ∧ x ≤ 9223372036854775807 := by
  simp [Lit.wf, IntKind.min, IntKind.max, IntKind.bits, IntKind.signed] at h; omega
theorem mul_bounds {a b A B : Int} (h0 : 0 ≤ a) (hA : a ≤ A) (h1 : -B ≤ b) (h2 : b ≤ B) (hB : 0 ≤ B) : -(A * B) ≤ a * b ∧ a * b ≤ A * B := by
  have e1 := Int.mul_le_mul_of_nonneg_left h2 h0
  have e2 := Int.mul_le_mul_of_nonneg_right hA hB
  have e3 := Int.mul_le_mul_of_nonneg_left h1 h0
  have e4 : a * -B = -(a * B) := Int.mul_neg a B
  omega
theorem mul_nonneg' {a b : Int} (h0 : 0 ≤ a) (h1 : 0 ≤ b) : 0 ≤ a * b := Int.mul_nonneg h0 h1
theorem next_nat {j n : Nat} (h : j < n) (hn : n ≤ 4611686018427387904) : wrap64 ((j : Int) + 1) = ((j + 1 : Nat) : Int) := by
  rw [wrap_id (by omega) (by omega)]; omega
theorem rd_nat (l : List Int) (j : Nat) : rd l (j : Int) = l.getD j 0 := by unfold rd; simp
theorem ifp {α : Type} {c : Prop} [Decidable c] {a b : α} (h : c) : (if c then a else b) = a := if_pos h
theorem ifn {α : Type} {c : Prop} [Decidable c] {a b : α} (h : ¬ c) : (if c then a else b) = b := if_neg h
theorem suc_of {k d : Nat} (h : d < k) : ∃ m, k = m + 1 := ⟨k - 1, by omega⟩
theorem getD_lt {α : Type} {l : List α} {j : Nat} {d : α} (h : j < l.length) : l.getD j d = l[j] := by
  rw [List.getD_eq_getElem?_getD, List.getElem?_eq_getElem h]; rfl
theorem drop_cons {α : Type} (l : List α) {j : Nat} (h : j < l.length) (d : α) : l.drop j = l.getD j d :: l.drop (j + 1) := by
  rw [getD_lt h]; exact List.drop_eq_getElem_cons h
theorem up {α : Type} {g : Nat → Option α} (hm : ∀ k, LeO (g k) (g (k + 1))) {k0 : Nat} {r : α} (h : g k0 = some r) : ∀ k, k0 ≤ k → g k = some r := by
  intro k hk
  induction hk with
  | refl => exact h
  | step _ ih => exact hm _ _ ih

def rdiv (a b : Int) : Int := if a < 0 then -((b - 2 * a) / (2 * b)) else (2 * a + b) / (2 * b)
theorem rdiv_pos_eq {q r b : Int} (hb : 0 < b) (h0 : 0 ≤ r) (h1 : r < b) : (2 * (b * q + r) + b) / (2 * b) = if r ≥ b - r then q + 1 else q := by
  have e : 2 * (b * q + r) + b = (2 * r + b) + (2 * b) * q := by rw [Int.mul_add, ← Int.mul_assoc]; omega
  rw [e, Int.add_mul_ediv_left _ _ (by omega : (2 * b : Int) ≠ 0)]
  split
  · have : (2 * r + b) / (2 * b) = 1 := by
      have e2 : 2 * r + b = (2 * r - b) + (2 * b) * 1 := by omega
      rw [e2, Int.add_mul_ediv_left _ _ (by omega : (2 * b : Int) ≠ 0), Int.ediv_eq_zero_of_lt (by omega) (by omega)]; rfl
    omega
  · have : (2 * r + b) / (2 * b) = 0 := Int.ediv_eq_zero_of_lt (by omega) (by omega)
    omega
theorem abs_def {a : Int} (h : -9223372036854775807 ≤ a) (h2 : a ≤ 9223372036854775807) : impl_abs.f a = some (if a < 0 then -a else a) := by
  unfold impl_abs.f mx
  rw [wrap_id (by omega) (by omega)]
  split <;> split <;> first | rfl | (simp; omega)
theorem impl_div {a b : Int} (hb : 0 < b) (hb2 : b ≤ 2305843009213693951) (ha : -2305843009213693951 ≤ a) (ha2 : a ≤ 2305843009213693951) : impl_divRound.f a b = some (rdiv a b) := by
  unfold impl_divRound.f
  rw [if_neg (by omega)]
  by_cases h : a < 0
  · have hq0 : a.tdiv b = -((-a) / b) := by rw [← Int.tdiv_eq_ediv_of_nonneg (by omega), Int.neg_tdiv, Int.neg_neg]
    have hr0 : a.tmod b = -((-a) % b) := by rw [← Int.tmod_eq_emod_of_nonneg (by omega), Int.neg_tmod, Int.neg_neg]
    have hr1 := Int.emod_nonneg (-a) (show b ≠ 0 by omega)
    have hr2 := Int.emod_lt_of_pos (-a) hb
    have hd := Int.mul_ediv_add_emod (-a) b
    have hq1 : 0 ≤ (-a) / b := Int.ediv_nonneg (by omega) (by omega)
    have hq2 : (-a) / b ≤ -a := Int.ediv_le_self _ (by omega)
    rw [hq0, hr0]
    generalize (-a) / b = q at *
    generalize (-a) % b = r at *
    rw [abs_def (by omega) (by omega), abs_def (by omega) (by omega)]
    simp only [Option.bind_some]
    have e1 : (if -r < 0 then - -r else -r) = r := by split <;> omega
    have e2 : (if b < 0 then -b else b) = b := by rw [if_neg (by omega)]
    rw [e1, e2, wrap_id (x := b - r) (by omega) (by omega)]
    have hk : rdiv a b = -(if r ≥ b - r then q + 1 else q) := by
      unfold rdiv
      rw [if_pos h, ← rdiv_pos_eq (q := q) hb hr1 hr2, hd]
      congr 2; omega
    rw [hk]
    have w1 : wrap64 (-q) = -q := wrap_id (by omega) (by omega)
    rw [w1]
    by_cases hc : r ≥ b - r
    · rw [if_pos hc, if_pos hc, if_neg (by simp; omega), wrap_id (by omega) (by omega)]
      congr 1; omega
    · rw [if_neg hc, if_neg hc]
  · have hq0 : a.tdiv b = a / b := Int.tdiv_eq_ediv_of_nonneg (by omega)
    have hr0 : a.tmod b = a % b := Int.tmod_eq_emod_of_nonneg (by omega)
    have hr1 := Int.emod_nonneg a (show b ≠ 0 by omega)
    have hr2 := Int.emod_lt_of_pos a hb
    have hd := Int.mul_ediv_add_emod a b
    have hq1 : 0 ≤ a / b := Int.ediv_nonneg (by omega) (by omega)
    have hq2 : a / b ≤ a := Int.ediv_le_self _ (by omega)
    rw [hq0, hr0]
    generalize a / b = q at *
    generalize a % b = r at *
    rw [abs_def (by omega) (by omega), abs_def (by omega) (by omega)]
    simp only [Option.bind_some]
    have e1 : (if r < 0 then - r else r) = r := by rw [if_neg (by omega)]
    have e2 : (if b < 0 then -b else b) = b := by rw [if_neg (by omega)]
    rw [e1, e2, wrap_id (x := b - r) (by omega) (by omega)]
    have hk : rdiv a b = (if r ≥ b - r then q + 1 else q) := by
      unfold rdiv
      rw [if_neg h, ← rdiv_pos_eq (q := q) hb hr1 hr2, hd]
    rw [hk]
    have w1 : wrap64 q = q := wrap_id (by omega) (by omega)
    rw [w1]
    by_cases hc : r ≥ b - r
    · rw [if_pos hc, if_pos hc, if_pos (by simp; omega), wrap_id (by omega) (by omega)]
    · rw [if_neg hc, if_neg hc]
theorem rdiv_nonneg {a b : Int} (ha : 0 ≤ a) (hb : 0 < b) : 0 ≤ rdiv a b := by
  unfold rdiv; rw [if_neg (by omega)]; exact Int.ediv_nonneg (by omega) (by omega)
theorem rdiv_le {a b : Int} (ha : 0 ≤ a) (hb : 0 < b) : rdiv a b ≤ 2 * a + b := by
  unfold rdiv; rw [if_neg (by omega)]; exact Int.ediv_le_self _ (by omega)

theorem impl_in (n lo hi : Int) : impl_within.f n lo hi = some (decide (lo ≤ n ∧ n ≤ hi)) := by unfold impl_within.f; split <;> simp <;> omega

theorem rdll_nat (l : List (List Int)) (j : Nat) : rd_L2 l (j : Int) = l.getD j [] := by unfold rd_L2; simp
theorem wf_u8 {x : Int} (h : (Lit.int .u8 x).wf = true) : 0 ≤ x ∧ x ≤ 255 := by
  simp [Lit.wf, IntKind.min, IntKind.max, IntKind.bits, IntKind.signed] at h; omega
def bytes (l : List Int) : Prop := ∀ x ∈ l, (Lit.int .u8 x).wf = true
theorem byte_at {l : List Int} (h : bytes l) {i : Nat} (hi : i < l.length) : 0 ≤ l.getD i 0 ∧ l.getD i 0 ≤ 255 := by
  rw [getD_lt hi]; exact wf_u8 (h _ (List.getElem_mem hi))
theorem r8At_def (l : List Int) (h : bytes l) (i m : Int) (hi : 0 ≤ i) (hm : 1 < m) : ∃ v, (∀ k, laws_r8At.f (k + 1) l i m = some v) ∧ 0 ≤ v ∧ v < m := by
  by_cases hl : i ≥ (l.length : Int)
  · refine ⟨0, fun k => ?_, by omega, by omega⟩
    unfold laws_r8At.f
    rw [if_neg (by omega), decide_eq_true hl]
    simp only [laws_r8At.j0]; simp
  · obtain ⟨n, rfl⟩ : ∃ n : Nat, i = n := ⟨i.toNat, by omega⟩
    have hb := byte_at h (show n < l.length by omega)
    have e : Int.tmod (l.getD n 0) m = l.getD n 0 % m := Int.tmod_eq_emod_of_nonneg hb.1
    have e1 := Int.emod_nonneg (l.getD n 0) (show m ≠ 0 by omega)
    have e2 := Int.emod_lt_of_pos (l.getD n 0) (show 0 < m by omega)
    refine ⟨l.getD n 0 % m, fun k => ?_, e1, e2⟩
    unfold laws_r8At.f
    rw [if_neg (by omega), decide_eq_false hl]
    simp only [laws_r8At.j0]
    rw [if_neg Bool.false_ne_true, if_pos (by omega), if_pos (by omega), if_neg (by omega), rd_nat, wrap_id (by omega) (by omega), e]
theorem r8Wide_def (l : List Int) (h : bytes l) (i m : Int) (hi : 0 ≤ i) (hi2 : i ≤ 1000) (hm : 1 < m) : ∃ v, (∀ k, laws_r8Wide.f (k + 1) l i m = some v) ∧ 0 ≤ v ∧ v < m := by
  obtain ⟨a, a1, a2, a3⟩ := r8At_def l h i 256 hi (by omega)
  obtain ⟨b, b1, b2, b3⟩ := r8At_def l h (i + 1) 256 (by omega) (by omega)
  have e : Int.tmod (256 * a + b) m = (256 * a + b) % m := Int.tmod_eq_emod_of_nonneg (by omega)
  refine ⟨(256 * a + b) % m, fun k => ?_, Int.emod_nonneg _ (by omega), Int.emod_lt_of_pos _ (by omega)⟩
  unfold laws_r8Wide.f
  rw [wrap_id (x := i + 1) (by omega) (by omega), a1, b1]
  simp only [Option.bind_some]
  rw [if_neg (by omega), wrap_id (x := 256 * a) (by omega) (by omega), wrap_id (x := 256 * a + b) (by omega) (by omega), e]
theorem placeOf_def (n v f g e : Int) (h0 : 1 ≤ n ∧ n ≤ 10000) (h1 : 1 ≤ v ∧ v ≤ 2000) (h2 : 0 ≤ f ∧ f ≤ 100000) (h3 : 0 ≤ g ∧ g ≤ 100000) (h4 : 0 ≤ e ∧ e ≤ 10000)
    (hQ : -2000 < 1000 * n + v * (f - g + e)) (hP : 1000 * n + v * (f - g - e) ≤ 2000 * n) (k : Nat) :
    impl_PlaceOf.f (k + 2) n v f g e = some ((if 0 > 1000 * n + v * (f - g - e) then 0 else 1000 * n + v * (f - g - e)) / 2000, mn (((if 0 > 1000 * n + v * (f - g + e) then 0 else 1000 * n + v * (f - g + e)) + 1999) / 2000) n, 0) := by
  have m1 := mul_bounds (a := v) (b := f - g + e) (A := 2000) (B := 110000) (by omega) h1.2 (by omega) (by omega) (by omega)
  have m2 := mul_bounds (a := v) (b := f - g - e) (A := 2000) (B := 110000) (by omega) h1.2 (by omega) (by omega) (by omega)
  unfold impl_PlaceOf.f
  simp only [impl_in, Option.bind_some, decide_eq_true h0, decide_eq_true h1, decide_eq_true h2, decide_eq_true h3, decide_eq_true h4, if_true, Bool.not_true, impl_PlaceOf.j0]
  rw [if_neg Bool.false_ne_true, wrap_id (x := 1000 * n) (by omega) (by omega), wrap_id (x := f - g) (by omega) (by omega), wrap_id (x := f - g + e) (by omega) (by omega), wrap_id (x := f - g - e) (by omega) (by omega), wrap_id (x := 2000 * n) (by omega) (by omega)]
  generalize v * (f - g + e) = y at *
  generalize v * (f - g - e) = x at *
  rw [wrap_id (x := x) (by omega) (by omega), wrap_id (x := y) (by omega) (by omega), wrap_id (x := 1000 * n + x) (by omega) (by omega), wrap_id (x := 1000 * n + y) (by omega) (by omega), if_neg (by omega), decide_eq_false (by omega)]
  simp only [impl_PlaceOf.j1]
  rw [if_neg Bool.false_ne_true]
  unfold impl_divUp.f
  rw [if_neg (show ¬ (2000 : Int) = 0 by decide)]
  simp only [Option.bind_some]
  have ex : ∀ z, mx z 0 = if 0 > z then 0 else z := fun z => rfl
  rw [ex, ex]
  have bx : 0 ≤ (if 0 > 1000 * n + x then 0 else 1000 * n + x) ∧ (if 0 > 1000 * n + x then 0 else 1000 * n + x) ≤ 1000000000 := by split <;> omega
  have bY : 0 ≤ (if 0 > 1000 * n + y then 0 else 1000 * n + y) ∧ (if 0 > 1000 * n + y then 0 else 1000 * n + y) ≤ 1000000000 := by split <;> omega
  generalize (if 0 > 1000 * n + x then 0 else 1000 * n + x) = p at *
  generalize (if 0 > 1000 * n + y then 0 else 1000 * n + y) = q at *
  have t2 : Int.tdiv (q + 1999) 2000 = (q + 1999) / 2000 := Int.tdiv_eq_ediv_of_nonneg (by omega)
  rw [wrap_id (x := q + 2000) (by omega) (by omega), wrap_id (x := q + 2000 - 1) (by omega) (by omega), show q + 2000 - 1 = q + 1999 by omega, t2, wrap_id (x := (q + 1999) / 2000) (by omega) (by omega), wrap_id (x := p / 2000) (by omega) (by omega)]
def okP (x : List Int) : Prop := x.length = 2 ∧ 0 ≤ rd x 0 ∧ rd x 0 ≤ 10000 ∧ rd x 0 ≤ rd x 1 ∧ rd x 1 ≤ 10000
def okL (L : List (List Int)) : Prop := 1 ≤ L.length ∧ L.length ≤ 16 ∧ ∀ i, i < L.length → okP (L.getD i [])
@[irreducible] def lo (L : List (List Int)) (i : Nat) : Int := rd (L.getD i []) 0
@[irreducible] def hi (L : List (List Int)) (i : Nat) : Int := rd (L.getD i []) 1
theorem lo_def (L : List (List Int)) (i : Nat) : rd (L.getD i []) 0 = lo L i := by unfold lo; rfl
theorem hi_def (L : List (List Int)) (i : Nat) : rd (L.getD i []) 1 = hi L i := by unfold hi; rfl
theorem okL_at {L : List (List Int)} (h : okL L) {i : Nat} (hi_ : i < L.length) : 0 ≤ lo L i ∧ lo L i ≤ 10000 ∧ lo L i ≤ hi L i ∧ hi L i ≤ 10000 := by
  unfold lo hi; exact (h.2.2 i hi_).2
theorem metres_l0 (L : List (List Int)) (h16 : L.length ≤ 16) (hok : ∀ i, i < L.length → okP (L.getD i [])) : ∀ (d j k : Nat), j + d = L.length → 2 * d < k → impl_metresOk.l0 k L L (L.length : Int) (j : Int) = some true := by
  intro d
  induction d with
  | zero =>
    intro j k hj hk
    obtain ⟨k, rfl⟩ := suc_of (show 0 < k by omega)
    simp only [impl_metresOk.l0]
    rw [if_neg (by omega), decide_eq_true (by omega)]
  | succ d ih =>
    intro j k hj hk
    obtain ⟨k, rfl⟩ : ∃ m, k = m + 1 + 1 := ⟨k - 2, by omega⟩
    have hn := next_nat (j := j) (n := L.length) (by omega) (by omega)
    have h1 : (j : Int) < (L.length : Int) := by omega
    have h2 : (0 : Int) ≤ (j : Int) := by omega
    obtain ⟨p1, p2, p3, p4, p5⟩ := hok j (by omega)
    have h3 : ((L.getD j []).length : Int) = 2 := by omega
    have h4 : (0 : Int) < 2 := by omega
    have h5 : (1 : Int) < 2 := by omega
    simp only [impl_metresOk.l0, impl_metresOk.j1, h1, h2, if_true, rdll_nat, h3, h4, h5, impl_in, Option.bind_some, decide_eq_true (show 0 ≤ rd (L.getD j []) 0 ∧ rd (L.getD j []) 0 ≤ 10000 from ⟨p2, p3⟩), decide_eq_true (show rd (L.getD j []) 0 ≤ rd (L.getD j []) 1 ∧ rd (L.getD j []) 1 ≤ 10000 from ⟨p4, p5⟩), Bool.not_true, Bool.false_eq_true, if_false, hn]
    exact ih (j + 1) k (by omega) (by omega)
theorem metres_ok (L : List (List Int)) (h : okL L) (k : Nat) (hk : 100 ≤ k) : impl_metresOk.f k L = some true := by
  have := h.2.1
  exact metres_l0 L h.2.1 h.2.2 L.length 0 k (by omega) (by omega)
theorem meet_l0 (L : List (List Int)) (h : okL L) : ∀ (d j : Nat) (x y : Int), j + d = L.length → ∃ X Y : Int, (∀ k, d < k → impl_MeetPlaces.l0 k x y L (L.length : Int) (j : Int) = some (if X > Y then (0, 0, 3) else (X, Y, 0))) ∧
    x ≤ X ∧ Y ≤ y ∧ (∀ i, j ≤ i → i < L.length → lo L i ≤ X ∧ Y ≤ hi L i) ∧ (X = x ∨ ∃ i, j ≤ i ∧ i < L.length ∧ X = lo L i) ∧ (Y = y ∨ ∃ i, j ≤ i ∧ i < L.length ∧ Y = hi L i) := by
  intro d
  induction d with
  | zero =>
    intro j x y hj
    refine ⟨x, y, fun k hk => ?_, by omega, by omega, fun i h1 h2 => by omega, .inl rfl, .inl rfl⟩
    obtain ⟨k, rfl⟩ := suc_of hk
    simp only [impl_MeetPlaces.l0]
    rw [if_neg (by omega)]
    split <;> rfl
  | succ d ih =>
    intro j x y hj
    have hjl : j < L.length := by omega
    have p1 := (h.2.2 j hjl).1
    have h16 := h.2.1
    have hn := next_nat (j := j) (n := L.length) hjl (by omega)
    have q0 : (0 : Int) ≤ (j : Int) := by omega
    have q1 : (j : Int) < (L.length : Int) := by omega
    have q2 : (0 : Int) < ((L.getD j []).length : Int) := by omega
    have q3 : (1 : Int) < ((L.getD j []).length : Int) := by omega
    obtain ⟨X, Y, e, g1, g2, g3, g4, g5⟩ := ih (j + 1) (mx x (lo L j)) (mn y (hi L j)) (by omega)
    have m1 : x ≤ mx x (lo L j) ∧ lo L j ≤ mx x (lo L j) ∧ (mx x (lo L j) = x ∨ mx x (lo L j) = lo L j) := by unfold mx; split <;> omega
    have m2 : mn y (hi L j) ≤ y ∧ mn y (hi L j) ≤ hi L j ∧ (mn y (hi L j) = y ∨ mn y (hi L j) = hi L j) := by unfold mn; split <;> omega
    refine ⟨X, Y, fun k hk => ?_, Int.le_trans m1.1 g1, Int.le_trans g2 m2.1, fun i h1 h2 => ?_, ?_, ?_⟩
    · obtain ⟨k, rfl⟩ := suc_of (show 0 < k by omega)
      simp only [impl_MeetPlaces.l0, q0, q1, q2, q3, if_true, rdll_nat, lo_def, hi_def, hn]
      exact e k (by omega)
    · by_cases e1 : i = j
      · subst e1; omega
      · exact g3 i (by omega) h2
    · rcases g4 with g4 | ⟨i, i1, i2, i3⟩
      · rcases m1.2.2 with m | m
        · exact .inl (by omega)
        · exact .inr ⟨j, by omega, hjl, by omega⟩
      · exact .inr ⟨i, by omega, i2, i3⟩
    · rcases g5 with g5 | ⟨i, i1, i2, i3⟩
      · rcases m2.2.2 with m | m
        · exact .inl (by omega)
        · exact .inr ⟨j, by omega, hjl, by omega⟩
      · exact .inr ⟨i, by omega, i2, i3⟩
def inside (L : List (List Int)) (v : Int) (i : Nat) : Prop := lo L i ≤ v ∧ v ≤ hi L i
instance (L : List (List Int)) (v : Int) (i : Nat) : Decidable (inside L v i) := by unfold inside; infer_instance
/-- What the places have in common: there is some exactly if one number lies in all of them. -/
theorem meet_def (L : List (List Int)) (h : okL L) : ∃ X Y c : Int, (∀ k, 100 ≤ k → impl_MeetPlaces.f k L = some (X, Y, c)) ∧ ((c = 0 ∧ (∀ i, i < L.length → lo L i ≤ X ∧ Y ≤ hi L i) ∧ ∃ i, i < L.length ∧ ∀ q, q < L.length → inside L (lo L i) q) ∨ (c = 3 ∧ ∀ v : Int, ∃ q, q < L.length ∧ ¬ inside L v q)) := by
  have h1 := h.1
  have h16 := h.2.1
  obtain ⟨X, Y, e, g1, g2, g3, g4, g5⟩ := meet_l0 L h L.length 0 0 10000 (by omega)
  have ok : ∀ i, i < L.length → 0 ≤ lo L i ∧ lo L i ≤ 10000 ∧ lo L i ≤ hi L i ∧ hi L i ≤ 10000 := fun i hi_ => okL_at h hi_
  by_cases c : X > Y
  · refine ⟨0, 0, 3, fun k hk => ?_, .inr ⟨rfl, fun v => ?_⟩⟩
    · unfold impl_MeetPlaces.f
      rw [metres_ok L h k hk]
      simp only [Option.bind_some, if_true]
      have := e k (by omega)
      rw [if_pos c] at this
      exact this
    · refine Classical.byContradiction (fun hn => ?_)
      have al : ∀ q, q < L.length → inside L v q := fun q hq => Classical.byContradiction (fun z => hn ⟨q, hq, z⟩)
      have a0 := al 0 (by omega)
      have o0 := ok 0 (by omega)
      unfold inside at a0
      have x1 : X ≤ v := by
        rcases g4 with g | ⟨i, _, i2, i3⟩
        · omega
        · have := (al i i2).1; omega
      have y1 : v ≤ Y := by
        rcases g5 with g | ⟨i, _, i2, i3⟩
        · omega
        · have := (al i i2).2; omega
      omega
  · refine ⟨X, Y, 0, fun k hk => ?_, .inl ⟨rfl, fun i hi_ => g3 i (by omega) hi_, ?_⟩⟩
    · unfold impl_MeetPlaces.f
      rw [metres_ok L h k hk]
      simp only [Option.bind_some, if_true]
      have := e k (by omega)
      rw [if_neg c] at this
      exact this
    · rcases g4 with g | ⟨i, _, i2, i3⟩
      · refine ⟨0, by omega, fun q hq => ?_⟩
        have a := g3 q (by omega) hq
        have b := g3 0 (by omega) (by omega)
        have o := ok 0 (by omega)
        unfold inside
        have o2 := ok q hq
        omega
      · refine ⟨i, i2, fun q hq => ?_⟩
        have a := g3 q (by omega) hq
        unfold inside
        omega
def cnt (L : List (List Int)) (v : Int) : Nat → Nat → Int
  | 0, _ => 0
  | d + 1, j => (if inside L v j then 1 else 0) + cnt L v d (j + 1)
theorem cnt_b (L : List (List Int)) (v : Int) : ∀ (d j : Nat), 0 ≤ cnt L v d j ∧ cnt L v d j ≤ (d : Int) ∧ ((∀ i, j ≤ i → i < j + d → inside L v i) → cnt L v d j = (d : Int)) ∧ (cnt L v d j = (d : Int) → ∀ i, j ≤ i → i < j + d → inside L v i) ∧ ((∃ i, j ≤ i ∧ i < j + d ∧ inside L v i) → 1 ≤ cnt L v d j) := by
  intro d
  induction d with
  | zero => intro j; exact ⟨by simp [cnt], by simp [cnt], fun _ => by simp [cnt], fun _ i h1 h2 => by omega, fun ⟨i, h1, h2, _⟩ => by omega⟩
  | succ d ih =>
    intro j
    obtain ⟨a1, a2, a3, a4, a5⟩ := ih (j + 1)
    unfold cnt
    by_cases c : inside L v j
    · rw [if_pos c]
      refine ⟨by omega, by omega, fun h => ?_, fun h i h1 h2 => ?_, fun _ => by omega⟩
      · have := a3 (fun i h1 h2 => h i (by omega) (by omega)); omega
      · by_cases e : i = j
        · subst e; exact c
        · exact a4 (by omega) i (by omega) (by omega)
    · rw [if_neg c]
      refine ⟨by omega, by omega, fun h => absurd (h j (by omega) (by omega)) c, fun h => by omega, fun ⟨i, h1, h2, h3⟩ => ?_⟩
      by_cases e : i = j
      · subst e; exact absurd h3 c
      · have := a5 ⟨i, by omega, by omega, h3⟩; omega
def C (L : List (List Int)) (i : Nat) : Int := cnt L (lo L i) L.length 0
theorem dig_l1 (L : List (List Int)) (h : okL L) (x y : Int) (q : Nat) (hq : q < L.length) (K : Nat) : ∀ (d j : Nat) (c : Int), j + d = L.length → 0 ≤ c → c ≤ (j : Int) →
    impl_DigPlace.l1 (K + 1 + d + 1) L x y (L.getD q []) c L (L.length : Int) (q : Int) L (L.length : Int) (j : Int) =
      if (c + cnt L (lo L q) d j > y ∨ (c + cnt L (lo L q) d j = y ∧ lo L q < x)) then impl_DigPlace.l0 K L (lo L q) (c + cnt L (lo L q) d j) L (L.length : Int) ((q + 1 : Nat) : Int)
      else impl_DigPlace.l0 K L x y L (L.length : Int) ((q + 1 : Nat) : Int) := by
  have h16 := h.2.1
  have pq := (h.2.2 q hq).1
  have hnq := next_nat (j := q) (n := L.length) hq (by omega)
  have e0 : (0 : Int) < ((L.getD q []).length : Int) := by omega
  intro d
  induction d with
  | zero =>
    intro j c hj h0 h1
    have j2 : ∀ b, impl_DigPlace.j2 (K + 1) L x y (L.getD q []) c L (L.length : Int) (q : Int) b = if b = true then impl_DigPlace.l0 K L (lo L q) c L (L.length : Int) ((q + 1 : Nat) : Int) else impl_DigPlace.l0 K L x y L (L.length : Int) ((q + 1 : Nat) : Int) := by
      intro b
      simp only [impl_DigPlace.j2, hnq, e0, if_true, lo_def]
    rw [show K + 1 + 0 + 1 = K + 1 + 1 by omega, show c + cnt L (lo L q) 0 j = c by simp [cnt]]
    obtain ⟨F, hF⟩ : ∃ F, F = K + 1 := ⟨_, rfl⟩
    rw [← hF] at j2 ⊢
    simp only [impl_DigPlace.l1]
    rw [if_neg (by omega), j2, j2, j2, if_pos rfl, if_neg Bool.false_ne_true, if_pos e0]
    have er : rd (L.getD q []) 0 = lo L q := lo_def L q
    rw [er]
    by_cases c1 : c > y
    · rw [if_pos c1, if_pos (.inl c1)]
    · rw [if_neg c1]
      by_cases c2 : c = y
      · rw [if_pos c2]
        by_cases c3 : lo L q < x
        · rw [decide_eq_true c3, if_pos rfl, if_pos (.inr ⟨c2, c3⟩)]
        · rw [decide_eq_false c3, if_neg Bool.false_ne_true, if_neg (by omega)]
      · rw [if_neg c2, if_neg (by omega)]
  | succ d ih =>
    intro j c hj h0 h1
    have pj := (h.2.2 j (by omega)).1
    have hn := next_nat (j := j) (n := L.length) (by omega) (by omega)
    obtain ⟨F, hF⟩ : ∃ F, F = K + 1 + d + 1 := ⟨_, rfl⟩
    rw [show K + 1 + (d + 1) + 1 = F + 1 by omega]
    simp only [impl_DigPlace.l1]
    rw [if_pos (by omega), if_pos (by omega), if_pos (by omega), rdll_nat, if_pos e0, if_pos (by omega), if_pos (by omega), impl_in, hn]
    simp only [Option.bind_some]
    rw [wrap_id (x := c + 1) (by omega) (by omega)]
    unfold cnt
    have ed : decide (rd (L.getD j []) 0 ≤ rd (L.getD q []) 0 ∧ rd (L.getD q []) 0 ≤ rd (L.getD j []) 1) = decide (inside L (lo L q) j) := by apply decide_eq_decide.2; unfold inside; rw [lo_def, lo_def, hi_def]
    rw [ed, hF]
    by_cases hin : inside L (lo L q) j
    · rw [decide_eq_true hin, if_pos rfl, if_pos hin, ih (j + 1) (c + 1) (by omega) (by omega) (by omega), show c + 1 + cnt L (lo L q) d (j + 1) = c + (1 + cnt L (lo L q) d (j + 1)) by omega]
    · rw [decide_eq_false hin, if_neg Bool.false_ne_true, if_neg hin, ih (j + 1) c (by omega) (by omega) (by omega), show c + (0 + cnt L (lo L q) d (j + 1)) = c + cnt L (lo L q) d (j + 1) by omega]
theorem dig_l0 (L : List (List Int)) (h : okL L) : ∀ (e q : Nat) (x y : Int), q + e = L.length → ∃ X Y : Int, (∀ k, e * 20 < k → impl_DigPlace.l0 k L x y L (L.length : Int) (q : Int) = some (X, Y, 0)) ∧
    y ≤ Y ∧ (∀ i, q ≤ i → i < L.length → C L i ≤ Y) ∧ ((X = x ∧ Y = y) ∨ ∃ i, q ≤ i ∧ i < L.length ∧ X = lo L i ∧ Y = C L i) := by
  have h16 := h.2.1
  intro e
  induction e with
  | zero =>
    intro q x y hq
    refine ⟨x, y, fun k hk => ?_, by omega, fun i h1 h2 => by omega, .inl ⟨rfl, rfl⟩⟩
    obtain ⟨k, rfl⟩ := suc_of (show 0 < k by omega)
    simp only [impl_DigPlace.l0]
    rw [if_neg (by omega)]
  | succ e ih =>
    intro q x y hq
    have hql : q < L.length := by omega
    have step : ∀ k, (e + 1) * 20 < k → impl_DigPlace.l0 k L x y L (L.length : Int) (q : Int) = if (C L q > y ∨ (C L q = y ∧ lo L q < x)) then impl_DigPlace.l0 (k - 3 - L.length) L (lo L q) (C L q) L (L.length : Int) ((q + 1 : Nat) : Int) else impl_DigPlace.l0 (k - 3 - L.length) L x y L (L.length : Int) ((q + 1 : Nat) : Int) := by
      intro k hk
      obtain ⟨K, hK⟩ : ∃ K, K = k - 3 - L.length := ⟨_, rfl⟩
      obtain ⟨F, hF⟩ : ∃ F, F = K + 1 + L.length + 1 := ⟨_, rfl⟩
      have := dig_l1 L h x y q hql K L.length 0 0 (by omega) (by omega) (by omega)
      rw [show k = F + 1 by omega, show F + 1 - 3 - L.length = K by omega]
      simp only [impl_DigPlace.l0]
      rw [if_pos (by omega), if_pos (by omega), if_pos (by omega), rdll_nat, hF]
      simp only [Int.zero_add] at this
      exact this
    by_cases c : C L q > y ∨ (C L q = y ∧ lo L q < x)
    · obtain ⟨X, Y, a1, a2, a3, a4⟩ := ih (q + 1) (lo L q) (C L q) (by omega)
      refine ⟨X, Y, fun k hk => ?_, by omega, fun i h1 h2 => ?_, ?_⟩
      · rw [step k hk, if_pos c]; exact a1 _ (by omega)
      · by_cases e1 : i = q
        · subst e1; exact a2
        · exact a3 i (by omega) h2
      · rcases a4 with ⟨b1, b2⟩ | ⟨i, i1, i2, i3, i4⟩
        · exact .inr ⟨q, by omega, hql, b1, b2⟩
        · exact .inr ⟨i, by omega, i2, i3, i4⟩
    · obtain ⟨X, Y, a1, a2, a3, a4⟩ := ih (q + 1) x y (by omega)
      refine ⟨X, Y, fun k hk => ?_, by omega, fun i h1 h2 => ?_, ?_⟩
      · rw [step k hk, if_neg c]; exact a1 _ (by omega)
      · by_cases e1 : i = q
        · subst e1; omega
        · exact a3 i (by omega) h2
      · rcases a4 with ⟨b1, b2⟩ | ⟨i, i1, i2, i3, i4⟩
        · exact .inl ⟨b1, b2⟩
        · exact .inr ⟨i, by omega, i2, i3, i4⟩
theorem C_b (L : List (List Int)) (h : okL L) {i : Nat} (hi_ : i < L.length) : 1 ≤ C L i ∧ C L i ≤ (L.length : Int) := by
  have b := cnt_b L (lo L i) L.length 0
  refine ⟨b.2.2.2.2 ⟨i, by omega, by omega, ?_⟩, b.2.1⟩
  have o := okL_at h hi_
  exact ⟨Int.le_refl _, o.2.2.1⟩
theorem dig_def (L : List (List Int)) (h : okL L) : ∃ X Y : Int, (∀ k, 400 ≤ k → impl_DigPlace.f k L = some (X, Y, 0)) ∧ (∃ i, i < L.length ∧ X = lo L i ∧ Y = C L i) ∧ ∀ i, i < L.length → C L i ≤ Y := by
  have h1 := h.1
  have h16 := h.2.1
  obtain ⟨X, Y, a1, a2, a3, a4⟩ := dig_l0 L h L.length 0 0 0 (by omega)
  refine ⟨X, Y, fun k hk => ?_, ?_, fun i hi_ => a3 i (by omega) hi_⟩
  · unfold impl_DigPlace.f
    rw [metres_ok L h k (by omega)]
    simp only [Option.bind_some, if_true]
    rw [if_neg (by omega)]
    exact a1 k (by omega)
  · rcases a4 with ⟨_, b2⟩ | ⟨i, _, i2, i3, i4⟩
    · have := a3 0 (by omega) (by omega)
      have := C_b L h (show 0 < L.length by omega)
      omega
    · exact ⟨i, i2, i3, i4⟩
theorem press_same (p : Int) (hp0 : 0 ≤ p) (hp1 : p ≤ 400000) (k : Nat) : impl_PressureTest.f (k + 5) [3, 20, 63] [p, p + 7, p] = some (0, 0) := by
  unfold impl_PressureTest.f impl_allWithin.f impl_increasing.f
  have a1 : ([p, p + 7, p].all fun x => decide (0 ≤ x ∧ x ≤ 100000000)) = true := by simp; omega
  have a2 : (([3, 20, 63] : List Int).all fun x => decide (0 ≤ x ∧ x ≤ 100000)) = true := by decide
  have w1 : wrap64 (1 - 1) = 0 := wrap_id (by omega) (by omega)
  have w2 : wrap64 (1 + 1) = 2 := wrap_id (by omega) (by omega)
  have w3 : wrap64 (2 - 1) = 1 := wrap_id (by omega) (by omega)
  have w4 : wrap64 (2 + 1) = 3 := wrap_id (by omega) (by omega)
  have e : impl_increasing.l0 (k + 5) [3, 20, 63] 1 = some true := by
    simp only [impl_increasing.l0, w1, w2, w3, w4, List.length_cons, List.length_nil]
    simp [rd]
  rw [a1, a2, e]
  simp only [Option.bind_some, if_true, impl_PressureTest.j0]
  have w5 : wrap64 (p - p) = 0 := by rw [wrap_id (by omega) (by omega)]; omega
  have w6 : wrap64 (60 * 0) = 0 := wrap_id (by omega) (by omega)
  have w7 : wrap64 (63 - 3) = 60 := wrap_id (by omega) (by omega)
  have w8 : wrap64 (3 - 1) = 2 := wrap_id (by omega) (by omega)
  have r : impl_divRound.f 0 60 = some 0 := by rw [impl_div (by omega) (by omega) (by omega) (by omega)]; rfl
  have x0 : wrap64 0 = 0 := wrap_id (by omega) (by omega)
  have x1 : wrap64 1 = 1 := wrap_id (by omega) (by omega)
  have x2 : wrap64 2 = 2 := wrap_id (by omega) (by omega)
  have x3 : wrap64 60 = 60 := wrap_id (by omega) (by omega)
  have x4 : wrap64 500 = 500 := wrap_id (by omega) (by omega)
  have x5 : wrap64 30000 = 30000 := wrap_id (by omega) (by omega)
  simp [rd, w5, w6, w7, w8, r, x0, x1, x2, x3, x4, x5]
theorem press_fall (p : Int) (hp0 : 0 ≤ p) (hp1 : p ≤ 400000) (k : Nat) : impl_PressureTest.f (k + 5) [0, 60] [p + 500, p] = some (500, 0) := by
  unfold impl_PressureTest.f impl_allWithin.f impl_increasing.f
  have a1 : ([p + 500, p].all fun x => decide (0 ≤ x ∧ x ≤ 100000000)) = true := by simp; omega
  have a2 : (([0, 60] : List Int).all fun x => decide (0 ≤ x ∧ x ≤ 100000)) = true := by decide
  have w1 : wrap64 (1 - 1) = 0 := wrap_id (by omega) (by omega)
  have w2 : wrap64 (1 + 1) = 2 := wrap_id (by omega) (by omega)
  have e : impl_increasing.l0 (k + 5) [0, 60] 1 = some true := by
    simp only [impl_increasing.l0, w1, w2, List.length_cons, List.length_nil]
    simp [rd]
  rw [a1, a2, e]
  simp only [Option.bind_some, if_true, impl_PressureTest.j0]
  have w5 : wrap64 (p + 500 - p) = 500 := by rw [wrap_id (by omega) (by omega)]; omega
  have w6 : wrap64 (60 * 500) = 30000 := wrap_id (by omega) (by omega)
  have w7 : wrap64 (60 - 0) = 60 := wrap_id (by omega) (by omega)
  have w8 : wrap64 (2 - 1) = 1 := wrap_id (by omega) (by omega)
  have r : impl_divRound.f 30000 60 = some 500 := by rw [impl_div (by omega) (by omega) (by omega) (by omega)]; rfl
  have x0 : wrap64 0 = 0 := wrap_id (by omega) (by omega)
  have x1 : wrap64 1 = 1 := wrap_id (by omega) (by omega)
  have x2 : wrap64 2 = 2 := wrap_id (by omega) (by omega)
  have x3 : wrap64 60 = 60 := wrap_id (by omega) (by omega)
  have x4 : wrap64 500 = 500 := wrap_id (by omega) (by omega)
  have x5 : wrap64 30000 = 30000 := wrap_id (by omega) (by omega)
  simp [rd, w5, w6, w7, w8, r, x0, x1, x2, x3, x4, x5]
/-- The law's last loop: it counts the places that hold the dig place, and looks at what all have in common. -/
theorem law_l1 (x1 : List Int) (L : List (List Int)) (h : okL L) (X Y c D M : Int) (hc : c = 0 → ∀ i, i < L.length → lo L i ≤ X ∧ Y ≤ hi L i) (K : Nat) : ∀ (d j : Nat) (u : Int), j + d = L.length → 0 ≤ u → u ≤ (j : Int) →
    laws_FnPlaces.l1 (K + 4 * d) x1 L X Y c D M u (j : Int) = laws_FnPlaces.l1 K x1 L X Y c D M (u + cnt L D d j) (L.length : Int) := by
  have h16 := h.2.1
  intro d
  induction d with
  | zero =>
    intro j u hj h0 h1
    rw [show K + 4 * 0 = K by omega, show u + cnt L D 0 j = u by simp [cnt], show j = L.length by omega]
  | succ d ih =>
    intro j u hj h0 h1
    have hjl : j < L.length := by omega
    have hn := next_nat (j := j) (n := L.length) hjl (by omega)
    have pj := (h.2.2 j hjl).1
    have e0 : (0 : Int) < ((L.getD j []).length : Int) := by omega
    have e1 : (1 : Int) < ((L.getD j []).length : Int) := by omega
    have j0 : (0 : Int) ≤ (j : Int) := by omega
    have j1 : (j : Int) < (L.length : Int) := by omega
    have elo := lo_def L j
    have ehi := hi_def L j
    obtain ⟨F, hF⟩ : ∃ F, F = K + 4 * d := ⟨_, rfl⟩
    have six : laws_FnPlaces.j6 (F + 1) x1 L X Y c D M (u + (if inside L D j then 1 else 0)) (j : Int) false = laws_FnPlaces.l1 F x1 L X Y c D M (u + (if inside L D j then 1 else 0)) ((j + 1 : Nat) : Int) := by
      simp only [laws_FnPlaces.j6]
      rw [if_neg Bool.false_ne_true, hn]
    have five : laws_FnPlaces.j5 (F + 1 + 1) x1 L X Y c D M (u + (if inside L D j then 1 else 0)) (j : Int) = laws_FnPlaces.l1 F x1 L X Y c D M (u + (if inside L D j then 1 else 0)) ((j + 1 : Nat) : Int) := by
      rw [← six]
      obtain ⟨G, hG⟩ : ∃ G, G = F + 1 := ⟨_, rfl⟩
      rw [← hG]
      simp only [laws_FnPlaces.j5]
      by_cases hz : c = 0
      · have g := hc hz j hjl
        rw [if_pos hz, if_pos j0, if_pos j1, rdll_nat, if_pos e0, elo, if_neg (by omega), if_pos e1, ehi, decide_eq_false (by omega)]
      · rw [if_neg hz]
    have four : ∀ b : Bool, b = decide (inside L D j) → laws_FnPlaces.j4 (F + 1 + 1 + 1) x1 L X Y c D M u (j : Int) b = laws_FnPlaces.l1 F x1 L X Y c D M (u + (if inside L D j then 1 else 0)) ((j + 1 : Nat) : Int) := by
      intro b hb
      rw [← five]
      obtain ⟨G, hG⟩ : ∃ G, G = F + 1 + 1 := ⟨_, rfl⟩
      rw [← hG]
      simp only [laws_FnPlaces.j4]
      by_cases hin : inside L D j
      · rw [hb, decide_eq_true hin, if_pos rfl, if_pos hin, wrap_id (by omega) (by omega)]
      · rw [hb, decide_eq_false hin, if_neg Bool.false_ne_true, if_neg hin, show u + 0 = u by omega]
    have one : laws_FnPlaces.l1 (F + 4) x1 L X Y c D M u (j : Int) = laws_FnPlaces.l1 F x1 L X Y c D M (u + (if inside L D j then 1 else 0)) ((j + 1 : Nat) : Int) := by
      obtain ⟨G, hG⟩ : ∃ G, G = F + 1 + 1 + 1 := ⟨_, rfl⟩
      rw [← hG] at four
      rw [show F + 4 = G + 1 by omega]
      simp only [laws_FnPlaces.l1]
      rw [if_pos j1, if_pos j0, rdll_nat, if_pos e0, elo]
      by_cases g : lo L j ≤ D
      · rw [if_pos g, if_pos e1, ehi]
        exact four _ (by unfold inside; simp [g])
      · rw [if_neg g]
        exact four _ (by unfold inside; simp [g])
    rw [show K + 4 * (d + 1) = F + 4 by omega, one, hF, ih (j + 1) _ (by omega) (by split <;> omega) (by split <;> omega)]
    congr 1
    show _ = u + ((if inside L D j then 1 else 0) + cnt L D d (j + 1))
    omega
theorem law_end (x1 : List Int) (hx : bytes x1) (L : List (List Int)) (X Y c D M : Int) (K : Nat) : laws_FnPlaces.l1 (K + 10) x1 L X Y c D M M (L.length : Int) = some true := by
  obtain ⟨w, w1, w2, w3⟩ := r8Wide_def x1 hx 6 400 (by omega) (by omega) (by omega)
  obtain ⟨G, hG⟩ : ∃ G, G = K + 4 := ⟨_, rfl⟩
  have p1 := press_same (1000 * w) (by omega) (by omega) G
  have p2 := press_fall (1000 * w) (by omega) (by omega) G
  have w1 := w1 (G + 4)
  obtain ⟨H, hH⟩ : ∃ H, H = G + 5 := ⟨_, rfl⟩
  rw [show G + 4 + 1 = H by omega] at w1
  rw [← hH] at p1 p2
  rw [show K + 10 = H + 1 by omega]
  simp only [laws_FnPlaces.l1]
  rw [if_neg (by omega), if_pos trivial, w1]
  simp only [Option.bind_some]
  rw [wrap_id (x := 1000 * w) (by omega) (by omega), wrap_id (x := 1000 * w + 7) (by omega) (by omega), wrap_id (x := 1000 * w + 500) (by omega) (by omega), p1, p2]
  rfl
theorem law_list (x0 x1 : List Int) (hx : bytes x1) (L : List (List Int)) (h : okL L) (v : Int) (hv : ∀ k, laws_r8At.f (k + 1) x0 0 5 = some v) (q : Int) (hq : ¬ q < v) (k : Nat) (hk : 1000 ≤ k) : laws_FnPlaces.l0 k x0 x1 L q = some true := by
  have h1 := h.1
  have h16 := h.2.1
  obtain ⟨X, Y, c, m1, m2⟩ := meet_def L h
  obtain ⟨D, M, d1, ⟨i, i1, i2, i3⟩, d3⟩ := dig_def L h
  have cb := C_b L h i1
  obtain ⟨G, hG⟩ : ∃ G, G = k - 2 := ⟨_, rfl⟩
  have hvG := hv (G)
  obtain ⟨H, hH⟩ : ∃ H, H = G + 1 := ⟨_, rfl⟩
  rw [← hH] at hvG
  rw [show k = H + 1 by omega]
  have lst : laws_FnPlaces.l1 G x1 L X Y c D M 0 0 = some true := by
    have hc : c = 0 → ∀ i, i < L.length → lo L i ≤ X ∧ Y ≤ hi L i := by
      intro hc
      rcases m2 with ⟨_, g, _⟩ | ⟨g, _⟩
      · exact g
      · omega
    have a := law_l1 x1 L h X Y c D M hc (G - 4 * L.length) L.length 0 0 (by omega) (by omega) (by omega)
    rw [show G - 4 * L.length + 4 * L.length = G by omega] at a
    have a' : laws_FnPlaces.l1 G x1 L X Y c D M 0 0 = _ := a
    rw [a', show (0 : Int) + cnt L D L.length 0 = M by rw [i3, i2]; unfold C; omega]
    have b := law_end x1 hx L X Y c D M (G - 4 * L.length - 10)
    rw [show G - 4 * L.length - 10 + 10 = G - 4 * L.length by omega] at b
    exact b
  have j2 : laws_FnPlaces.j2 H x1 L X Y c D M false = some true := by
    rw [hH]
    simp only [laws_FnPlaces.j2]
    rw [if_neg Bool.false_ne_true]
    exact lst
  have eqv : ((c == 0) != (M == (L.length : Int))) = false := by
    have b := cnt_b L (lo L i) L.length 0
    rcases m2 with ⟨z, _, p, p1, p2⟩ | ⟨z, g⟩
    · have bp := cnt_b L (lo L p) L.length 0
      have e1 : C L p = (L.length : Int) := bp.2.2.1 (fun q _ h2 => p2 q (by omega))
      have e2 := d3 p p1
      have e3 : M = (L.length : Int) := by omega
      rw [z, e3]; simp
    · have e3 : M ≠ (L.length : Int) := by
        intro e
        obtain ⟨q, q1, q2⟩ := g (lo L i)
        exact q2 (b.2.2.2.1 (by unfold C at i3; omega) q (by omega) (by omega))
      rw [z]
      simp [e3]
  simp only [laws_FnPlaces.l0]
  rw [hvG]
  simp only [Option.bind_some]
  rw [if_neg hq, m1 H (by omega), d1 H (by omega)]
  simp only [Option.bind_some]
  rw [if_pos trivial, if_neg (by omega), if_neg (by omega), eqv]
  exact j2
theorem law_build (x0 x1 : List Int) (hx0 : bytes x0) (hx : bytes x1) (v : Int) (hv : ∀ k, laws_r8At.f (k + 1) x0 0 5 = some v) (hv5 : v ≤ 5) : ∀ (d j : Nat) (L : List (List Int)) (k : Nat), (j : Int) + (d : Int) = v → okL L → L.length = j + 1 → 1000 + d ≤ k → laws_FnPlaces.l0 k x0 x1 L (j : Int) = some true := by
  intro d
  induction d with
  | zero => intro j L k hj h hl hk; exact law_list x0 x1 hx L h v hv (j : Int) (by omega) k (by omega)
  | succ d ih =>
    intro j L k hj h hl hk
    obtain ⟨k, rfl⟩ := suc_of (show 0 < k by omega)
    obtain ⟨a, a1, a2, a3⟩ := r8Wide_def x0 hx0 (1 + 4 * (j : Int)) 400 (by omega) (by omega) (by omega)
    obtain ⟨b, b1, b2, b3⟩ := r8Wide_def x0 hx0 (3 + 4 * (j : Int)) 300 (by omega) (by omega) (by omega)
    have hvk := hv (k - 1)
    have a1 := a1 (k - 1)
    have b1 := b1 (k - 1)
    rw [show k - 1 + 1 = k by omega] at hvk a1 b1
    simp only [laws_FnPlaces.l0]
    rw [hvk]
    simp only [Option.bind_some]
    rw [if_pos (by omega), wrap_id (x := 4 * (j : Int)) (by omega) (by omega), wrap_id (x := 1 + 4 * (j : Int)) (by omega) (by omega), wrap_id (x := 3 + 4 * (j : Int)) (by omega) (by omega), a1, b1]
    simp only [Option.bind_some]
    rw [if_pos (by omega), wrap_id (x := a + b) (by omega) (by omega), next_nat (j := j) (n := 100) (by omega) (by omega)]
    refine ih (j + 1) _ k (by omega) ⟨by simp, by simp; omega, fun i hi_ => ?_⟩ (by simp; omega) (by omega)
    rw [List.getD_eq_getElem?_getD]
    by_cases e : i < L.length
    · rw [List.getElem?_append_left e, ← List.getD_eq_getElem?_getD]; exact h.2.2 i e
    · have ei : i = L.length := by simp at hi_; omega
      rw [ei, List.getElem?_append_right (Nat.le_refl _), Nat.sub_self]
      refine ⟨rfl, ?_⟩
      show 0 ≤ a ∧ a ≤ 10000 ∧ a ≤ a + b ∧ a + b ≤ 10000
      omega
theorem mn_b (a b : Int) : mn a b ≤ a ∧ mn a b ≤ b ∧ (mn a b = a ∨ mn a b = b) := by unfold mn; split <;> omega
theorem FnPlaces : laws_FnPlaces.Pure := by
  intro l0 l1 _ _ h0 _ _ h1
  obtain ⟨k, hk⟩ : ∃ k, k = 2000 := ⟨_, rfl⟩
  refine ⟨k + 1, ?_⟩
  unfold laws_FnPlaces.f laws_r8Long.f
  by_cases c0 : (l0.length : Int) > 1048576
  · rw [if_pos c0]; rfl
  · rw [if_neg c0]
    by_cases c1 : (l1.length : Int) > 1048576
    · rw [decide_eq_true c1]; rfl
    · rw [decide_eq_false c1]
      obtain ⟨u, u1, u2, u3⟩ := r8Wide_def l1 h1 0 900 (by omega) (by omega) (by omega)
      obtain ⟨s, s1, s2, s3⟩ := r8Wide_def l1 h1 2 500 (by omega) (by omega) (by omega)
      obtain ⟨t, t1, t2, t3⟩ := r8Wide_def l1 h1 4 900 (by omega) (by omega) (by omega)
      have u1 := u1 k
      have s1 := s1 k
      have t1 := t1 k
      simp only [Option.bind_some, Bool.false_eq_true, if_false, u1, s1, t1]
      rw [wrap_id (x := 50 + u) (by omega) (by omega), wrap_id (x := 900 + s) (by omega) (by omega), wrap_id (x := 50 + u + 1) (by omega) (by omega), if_neg (by omega), if_neg (by omega)]
      have ea : Int.tmod t (50 + u + 1) = t % (50 + u + 1) := Int.tmod_eq_emod_of_nonneg t2
      have ea0 := Int.emod_nonneg t (show 50 + u + 1 ≠ 0 by omega)
      have ea1 := Int.emod_lt_of_pos t (show 0 < 50 + u + 1 by omega)
      rw [ea]
      generalize t % (50 + u + 1) = a at ea0 ea1 ⊢
      obtain ⟨n, hn⟩ : ∃ n, n = 50 + u := ⟨_, rfl⟩
      obtain ⟨v, hv⟩ : ∃ v, v = 900 + s := ⟨_, rfl⟩
      rw [← hn] at ea1 ⊢
      rw [← hv]
      rw [wrap_id (x := a * 1000) (by omega) (by omega), wrap_id (x := n - a) (by omega) (by omega), wrap_id (x := (n - a) * 1000) (by omega) (by omega)]
      have ef : Int.tdiv (a * 1000) v = a * 1000 / v := Int.tdiv_eq_ediv_of_nonneg (by omega)
      have eg : Int.tdiv ((n - a) * 1000) v = (n - a) * 1000 / v := Int.tdiv_eq_ediv_of_nonneg (by omega)
      have f0 : 0 ≤ a * 1000 / v := Int.ediv_nonneg (by omega) (by omega)
      have g0 : 0 ≤ (n - a) * 1000 / v := Int.ediv_nonneg (by omega) (by omega)
      have f1 := Int.mul_ediv_add_emod (a * 1000) v
      have f2 := Int.emod_nonneg (a * 1000) (show v ≠ 0 by omega)
      have f3 := Int.emod_lt_of_pos (a * 1000) (show 0 < v by omega)
      have g1 := Int.mul_ediv_add_emod ((n - a) * 1000) v
      have g2 := Int.emod_nonneg ((n - a) * 1000) (show v ≠ 0 by omega)
      have g3 := Int.emod_lt_of_pos ((n - a) * 1000) (show 0 < v by omega)
      have f4 : a * 1000 / v ≤ a * 1000 := Int.ediv_le_self _ (by omega)
      have g4 : (n - a) * 1000 / v ≤ (n - a) * 1000 := Int.ediv_le_self _ (by omega)
      rw [ef, eg]
      generalize a * 1000 / v = f at *
      generalize (n - a) * 1000 / v = g at *
      have fb : f ≤ 100000 := by
        rcases Int.lt_or_le 100000 f with z | z
        · have := Int.mul_le_mul_of_nonneg_left (Int.le_of_lt z) (show 0 ≤ v by omega); omega
        · exact z
      have gb : g ≤ 100000 := by
        rcases Int.lt_or_le 100000 g with z | z
        · have := Int.mul_le_mul_of_nonneg_left (Int.le_of_lt z) (show 0 ≤ v by omega); omega
        · exact z
      rw [wrap_id (x := f) (by omega) (by omega), wrap_id (x := g) (by omega) (by omega)]
      have d1 : v * (f - g - 1) = v * f - v * g - v := by rw [Int.mul_sub, Int.mul_sub, Int.mul_one]
      have d2 : v * (f - g + 1) = v * f - v * g + v := by rw [Int.mul_add, Int.mul_sub, Int.mul_one]
      have d3 : v * (f - g - 40) = v * f - v * g - v * 40 := by rw [Int.mul_sub, Int.mul_sub]
      have d4 : v * (f - g + 40) = v * f - v * g + v * 40 := by rw [Int.mul_add, Int.mul_sub]
      have P1 := placeOf_def n v f g 1 (by omega) (by omega) ⟨f0, fb⟩ ⟨g0, gb⟩ (by omega) (by omega) (by omega) (k - 1)
      have P2 := placeOf_def n v f g 40 (by omega) (by omega) ⟨f0, fb⟩ ⟨g0, gb⟩ (by omega) (by omega) (by omega) (k - 1)
      rw [show k - 1 + 2 = k + 1 by omega] at P1 P2
      rw [P1, P2, d1, d2, d3, d4]
      simp only [Option.bind_some]
      generalize hlo : (if 0 > 1000 * n + (v * f - v * g - v) then 0 else 1000 * n + (v * f - v * g - v)) / 2000 = low
      generalize hwi : (if 0 > 1000 * n + (v * f - v * g - v * 40) then 0 else 1000 * n + (v * f - v * g - v * 40)) / 2000 = wide
      generalize hhi : mn (((if 0 > 1000 * n + (v * f - v * g + v) then 0 else 1000 * n + (v * f - v * g + v)) + 1999) / 2000) n = high
      generalize hfa : mn (((if 0 > 1000 * n + (v * f - v * g + v * 40) then 0 else 1000 * n + (v * f - v * g + v * 40)) + 1999) / 2000) n = far
      have b1 : 0 ≤ low ∧ low ≤ a := by rw [← hlo]; split <;> omega
      have b2 : wide ≤ low := by rw [← hlo, ← hwi]; split <;> split <;> omega
      have q1 : a ≤ ((if 0 > 1000 * n + (v * f - v * g + v) then 0 else 1000 * n + (v * f - v * g + v)) + 1999) / 2000 := by split <;> omega
      have q2 : ((if 0 > 1000 * n + (v * f - v * g + v) then 0 else 1000 * n + (v * f - v * g + v)) + 1999) / 2000 ≤ ((if 0 > 1000 * n + (v * f - v * g + v * 40) then 0 else 1000 * n + (v * f - v * g + v * 40)) + 1999) / 2000 := by split <;> split <;> omega
      have mb1 := mn_b (((if 0 > 1000 * n + (v * f - v * g + v) then 0 else 1000 * n + (v * f - v * g + v)) + 1999) / 2000) n
      have mb2 := mn_b (((if 0 > 1000 * n + (v * f - v * g + v * 40) then 0 else 1000 * n + (v * f - v * g + v * 40)) + 1999) / 2000) n
      rw [hhi] at mb1
      rw [hfa] at mb2
      generalize ((if 0 > 1000 * n + (v * f - v * g + v) then 0 else 1000 * n + (v * f - v * g + v)) + 1999) / 2000 = A1 at q1 q2 mb1
      generalize ((if 0 > 1000 * n + (v * f - v * g + v * 40) then 0 else 1000 * n + (v * f - v * g + v * 40)) + 1999) / 2000 = A2 at q2 mb2
      have b3 : a ≤ high ∧ high ≤ n := by omega
      have b4 : high ≤ far := by omega
      rw [if_pos trivial, if_neg (by omega), if_neg (by omega), if_neg (by omega), if_neg (by omega), if_pos trivial, if_neg (by omega), decide_eq_false (by omega)]
      simp only [laws_FnPlaces.j0]
      rw [if_neg Bool.false_ne_true]
      obtain ⟨w, w1, w2, w3⟩ := r8At_def l0 h0 0 5 (by omega) (by omega)
      refine law_build l0 l1 h0 h1 w w1 (by omega) w.toNat 0 [[low, high]] k (by omega) ⟨by simp, by simp, fun i hi_ => ?_⟩ rfl (by omega)
      have ei : i = 0 := by simp at hi_; omega
      subst ei
      refine ⟨rfl, ?_⟩
      show 0 ≤ low ∧ low ≤ 10000 ∧ low ≤ high ∧ high ≤ 10000
      omega

end Go.Proofs.Ytkacnmgcgakioaa.Pure
