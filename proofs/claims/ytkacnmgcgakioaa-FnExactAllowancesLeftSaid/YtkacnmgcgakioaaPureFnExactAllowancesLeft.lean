/- AllowancesLeft of the program returns what the reference's returns, for all allowances and uses. No condition. -/
import Derived.Test.YtkacnmgcgakioaaPFnExactAllowancesLeftx3
namespace Go.Proofs.Ytkacnmgcgakioaa.Pure
open Go.RowKit Go.Proofs.Ytkacnmgcgakioaa.PFnExactAllowancesLeft Go.Proofs.YtkacnmgcgakioaaW.PrintWords Go.Proofs.YtkacnmgcgakioaaW.PrintLast Go.Proofs.YtkacnmgcgakioaaW.PrintMore

theorem wrap_id {x : Int} (h1 : -9223372036854775808 ≤ x) (h2 : x ≤ 9223372036854775807) : wrap64 x = x := by unfold wrap64; omega
theorem wf_i64 {x : Int} (h : (Lit.int .i64 x).wf = true) : -9223372036854775808 ≤ x ∧ x ≤ 9223372036854775807 := by
  simp [Lit.wf, IntKind.min, IntKind.max, IntKind.bits, IntKind.signed] at h; omega
theorem mul_bounds {a b A B : Int} (h0 : 0 ≤ a) (hA : a ≤ A) (h1 : -B ≤ b) (h2 : b ≤ B) (hB : 0 ≤ B) : -(A * B) ≤ a * b ∧ a * b ≤ A * B := by
  have e1 := Int.mul_le_mul_of_nonneg_left h2 h0
  have e2 := Int.mul_le_mul_of_nonneg_right hA hB
  have e3 := Int.mul_le_mul_of_nonneg_left h1 h0
  have e4 : a * -B = -(a * B) := Int.mul_neg a B
  omega
theorem next_nat {j n : Nat} (h : j < n) (hn : n ≤ 4611686018427387904) : wrap64 ((j : Int) + 1) = ((j + 1 : Nat) : Int) := by
  rw [wrap_id (by omega) (by omega)]; omega
theorem rd_nat (l : List Int) (j : Nat) : rd l (j : Int) = l.getD j 0 := by unfold rd; simp
theorem ifp {α : Type} {c : Prop} [Decidable c] {a b : α} (h : c) : (if c then a else b) = a := if_pos h
theorem ifn {α : Type} {c : Prop} [Decidable c] {a b : α} (h : ¬ c) : (if c then a else b) = b := if_neg h
theorem suc_of {k d : Nat} (h : d < k) : ∃ m, k = m + 1 := ⟨k - 1, by omega⟩
theorem getD_lt {α : Type} {l : List α} {j : Nat} {d : α} (h : j < l.length) : l.getD j d = l[j] := by
  rw [List.getD_eq_getElem?_getD, List.getElem?_eq_getElem h]; rfl
theorem drop_cons {α : Type} (l : List α) {j : Nat} (h : j < l.length) (d : α) : l.drop j = l.getD j d :: l.drop (j + 1) := by
  rw [getD_lt h]; exact List.drop_eq_getElem_cons h

theorem toI_l0 (l : List Int) (hl : l.length ≤ 35184372088832) : ∀ (d j k : Nat) (m : List Int), j + d = l.length → d < k → m.length = l.length → (∀ i, i < j → m[i]? = l[i]?) → laws_toInt64S.l0 k l m (j : Int) = some l := by
  intro d
  induction d with
  | zero =>
    intro j k m hj hk hm hp
    obtain ⟨k, rfl⟩ := suc_of hk
    simp only [laws_toInt64S.l0]
    rw [if_neg (by omega)]
    congr 1
    apply List.ext_getElem?
    intro i
    by_cases hi : i < j
    · exact hp i hi
    · rw [List.getElem?_eq_none (by omega), List.getElem?_eq_none (by omega)]
  | succ d ih =>
    intro j k m hj hk hm hp
    obtain ⟨k, rfl⟩ := suc_of hk
    simp only [laws_toInt64S.l0]
    rw [if_pos (by omega), if_pos (by omega), if_pos (by omega), next_nat (n := l.length) (by omega) (by omega)]
    refine ih (j + 1) k _ (by omega) (by omega) (by simpa using hm) (fun i hi => ?_)
    rw [Int.toNat_natCast, rd_nat, List.getElem?_set]
    by_cases e : j = i
    · subst e
      rw [if_pos rfl, if_pos (by omega), getD_lt (by omega), List.getElem?_eq_getElem (by omega)]
    · rw [if_neg e]; exact hp i (by omega)
theorem toI (l : List Int) (hl : l.length ≤ 35184372088832) (k : Nat) (hk : l.length < k) : laws_toInt64S.f k l = some l := by
  unfold laws_toInt64S.f
  rw [if_pos (by omega), if_pos (by omega)]
  exact toI_l0 l hl l.length 0 k _ (by omega) hk (by simp) (fun i hi => absurd hi (by omega))

theorem eqI_l0 (l : List Int) (hl : l.length ≤ 35184372088832) : ∀ (d j k : Nat), j + d = l.length → d < k → laws_eqInt64S.l0 k l l (j : Int) = some true := by
  intro d
  induction d with
  | zero =>
    intro j k hj hk
    obtain ⟨k, rfl⟩ := suc_of hk
    simp only [laws_eqInt64S.l0]
    rw [if_neg (by omega)]
  | succ d ih =>
    intro j k hj hk
    obtain ⟨k, rfl⟩ := suc_of hk
    simp only [laws_eqInt64S.l0]
    rw [if_pos (by omega), if_pos (by omega), if_pos (by omega), if_pos trivial, next_nat (n := l.length) (by omega) (by omega)]
    exact ih (j + 1) k (by omega) (by omega)
theorem eqI (l : List Int) (hl : l.length ≤ 35184372088832) (k : Nat) (hk : l.length < k) : laws_eqInt64S.f k l l = some true := by
  unfold laws_eqInt64S.f
  rw [if_pos rfl]
  exact eqI_l0 l hl l.length 0 k (by omega) hk

theorem mark_l0 : ∀ (d j k : Nat) (m : List Int) (c : Int), j + d = m.length → m.length ≤ 35184372088832 → d < k → c = 1 + (j : Int) → (∀ i, i < j → m[i]? = some (1 + (i : Int))) →
    ∃ m', laws_markInt64S.l0 k m c (j : Int) = some (1 + (m.length : Int), m') ∧ m'.length = m.length ∧ ∀ i, i < m'.length → m'[i]? = some (1 + (i : Int)) := by
  intro d
  induction d with
  | zero =>
    intro j k m c hj hl hk hc hp
    obtain ⟨k, rfl⟩ := suc_of hk
    simp only [laws_markInt64S.l0]
    rw [if_neg (by omega)]
    exact ⟨m, by rw [hc]; congr 2; omega, rfl, fun i hi => hp i (by omega)⟩
  | succ d ih =>
    intro j k m c hj hl hk hc hp
    obtain ⟨k, rfl⟩ := suc_of hk
    simp only [laws_markInt64S.l0]
    rw [if_pos (by omega), if_pos (by omega), next_nat (n := m.length) (by omega) (by omega), wrap_id (x := c + 1) (by omega) (by omega), Int.toNat_natCast]
    obtain ⟨m', h1, h2, h3⟩ := ih (j + 1) k (m.set j c) (c + 1) (by simp; omega) (by simpa using hl) (by omega) (by omega) (fun i hi => by
      rw [List.getElem?_set]
      by_cases e : j = i
      · subst e; rw [if_pos rfl, if_pos (by omega), hc]
      · rw [if_neg e]; exact hp i (by omega))
    exact ⟨m', by rw [h1]; simp, by simpa using h2, h3⟩
theorem held_l0 (m : List Int) (hl : m.length ≤ 35184372088832) (hm : ∀ i, i < m.length → m[i]? = some (1 + (i : Int))) : ∀ (d j k : Nat) (c : Int), j + d = m.length → d < k → c = 1 + (j : Int) → laws_heldInt64S.l0 k m c (j : Int) = some (1 + (m.length : Int)) := by
  intro d
  induction d with
  | zero =>
    intro j k c hj hk hc
    obtain ⟨k, rfl⟩ := suc_of hk
    simp only [laws_heldInt64S.l0]
    rw [if_neg (by omega)]
    congr 1; omega
  | succ d ih =>
    intro j k c hj hk hc
    obtain ⟨k, rfl⟩ := suc_of hk
    simp only [laws_heldInt64S.l0]
    have e : rd m (j : Int) = c := by
      rw [rd_nat, List.getD_eq_getElem?_getD, hm j (by omega), hc]; rfl
    rw [if_pos (by omega), if_pos (by omega), if_pos e, next_nat (n := m.length) (by omega) (by omega), wrap_id (x := c + 1) (by omega) (by omega)]
    exact ih (j + 1) k (c + 1) (by omega) (by omega) (by omega)
theorem mark_held (l : List Int) (hl : l.length ≤ 35184372088832) (k : Nat) (hk : l.length < k) : ∃ m', laws_markInt64S.f k l 1 = some (1 + (l.length : Int), m') ∧ (∀ k', l.length < k' → laws_heldInt64S.f k' m' 1 = some (1 + (l.length : Int))) := by
  obtain ⟨m', h1, h2, h3⟩ := mark_l0 l.length 0 k l 1 (by omega) hl hk (by omega) (fun i hi => absurd hi (by omega))
  refine ⟨m', h1, fun k' hk' => ?_⟩
  have := held_l0 m' (by omega) h3 m'.length 0 k' 1 (by omega) (by omega) (by omega)
  rw [h2] at this
  exact this
theorem mark_some (l : List Int) (hl : l.length ≤ 35184372088832) (k : Nat) (hk : l.length < k) : ∃ m', laws_markInt64S.f k l 1 = some (1 + (l.length : Int), m') := by
  obtain ⟨m', h1, _⟩ := mark_held l hl k hk; exact ⟨m', h1⟩

theorem spec_in (n lo hi : Int) : spec_l00In.f n lo hi = some (decide (lo ≤ n ∧ n ≤ hi)) := by unfold spec_l00In.f; split <;> simp <;> omega
theorem impl_in (n lo hi : Int) : impl_within.f n lo hi = some (decide (lo ≤ n ∧ n ≤ hi)) := by unfold impl_within.f; split <;> simp <;> omega

theorem used_l0 (l : List Int) (hl : l.length ≤ 35184372088832) : ∀ (d j k : Nat), j + d = l.length → d < k → spec_l16Used.l0 k l (j : Int) = some ((l.drop j).all (fun x => decide (0 ≤ x ∧ x ≤ 1000000000000)) && decide ((l.length : Int) ≤ 64)) := by
  intro d
  induction d with
  | zero =>
    intro j k hj hk
    obtain ⟨k, rfl⟩ := suc_of hk
    simp only [spec_l16Used.l0]
    rw [if_neg (by omega), List.drop_eq_nil_of_le (by omega)]; rfl
  | succ d ih =>
    intro j k hj hk
    obtain ⟨k, rfl⟩ := suc_of hk
    simp only [spec_l16Used.l0]
    unfold spec_l16Value.f
    rw [if_pos (by omega), if_pos (by omega), spec_in, rd_nat, drop_cons l (by omega : j < l.length) 0, List.all_cons, next_nat (n := l.length) (by omega) (by omega)]
    simp only [Option.bind_some]
    by_cases h1 : 0 ≤ l.getD j 0 ∧ l.getD j 0 ≤ 1000000000000
    · rw [decide_eq_true h1, if_pos rfl, Bool.true_and, ih (j + 1) k (by omega) (by omega)]
    · rw [decide_eq_false h1, if_neg (by simp), Bool.false_and, Bool.false_and]
theorem both_l0 (a : Int) (ha : 0 ≤ a) (ha2 : a ≤ 1000000000000) (l : List Int) (hl : l.length ≤ 64) (hall : ∀ j, j < l.length → 0 ≤ l.getD j 0 ∧ l.getD j 0 ≤ 1000000000000) : ∀ (d j k : Nat) (acc : List Int) (x m : Int), j + d = l.length → d < k → acc.length = j → 0 ≤ x → x ≤ (j : Int) * 1000000000000 →
    ∃ r m', spec_AllowancesLeft.l0 k a l acc x (j : Int) = some (r, 0) ∧ impl_allowances.l0 k a acc x m l (l.length : Int) (j : Int) = some (r, m') ∧ r.length = l.length := by
  intro d
  induction d with
  | zero =>
    intro j k acc x m hj hk hacc hx hx2
    obtain ⟨k, rfl⟩ := suc_of hk
    simp only [spec_AllowancesLeft.l0, impl_allowances.l0]
    rw [if_neg (by omega), if_neg (by omega)]
    exact ⟨acc, m, rfl, rfl, by omega⟩
  | succ d ih =>
    intro j k acc x m hj hk hacc hx hx2
    obtain ⟨k, rfl⟩ := suc_of hk
    simp only [spec_AllowancesLeft.l0, impl_allowances.l0]
    have hn := hall j (by omega)
    have hj1 : (j : Int) < (l.length : Int) := by omega
    have hj0 : 0 ≤ (j : Int) := by omega
    have hac : acc.length < 17592186044416 := by omega
    simp only [hj1, hj0, hac, if_true, rd_nat, next_nat (j := j) (n := l.length) (by omega) (by omega)]
    unfold spec_l00Max.f
    generalize l.getD j 0 = y at *
    rw [wrap_id (x := x + a) (by omega) (by omega), wrap_id (x := x + a - y) (by omega) (by omega), wrap_id (x := a - y) (by omega) (by omega), wrap_id (x := x + (a - y)) (by omega) (by omega)]
    have e : (if 0 > x + a - y then some (0 : Int) else some (x + a - y)) = some (mx (x + (a - y)) 0) := by
      unfold mx; split <;> split <;> first | omega | rfl | (congr 1; omega)
    rw [e]
    simp only [Option.bind_some]
    have b : 0 ≤ mx (x + (a - y)) 0 ∧ mx (x + (a - y)) 0 ≤ ((j + 1 : Nat) : Int) * 1000000000000 := by unfold mx; split <;> omega
    exact ih (j + 1) k _ _ _ (by omega) (by omega) (by simp; omega) b.1 b.2
theorem FnExactAllowancesLeft : laws_FnExactAllowancesLeft.Pure := by
  intro a l _ _ _ _
  by_cases hl : l.length ≤ 1048576
  · obtain ⟨k, hk⟩ : ∃ k, k = 3000000 := ⟨_, rfl⟩
    refine ⟨k + 3, ?_⟩
    have key : ∀ k, 2000000 ≤ k → ∃ r c, spec_AllowancesLeft.f k a l = some (r, c) ∧ impl_AllowancesLeft.f k a l = some (r, c) ∧ r.length ≤ l.length := by
      intro k hk
      unfold spec_AllowancesLeft.f impl_AllowancesLeft.f impl_allowancesOk.f spec_l16Value.f
      simp only [spec_in, impl_in, Option.bind_some]
      obtain ⟨k, rfl⟩ : ∃ k', k = k' + 1 := ⟨k - 1, by omega⟩
      have bad : spec_AllowancesLeft.j0 (k + 1) a l true = some ([], 2) := by simp only [spec_AllowancesLeft.j0]; simp
      have hu : spec_l16Used.f (k + 1) l = some (l.all (fun x => decide (0 ≤ x ∧ x ≤ 1000000000000)) && decide ((l.length : Int) ≤ 64)) := by
        exact used_l0 l (by omega) l.length 0 (k + 1) (by omega) (by omega)
      rw [hu]
      unfold impl_allWithin.f
      by_cases h1 : 0 ≤ a ∧ a ≤ 1000000000000
      · rw [decide_eq_true h1]
        simp only [if_true, Option.bind_some, show decide ((0 : Int) ≤ 0 ∧ (0 : Int) ≤ 1000) = true from rfl]
        by_cases h2 : (l.length : Int) ≤ 64
        · rw [if_pos h2, decide_eq_true h2]
          simp only [Option.bind_some, Bool.and_true]
          cases h3 : (l.all fun x => decide (0 ≤ x ∧ x ≤ 1000000000000)) with
          | false =>
            simp only [Bool.not_false, Bool.false_eq_true, if_false]
            exact ⟨_, _, bad, rfl, by simp⟩
          | true =>
            simp only [Bool.not_true, if_true]
            have hall : ∀ j, j < l.length → 0 ≤ l.getD j 0 ∧ l.getD j 0 ≤ 1000000000000 := fun j hj => of_decide_eq_true (List.all_eq_true.1 h3 (l.getD j 0) (by rw [getD_lt hj]; exact List.getElem_mem hj))
            obtain ⟨r, m', e1, e2, e3⟩ := both_l0 a h1.1 h1.2 l (by omega) hall l.length 0 k [] 0 0 (by omega) (by omega) rfl (by omega) (by omega)
            obtain ⟨r', m'', e1', e2', e3'⟩ := both_l0 a h1.1 h1.2 l (by omega) hall l.length 0 (k + 1) [] 0 0 (by omega) (by omega) rfl (by omega) (by omega)
            have em := spec_AllowancesLeft.mono_l k
            have e4 : spec_AllowancesLeft.l0 (k + 1) a l [] 0 ((0 : Nat) : Int) = some (r, 0) := em.2 a l [] 0 ((0 : Nat) : Int) (r, 0) e1
            rw [e4] at e1'
            have e5 : r = r' := by injection e1' with h; injection h
            subst e5
            refine ⟨r, 0, ?_, ?_, by omega⟩
            · simp only [spec_AllowancesLeft.j0]
              rw [if_neg (by simp)]
              exact e1
            · unfold impl_allowances.f
              have e6 : impl_allowances.l0 (k + 1) a [] 0 0 l (l.length : Int) 0 = some (r, m'') := e2'
              rw [e6]; rfl
        · rw [if_neg h2, decide_eq_false h2]
          simp only [Bool.and_false, Bool.not_false, Option.bind_some, Bool.false_eq_true, if_false]
          exact ⟨_, _, bad, rfl, by simp⟩
      · rw [decide_eq_false h1]
        simp only [Bool.false_eq_true, if_false, Option.bind_some]
        exact ⟨_, _, bad, rfl, by simp⟩
    obtain ⟨r, c, s3, i3, hr⟩ := key (k + 3) (by omega)
    obtain ⟨r', c', s1, i1, hr'⟩ := key (k + 1) (by omega)
    have sm := spec_AllowancesLeft.mono a l (k + 2) _ (spec_AllowancesLeft.mono a l (k + 1) _ s1)
    rw [s3] at sm
    have e5 : (r, c) = (r', c') := Option.some.inj sm
    injection e5 with e6 e7
    subst e6 e7
    unfold laws_FnExactAllowancesLeft.f
    have e : (c != c) = false := by simp
    have hm := mark_held r (by omega)
    have hml := mark_some l (by omega)
    obtain ⟨ml, hml1⟩ := hml (k + 2) (by omega)
    obtain ⟨m', hm1, hm2⟩ := hm (k + 1) (by omega)
    rw [if_neg (by omega)]
    simp only [toI l (by omega) (k + 3) (by omega), s3, i3, Option.bind_some, eqI r (by omega) (k + 3) (by omega), if_true, e]
    simp only [laws_FnExactAllowancesLeft.j0]
    rw [if_neg (by simp)]
    simp only [toI l (by omega) (k + 2) (by omega), Option.bind_some, eqI l (by omega) (k + 2) (by omega), if_true, hml1, eqI r (by omega) (k + 2) (by omega), e]
    rw [if_neg (by omega)]
    simp only [laws_FnExactAllowancesLeft.j1]
    rw [if_neg (by simp)]
    simp only [hm1, hm2 (k + 1) (by omega), Option.bind_some, if_true, toI l (by omega) (k + 1) (by omega), i1, eqI r (by omega) (k + 1) (by omega), e]
    rw [if_neg (by omega)]
    simp only [laws_FnExactAllowancesLeft.j2]
    rw [if_neg (by simp)]
    simp only [hm2 k (by omega), Option.bind_some, if_true]
    rw [if_neg (by omega)]
  · refine ⟨0, ?_⟩
    unfold laws_FnExactAllowancesLeft.f
    rw [if_pos (by omega)]

end Go.Proofs.Ytkacnmgcgakioaa.Pure
