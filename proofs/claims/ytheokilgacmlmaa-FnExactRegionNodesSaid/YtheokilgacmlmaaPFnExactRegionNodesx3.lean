-- written by wip/xprint.py, a program of this session, for this claim; not trusted: Lean checks it.
import Derived.Test.YtheokilgacmlmaaPFnExactRegionNodesx0
import Derived.Test.YtheokilgacmlmaaPFnExactRegionNodesx2
namespace Go.Proofs.Ytheokilgacmlmaa.PFnExactRegionNodes
open Go.RowKit Go.Proofs.YtheokilgacmlmaaW.PrintWords Go.Proofs.YtheokilgacmlmaaW.PrintLast Go.Proofs.YtheokilgacmlmaaW.PrintMore
attribute [local go_sem] leq_less_ max2_int min2_int max_two min_two max_three min_three max_four min_four   -- for this text's walks alone
set_option linter.unusedVariables false
set_option linter.unusedSimpArgs false

/-! ### laws_eqValveS: function 19 -/
def laws_eqValveS.l0 : Nat → List (S51) → List (S51) → Int → Option (Bool)
 | 0, _, _, _ => none
 | k + 1, x0, x1, x5 => if x5 < (x0.length : Int) then (if 0 ≤ x5 then (if x5 < (x1.length : Int) then ((laws_eqValve.f ((rd_T51 x0 x5).f0) ((rd_T51 x0 x5).f1) ((rd_T51 x0 x5).f2) ((rd_T51 x1 x5).f0) ((rd_T51 x1 x5).f1) ((rd_T51 x1 x5).f2)).bind fun t164 => (if t164 = true then (laws_eqValveS.l0 k x0 x1 (wrap64 (x5 + 1))) else (some false))) else (none)) else (none)) else (some true)
def laws_eqValveS.f (k : Nat) (l0 : List (S51)) (l1 : List (S51)) : Option (Bool) := if (l0.length : Int) = (l1.length : Int) then (laws_eqValveS.l0 k l0 l1 0) else (some false)
theorem laws_eqValveS.mono_l : ∀ k, (∀ y0 y1 y2, LeO (laws_eqValveS.l0 k y0 y1 y2) (laws_eqValveS.l0 (k + 1) y0 y1 y2))
 | 0 => fun _ _ _ r h => by simp [laws_eqValveS.l0] at h
 | k + 1 => by
  have ih0 := laws_eqValveS.mono_l k
  ·intro y0 y1 y2
   unfold laws_eqValveS.l0
   repeat' first
   | (with_reducible exact ih0 _ _ _)
   | (with_reducible exact LeO.refl _)
   | (with_reducible exact LeO.none _)
   | (with_reducible refine LeO.ite ?_ ?_)
   | (with_reducible refine LeO.bind ?_ (fun _ => ?_))
theorem laws_eqValveS.mono : ∀ a0 a1 k, LeO (laws_eqValveS.f k a0 a1) (laws_eqValveS.f (k + 1) a0 a1) := by
 intro a0 a1 k; have ih0 := laws_eqValveS.mono_l k; unfold laws_eqValveS.f
 repeat' first
   | (with_reducible exact ih0 _ _ _)
   | (with_reducible exact LeO.refl _)
   | (with_reducible exact LeO.none _)
   | (with_reducible refine LeO.ite ?_ ?_)
   | (with_reducible refine LeO.bind ?_ (fun _ => ?_))
def laws_eqValveS.T6 : Bool × List (List Nat × List Nat) := (true, [([], []), ([], []), ([0, 1], [0, 1]), ([2], [2]), ([], []), ([], []), ([4, 5], [4, 5]), ([6], [6]), ([3, 7], [3, 7]), ([8], [8])])
def laws_eqValveS.B6 : List Nat := [0, 0, 3, 7, 0, 0, 48, 112, 255, 511]
theorem laws_eqValveS.tab6 : rtab .any (opsOf Try.f19 6) = laws_eqValveS.T6 := by kernel_rfl
theorem laws_eqValveS.bits6 : waitsOk laws_eqValveS.T6.2 laws_eqValveS.B6 = true := by kernel_rfl
set_option maxHeartbeats 8000000 in
set_option maxRecDepth 100000 in
theorem laws_eqValveS.calls (k : Nat) (A0 : Option Addr) (c0 : Nat) (l0 : List (S51)) (A1 : Option Addr) (c1 : Nat) (l1 : List (S51)) (r : Bool) (w : World) (hr0 : Kd.C k51 w A0 l0.length l0) (hc0 : l0.length ≤ c0) (hr1 : Kd.C k51 w A1 l1.length l1) (hc1 : l1.length ≤ c1) (h : laws_eqValveS.f k l0 l1 = some r) :
  Calls Try.prog 19 #[.slice A0 l0.length c0, .slice A1 l1.length c1] w fun e w' => e = .returned (.bool r) ∧ Below w.heap.size w w' := by
 have hu51 := Try.underlying51; have HR0 := a_ hr0; have HC0 := a_ hc0; clear hr0 hc0; have HR1 := a_ hr1; have HC1 := a_ hc1; clear hr1 hc1; have HB := a_ (Below.refl w.heap.size w); have H : (if (l0.length : Int) = (l1.length : Int) then (laws_eqValveS.l0 k l0 l1 0) else (some false)) = some r := h; clear h; by_cases c3 : (l0.length : Int) = (l1.length : Int)
 ·rw [if_pos c3] at H; have c3b0 : ((l0.length : Int) == (l1.length : Int)) = true := b1_ c3; have c3b1 : ((l0.length : Int) != (l1.length : Int)) = false := b4_ c3; have c3b2 : (l0.length == l1.length) = true := (by first | simpa using c3 | (simp at c3 ⊢; omega)); clear c3; have H' := a_ H; clear H; go_enter Try.func19, Try.ntmps19; go_wp2; go_loopg [5] k (fun kq v5 w' => ∃ (x5_1 : Int), v5 = .int .i64 x5_1 ∧ Aside0 (laws_eqValveS.l0 kq l0 l1 x5_1 = some r) ∧ Aside0 (kq ≤ k) ∧ Aside0 (Below w.heap.size w w'))
  case atStart => exact ⟨(0), t6_, H', ⟨Nat.le_refl _⟩, ⟨t1_⟩⟩
  case round =>
   clear H'; (try clear c1); (try clear p2); (try clear c3); (try clear c3b0); (try clear c3b1); (try clear c3b2); obtain ⟨x5_1, rfl, HA, HK1, HB⟩ := hrel; cases gk with
   | zero => exact absurd HA.out (by simp [laws_eqValveS.l0])
   | succ k1 =>
    have H := HA.out; clear HA; simp only [laws_eqValveS.l0] at H; by_cases c4 : x5_1 < (l0.length : Int)
    ·rw [if_pos c4] at H; have c4b0 : decide (x5_1 < (l0.length : Int)) = true := d1_ c4; clear c4; by_cases c5 : 0 ≤ x5_1
     ·rw [if_pos c5] at H; have c5b0 : decide (0 ≤ x5_1) = true := d1_ c5; clear c5; by_cases c6 : x5_1 < (l1.length : Int)
      ·rw [if_pos c6] at H; have c6b0 : decide (x5_1 < (l1.length : Int)) = true := d1_ c6; clear c6; replace H := be_ H; obtain ⟨t164, A70, H⟩ := H; have A7 := a_ A70; clear A70; by_cases c8 : t164 = true
       ·subst c8; replace H := (if_pos rfl).symm.trans H; have H' := a_ H; clear H; (try go_wp2); have n0_ := a_ (below_drew1 HB.out); clear HB; have HB := n0_; clear n0_; have p162 : 0 ≤ (x5_1 : Int) := od_; have q162 : x5_1 < (l0.length : Int) := od_; obtain ⟨ad162, e162, hx162_0, hx162_1, hx162_2⟩ := at_T51 HR0.out x5_1 p162 q162; have hw162_2 := hx162_2; have hw162_1 := hx162_1; have hw162_0 := hx162_0; cases e162; replace hx162_0 := hb_ HB hx162_0; replace hx162_1 := hb_ HB hx162_1; replace hx162_2 := hb_ HB hx162_2; replace p162 := eq_true p162; replace q162 := eq_true q162; have p163 : 0 ≤ (x5_1 : Int) := od_; have q163 : x5_1 < (l1.length : Int) := od_; obtain ⟨ad163, e163, hx163_0, hx163_1, hx163_2⟩ := at_T51 HR1.out x5_1 p163 q163; have hw163_2 := hx163_2; have hw163_1 := hx163_1; have hw163_0 := hx163_0; cases e163; replace hx163_0 := hb_ HB hx163_0; replace hx163_1 := hb_ HB hx163_1; replace hx163_2 := hb_ HB hx163_2; replace p163 := eq_true p163; replace q163 := eq_true q163; refine start_ (n := 10) (S := fun w' => w'.cell? (ad162.add ((x5_1).toNat * 3)) = some (.string ((rd_T51 l0 x5_1).f0)) ∧ w'.cell? ⟨(ad162.add ((x5_1).toNat * 3)).block, (ad162.add ((x5_1).toNat * 3)).off + 1, none⟩ = some (.string ((rd_T51 l0 x5_1).f1)) ∧ w'.cell? ⟨(ad162.add ((x5_1).toNat * 3)).block, (ad162.add ((x5_1).toNat * 3)).off + 2, none⟩ = some (.bool ((rd_T51 l0 x5_1).f2)) ∧ w'.cell? (ad163.add ((x5_1).toNat * 3)) = some (.string ((rd_T51 l1 x5_1).f0)) ∧ w'.cell? ⟨(ad163.add ((x5_1).toNat * 3)).block, (ad163.add ((x5_1).toNat * 3)).off + 1, none⟩ = some (.string ((rd_T51 l1 x5_1).f1)) ∧ w'.cell? ⟨(ad163.add ((x5_1).toNat * 3)).block, (ad163.add ((x5_1).toNat * 3)).off + 2, none⟩ = some (.bool ((rd_T51 l1 x5_1).f2))) (ds := []) (tf 0 10) t9_ rfl rfl ⟨(hb_ HB hw162_0 :), (hb_ HB hw162_1 :), (hb_ HB hw162_2 :), (hb_ HB hw163_0 :), (hb_ HB hw163_1 :), (hb_ HB hw163_2 :)⟩ (fun hHeld => ?_); refine with_tabW laws_eqValveS.tab6 laws_eqValveS.bits6 (fun HT_ HW_ => ?_); generalize wr.drew = w9 at HB hx162_0 hx162_1 hx162_2 hx163_0 hx163_1 hx163_2 hHeld ⊢; refine px 0 (some 17) (tf 1 10) HT_ ?_; refine px 1 (some 18) (tf 2 10) HT_ ?_; refine px 2 (some 19) (tf 3 10) HT_ ?_; refine px 4 (some 21) (tb 10 23) HT_ ?_; refine px 5 (some 22) (tb 10 55) HT_ ?_; refine px 6 (some 23) (tb 10 119) HT_ ?_; refine tx (v := ?_) 3 (some 20) (tf 7 10) HT_ HW_ hHeld ?_ ?_; rotate_left; (· rintro w' ⟨s0, s1, s2, s3, s4, s5⟩; go_simp; with_reducible rfl); refine tx (v := ?_) 7 (some 24) (tf 8 10) HT_ HW_ hHeld ?_ ?_; rotate_left; (· rintro w' ⟨s0, s1, s2, s3, s4, s5⟩; go_simp; with_reducible rfl); refine one_ (i := 8) (N := some 25) (tf 9 10) rfl rfl (one_of HT_.out t9_) t31_ (fun K hK => ?_); refine goes_ Try.func34 t9_ rfl #[.agg #[.string ((rd_T51 l0 x5_1).f0), .string ((rd_T51 l0 x5_1).f1), .bool ((rd_T51 l0 x5_1).f2)], .agg #[.string ((rd_T51 l1 x5_1).f0), .string ((rd_T51 l1 x5_1).f1), .bool ((rd_T51 l1 x5_1).f2)]] t85_ rfl rfl t2_ ?_; (with_reducible refine (laws_eqValve.calls ((rd_T51 l0 x5_1).f0) ((rd_T51 l0 x5_1).f1) ((rd_T51 l0 x5_1).f2) ((rd_T51 l1 x5_1).f0) ((rd_T51 l1 x5_1).f1) ((rd_T51 l1 x5_1).f2) true _ A7.out).mono ?_); rintro e w10 ⟨rfl, hb⟩; refine ⟨_, rfl, ?_⟩; have n0_ := a_ (below_step t1_ hb); clear HB; have HB := n0_; clear n0_; (try clear hb); (try clear hb2); (try clear hk); (try clear hi); refine hK.out _ _ ⟨(hb_ HB hw162_0 :), (hb_ HB hw162_1 :), (hb_ HB hw162_2 :), (hb_ HB hw163_0 :), (hb_ HB hw163_1 :), (hb_ HB hw163_2 :)⟩ (fun hHeld => ?_); clear hK K; refine norm_ (a' := ?_) ?_ ?_; rotate_left
        ·show Act.put _ (some 25) _ = _
         simp only [Act.put, List.setIfInBounds_toArray, List.set_cons_zero, List.set_cons_succ, i64_w, i32_w]; rfl
        refine px 9 (some 26) (tf 10 10) HT_ ?_; refine done_ (done_of HT_.out t9_) ?_; (try go_wp2); go_roundg k1
        case measure => have := HK1.out; omega
        case rel => exact ⟨(wrap64 (x5_1 + 1)), t6_, H', ⟨t50_⟩, ⟨t1_⟩⟩
       ·replace c8 := Bool.eq_false_iff.mpr c8; subst c8; replace H := (if_neg (show ¬ (false = true) by decide)).symm.trans H; obtain rfl := Option.some.inj H; (try go_wp2); have n0_ := a_ (below_drew1 HB.out); clear HB; have HB := n0_; clear n0_; have p162 : 0 ≤ (x5_1 : Int) := od_; have q162 : x5_1 < (l0.length : Int) := od_; obtain ⟨ad162, e162, hx162_0, hx162_1, hx162_2⟩ := at_T51 HR0.out x5_1 p162 q162; have hw162_2 := hx162_2; have hw162_1 := hx162_1; have hw162_0 := hx162_0; cases e162; replace hx162_0 := hb_ HB hx162_0; replace hx162_1 := hb_ HB hx162_1; replace hx162_2 := hb_ HB hx162_2; replace p162 := eq_true p162; replace q162 := eq_true q162; have p163 : 0 ≤ (x5_1 : Int) := od_; have q163 : x5_1 < (l1.length : Int) := od_; obtain ⟨ad163, e163, hx163_0, hx163_1, hx163_2⟩ := at_T51 HR1.out x5_1 p163 q163; have hw163_2 := hx163_2; have hw163_1 := hx163_1; have hw163_0 := hx163_0; cases e163; replace hx163_0 := hb_ HB hx163_0; replace hx163_1 := hb_ HB hx163_1; replace hx163_2 := hb_ HB hx163_2; replace p163 := eq_true p163; replace q163 := eq_true q163; refine start_ (n := 10) (S := fun w' => w'.cell? (ad162.add ((x5_1).toNat * 3)) = some (.string ((rd_T51 l0 x5_1).f0)) ∧ w'.cell? ⟨(ad162.add ((x5_1).toNat * 3)).block, (ad162.add ((x5_1).toNat * 3)).off + 1, none⟩ = some (.string ((rd_T51 l0 x5_1).f1)) ∧ w'.cell? ⟨(ad162.add ((x5_1).toNat * 3)).block, (ad162.add ((x5_1).toNat * 3)).off + 2, none⟩ = some (.bool ((rd_T51 l0 x5_1).f2)) ∧ w'.cell? (ad163.add ((x5_1).toNat * 3)) = some (.string ((rd_T51 l1 x5_1).f0)) ∧ w'.cell? ⟨(ad163.add ((x5_1).toNat * 3)).block, (ad163.add ((x5_1).toNat * 3)).off + 1, none⟩ = some (.string ((rd_T51 l1 x5_1).f1)) ∧ w'.cell? ⟨(ad163.add ((x5_1).toNat * 3)).block, (ad163.add ((x5_1).toNat * 3)).off + 2, none⟩ = some (.bool ((rd_T51 l1 x5_1).f2))) (ds := []) (tf 0 10) t9_ rfl rfl ⟨(hb_ HB hw162_0 :), (hb_ HB hw162_1 :), (hb_ HB hw162_2 :), (hb_ HB hw163_0 :), (hb_ HB hw163_1 :), (hb_ HB hw163_2 :)⟩ (fun hHeld => ?_); refine with_tabW laws_eqValveS.tab6 laws_eqValveS.bits6 (fun HT_ HW_ => ?_); generalize wr.drew = w11 at HB hx162_0 hx162_1 hx162_2 hx163_0 hx163_1 hx163_2 hHeld ⊢; refine px 0 (some 17) (tf 1 10) HT_ ?_; refine px 1 (some 18) (tf 2 10) HT_ ?_; refine px 2 (some 19) (tf 3 10) HT_ ?_; refine px 4 (some 21) (tb 10 23) HT_ ?_; refine px 5 (some 22) (tb 10 55) HT_ ?_; refine px 6 (some 23) (tb 10 119) HT_ ?_; refine tx (v := ?_) 3 (some 20) (tf 7 10) HT_ HW_ hHeld ?_ ?_; rotate_left; (· rintro w' ⟨s0, s1, s2, s3, s4, s5⟩; go_simp; with_reducible rfl); refine tx (v := ?_) 7 (some 24) (tf 8 10) HT_ HW_ hHeld ?_ ?_; rotate_left; (· rintro w' ⟨s0, s1, s2, s3, s4, s5⟩; go_simp; with_reducible rfl); refine one_ (i := 8) (N := some 25) (tf 9 10) rfl rfl (one_of HT_.out t9_) t31_ (fun K hK => ?_); refine goes_ Try.func34 t9_ rfl #[.agg #[.string ((rd_T51 l0 x5_1).f0), .string ((rd_T51 l0 x5_1).f1), .bool ((rd_T51 l0 x5_1).f2)], .agg #[.string ((rd_T51 l1 x5_1).f0), .string ((rd_T51 l1 x5_1).f1), .bool ((rd_T51 l1 x5_1).f2)]] t85_ rfl rfl t2_ ?_; (with_reducible refine (laws_eqValve.calls ((rd_T51 l0 x5_1).f0) ((rd_T51 l0 x5_1).f1) ((rd_T51 l0 x5_1).f2) ((rd_T51 l1 x5_1).f0) ((rd_T51 l1 x5_1).f1) ((rd_T51 l1 x5_1).f2) false _ A7.out).mono ?_); rintro e w12 ⟨rfl, hb⟩; refine ⟨_, rfl, ?_⟩; have n0_ := a_ (below_step t1_ hb); clear HB; have HB := n0_; clear n0_; (try clear hb); (try clear hb2); (try clear hk); (try clear hi); refine hK.out _ _ ⟨(hb_ HB hw162_0 :), (hb_ HB hw162_1 :), (hb_ HB hw162_2 :), (hb_ HB hw163_0 :), (hb_ HB hw163_1 :), (hb_ HB hw163_2 :)⟩ (fun hHeld => ?_); clear hK K; refine norm_ (a' := ?_) ?_ ?_; rotate_left
        ·show Act.put _ (some 25) _ = _
         simp only [Act.put, List.setIfInBounds_toArray, List.set_cons_zero, List.set_cons_succ, i64_w, i32_w]; rfl
        refine px 9 (some 26) (tf 10 10) HT_ ?_; refine done_ (done_of HT_.out t9_) ?_; (try go_wp2); go_ret
        exact ⟨t3_, t1_⟩
      ·rw [if_neg c6] at H; exact absurd H t53_
     ·rw [if_neg c5] at H; exact absurd H t53_
    ·rw [if_neg c4] at H; have c4b0 : decide (x5_1 < (l0.length : Int)) = false := d2_ c4; clear c4; obtain rfl := Option.some.inj H; go_wp2; go_ret
     exact ⟨t3_, t1_⟩
 ·rw [if_neg c3] at H; have c3b0 : ((l0.length : Int) == (l1.length : Int)) = false := b2_ c3; have c3b1 : ((l0.length : Int) != (l1.length : Int)) = true := b3_ c3; have c3b2 : (l0.length == l1.length) = false := (by first | simpa using c3 | (simp at c3 ⊢; omega)); obtain rfl := Option.some.inj H; go_enter Try.func19, Try.ntmps19; go_wp2; go_ret
  exact ⟨t3_, t1_⟩

/-! ### spec_l01Small: function 104 -/
def spec_l01Small.f (a0 : Int) : Option (Bool) := if a0 ≥ 97 then (some (decide (a0 ≤ 122))) else (some false)
set_option maxHeartbeats 8000000 in
set_option maxRecDepth 100000 in
theorem spec_l01Small.calls (a0 : Int) (r : Bool) (w : World) (h : spec_l01Small.f a0 = some r) :
  Calls Try.prog 104 #[.int .u8 a0] w fun e w' => e = .returned (.bool r) ∧ Drawn0 w w' := by
 have H : (if a0 ≥ 97 then (some (decide (a0 ≤ 122))) else (some false)) = some r := h; clear h; by_cases c2 : a0 ≥ 97
 ·rw [if_pos c2] at H; have c2b0 : decide (97 ≤ a0) = true := d1_ c2; clear c2; obtain rfl := Option.some.inj H; go_enter Try.func104, Try.ntmps104; go_wp2; go_ret
  exact ⟨t6_, t14_⟩
 ·rw [if_neg c2] at H; have c2b0 : decide (97 ≤ a0) = false := d2_ c2; clear c2; obtain rfl := Option.some.inj H; go_enter Try.func104, Try.ntmps104; go_wp2; go_ret
  exact ⟨t6_, t14_⟩

/-! ### spec_l01Digit: function 105 -/
def spec_l01Digit.f (a0 : Int) : Option (Bool) := if a0 ≥ 48 then (some (decide (a0 ≤ 57))) else (some false)
set_option maxHeartbeats 8000000 in
set_option maxRecDepth 100000 in
theorem spec_l01Digit.calls (a0 : Int) (r : Bool) (w : World) (h : spec_l01Digit.f a0 = some r) :
  Calls Try.prog 105 #[.int .u8 a0] w fun e w' => e = .returned (.bool r) ∧ Drawn0 w w' := by
 have H : (if a0 ≥ 48 then (some (decide (a0 ≤ 57))) else (some false)) = some r := h; clear h; by_cases c2 : a0 ≥ 48
 ·rw [if_pos c2] at H; have c2b0 : decide (48 ≤ a0) = true := d1_ c2; clear c2; obtain rfl := Option.some.inj H; go_enter Try.func105, Try.ntmps105; go_wp2; go_ret
  exact ⟨t6_, t14_⟩
 ·rw [if_neg c2] at H; have c2b0 : decide (48 ≤ a0) = false := d2_ c2; clear c2; obtain rfl := Option.some.inj H; go_enter Try.func105, Try.ntmps105; go_wp2; go_ret
  exact ⟨t6_, t14_⟩

/-! ### spec_l01Name: function 72 -/
mutual
def spec_l01Name.j0 : Nat → ByteArray → Bool → Option (Bool)
 | 0, _, _ => none
 | k + 1, x0, x16 => if x16 = true then (some false) else (spec_l01Name.l0 k x0 0)
def spec_l01Name.l0 : Nat → ByteArray → Int → Option (Bool)
 | 0, _, _ => none
 | k + 1, x0, x3 => if x3 < (x0.size : Int) then (if 0 ≤ x3 then ((spec_l01Small.f (bt x0 x3)).bind fun t166 => (if t166 = true then (spec_l01Name.l0 k x0 (wrap64 (x3 + 1))) else ((spec_l01Digit.f (bt x0 x3)).bind fun t167 => (if t167 = true then (spec_l01Name.l0 k x0 (wrap64 (x3 + 1))) else (some false))))) else (none)) else (some true)
end
def spec_l01Name.f (k : Nat) (a0 : ByteArray) : Option (Bool) := if a0.toList = ([] : List UInt8) then (spec_l01Name.j0 k a0 true) else (if (a0.size : Int) > 10 then (spec_l01Name.j0 k a0 true) else (if 0 < (a0.size : Int) then ((spec_l01Small.f (bt a0 0)).bind fun t165 => (spec_l01Name.j0 k a0 (!t165))) else (none)))
theorem spec_l01Name.mono_l : ∀ k, (∀ y0 y1, LeO (spec_l01Name.j0 k y0 y1) (spec_l01Name.j0 (k + 1) y0 y1)) ∧ (∀ y0 y1, LeO (spec_l01Name.l0 k y0 y1) (spec_l01Name.l0 (k + 1) y0 y1))
 | 0 => ⟨fun _ _ r h => by simp [spec_l01Name.j0] at h, fun _ _ r h => by simp [spec_l01Name.l0] at h⟩
 | k + 1 => by
  obtain ⟨ih0, ih1⟩ := spec_l01Name.mono_l k
  refine ⟨?_, ?_⟩ <;> intros <;> first | unfold spec_l01Name.j0 | unfold spec_l01Name.l0
  all_goals
   repeat' first
   | (with_reducible exact ih0 _ _)
   | (with_reducible exact ih1 _ _)
   | (with_reducible exact LeO.refl _)
   | (with_reducible exact LeO.none _)
   | (with_reducible refine LeO.ite ?_ ?_)
   | (with_reducible refine LeO.bind ?_ (fun _ => ?_))
theorem spec_l01Name.mono : ∀ a0 k, LeO (spec_l01Name.f k a0) (spec_l01Name.f (k + 1) a0) := by
 intro a0 k; obtain ⟨ih0, ih1⟩ := spec_l01Name.mono_l k; unfold spec_l01Name.f
 repeat' first
   | (with_reducible exact ih0 _ _)
   | (with_reducible exact ih1 _ _)
   | (with_reducible exact LeO.refl _)
   | (with_reducible exact LeO.none _)
   | (with_reducible refine LeO.ite ?_ ?_)
   | (with_reducible refine LeO.bind ?_ (fun _ => ?_))
set_option maxHeartbeats 8000000 in
set_option maxRecDepth 100000 in
theorem spec_l01Name.calls (k : Nat) (a0 : ByteArray) (r : Bool) (w : World) (h : spec_l01Name.f k a0 = some r) :
  Calls Try.prog 72 #[.string a0] w fun e w' => e = .returned (.bool r) ∧ Drawn0 w w' := by
 have H : (if a0.toList = ([] : List UInt8) then (spec_l01Name.j0 k a0 true) else (if (a0.size : Int) > 10 then (spec_l01Name.j0 k a0 true) else (if 0 < (a0.size : Int) then ((spec_l01Small.f (bt a0 0)).bind fun t165 => (spec_l01Name.j0 k a0 (!t165))) else (none)))) = some r := h; clear h; have HC2 := a_ H; clear H; go_enter Try.func72, Try.ntmps72; go_upto_region 1 with (fail); go_cut [16] (fun v16 wc => ∃ (kq : Nat) (x16_1 : Bool), v16 = .bool x16_1 ∧ Aside0 (spec_l01Name.j0 kq a0 x16_1 = some r) ∧ Aside0 (kq ≤ k) ∧ Drawn0 w wc)
 case first =>
  have H := HC2.out; clear HC2; by_cases c3 : a0.toList = ([] : List UInt8)
  ·rw [if_pos c3] at H; have c3b0 : (a0.toList == ([] : List UInt8)) = true := b1_ c3; have c3b1 : (a0.toList != ([] : List UInt8)) = false := b4_ c3; clear c3; (first | rw [c3b0] | (simp only [i64_w, i32_w]; rw [c3b0]) | skip); have H' := a_ H; clear H; go_wp2; go_meet
   case rel => exact ⟨_, (true), t6_, H', ⟨t52_⟩, t14_⟩
  ·rw [if_neg c3] at H; have c3b0 : (a0.toList == ([] : List UInt8)) = false := b2_ c3; have c3b1 : (a0.toList != ([] : List UInt8)) = true := b3_ c3; (first | rw [c3b0] | (simp only [i64_w, i32_w]; rw [c3b0]) | skip); by_cases c4 : (a0.size : Int) > 10
   ·rw [if_pos c4] at H; have c4b0 : decide (10 < (a0.size : Int)) = true := d1_ c4; have c4b1 : decide (10 < a0.size) = true := decide_eq_true t23_; clear c4; have H' := a_ H; clear H; go_wp2; go_meet
    case rel => exact ⟨_, (true), t6_, H', ⟨t52_⟩, t14_⟩
   ·rw [if_neg c4] at H; have c4b0 : decide (10 < (a0.size : Int)) = false := d2_ c4; have c4b1 : decide (10 < a0.size) = false := decide_eq_false t23_; clear c4; by_cases c5 : 0 < (a0.size : Int)
    ·rw [if_pos c5] at H; have c5b0 : decide (0 < (a0.size : Int)) = true := d1_ c5; have c5b1 : decide (0 < a0.size) = true := decide_eq_true t23_; clear c5; replace H := be_ H; obtain ⟨t165, A70, H⟩ := H; have A7 := a_ A70; clear A70; have H' := a_ H; clear H; have p6 : 0 ≤ (0 : Int) := t23_; have q6 : 0 < a0.size := (by have : (0 : Int) < (a0.size : Int) := od_; omega); have hx6 : ∀ h : 0 < a0.size, ((a0[0]'h).toNat : Int) = bt a0 0 := bt_at a0 0; clear p6; have qi6 : (0 < (a0.size : Int)) = True := eq_true (od_); replace q6 := eq_true q6; go_wp2_with (first | (go_at_call 104; (with_reducible refine (spec_l01Small.calls (bt a0 0) t165 _ A7.out).mono ?_); rintro e w' ⟨rfl, ⟨nd, rfl⟩⟩)); go_meet
     case rel => exact ⟨_, (!t165), t6_, H', ⟨t52_⟩, t14_⟩
    ·rw [if_neg c5] at H; exact absurd H t53_
 case rest =>
  clear HC2; (try clear p2); (try clear c3); (try clear c3b0); (try clear c3b1); (try clear c4); (try clear c4b0); (try clear c4b1); (try clear c5); (try clear c5b0); (try clear c5b1); (try clear p6); (try clear q6); (try clear hx6); (try clear qi6); (try clear c7); (try clear p6); (try clear q6); obtain ⟨kq, x16_1, rfl, HA, HJ1, ⟨mc1, rfl⟩⟩ := hcut; cases kq with
  | zero => exact absurd HA.out (by simp [spec_l01Name.j0])
  | succ kj1 =>
   have H := HA.out; clear HA; simp only [spec_l01Name.j0] at H; by_cases c8 : x16_1 = true
   ·subst c8; replace H := (if_pos rfl).symm.trans H; obtain rfl := Option.some.inj H; go_wp2; go_ret
    exact ⟨t6_, t14_⟩
   ·replace c8 := Bool.eq_false_iff.mpr c8; subst c8; replace H := (if_neg (show ¬ (false = true) by decide)).symm.trans H; have H' := a_ H; clear H; go_wp2; go_loopg [3] kj1 (fun kq v3 w' => ∃ (x3_2 : Int), v3 = .int .i64 x3_2 ∧ Aside0 (spec_l01Name.l0 kq a0 x3_2 = some r) ∧ Aside0 (kq ≤ kj1) ∧ Drawn0 w w')
    case atStart => exact ⟨(0), t6_, H', ⟨Nat.le_refl _⟩, t14_⟩
    case round =>
     clear H'; (try clear c1); (try clear p2); (try clear c3); (try clear c3b0); (try clear c3b1); (try clear c4); (try clear c4b0); (try clear c4b1); (try clear c5); (try clear c5b0); (try clear c5b1); (try clear p6); (try clear q6); (try clear hx6); (try clear qi6); (try clear c7); (try clear c8); (try clear p2); (try clear p6); (try clear q6); obtain ⟨x3_2, rfl, HA, HK2, ⟨m2, rfl⟩⟩ := hrel; cases gk with
     | zero => exact absurd HA.out (by simp [spec_l01Name.l0])
     | succ k2 =>
      have H := HA.out; clear HA; simp only [spec_l01Name.l0] at H; by_cases c9 : x3_2 < (a0.size : Int)
      ·rw [if_pos c9] at H; have c9b0 : decide (x3_2 < (a0.size : Int)) = true := d1_ c9; clear c9; by_cases c10 : 0 ≤ x3_2
       ·rw [if_pos c10] at H; have c10b0 : decide (0 ≤ x3_2) = true := d1_ c10; clear c10; replace H := be_ H; obtain ⟨t166, A120, H⟩ := H; have A12 := a_ A120; clear A120; by_cases c13 : t166 = true
        ·subst c13; replace H := (if_pos rfl).symm.trans H; have H' := a_ H; clear H; have p11 : 0 ≤ (x3_2 : Int) := od_; have q11 : x3_2 < (a0.size : Int) := od_; have hx11 := bt_at a0 x3_2; replace p11 := eq_true p11; replace q11 := eq_true q11; go_wp2_with (first | ((with_reducible refine gate_callee (f := 104) rfl ?_); refine goesL_ (some 26) rfl rfl Try.func104 t9_ rfl #[.int .u8 (bt a0 x3_2)] rfl t2_ ?_; (with_reducible refine (spec_l01Small.calls (bt a0 x3_2) true _ A12.out).mono ?_); rintro e w' ⟨rfl, ⟨nd, rfl⟩⟩; refine ⟨_, rfl, ?_⟩)); go_roundg k2
         case measure => have := HJ1.out; have := HK2.out; omega
         case rel => exact ⟨(wrap64 (x3_2 + 1)), t6_, H', ⟨(by have := HJ1.out; have := HK2.out; omega)⟩, t14_⟩
        ·replace c13 := Bool.eq_false_iff.mpr c13; subst c13; replace H := (if_neg (show ¬ (false = true) by decide)).symm.trans H; replace H := be_ H; obtain ⟨t167, A150, H⟩ := H; have A15 := a_ A150; clear A150; by_cases c16 : t167 = true
         ·subst c16; replace H := (if_pos rfl).symm.trans H; have H' := a_ H; clear H; have p11 : 0 ≤ (x3_2 : Int) := od_; have q11 : x3_2 < (a0.size : Int) := od_; have hx11 := bt_at a0 x3_2; replace p11 := eq_true p11; replace q11 := eq_true q11; go_wp2_with (first | ((with_reducible refine gate_callee (f := 104) rfl ?_); refine goesL_ (some 26) rfl rfl Try.func104 t9_ rfl #[.int .u8 (bt a0 x3_2)] rfl t2_ ?_; (with_reducible refine (spec_l01Small.calls (bt a0 x3_2) false _ A12.out).mono ?_); rintro e w' ⟨rfl, ⟨nd, rfl⟩⟩; refine ⟨_, rfl, ?_⟩; have p14 : 0 ≤ (x3_2 : Int) := od_; have q14 : x3_2 < (a0.size : Int) := od_; have hx14 := bt_at a0 x3_2; replace p14 := eq_true p14; replace q14 := eq_true q14) | (go_at_call 105; (with_reducible refine (spec_l01Digit.calls (bt a0 x3_2) true _ A15.out).mono ?_); rintro e w' ⟨rfl, ⟨nd, rfl⟩⟩)); go_roundg k2
          case measure => have := HJ1.out; have := HK2.out; omega
          case rel => exact ⟨(wrap64 (x3_2 + 1)), t6_, H', ⟨(by have := HJ1.out; have := HK2.out; omega)⟩, t14_⟩
         ·replace c16 := Bool.eq_false_iff.mpr c16; subst c16; replace H := (if_neg (show ¬ (false = true) by decide)).symm.trans H; obtain rfl := Option.some.inj H; have p11 : 0 ≤ (x3_2 : Int) := od_; have q11 : x3_2 < (a0.size : Int) := od_; have hx11 := bt_at a0 x3_2; replace p11 := eq_true p11; replace q11 := eq_true q11; go_wp2_with (first | ((with_reducible refine gate_callee (f := 104) rfl ?_); refine goesL_ (some 26) rfl rfl Try.func104 t9_ rfl #[.int .u8 (bt a0 x3_2)] rfl t2_ ?_; (with_reducible refine (spec_l01Small.calls (bt a0 x3_2) false _ A12.out).mono ?_); rintro e w' ⟨rfl, ⟨nd, rfl⟩⟩; refine ⟨_, rfl, ?_⟩; have p14 : 0 ≤ (x3_2 : Int) := od_; have q14 : x3_2 < (a0.size : Int) := od_; have hx14 := bt_at a0 x3_2; replace p14 := eq_true p14; replace q14 := eq_true q14) | (go_at_call 105; (with_reducible refine (spec_l01Digit.calls (bt a0 x3_2) false _ A15.out).mono ?_); rintro e w' ⟨rfl, ⟨nd, rfl⟩⟩)); go_ret
          exact ⟨t6_, t14_⟩
       ·rw [if_neg c10] at H; exact absurd H t53_
      ·rw [if_neg c9] at H; have c9b0 : decide (x3_2 < (a0.size : Int)) = false := d2_ c9; clear c9; obtain rfl := Option.some.inj H; go_wp2; go_ret
       exact ⟨t6_, t14_⟩

/-! ### spec_l18Pipe: function 81 -/
def spec_l18Pipe.l0 : Nat → List (S33) → List (S51) → Int → Option (Int)
 | 0, _, _, _ => none
 | k + 1, x0, x1, x5 => if 0 < (x0.length : Int) then (if x5 < (((rd_T33 x0 0).f1).length : Int) then (if 0 ≤ x5 then (if 0 < (x1.length : Int) then (if ((rd_T100 ((rd_T33 x0 0).f1) x5).f0).toList = ((rd_T51 x1 0).f1).toList then (some x5) else (spec_l18Pipe.l0 k x0 x1 (wrap64 (x5 + 1)))) else (none)) else (none)) else (some (-1))) else (none)
def spec_l18Pipe.f (k : Nat) (l0 : List (S33)) (l1 : List (S51)) : Option (Int) := spec_l18Pipe.l0 k l0 l1 0
theorem spec_l18Pipe.mono_l : ∀ k, (∀ y0 y1 y2, LeO (spec_l18Pipe.l0 k y0 y1 y2) (spec_l18Pipe.l0 (k + 1) y0 y1 y2))
 | 0 => fun _ _ _ r h => by simp [spec_l18Pipe.l0] at h
 | k + 1 => by
  have ih0 := spec_l18Pipe.mono_l k
  ·intro y0 y1 y2
   unfold spec_l18Pipe.l0
   repeat' first
   | (with_reducible exact ih0 _ _ _)
   | (with_reducible exact LeO.refl _)
   | (with_reducible exact LeO.none _)
   | (with_reducible refine LeO.ite ?_ ?_)
   | (with_reducible refine LeO.bind ?_ (fun _ => ?_))
theorem spec_l18Pipe.mono : ∀ a0 a1 k, LeO (spec_l18Pipe.f k a0 a1) (spec_l18Pipe.f (k + 1) a0 a1) := by
 intro a0 a1 k; have ih0 := spec_l18Pipe.mono_l k; unfold spec_l18Pipe.f
 repeat' first
   | (with_reducible exact ih0 _ _ _)
   | (with_reducible exact LeO.refl _)
   | (with_reducible exact LeO.none _)
   | (with_reducible refine LeO.ite ?_ ?_)
   | (with_reducible refine LeO.bind ?_ (fun _ => ?_))
set_option maxHeartbeats 8000000 in
set_option maxRecDepth 100000 in
theorem spec_l18Pipe.calls (k : Nat) (A0 : Option Addr) (c0 : Nat) (l0 : List (S33)) (A1 : Option Addr) (c1 : Nat) (l1 : List (S51)) (r : Int) (w : World) (hr0 : Kd.C k33 w A0 l0.length l0) (hc0 : l0.length ≤ c0) (hr1 : Kd.C k51 w A1 l1.length l1) (hc1 : l1.length ≤ c1) (h : spec_l18Pipe.f k l0 l1 = some r) :
  Calls Try.prog 81 #[.pointer A0, .pointer A1] w fun e w' => e = .returned (.int .i64 r) ∧ Drawn0 w w' := by
 have HR0 := a_ hr0; have HC0 := a_ hc0; clear hr0 hc0; have HR1 := a_ hr1; have HC1 := a_ hc1; clear hr1 hc1; have H : (spec_l18Pipe.l0 k l0 l1 0) = some r := h; clear h; have H' := a_ H; clear H; go_enter Try.func81, Try.ntmps81; go_wp2; (repeat (go_quiet (fail); try go_wp2)); go_loopg [5] k (fun kq v5 w' => ∃ (x5_1 : Int), v5 = .int .i64 x5_1 ∧ Aside0 (spec_l18Pipe.l0 kq l0 l1 x5_1 = some r) ∧ Aside0 (kq ≤ k) ∧ Drawn0 w w')
 case atStart => exact ⟨(0), t6_, H', ⟨Nat.le_refl _⟩, t14_⟩
 case round =>
  clear H'; (try clear c1); (try clear p2); obtain ⟨x5_1, rfl, HA, HK1, ⟨m1, rfl⟩⟩ := hrel; cases gk with
  | zero => exact absurd HA.out (by simp [spec_l18Pipe.l0])
  | succ k1 =>
   have H := HA.out; clear HA; simp only [spec_l18Pipe.l0] at H; by_cases c3 : 0 < (l0.length : Int)
   ·rw [if_pos c3] at H; have c3b0 : decide (0 < (l0.length : Int)) = true := d1_ c3; have c3b1 : decide (0 < l0.length) = true := decide_eq_true t23_; clear c3; by_cases c4 : x5_1 < (((rd_T33 l0 0).f1).length : Int)
    ·rw [if_pos c4] at H; have c4b0 : decide (x5_1 < (((rd_T33 l0 0).f1).length : Int)) = true := d1_ c4; clear c4; by_cases c5 : 0 ≤ x5_1
     ·rw [if_pos c5] at H; have c5b0 : decide (0 ≤ x5_1) = true := d1_ c5; clear c5; by_cases c6 : 0 < (l1.length : Int)
      ·rw [if_pos c6] at H; have c6b0 : decide (0 < (l1.length : Int)) = true := d1_ c6; have c6b1 : decide (0 < l1.length) = true := decide_eq_true t23_; clear c6; by_cases c7 : ((rd_T100 ((rd_T33 l0 0).f1) x5_1).f0).toList = ((rd_T51 l1 0).f1).toList
       ·rw [if_pos c7] at H; have c7b0 : (((rd_T100 ((rd_T33 l0 0).f1) x5_1).f0).toList == ((rd_T51 l1 0).f1).toList) = true := b1_ c7; have c7b1 : (((rd_T100 ((rd_T33 l0 0).f1) x5_1).f0).toList != ((rd_T51 l1 0).f1).toList) = false := b4_ c7; clear c7; obtain rfl := Option.some.inj H; have p168 : 0 ≤ (0 : Int) := t23_; have q168 : 0 < (l0.length : Int) := od_; obtain ⟨ad168, A168_0, c168_0, A168_1, c168_1, e168, hx168_0, hx168_1, hl168_0, hi168_0, hl168_1, hi168_1⟩ := at_T33 HR0.out 0 p168 q168; cases e168; have qi168 : (0 < l0.length) = True := eq_true t23_; (try rw [za_] at hx168_0); (try rw [za_] at hx168_1); have HR168_0 := a_ hi168_0; have HC168_0 := a_ hl168_0; clear hi168_0 hl168_0; have HR168_1 := a_ hi168_1; have HC168_1 := a_ hl168_1; clear hi168_1 hl168_1; replace p168 := eq_true p168; replace q168 := eq_true q168; have p169 : 0 ≤ (0 : Int) := t23_; have q169 : 0 < (l0.length : Int) := od_; obtain ⟨ad169, A169_0, c169_0, A169_1, c169_1, e169, hx169_0, hx169_1, hl169_0, hi169_0, hl169_1, hi169_1⟩ := at_T33 HR0.out 0 p169 q169; obtain rfl : ad168 = ad169 := (by injection e169); have qi169 : (0 < l0.length) = True := eq_true t23_; (try rw [za_] at hx169_0); (try rw [za_] at hx169_1); have HR169_0 := a_ hi169_0; have HC169_0 := a_ hl169_0; clear hi169_0 hl169_0; have HR169_1 := a_ hi169_1; have HC169_1 := a_ hl169_1; clear hi169_1 hl169_1; replace p169 := eq_true p169; replace q169 := eq_true q169; have ea_ := Option.some.inj (hx168_0.symm.trans hx169_0); injection ea_ with ea_ en_ ec_; subst ea_; subst ec_; clear en_; have ea_ := Option.some.inj (hx168_1.symm.trans hx169_1); injection ea_ with ea_ en_ ec_; subst ea_; subst ec_; clear en_; have p170 : 0 ≤ (x5_1 : Int) := od_; have q170 : x5_1 < (((rd_T33 l0 0).f1).length : Int) := od_; obtain ⟨ad170, e170, hx170_0, hx170_1, hx170_2, hx170_3, hx170_4, hx170_5⟩ := at_T100 HR169_1.out x5_1 p170 q170; cases e170; replace p170 := eq_true p170; replace q170 := eq_true q170; have p171 : 0 ≤ (0 : Int) := t23_; have q171 : 0 < (l1.length : Int) := od_; obtain ⟨ad171, e171, hx171_0, hx171_1, hx171_2⟩ := at_T51 HR1.out 0 p171 q171; cases e171; have qi171 : (0 < l1.length) = True := eq_true t23_; (try rw [za_] at hx171_0); (try rw [za_] at hx171_1); (try rw [za_] at hx171_2); replace p171 := eq_true p171; replace q171 := eq_true q171; go_wp2; (repeat (go_quiet (fail); try go_wp2)); go_ret
        exact ⟨t6_, t14_⟩
       ·rw [if_neg c7] at H; have c7b0 : (((rd_T100 ((rd_T33 l0 0).f1) x5_1).f0).toList == ((rd_T51 l1 0).f1).toList) = false := b2_ c7; have c7b1 : (((rd_T100 ((rd_T33 l0 0).f1) x5_1).f0).toList != ((rd_T51 l1 0).f1).toList) = true := b3_ c7; have H' := a_ H; clear H; have p168 : 0 ≤ (0 : Int) := t23_; have q168 : 0 < (l0.length : Int) := od_; obtain ⟨ad168, A168_0, c168_0, A168_1, c168_1, e168, hx168_0, hx168_1, hl168_0, hi168_0, hl168_1, hi168_1⟩ := at_T33 HR0.out 0 p168 q168; cases e168; have qi168 : (0 < l0.length) = True := eq_true t23_; (try rw [za_] at hx168_0); (try rw [za_] at hx168_1); have HR168_0 := a_ hi168_0; have HC168_0 := a_ hl168_0; clear hi168_0 hl168_0; have HR168_1 := a_ hi168_1; have HC168_1 := a_ hl168_1; clear hi168_1 hl168_1; replace p168 := eq_true p168; replace q168 := eq_true q168; have p169 : 0 ≤ (0 : Int) := t23_; have q169 : 0 < (l0.length : Int) := od_; obtain ⟨ad169, A169_0, c169_0, A169_1, c169_1, e169, hx169_0, hx169_1, hl169_0, hi169_0, hl169_1, hi169_1⟩ := at_T33 HR0.out 0 p169 q169; obtain rfl : ad168 = ad169 := (by injection e169); have qi169 : (0 < l0.length) = True := eq_true t23_; (try rw [za_] at hx169_0); (try rw [za_] at hx169_1); have HR169_0 := a_ hi169_0; have HC169_0 := a_ hl169_0; clear hi169_0 hl169_0; have HR169_1 := a_ hi169_1; have HC169_1 := a_ hl169_1; clear hi169_1 hl169_1; replace p169 := eq_true p169; replace q169 := eq_true q169; have ea_ := Option.some.inj (hx168_0.symm.trans hx169_0); injection ea_ with ea_ en_ ec_; subst ea_; subst ec_; clear en_; have ea_ := Option.some.inj (hx168_1.symm.trans hx169_1); injection ea_ with ea_ en_ ec_; subst ea_; subst ec_; clear en_; have p170 : 0 ≤ (x5_1 : Int) := od_; have q170 : x5_1 < (((rd_T33 l0 0).f1).length : Int) := od_; obtain ⟨ad170, e170, hx170_0, hx170_1, hx170_2, hx170_3, hx170_4, hx170_5⟩ := at_T100 HR169_1.out x5_1 p170 q170; cases e170; replace p170 := eq_true p170; replace q170 := eq_true q170; have p171 : 0 ≤ (0 : Int) := t23_; have q171 : 0 < (l1.length : Int) := od_; obtain ⟨ad171, e171, hx171_0, hx171_1, hx171_2⟩ := at_T51 HR1.out 0 p171 q171; cases e171; have qi171 : (0 < l1.length) = True := eq_true t23_; (try rw [za_] at hx171_0); (try rw [za_] at hx171_1); (try rw [za_] at hx171_2); replace p171 := eq_true p171; replace q171 := eq_true q171; go_wp2; (repeat (go_quiet (fail); try go_wp2)); go_roundg k1
        case measure => have := HK1.out; omega
        case rel => exact ⟨(wrap64 (x5_1 + 1)), t6_, H', ⟨t50_⟩, t14_⟩
      ·rw [if_neg c6] at H; exact absurd H t53_
     ·rw [if_neg c5] at H; exact absurd H t53_
    ·rw [if_neg c4] at H; have c4b0 : decide (x5_1 < (((rd_T33 l0 0).f1).length : Int)) = false := d2_ c4; clear c4; obtain rfl := Option.some.inj H; have p168 : 0 ≤ (0 : Int) := t23_; have q168 : 0 < (l0.length : Int) := od_; obtain ⟨ad168, A168_0, c168_0, A168_1, c168_1, e168, hx168_0, hx168_1, hl168_0, hi168_0, hl168_1, hi168_1⟩ := at_T33 HR0.out 0 p168 q168; cases e168; have qi168 : (0 < l0.length) = True := eq_true t23_; (try rw [za_] at hx168_0); (try rw [za_] at hx168_1); have HR168_0 := a_ hi168_0; have HC168_0 := a_ hl168_0; clear hi168_0 hl168_0; have HR168_1 := a_ hi168_1; have HC168_1 := a_ hl168_1; clear hi168_1 hl168_1; replace p168 := eq_true p168; replace q168 := eq_true q168; go_wp2; (repeat (go_quiet (fail); try go_wp2)); go_ret
     exact ⟨t6_, t14_⟩
   ·rw [if_neg c3] at H; exact absurd H t53_

/-! ### spec_l00In: function 98 -/
def spec_l00In.f (a0 : Int) (a1 : Int) (a2 : Int) : Option (Bool) := if a0 ≥ a1 then (some (decide (a0 ≤ a2))) else (some false)
set_option maxHeartbeats 8000000 in
set_option maxRecDepth 100000 in
theorem spec_l00In.calls (a0 : Int) (a1 : Int) (a2 : Int) (r : Bool) (w : World) (h : spec_l00In.f a0 a1 a2 = some r) :
  Calls Try.prog 98 #[.int .i64 a0, .int .i64 a1, .int .i64 a2] w fun e w' => e = .returned (.bool r) ∧ Drawn0 w w' := by
 have H : (if a0 ≥ a1 then (some (decide (a0 ≤ a2))) else (some false)) = some r := h; clear h; by_cases c4 : a0 ≥ a1
 ·rw [if_pos c4] at H; have c4b0 : decide (a1 ≤ a0) = true := d1_ c4; clear c4; obtain rfl := Option.some.inj H; go_enter Try.func98, Try.ntmps98; go_wp2; go_ret
  exact ⟨t6_, t14_⟩
 ·rw [if_neg c4] at H; have c4b0 : decide (a1 ≤ a0) = false := d2_ c4; clear c4; obtain rfl := Option.some.inj H; go_enter Try.func98, Try.ntmps98; go_wp2; go_ret
  exact ⟨t6_, t14_⟩

end Go.Proofs.Ytheokilgacmlmaa.PFnExactRegionNodes
