-- written by wip/xprint.py, a program of this session, for this claim; not trusted: Lean checks it.
import Derived.Test.YtheokilgacmlmaaPFnExactWorstRegionx0
import Derived.Test.YtheokilgacmlmaaPFnExactWorstRegionx17
namespace Go.Proofs.Ytheokilgacmlmaa.PFnExactWorstRegion
open Go.RowKit Go.Proofs.YtheokilgacmlmaaW.PrintWords Go.Proofs.YtheokilgacmlmaaW.PrintLast Go.Proofs.YtheokilgacmlmaaW.PrintMore
attribute [local go_sem] leq_less_ max2_int min2_int max_two min_two max_three min_three max_four min_four   -- for this text's walks alone
set_option linter.unusedVariables false
set_option linter.unusedSimpArgs false

/-! ### laws_eqValveS: function 19 -/
def laws_eqValveS.l0 : Nat → List (S51) → List (S51) → Int → Option (Bool)
 | 0, _, _, _ => none
 | k + 1, x0, x1, x5 => if x5 < (x0.length : Int) then (if 0 ≤ x5 then (if x5 < (x1.length : Int) then ((laws_eqValve.f ((rd_T51 x0 x5).f0) ((rd_T51 x0 x5).f1) ((rd_T51 x0 x5).f2) ((rd_T51 x1 x5).f0) ((rd_T51 x1 x5).f1) ((rd_T51 x1 x5).f2)).bind fun t389 => (if t389 = true then (laws_eqValveS.l0 k x0 x1 (wrap64 (x5 + 1))) else (some false))) else (none)) else (none)) else (some true)
def laws_eqValveS.f (k : Nat) (l0 : List (S51)) (l1 : List (S51)) : Option (Bool) := if (l0.length : Int) = (l1.length : Int) then (laws_eqValveS.l0 k l0 l1 0) else (some false)
theorem laws_eqValveS.mono_l : ∀ k, (∀ y0 y1 y2, LeO (laws_eqValveS.l0 k y0 y1 y2) (laws_eqValveS.l0 (k + 1) y0 y1 y2))
 | 0 => fun _ _ _ r h => by simp [laws_eqValveS.l0] at h
 | k + 1 => by
  have ih0 := laws_eqValveS.mono_l k
  ·intro y0 y1 y2
   unfold laws_eqValveS.l0
   repeat' first
   | (with_reducible exact ih0 _ _ _)
   | (with_reducible exact LeO.refl _)
   | (with_reducible exact LeO.none _)
   | (with_reducible refine LeO.ite ?_ ?_)
   | (with_reducible refine LeO.bind ?_ (fun _ => ?_))
theorem laws_eqValveS.mono : ∀ a0 a1 k, LeO (laws_eqValveS.f k a0 a1) (laws_eqValveS.f (k + 1) a0 a1) := by
 intro a0 a1 k; have ih0 := laws_eqValveS.mono_l k; unfold laws_eqValveS.f
 repeat' first
   | (with_reducible exact ih0 _ _ _)
   | (with_reducible exact LeO.refl _)
   | (with_reducible exact LeO.none _)
   | (with_reducible refine LeO.ite ?_ ?_)
   | (with_reducible refine LeO.bind ?_ (fun _ => ?_))
def laws_eqValveS.T6 : Bool × List (List Nat × List Nat) := (true, [([], []), ([], []), ([0, 1], [0, 1]), ([2], [2]), ([], []), ([], []), ([4, 5], [4, 5]), ([6], [6]), ([3, 7], [3, 7]), ([8], [8])])
def laws_eqValveS.B6 : List Nat := [0, 0, 3, 7, 0, 0, 48, 112, 255, 511]
theorem laws_eqValveS.tab6 : rtab .any (opsOf Try.f19 6) = laws_eqValveS.T6 := by kernel_rfl
theorem laws_eqValveS.bits6 : waitsOk laws_eqValveS.T6.2 laws_eqValveS.B6 = true := by kernel_rfl
set_option maxHeartbeats 8000000 in
set_option maxRecDepth 100000 in
theorem laws_eqValveS.calls (k : Nat) (A0 : Option Addr) (c0 : Nat) (l0 : List (S51)) (A1 : Option Addr) (c1 : Nat) (l1 : List (S51)) (r : Bool) (w : World) (hr0 : Kd.C k51 w A0 l0.length l0) (hc0 : l0.length ≤ c0) (hr1 : Kd.C k51 w A1 l1.length l1) (hc1 : l1.length ≤ c1) (h : laws_eqValveS.f k l0 l1 = some r) :
  Calls Try.prog 19 #[.slice A0 l0.length c0, .slice A1 l1.length c1] w fun e w' => e = .returned (.bool r) ∧ Below w.heap.size w w' := by
 have hu51 := Try.underlying51; have HR0 := a_ hr0; have HC0 := a_ hc0; clear hr0 hc0; have HR1 := a_ hr1; have HC1 := a_ hc1; clear hr1 hc1; have HB := a_ (Below.refl w.heap.size w); have H : (if (l0.length : Int) = (l1.length : Int) then (laws_eqValveS.l0 k l0 l1 0) else (some false)) = some r := h; clear h; by_cases c3 : (l0.length : Int) = (l1.length : Int)
 ·rw [if_pos c3] at H; have c3b0 : ((l0.length : Int) == (l1.length : Int)) = true := b1_ c3; have c3b1 : ((l0.length : Int) != (l1.length : Int)) = false := b4_ c3; have c3b2 : (l0.length == l1.length) = true := (by first | simpa using c3 | (simp at c3 ⊢; omega)); clear c3; have H' := a_ H; clear H; go_enter Try.func19, Try.ntmps19; go_wp2; go_loopg [5] k (fun kq v5 w' => ∃ (x5_1 : Int), v5 = .int .i64 x5_1 ∧ Aside0 (laws_eqValveS.l0 kq l0 l1 x5_1 = some r) ∧ Aside0 (kq ≤ k) ∧ Aside0 (Below w.heap.size w w'))
  case atStart => exact ⟨(0), t4_, H', ⟨Nat.le_refl _⟩, ⟨t1_⟩⟩
  case round =>
   clear H'; (try clear c1); (try clear p2); (try clear c3); (try clear c3b0); (try clear c3b1); (try clear c3b2); obtain ⟨x5_1, rfl, HA, HK1, HB⟩ := hrel; cases gk with
   | zero => exact absurd HA.out (by simp [laws_eqValveS.l0])
   | succ k1 =>
    have H := HA.out; clear HA; simp only [laws_eqValveS.l0] at H; by_cases c4 : x5_1 < (l0.length : Int)
    ·rw [if_pos c4] at H; have c4b0 : decide (x5_1 < (l0.length : Int)) = true := d1_ c4; clear c4; by_cases c5 : 0 ≤ x5_1
     ·rw [if_pos c5] at H; have c5b0 : decide (0 ≤ x5_1) = true := d1_ c5; clear c5; by_cases c6 : x5_1 < (l1.length : Int)
      ·rw [if_pos c6] at H; have c6b0 : decide (x5_1 < (l1.length : Int)) = true := d1_ c6; clear c6; replace H := be_ H; obtain ⟨t389, A70, H⟩ := H; have A7 := a_ A70; clear A70; by_cases c8 : t389 = true
       ·subst c8; replace H := (if_pos rfl).symm.trans H; have H' := a_ H; clear H; (try go_wp2); have n0_ := a_ (below_drew1 HB.out); clear HB; have HB := n0_; clear n0_; have p387 : 0 ≤ (x5_1 : Int) := od_; have q387 : x5_1 < (l0.length : Int) := od_; obtain ⟨ad387, e387, hx387_0, hx387_1, hx387_2⟩ := at_T51 HR0.out x5_1 p387 q387; have hw387_2 := hx387_2; have hw387_1 := hx387_1; have hw387_0 := hx387_0; cases e387; replace hx387_0 := hb_ HB hx387_0; replace hx387_1 := hb_ HB hx387_1; replace hx387_2 := hb_ HB hx387_2; replace p387 := eq_true p387; replace q387 := eq_true q387; have p388 : 0 ≤ (x5_1 : Int) := od_; have q388 : x5_1 < (l1.length : Int) := od_; obtain ⟨ad388, e388, hx388_0, hx388_1, hx388_2⟩ := at_T51 HR1.out x5_1 p388 q388; have hw388_2 := hx388_2; have hw388_1 := hx388_1; have hw388_0 := hx388_0; cases e388; replace hx388_0 := hb_ HB hx388_0; replace hx388_1 := hb_ HB hx388_1; replace hx388_2 := hb_ HB hx388_2; replace p388 := eq_true p388; replace q388 := eq_true q388; refine start_ (n := 10) (S := fun w' => w'.cell? (ad387.add ((x5_1).toNat * 3)) = some (.string ((rd_T51 l0 x5_1).f0)) ∧ w'.cell? ⟨(ad387.add ((x5_1).toNat * 3)).block, (ad387.add ((x5_1).toNat * 3)).off + 1, none⟩ = some (.string ((rd_T51 l0 x5_1).f1)) ∧ w'.cell? ⟨(ad387.add ((x5_1).toNat * 3)).block, (ad387.add ((x5_1).toNat * 3)).off + 2, none⟩ = some (.bool ((rd_T51 l0 x5_1).f2)) ∧ w'.cell? (ad388.add ((x5_1).toNat * 3)) = some (.string ((rd_T51 l1 x5_1).f0)) ∧ w'.cell? ⟨(ad388.add ((x5_1).toNat * 3)).block, (ad388.add ((x5_1).toNat * 3)).off + 1, none⟩ = some (.string ((rd_T51 l1 x5_1).f1)) ∧ w'.cell? ⟨(ad388.add ((x5_1).toNat * 3)).block, (ad388.add ((x5_1).toNat * 3)).off + 2, none⟩ = some (.bool ((rd_T51 l1 x5_1).f2))) (ds := []) (tf 0 10) t13_ rfl rfl ⟨(hb_ HB hw387_0 :), (hb_ HB hw387_1 :), (hb_ HB hw387_2 :), (hb_ HB hw388_0 :), (hb_ HB hw388_1 :), (hb_ HB hw388_2 :)⟩ (fun hHeld => ?_); refine with_tabW laws_eqValveS.tab6 laws_eqValveS.bits6 (fun HT_ HW_ => ?_); generalize wr.drew = w9 at HB hx387_0 hx387_1 hx387_2 hx388_0 hx388_1 hx388_2 hHeld ⊢; refine px 0 (some 17) (tf 1 10) HT_ ?_; refine px 1 (some 18) (tf 2 10) HT_ ?_; refine px 2 (some 19) (tf 3 10) HT_ ?_; refine px 4 (some 21) (tb 10 23) HT_ ?_; refine px 5 (some 22) (tb 10 55) HT_ ?_; refine px 6 (some 23) (tb 10 119) HT_ ?_; refine tx (v := ?_) 3 (some 20) (tf 7 10) HT_ HW_ hHeld ?_ ?_; rotate_left; (· rintro w' ⟨s0, s1, s2, s3, s4, s5⟩; go_simp; with_reducible rfl); refine tx (v := ?_) 7 (some 24) (tf 8 10) HT_ HW_ hHeld ?_ ?_; rotate_left; (· rintro w' ⟨s0, s1, s2, s3, s4, s5⟩; go_simp; with_reducible rfl); refine one_ (i := 8) (N := some 25) (tf 9 10) rfl rfl (one_of HT_.out t13_) t39_ (fun K hK => ?_); refine goes_ Try.func34 t13_ rfl #[.agg #[.string ((rd_T51 l0 x5_1).f0), .string ((rd_T51 l0 x5_1).f1), .bool ((rd_T51 l0 x5_1).f2)], .agg #[.string ((rd_T51 l1 x5_1).f0), .string ((rd_T51 l1 x5_1).f1), .bool ((rd_T51 l1 x5_1).f2)]] t75_ rfl rfl t2_ ?_; (with_reducible refine (laws_eqValve.calls ((rd_T51 l0 x5_1).f0) ((rd_T51 l0 x5_1).f1) ((rd_T51 l0 x5_1).f2) ((rd_T51 l1 x5_1).f0) ((rd_T51 l1 x5_1).f1) ((rd_T51 l1 x5_1).f2) true _ A7.out).mono ?_); rintro e w10 ⟨rfl, hb⟩; refine ⟨_, rfl, ?_⟩; have n0_ := a_ (below_step t1_ hb); clear HB; have HB := n0_; clear n0_; (try clear hb); (try clear hb2); (try clear hk); (try clear hi); refine hK.out _ _ ⟨(hb_ HB hw387_0 :), (hb_ HB hw387_1 :), (hb_ HB hw387_2 :), (hb_ HB hw388_0 :), (hb_ HB hw388_1 :), (hb_ HB hw388_2 :)⟩ (fun hHeld => ?_); clear hK K; refine norm_ (a' := ?_) ?_ ?_; rotate_left
        ·show Act.put _ (some 25) _ = _
         simp only [Act.put, List.setIfInBounds_toArray, List.set_cons_zero, List.set_cons_succ, i64_w, i32_w]; rfl
        refine px 9 (some 26) (tf 10 10) HT_ ?_; refine done_ (done_of HT_.out t13_) ?_; (try go_wp2); go_roundg k1
        case measure => have := HK1.out; omega
        case rel => exact ⟨(wrap64 (x5_1 + 1)), t4_, H', ⟨t52_⟩, ⟨t1_⟩⟩
       ·replace c8 := Bool.eq_false_iff.mpr c8; subst c8; replace H := (if_neg (show ¬ (false = true) by decide)).symm.trans H; obtain rfl := Option.some.inj H; (try go_wp2); have n0_ := a_ (below_drew1 HB.out); clear HB; have HB := n0_; clear n0_; have p387 : 0 ≤ (x5_1 : Int) := od_; have q387 : x5_1 < (l0.length : Int) := od_; obtain ⟨ad387, e387, hx387_0, hx387_1, hx387_2⟩ := at_T51 HR0.out x5_1 p387 q387; have hw387_2 := hx387_2; have hw387_1 := hx387_1; have hw387_0 := hx387_0; cases e387; replace hx387_0 := hb_ HB hx387_0; replace hx387_1 := hb_ HB hx387_1; replace hx387_2 := hb_ HB hx387_2; replace p387 := eq_true p387; replace q387 := eq_true q387; have p388 : 0 ≤ (x5_1 : Int) := od_; have q388 : x5_1 < (l1.length : Int) := od_; obtain ⟨ad388, e388, hx388_0, hx388_1, hx388_2⟩ := at_T51 HR1.out x5_1 p388 q388; have hw388_2 := hx388_2; have hw388_1 := hx388_1; have hw388_0 := hx388_0; cases e388; replace hx388_0 := hb_ HB hx388_0; replace hx388_1 := hb_ HB hx388_1; replace hx388_2 := hb_ HB hx388_2; replace p388 := eq_true p388; replace q388 := eq_true q388; refine start_ (n := 10) (S := fun w' => w'.cell? (ad387.add ((x5_1).toNat * 3)) = some (.string ((rd_T51 l0 x5_1).f0)) ∧ w'.cell? ⟨(ad387.add ((x5_1).toNat * 3)).block, (ad387.add ((x5_1).toNat * 3)).off + 1, none⟩ = some (.string ((rd_T51 l0 x5_1).f1)) ∧ w'.cell? ⟨(ad387.add ((x5_1).toNat * 3)).block, (ad387.add ((x5_1).toNat * 3)).off + 2, none⟩ = some (.bool ((rd_T51 l0 x5_1).f2)) ∧ w'.cell? (ad388.add ((x5_1).toNat * 3)) = some (.string ((rd_T51 l1 x5_1).f0)) ∧ w'.cell? ⟨(ad388.add ((x5_1).toNat * 3)).block, (ad388.add ((x5_1).toNat * 3)).off + 1, none⟩ = some (.string ((rd_T51 l1 x5_1).f1)) ∧ w'.cell? ⟨(ad388.add ((x5_1).toNat * 3)).block, (ad388.add ((x5_1).toNat * 3)).off + 2, none⟩ = some (.bool ((rd_T51 l1 x5_1).f2))) (ds := []) (tf 0 10) t13_ rfl rfl ⟨(hb_ HB hw387_0 :), (hb_ HB hw387_1 :), (hb_ HB hw387_2 :), (hb_ HB hw388_0 :), (hb_ HB hw388_1 :), (hb_ HB hw388_2 :)⟩ (fun hHeld => ?_); refine with_tabW laws_eqValveS.tab6 laws_eqValveS.bits6 (fun HT_ HW_ => ?_); generalize wr.drew = w11 at HB hx387_0 hx387_1 hx387_2 hx388_0 hx388_1 hx388_2 hHeld ⊢; refine px 0 (some 17) (tf 1 10) HT_ ?_; refine px 1 (some 18) (tf 2 10) HT_ ?_; refine px 2 (some 19) (tf 3 10) HT_ ?_; refine px 4 (some 21) (tb 10 23) HT_ ?_; refine px 5 (some 22) (tb 10 55) HT_ ?_; refine px 6 (some 23) (tb 10 119) HT_ ?_; refine tx (v := ?_) 3 (some 20) (tf 7 10) HT_ HW_ hHeld ?_ ?_; rotate_left; (· rintro w' ⟨s0, s1, s2, s3, s4, s5⟩; go_simp; with_reducible rfl); refine tx (v := ?_) 7 (some 24) (tf 8 10) HT_ HW_ hHeld ?_ ?_; rotate_left; (· rintro w' ⟨s0, s1, s2, s3, s4, s5⟩; go_simp; with_reducible rfl); refine one_ (i := 8) (N := some 25) (tf 9 10) rfl rfl (one_of HT_.out t13_) t39_ (fun K hK => ?_); refine goes_ Try.func34 t13_ rfl #[.agg #[.string ((rd_T51 l0 x5_1).f0), .string ((rd_T51 l0 x5_1).f1), .bool ((rd_T51 l0 x5_1).f2)], .agg #[.string ((rd_T51 l1 x5_1).f0), .string ((rd_T51 l1 x5_1).f1), .bool ((rd_T51 l1 x5_1).f2)]] t75_ rfl rfl t2_ ?_; (with_reducible refine (laws_eqValve.calls ((rd_T51 l0 x5_1).f0) ((rd_T51 l0 x5_1).f1) ((rd_T51 l0 x5_1).f2) ((rd_T51 l1 x5_1).f0) ((rd_T51 l1 x5_1).f1) ((rd_T51 l1 x5_1).f2) false _ A7.out).mono ?_); rintro e w12 ⟨rfl, hb⟩; refine ⟨_, rfl, ?_⟩; have n0_ := a_ (below_step t1_ hb); clear HB; have HB := n0_; clear n0_; (try clear hb); (try clear hb2); (try clear hk); (try clear hi); refine hK.out _ _ ⟨(hb_ HB hw387_0 :), (hb_ HB hw387_1 :), (hb_ HB hw387_2 :), (hb_ HB hw388_0 :), (hb_ HB hw388_1 :), (hb_ HB hw388_2 :)⟩ (fun hHeld => ?_); clear hK K; refine norm_ (a' := ?_) ?_ ?_; rotate_left
        ·show Act.put _ (some 25) _ = _
         simp only [Act.put, List.setIfInBounds_toArray, List.set_cons_zero, List.set_cons_succ, i64_w, i32_w]; rfl
        refine px 9 (some 26) (tf 10 10) HT_ ?_; refine done_ (done_of HT_.out t13_) ?_; (try go_wp2); go_ret
        exact ⟨t3_, t1_⟩
      ·rw [if_neg c6] at H; exact absurd H t57_
     ·rw [if_neg c5] at H; exact absurd H t57_
    ·rw [if_neg c4] at H; have c4b0 : decide (x5_1 < (l0.length : Int)) = false := d2_ c4; clear c4; obtain rfl := Option.some.inj H; go_wp2; go_ret
     exact ⟨t3_, t1_⟩
 ·rw [if_neg c3] at H; have c3b0 : ((l0.length : Int) == (l1.length : Int)) = false := b2_ c3; have c3b1 : ((l0.length : Int) != (l1.length : Int)) = true := b3_ c3; have c3b2 : (l0.length == l1.length) = false := (by first | simpa using c3 | (simp at c3 ⊢; omega)); obtain rfl := Option.some.inj H; go_enter Try.func19, Try.ntmps19; go_wp2; go_ret
  exact ⟨t3_, t1_⟩

end Go.Proofs.Ytheokilgacmlmaa.PFnExactWorstRegion
