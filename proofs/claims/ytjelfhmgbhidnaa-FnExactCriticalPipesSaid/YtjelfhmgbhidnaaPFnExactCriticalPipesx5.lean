-- written by wip/xprint.py, a program of this session, for this claim; not trusted: Lean checks it.
import Derived.Test.YtjelfhmgbhidnaaPFnExactCriticalPipesx0
import Derived.Test.YtjelfhmgbhidnaaPFnExactCriticalPipesx4
namespace Go.Proofs.Ytjelfhmgbhidnaa.PFnExactCriticalPipes
open Go.RowKit Go.Proofs.YtjelfhmgbhidnaaW.PrintWords Go.Proofs.YtjelfhmgbhidnaaW.PrintLast Go.Proofs.YtjelfhmgbhidnaaW.PrintMore
attribute [local go_sem] leq_less_ max2_int min2_int max_two min_two max_three min_three max_four min_four   -- for this text's walks alone
set_option linter.unusedVariables false
set_option linter.unusedSimpArgs false

/-! ### spec_l04Fits: function 86 -/
def spec_l04Fits.f (k : Nat) (l0 : List (S32)) (l1 : List (S80)) : Option (Bool) := (spec_l03Ok.f k l1).bind fun t180 => (if t180 = true then (if 0 < (l1.length : Int) then (if 0 < (l0.length : Int) then (if ((rd_T80 l1 0).f1) < (((rd_T32 l0 0).f0).length : Int) then (some (decide (((rd_T80 l1 0).f2) < (((rd_T32 l0 0).f0).length : Int)))) else (some false)) else (none)) else (none)) else (some false))
theorem spec_l04Fits.mono : ∀ a0 a1 k, LeO (spec_l04Fits.f k a0 a1) (spec_l04Fits.f (k + 1) a0 a1) := by
 intro a0 a1 k
 unfold spec_l04Fits.f
 repeat' first
   | (with_reducible exact spec_l03Ok.mono _ _)
   | (with_reducible exact LeO.refl _)
   | (with_reducible exact LeO.none _)
   | (with_reducible refine LeO.ite ?_ ?_)
   | (with_reducible refine LeO.bind ?_ (fun _ => ?_))
   | exact spec_l03Ok.mono _ _
   | exact LeO.none _
   | refine LeO.ite ?_ ?_
   | refine LeO.bind ?_ (fun _ => ?_)
def spec_l04Fits.T1 : Bool × List (List Nat × List Nat) := (true, [([], []), ([0], [0]), ([1, 1], [1]), ([2], [2]), ([3, 2], [2, 3]), ([4, 2], [2, 4]), ([5, 2], [2, 5]), ([2], [2]), ([7, 2], [2, 7]), ([8, 2], [2, 8]), ([9, 2], [2, 9]), ([10, 2], [2, 10]), ([6, 11, 2], [2, 6, 11]), ([2, 12], [2, 12]), ([13, 2], [13]), ([14], [14]), ([15, 14], [14, 15]), ([16, 14], [14, 16]), ([17, 14], [14, 17]), ([14], [14]), ([19, 14], [14, 19]), ([20, 14], [14, 20]), ([21, 14], [14, 21]), ([22, 14], [14, 22]), ([18, 23, 14], [14, 18, 23]), ([14, 24], [14, 24]), ([25, 14, 0, 1, 2, 3, 4, 5, 6, 7, 8, 9, 10, 11, 12, 13, 14, 15, 16, 17, 18, 19, 20, 21, 22, 23, 24, 25], [25])])
def spec_l04Fits.B1 : List Nat := [0, 1, 3, 7, 15, 31, 63, 7, 135, 391, 903, 1927, 4095, 8191, 16383, 32767, 65535, 131071, 262143, 32767, 557055, 1605631, 3702783, 7897087, 16777215, 33554431, 67108863]
theorem spec_l04Fits.tab1 : rtab .any (opsOf Try.f86 1) = spec_l04Fits.T1 := by kernel_rfl
theorem spec_l04Fits.bits1 : waitsOk spec_l04Fits.T1.2 spec_l04Fits.B1 = true := by kernel_rfl
set_option maxHeartbeats 8000000 in
set_option maxRecDepth 100000 in
theorem spec_l04Fits.calls (k : Nat) (A0 : Option Addr) (c0 : Nat) (l0 : List (S32)) (A1 : Option Addr) (c1 : Nat) (l1 : List (S80)) (r : Bool) (w : World) (hr0 : Kd.C k32 w A0 l0.length l0) (hc0 : l0.length ≤ c0) (hr1 : Kd.C k80 w A1 l1.length l1) (hc1 : l1.length ≤ c1) (h : spec_l04Fits.f k l0 l1 = some r) :
  Calls Try.prog 86 #[.pointer A0, .pointer A1] w fun e w' => e = .returned (.bool r) ∧ Below w.heap.size w w' := by
 have HR0 := Aside0.mk hr0
 have HC0 := Aside0.mk hc0
 clear hr0 hc0
 have HR1 := Aside0.mk hr1
 have HC1 := Aside0.mk hc1
 clear hr1 hc1
 have HB := Aside0.mk (Below.refl w.heap.size w)
 have H : ((spec_l03Ok.f k l1).bind fun t180 => (if t180 = true then (if 0 < (l1.length : Int) then (if 0 < (l0.length : Int) then (if ((rd_T80 l1 0).f1) < (((rd_T32 l0 0).f0).length : Int) then (some (decide (((rd_T80 l1 0).f2) < (((rd_T32 l0 0).f0).length : Int)))) else (some false)) else (none)) else (none)) else (some false))) = some r := h
 clear h
 replace H := Option.bind_eq_some_iff.mp H
 obtain ⟨t180, A30, H⟩ := H
 replace H : (if t180 = true then (if 0 < (l1.length : Int) then (if 0 < (l0.length : Int) then (if ((rd_T80 l1 0).f1) < (((rd_T32 l0 0).f0).length : Int) then (some (decide (((rd_T80 l1 0).f2) < (((rd_T32 l0 0).f0).length : Int)))) else (some false)) else (none)) else (none)) else (some false)) = some r := H
 have A3 := Aside0.mk A30
 clear A30
 by_cases c4 : t180 = true
 ·subst c4
  have H1 : (if 0 < (l1.length : Int) then (if 0 < (l0.length : Int) then (if ((rd_T80 l1 0).f1) < (((rd_T32 l0 0).f0).length : Int) then (some (decide (((rd_T80 l1 0).f2) < (((rd_T32 l0 0).f0).length : Int)))) else (some false)) else (none)) else (none)) = some r := by rw [if_pos rfl] at H; exact H
  clear H
  have H := H1
  clear H1
  by_cases c5 : 0 < (l1.length : Int)
  ·rw [if_pos c5] at H
   have c5b0 : decide (0 < (l1.length : Int)) = true := decide_eq_true c5
   have c5b1 : decide (0 < l1.length) = true := decide_eq_true t28_
   clear c5
   by_cases c6 : 0 < (l0.length : Int)
   ·rw [if_pos c6] at H
    have c6b0 : decide (0 < (l0.length : Int)) = true := decide_eq_true c6
    have c6b1 : decide (0 < l0.length) = true := decide_eq_true t28_
    clear c6
    by_cases c7 : ((rd_T80 l1 0).f1) < (((rd_T32 l0 0).f0).length : Int)
    ·rw [if_pos c7] at H
     have c7b0 : decide (((rd_T80 l1 0).f1) < (((rd_T32 l0 0).f0).length : Int)) = true := decide_eq_true c7
     clear c7
     obtain rfl := Option.some.inj H
     go_enter Try.func86, Try.ntmps86
     try go_wp2
     have n0_ := Aside0.mk (below_drew1 HB.out)
     clear HB
     have HB := n0_
     clear n0_
     have p181 : 0 ≤ (0 : Int) := t28_
     have q181 : 0 < (l1.length : Int) := of_decide_eq_true t3_
     obtain ⟨ad181, e181, hx181_0, hx181_1, hx181_2, hx181_3, hx181_4, hx181_5⟩ := at_T80 HR1.out 0 p181 q181
     have hw181_5 := hx181_5
     (try rw [za_] at hw181_5)
     have hw181_4 := hx181_4
     (try rw [za_] at hw181_4)
     have hw181_3 := hx181_3
     (try rw [za_] at hw181_3)
     have hw181_2 := hx181_2
     (try rw [za_] at hw181_2)
     have hw181_1 := hx181_1
     (try rw [za_] at hw181_1)
     have hw181_0 := hx181_0
     (try rw [za_] at hw181_0)
     cases e181
     have qi181 : (0 < l1.length) = True := eq_true t28_
     (try rw [za_] at hx181_0)
     (try rw [za_] at hx181_1)
     (try rw [za_] at hx181_2)
     (try rw [za_] at hx181_3)
     (try rw [za_] at hx181_4)
     (try rw [za_] at hx181_5)
     replace hx181_0 := hb_ HB hx181_0
     replace hx181_1 := hb_ HB hx181_1
     replace hx181_2 := hb_ HB hx181_2
     replace hx181_3 := hb_ HB hx181_3
     replace hx181_4 := hb_ HB hx181_4
     replace hx181_5 := hb_ HB hx181_5
     replace p181 := eq_true p181
     replace q181 := eq_true q181
     have p182 : 0 ≤ (0 : Int) := t28_
     have q182 : 0 < (l0.length : Int) := of_decide_eq_true t3_
     obtain ⟨ad182, A182_0, c182_0, A182_1, c182_1, e182, hx182_0, hx182_1, hl182_0, hi182_0, hl182_1, hi182_1⟩ := at_T32 HR0.out 0 p182 q182
     have hw182_1 := hx182_1
     (try rw [za_] at hw182_1)
     have hw182_0 := hx182_0
     (try rw [za_] at hw182_0)
     cases e182
     have qi182 : (0 < l0.length) = True := eq_true t28_
     (try rw [za_] at hx182_0)
     (try rw [za_] at hx182_1)
     replace hx182_0 := hb_ HB hx182_0
     replace hx182_1 := hb_ HB hx182_1
     have HR182_0 := Aside0.mk hi182_0
     have HC182_0 := Aside0.mk hl182_0
     clear hi182_0 hl182_0
     have HR182_1 := Aside0.mk hi182_1
     have HC182_1 := Aside0.mk hl182_1
     clear hi182_1 hl182_1
     replace p182 := eq_true p182
     replace q182 := eq_true q182
     have p183 : 0 ≤ (0 : Int) := t28_
     have q183 : 0 < (l1.length : Int) := of_decide_eq_true t3_
     obtain ⟨ad183, e183, hx183_0, hx183_1, hx183_2, hx183_3, hx183_4, hx183_5⟩ := at_T80 HR1.out 0 p183 q183
     have hw183_5 := hx183_5
     (try rw [za_] at hw183_5)
     have hw183_4 := hx183_4
     (try rw [za_] at hw183_4)
     have hw183_3 := hx183_3
     (try rw [za_] at hw183_3)
     have hw183_2 := hx183_2
     (try rw [za_] at hw183_2)
     have hw183_1 := hx183_1
     (try rw [za_] at hw183_1)
     have hw183_0 := hx183_0
     (try rw [za_] at hw183_0)
     obtain rfl : ad181 = ad183 := (by injection e183)
     have qi183 : (0 < l1.length) = True := eq_true t28_
     (try rw [za_] at hx183_0)
     (try rw [za_] at hx183_1)
     (try rw [za_] at hx183_2)
     (try rw [za_] at hx183_3)
     (try rw [za_] at hx183_4)
     (try rw [za_] at hx183_5)
     replace hx183_0 := hb_ HB hx183_0
     replace hx183_1 := hb_ HB hx183_1
     replace hx183_2 := hb_ HB hx183_2
     replace hx183_3 := hb_ HB hx183_3
     replace hx183_4 := hb_ HB hx183_4
     replace hx183_5 := hb_ HB hx183_5
     replace p183 := eq_true p183
     replace q183 := eq_true q183
     have p184 : 0 ≤ (0 : Int) := t28_
     have q184 : 0 < (l0.length : Int) := of_decide_eq_true t3_
     obtain ⟨ad184, A184_0, c184_0, A184_1, c184_1, e184, hx184_0, hx184_1, hl184_0, hi184_0, hl184_1, hi184_1⟩ := at_T32 HR0.out 0 p184 q184
     have hw184_1 := hx184_1
     (try rw [za_] at hw184_1)
     have hw184_0 := hx184_0
     (try rw [za_] at hw184_0)
     obtain rfl : ad182 = ad184 := (by injection e184)
     have qi184 : (0 < l0.length) = True := eq_true t28_
     (try rw [za_] at hx184_0)
     (try rw [za_] at hx184_1)
     replace hx184_0 := hb_ HB hx184_0
     replace hx184_1 := hb_ HB hx184_1
     have HR184_0 := Aside0.mk hi184_0
     have HC184_0 := Aside0.mk hl184_0
     clear hi184_0 hl184_0
     have HR184_1 := Aside0.mk hi184_1
     have HC184_1 := Aside0.mk hl184_1
     clear hi184_1 hl184_1
     replace p184 := eq_true p184
     replace q184 := eq_true q184
     have ea_ := Option.some.inj (hx182_0.symm.trans hx184_0)
     injection ea_ with ea_ en_ ec_
     subst ea_
     subst ec_
     clear en_
     have ea_ := Option.some.inj (hx182_1.symm.trans hx184_1)
     injection ea_ with ea_ en_ ec_
     subst ea_
     subst ec_
     clear en_
     refine start_ (n := 27) (S := fun w' => w'.cell? ad181 = some (.string ((rd_T80 l1 0).f0)) ∧ w'.cell? ⟨ad181.block, ad181.off + 1, none⟩ = some (.int .i64 ((rd_T80 l1 0).f1)) ∧ w'.cell? ⟨ad181.block, ad181.off + 2, none⟩ = some (.int .i64 ((rd_T80 l1 0).f2)) ∧ w'.cell? ⟨ad181.block, ad181.off + 3, none⟩ = some (.int .i64 ((rd_T80 l1 0).f3)) ∧ w'.cell? ⟨ad181.block, ad181.off + 4, none⟩ = some (.int .i64 ((rd_T80 l1 0).f4)) ∧ w'.cell? ⟨ad181.block, ad181.off + 5, none⟩ = some (.int .i64 ((rd_T80 l1 0).f5)) ∧ w'.cell? ad182 = some (.slice A182_0 ((rd_T32 l0 0).f0).length c182_0) ∧ w'.cell? ⟨ad182.block, ad182.off + 1, none⟩ = some (.slice A182_1 ((rd_T32 l0 0).f1).length c182_1) ∧ w'.cell? ad181 = some (.string ((rd_T80 l1 0).f0)) ∧ w'.cell? ⟨ad181.block, ad181.off + 1, none⟩ = some (.int .i64 ((rd_T80 l1 0).f1)) ∧ w'.cell? ⟨ad181.block, ad181.off + 2, none⟩ = some (.int .i64 ((rd_T80 l1 0).f2)) ∧ w'.cell? ⟨ad181.block, ad181.off + 3, none⟩ = some (.int .i64 ((rd_T80 l1 0).f3)) ∧ w'.cell? ⟨ad181.block, ad181.off + 4, none⟩ = some (.int .i64 ((rd_T80 l1 0).f4)) ∧ w'.cell? ⟨ad181.block, ad181.off + 5, none⟩ = some (.int .i64 ((rd_T80 l1 0).f5)) ∧ w'.cell? ad182 = some (.slice A182_0 ((rd_T32 l0 0).f0).length c182_0) ∧ w'.cell? ⟨ad182.block, ad182.off + 1, none⟩ = some (.slice A182_1 ((rd_T32 l0 0).f1).length c182_1)) (ds := []) (tf 0 27) t14_ rfl rfl ⟨(hb_ HB hw181_0 :), (hb_ HB hw181_1 :), (hb_ HB hw181_2 :), (hb_ HB hw181_3 :), (hb_ HB hw181_4 :), (hb_ HB hw181_5 :), (hb_ HB hw182_0 :), (hb_ HB hw182_1 :), (hb_ HB hw183_0 :), (hb_ HB hw183_1 :), (hb_ HB hw183_2 :), (hb_ HB hw183_3 :), (hb_ HB hw183_4 :), (hb_ HB hw183_5 :), (hb_ HB hw184_0 :), (hb_ HB hw184_1 :)⟩ (fun hHeld => ?_); refine with_tabW spec_l04Fits.tab1 spec_l04Fits.bits1 (fun HT_ HW_ => ?_)
     generalize w.drew = w8 at HB HR182_0 HR182_1 HR184_0 HR184_1 hx181_0 hx181_1 hx181_2 hx181_3 hx181_4 hx181_5 hx182_0 hx182_1 hx183_0 hx183_1 hx183_2 hx183_3 hx183_4 hx183_5 hx184_0 hx184_1 hHeld ⊢
     refine px 0 (some 5) (tf 1 27) HT_ ?_
     refine one_ (i := 1) (N := some 6) (tf 2 27) rfl rfl (one_of HT_.out t14_) t31_ (fun K hK => ?_)
     refine goes_ Try.func105 t14_ rfl #[.pointer (some ad181)] t71_ rfl rfl t2_ ?_
     with_reducible refine (spec_l03Ok.calls k _ c1 l1 true _ ?side1 ?side2 A3.out).mono ?_
     (case side1 => repeat (first | exact (Kd.C_below HR1.out HB.out) | (with_reducible refine Kd.C_alloc ?_ _) | (with_reducible refine Kd.C_drewN ?_ _) | (with_reducible refine Kd.C_drew ?_)))
     (case side2 => exact HC1.out)
     rintro e w9 ⟨rfl, hb⟩
     refine ⟨_, rfl, ?_⟩
     have n0_ := Aside0.mk (below_step t1_ hb)
     clear HB
     have HB := n0_
     clear n0_
     (try clear hb)
     (try clear hb2)
     (try clear hk)
     (try clear hi)
     refine hK.out _ _ ⟨(hb_ HB hw181_0 :), (hb_ HB hw181_1 :), (hb_ HB hw181_2 :), (hb_ HB hw181_3 :), (hb_ HB hw181_4 :), (hb_ HB hw181_5 :), (hb_ HB hw182_0 :), (hb_ HB hw182_1 :), (hb_ HB hw183_0 :), (hb_ HB hw183_1 :), (hb_ HB hw183_2 :), (hb_ HB hw183_3 :), (hb_ HB hw183_4 :), (hb_ HB hw183_5 :), (hb_ HB hw184_0 :), (hb_ HB hw184_1 :)⟩ (fun hHeld => ?_)
     clear hK K
     refine norm_ (a' := ?_) ?_ ?_
     rotate_left
     ·show Act.put _ (some 6) _ = _
      simp only [Act.put, List.setIfInBounds_toArray, List.set_cons_zero, List.set_cons_succ, i64_w, i32_w]
      rfl
     refine px 2 (some 7) (tf 3 27) HT_ ?_
     refine px 3 (some 8) (tf 4 27) HT_ ?_
     refine px 4 (some 9) (tf 5 27) HT_ ?_
     refine px 5 (some 10) (tf 6 27) HT_ ?_
     refine px 7 (some 12) (tb 27 191) HT_ ?_
     refine px 8 (some 13) (tb 27 447) HT_ ?_
     refine px 9 (some 14) (tb 27 959) HT_ ?_
     refine tx (v := ?_) 6 (some 11) (tf 10 27) HT_ HW_ hHeld ?_ ?_
     rotate_left; (· rintro w' ⟨s0, s1, s2, s3, s4, s5, s6, s7, s8, s9, s10, s11, s12, s13, s14, s15⟩; go_simp; with_reducible rfl)
     refine tx (v := ?_) 10 (some 15) (tf 11 27) HT_ HW_ hHeld ?_ ?_
     rotate_left; (· rintro w' ⟨s0, s1, s2, s3, s4, s5, s6, s7, s8, s9, s10, s11, s12, s13, s14, s15⟩; go_simp; with_reducible rfl)
     refine px 11 (some 16) (tf 12 27) HT_ ?_
     refine px 12 (some 17) (tf 13 27) HT_ ?_
     refine px 13 (some 18) (tf 14 27) HT_ ?_
     refine px 14 (some 19) (tf 15 27) HT_ ?_
     refine px 15 (some 20) (tf 16 27) HT_ ?_
     refine px 16 (some 21) (tf 17 27) HT_ ?_
     refine px 17 (some 22) (tf 18 27) HT_ ?_
     refine px 19 (some 24) (tb 27 786431) HT_ ?_
     refine px 20 (some 25) (tb 27 1835007) HT_ ?_
     refine px 21 (some 26) (tb 27 3932159) HT_ ?_
     refine tx (v := ?_) 18 (some 23) (tf 22 27) HT_ HW_ hHeld ?_ ?_
     rotate_left; (· rintro w' ⟨s0, s1, s2, s3, s4, s5, s6, s7, s8, s9, s10, s11, s12, s13, s14, s15⟩; go_simp; with_reducible rfl)
     refine tx (v := ?_) 22 (some 27) (tf 23 27) HT_ HW_ hHeld ?_ ?_
     rotate_left; (· rintro w' ⟨s0, s1, s2, s3, s4, s5, s6, s7, s8, s9, s10, s11, s12, s13, s14, s15⟩; go_simp; with_reducible rfl)
     refine px 23 (some 28) (tf 24 27) HT_ ?_
     refine px 24 (some 29) (tf 25 27) HT_ ?_
     refine px 25 (some 30) (tf 26 27) HT_ ?_
     refine px 26 (some 4) (tf 27 27) HT_ ?_
     refine done_ (done_of HT_.out t14_) ?_
     try go_wp2
     go_ret
     exact ⟨t5_, t1_⟩
    ·rw [if_neg c7] at H
     have c7b0 : decide (((rd_T80 l1 0).f1) < (((rd_T32 l0 0).f0).length : Int)) = false := decide_eq_false c7
     clear c7
     obtain rfl := Option.some.inj H
     go_enter Try.func86, Try.ntmps86
     try go_wp2
     have n0_ := Aside0.mk (below_drew1 HB.out)
     clear HB
     have HB := n0_
     clear n0_
     have p181 : 0 ≤ (0 : Int) := t28_
     have q181 : 0 < (l1.length : Int) := of_decide_eq_true t3_
     obtain ⟨ad181, e181, hx181_0, hx181_1, hx181_2, hx181_3, hx181_4, hx181_5⟩ := at_T80 HR1.out 0 p181 q181
     have hw181_5 := hx181_5
     (try rw [za_] at hw181_5)
     have hw181_4 := hx181_4
     (try rw [za_] at hw181_4)
     have hw181_3 := hx181_3
     (try rw [za_] at hw181_3)
     have hw181_2 := hx181_2
     (try rw [za_] at hw181_2)
     have hw181_1 := hx181_1
     (try rw [za_] at hw181_1)
     have hw181_0 := hx181_0
     (try rw [za_] at hw181_0)
     cases e181
     have qi181 : (0 < l1.length) = True := eq_true t28_
     (try rw [za_] at hx181_0)
     (try rw [za_] at hx181_1)
     (try rw [za_] at hx181_2)
     (try rw [za_] at hx181_3)
     (try rw [za_] at hx181_4)
     (try rw [za_] at hx181_5)
     replace hx181_0 := hb_ HB hx181_0
     replace hx181_1 := hb_ HB hx181_1
     replace hx181_2 := hb_ HB hx181_2
     replace hx181_3 := hb_ HB hx181_3
     replace hx181_4 := hb_ HB hx181_4
     replace hx181_5 := hb_ HB hx181_5
     replace p181 := eq_true p181
     replace q181 := eq_true q181
     have p182 : 0 ≤ (0 : Int) := t28_
     have q182 : 0 < (l0.length : Int) := of_decide_eq_true t3_
     obtain ⟨ad182, A182_0, c182_0, A182_1, c182_1, e182, hx182_0, hx182_1, hl182_0, hi182_0, hl182_1, hi182_1⟩ := at_T32 HR0.out 0 p182 q182
     have hw182_1 := hx182_1
     (try rw [za_] at hw182_1)
     have hw182_0 := hx182_0
     (try rw [za_] at hw182_0)
     cases e182
     have qi182 : (0 < l0.length) = True := eq_true t28_
     (try rw [za_] at hx182_0)
     (try rw [za_] at hx182_1)
     replace hx182_0 := hb_ HB hx182_0
     replace hx182_1 := hb_ HB hx182_1
     have HR182_0 := Aside0.mk hi182_0
     have HC182_0 := Aside0.mk hl182_0
     clear hi182_0 hl182_0
     have HR182_1 := Aside0.mk hi182_1
     have HC182_1 := Aside0.mk hl182_1
     clear hi182_1 hl182_1
     replace p182 := eq_true p182
     replace q182 := eq_true q182
     refine start_ (n := 27) (S := fun w' => w'.cell? ad181 = some (.string ((rd_T80 l1 0).f0)) ∧ w'.cell? ⟨ad181.block, ad181.off + 1, none⟩ = some (.int .i64 ((rd_T80 l1 0).f1)) ∧ w'.cell? ⟨ad181.block, ad181.off + 2, none⟩ = some (.int .i64 ((rd_T80 l1 0).f2)) ∧ w'.cell? ⟨ad181.block, ad181.off + 3, none⟩ = some (.int .i64 ((rd_T80 l1 0).f3)) ∧ w'.cell? ⟨ad181.block, ad181.off + 4, none⟩ = some (.int .i64 ((rd_T80 l1 0).f4)) ∧ w'.cell? ⟨ad181.block, ad181.off + 5, none⟩ = some (.int .i64 ((rd_T80 l1 0).f5)) ∧ w'.cell? ad182 = some (.slice A182_0 ((rd_T32 l0 0).f0).length c182_0) ∧ w'.cell? ⟨ad182.block, ad182.off + 1, none⟩ = some (.slice A182_1 ((rd_T32 l0 0).f1).length c182_1)) (ds := []) (tf 0 27) t14_ rfl rfl ⟨(hb_ HB hw181_0 :), (hb_ HB hw181_1 :), (hb_ HB hw181_2 :), (hb_ HB hw181_3 :), (hb_ HB hw181_4 :), (hb_ HB hw181_5 :), (hb_ HB hw182_0 :), (hb_ HB hw182_1 :)⟩ (fun hHeld => ?_); refine with_tabW spec_l04Fits.tab1 spec_l04Fits.bits1 (fun HT_ HW_ => ?_)
     generalize w.drew = w10 at HB HR182_0 HR182_1 hx181_0 hx181_1 hx181_2 hx181_3 hx181_4 hx181_5 hx182_0 hx182_1 hHeld ⊢
     refine px 0 (some 5) (tf 1 27) HT_ ?_
     refine one_ (i := 1) (N := some 6) (tf 2 27) rfl rfl (one_of HT_.out t14_) t31_ (fun K hK => ?_)
     refine goes_ Try.func105 t14_ rfl #[.pointer (some ad181)] t71_ rfl rfl t2_ ?_
     with_reducible refine (spec_l03Ok.calls k _ c1 l1 true _ ?side1 ?side2 A3.out).mono ?_
     (case side1 => repeat (first | exact (Kd.C_below HR1.out HB.out) | (with_reducible refine Kd.C_alloc ?_ _) | (with_reducible refine Kd.C_drewN ?_ _) | (with_reducible refine Kd.C_drew ?_)))
     (case side2 => exact HC1.out)
     rintro e w11 ⟨rfl, hb⟩
     refine ⟨_, rfl, ?_⟩
     have n0_ := Aside0.mk (below_step t1_ hb)
     clear HB
     have HB := n0_
     clear n0_
     (try clear hb)
     (try clear hb2)
     (try clear hk)
     (try clear hi)
     refine hK.out _ _ ⟨(hb_ HB hw181_0 :), (hb_ HB hw181_1 :), (hb_ HB hw181_2 :), (hb_ HB hw181_3 :), (hb_ HB hw181_4 :), (hb_ HB hw181_5 :), (hb_ HB hw182_0 :), (hb_ HB hw182_1 :)⟩ (fun hHeld => ?_)
     clear hK K
     refine norm_ (a' := ?_) ?_ ?_
     rotate_left
     ·show Act.put _ (some 6) _ = _
      simp only [Act.put, List.setIfInBounds_toArray, List.set_cons_zero, List.set_cons_succ, i64_w, i32_w]
      rfl
     refine px 2 (some 7) (tf 3 27) HT_ ?_
     refine px 3 (some 8) (tf 4 27) HT_ ?_
     refine px 4 (some 9) (tf 5 27) HT_ ?_
     refine px 5 (some 10) (tf 6 27) HT_ ?_
     refine px 7 (some 12) (tb 27 191) HT_ ?_
     refine px 8 (some 13) (tb 27 447) HT_ ?_
     refine px 9 (some 14) (tb 27 959) HT_ ?_
     refine tx (v := ?_) 6 (some 11) (tf 10 27) HT_ HW_ hHeld ?_ ?_
     rotate_left; (· rintro w' ⟨s0, s1, s2, s3, s4, s5, s6, s7⟩; go_simp; with_reducible rfl)
     refine tx (v := ?_) 10 (some 15) (tf 11 27) HT_ HW_ hHeld ?_ ?_
     rotate_left; (· rintro w' ⟨s0, s1, s2, s3, s4, s5, s6, s7⟩; go_simp; with_reducible rfl)
     refine px 11 (some 16) (tf 12 27) HT_ ?_
     refine px 12 (some 17) (tf 13 27) HT_ ?_
     refine px 13 (some 18) (tf 14 27) HT_ ?_
     refine px 14 (some 19) (tf 15 27) HT_ ?_
     refine sx 15 (some 20) (tf 16 27) HT_ ?_
     refine sx 16 (some 21) (tf 17 27) HT_ ?_
     refine sx 17 (some 22) (tf 18 27) HT_ ?_
     refine sx 18 (some 23) (tf 19 27) HT_ ?_
     refine sx 19 (some 24) (tf 20 27) HT_ ?_
     refine sx 20 (some 25) (tf 21 27) HT_ ?_
     refine sx 21 (some 26) (tf 22 27) HT_ ?_
     refine sx 22 (some 27) (tf 23 27) HT_ ?_
     refine sx 23 (some 28) (tf 24 27) HT_ ?_
     refine sx 24 (some 29) (tf 25 27) HT_ ?_
     refine px 25 (some 30) (tf 26 27) HT_ ?_
     refine px 26 (some 4) (tf 27 27) HT_ ?_
     refine done_ (done_of HT_.out t14_) ?_
     try go_wp2
     go_ret
     exact ⟨t5_, t1_⟩
   ·rw [if_neg c6] at H
    exact absurd H t44_
  ·rw [if_neg c5] at H
   exact absurd H t44_
 ·replace c4 := Bool.eq_false_iff.mpr c4
  subst c4
  have H1 : (some false) = some r := by rw [if_neg (show ¬ (false = true) by decide)] at H; exact H
  clear H
  have H := H1
  clear H1
  obtain rfl := Option.some.inj H
  go_enter Try.func86, Try.ntmps86
  try go_wp2
  have n0_ := Aside0.mk (below_drew1 HB.out)
  clear HB
  have HB := n0_
  clear n0_
  refine start_ (n := 27) (S := fun w' => True) (ds := []) (tf 0 27) t14_ rfl rfl trivial (fun hHeld => ?_); refine with_tabW spec_l04Fits.tab1 spec_l04Fits.bits1 (fun HT_ HW_ => ?_)
  generalize w.drew = w12 at HB hHeld ⊢
  refine px 0 (some 5) (tf 1 27) HT_ ?_
  refine one_ (i := 1) (N := some 6) (tf 2 27) rfl rfl (one_of HT_.out t14_) t31_ (fun K hK => ?_)
  refine goes_ Try.func105 t14_ rfl #[.pointer A1] t71_ rfl rfl t2_ ?_
  with_reducible refine (spec_l03Ok.calls k _ c1 l1 false _ ?side1 ?side2 A3.out).mono ?_
  (case side1 => repeat (first | exact (Kd.C_below HR1.out HB.out) | (with_reducible refine Kd.C_alloc ?_ _) | (with_reducible refine Kd.C_drewN ?_ _) | (with_reducible refine Kd.C_drew ?_)))
  (case side2 => exact HC1.out)
  rintro e w13 ⟨rfl, hb⟩
  refine ⟨_, rfl, ?_⟩
  have n0_ := Aside0.mk (below_step t1_ hb)
  clear HB
  have HB := n0_
  clear n0_
  (try clear hb)
  (try clear hb2)
  (try clear hk)
  (try clear hi)
  refine hK.out _ _ trivial (fun hHeld => ?_)
  clear hK K
  refine norm_ (a' := ?_) ?_ ?_
  rotate_left
  ·show Act.put _ (some 6) _ = _
   simp only [Act.put, List.setIfInBounds_toArray, List.set_cons_zero, List.set_cons_succ, i64_w, i32_w]
   rfl
  refine px 2 (some 7) (tf 3 27) HT_ ?_
  refine sx 3 (some 8) (tf 4 27) HT_ ?_
  refine sx 4 (some 9) (tf 5 27) HT_ ?_
  refine sx 5 (some 10) (tf 6 27) HT_ ?_
  refine sx 6 (some 11) (tf 7 27) HT_ ?_
  refine sx 7 (some 12) (tf 8 27) HT_ ?_
  refine sx 8 (some 13) (tf 9 27) HT_ ?_
  refine sx 9 (some 14) (tf 10 27) HT_ ?_
  refine sx 10 (some 15) (tf 11 27) HT_ ?_
  refine sx 11 (some 16) (tf 12 27) HT_ ?_
  refine sx 12 (some 17) (tf 13 27) HT_ ?_
  refine px 13 (some 18) (tf 14 27) HT_ ?_
  refine px 14 (some 19) (tf 15 27) HT_ ?_
  refine sx 15 (some 20) (tf 16 27) HT_ ?_
  refine sx 16 (some 21) (tf 17 27) HT_ ?_
  refine sx 17 (some 22) (tf 18 27) HT_ ?_
  refine sx 18 (some 23) (tf 19 27) HT_ ?_
  refine sx 19 (some 24) (tf 20 27) HT_ ?_
  refine sx 20 (some 25) (tf 21 27) HT_ ?_
  refine sx 21 (some 26) (tf 22 27) HT_ ?_
  refine sx 22 (some 27) (tf 23 27) HT_ ?_
  refine sx 23 (some 28) (tf 24 27) HT_ ?_
  refine sx 24 (some 29) (tf 25 27) HT_ ?_
  refine px 25 (some 30) (tf 26 27) HT_ ?_
  refine px 26 (some 4) (tf 27 27) HT_ ?_
  refine done_ (done_of HT_.out t14_) ?_
  try go_wp2
  go_ret
  exact ⟨t5_, t1_⟩

end Go.Proofs.Ytjelfhmgbhidnaa.PFnExactCriticalPipes
