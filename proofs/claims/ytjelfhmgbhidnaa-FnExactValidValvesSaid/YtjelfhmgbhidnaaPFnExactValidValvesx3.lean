-- written by wip/xprint.py, a program of this session, for this claim; not trusted: Lean checks it.
import Derived.Test.YtjelfhmgbhidnaaPFnExactValidValvesx0
import Derived.Test.YtjelfhmgbhidnaaPFnExactValidValvesx2
namespace Go.Proofs.Ytjelfhmgbhidnaa.PFnExactValidValves
open Go.RowKit Go.Proofs.YtjelfhmgbhidnaaW.PrintWords Go.Proofs.YtjelfhmgbhidnaaW.PrintLast Go.Proofs.YtjelfhmgbhidnaaW.PrintMore
attribute [local go_sem] leq_less_ max2_int min2_int max_two min_two max_three min_three max_four min_four   -- for this text's walks alone
set_option linter.unusedVariables false
set_option linter.unusedSimpArgs false

/-! ### spec_l04Fits: function 86 -/
def spec_l04Fits.f (k : Nat) (l0 : List (S32)) (l1 : List (S80)) : Option (Bool) := (spec_l03Ok.f k l1).bind fun t127 => (if t127 = true then (if 0 < (l1.length : Int) then (if 0 < (l0.length : Int) then (if ((rd_T80 l1 0).f1) < (((rd_T32 l0 0).f0).length : Int) then (some (decide (((rd_T80 l1 0).f2) < (((rd_T32 l0 0).f0).length : Int)))) else (some false)) else (none)) else (none)) else (some false))
theorem spec_l04Fits.mono : ∀ a0 a1 k, LeO (spec_l04Fits.f k a0 a1) (spec_l04Fits.f (k + 1) a0 a1) := by
 intro a0 a1 k
 unfold spec_l04Fits.f
 repeat' first
   | (with_reducible exact spec_l03Ok.mono _ _)
   | (with_reducible exact LeO.refl _)
   | (with_reducible exact LeO.none _)
   | (with_reducible refine LeO.ite ?_ ?_)
   | (with_reducible refine LeO.bind ?_ (fun _ => ?_))
   | exact spec_l03Ok.mono _ _
   | exact LeO.none _
   | refine LeO.ite ?_ ?_
   | refine LeO.bind ?_ (fun _ => ?_)
def spec_l04Fits.T1 : Bool × List (List Nat × List Nat) := (true, [([], []), ([0], [0]), ([1, 1], [1]), ([2], [2]), ([3, 2], [2, 3]), ([4, 2], [2, 4]), ([5, 2], [2, 5]), ([2], [2]), ([7, 2], [2, 7]), ([8, 2], [2, 8]), ([9, 2], [2, 9]), ([10, 2], [2, 10]), ([6, 11, 2], [2, 6, 11]), ([2, 12], [2, 12]), ([13, 2], [13]), ([14], [14]), ([15, 14], [14, 15]), ([16, 14], [14, 16]), ([17, 14], [14, 17]), ([14], [14]), ([19, 14], [14, 19]), ([20, 14], [14, 20]), ([21, 14], [14, 21]), ([22, 14], [14, 22]), ([18, 23, 14], [14, 18, 23]), ([14, 24], [14, 24]), ([25, 14, 0, 1, 2, 3, 4, 5, 6, 7, 8, 9, 10, 11, 12, 13, 14, 15, 16, 17, 18, 19, 20, 21, 22, 23, 24, 25], [25])])
def spec_l04Fits.B1 : List Nat := [0, 1, 3, 7, 15, 31, 63, 7, 135, 391, 903, 1927, 4095, 8191, 16383, 32767, 65535, 131071, 262143, 32767, 557055, 1605631, 3702783, 7897087, 16777215, 33554431, 67108863]
theorem spec_l04Fits.tab1 : rtab .any (opsOf Try.f86 1) = spec_l04Fits.T1 := by kernel_rfl
theorem spec_l04Fits.bits1 : waitsOk spec_l04Fits.T1.2 spec_l04Fits.B1 = true := by kernel_rfl
set_option maxHeartbeats 8000000 in
set_option maxRecDepth 100000 in
theorem spec_l04Fits.calls (k : Nat) (A0 : Option Addr) (c0 : Nat) (l0 : List (S32)) (A1 : Option Addr) (c1 : Nat) (l1 : List (S80)) (r : Bool) (w : World) (hr0 : Kd.C k32 w A0 l0.length l0) (hc0 : l0.length ≤ c0) (hr1 : Kd.C k80 w A1 l1.length l1) (hc1 : l1.length ≤ c1) (h : spec_l04Fits.f k l0 l1 = some r) :
  Calls Try.prog 86 #[.pointer A0, .pointer A1] w fun e w' => e = .returned (.bool r) ∧ Below w.heap.size w w' := by
 have HR0 := Aside0.mk hr0
 have HC0 := Aside0.mk hc0
 clear hr0 hc0
 have HR1 := Aside0.mk hr1
 have HC1 := Aside0.mk hc1
 clear hr1 hc1
 have HB := Aside0.mk (Below.refl w.heap.size w)
 have H : ((spec_l03Ok.f k l1).bind fun t127 => (if t127 = true then (if 0 < (l1.length : Int) then (if 0 < (l0.length : Int) then (if ((rd_T80 l1 0).f1) < (((rd_T32 l0 0).f0).length : Int) then (some (decide (((rd_T80 l1 0).f2) < (((rd_T32 l0 0).f0).length : Int)))) else (some false)) else (none)) else (none)) else (some false))) = some r := h
 clear h
 replace H := Option.bind_eq_some_iff.mp H
 obtain ⟨t127, A30, H⟩ := H
 replace H : (if t127 = true then (if 0 < (l1.length : Int) then (if 0 < (l0.length : Int) then (if ((rd_T80 l1 0).f1) < (((rd_T32 l0 0).f0).length : Int) then (some (decide (((rd_T80 l1 0).f2) < (((rd_T32 l0 0).f0).length : Int)))) else (some false)) else (none)) else (none)) else (some false)) = some r := H
 have A3 := Aside0.mk A30
 clear A30
 by_cases c4 : t127 = true
 ·subst c4
  have H1 : (if 0 < (l1.length : Int) then (if 0 < (l0.length : Int) then (if ((rd_T80 l1 0).f1) < (((rd_T32 l0 0).f0).length : Int) then (some (decide (((rd_T80 l1 0).f2) < (((rd_T32 l0 0).f0).length : Int)))) else (some false)) else (none)) else (none)) = some r := by rw [if_pos rfl] at H; exact H
  clear H
  have H := H1
  clear H1
  by_cases c5 : 0 < (l1.length : Int)
  ·rw [if_pos c5] at H
   have c5b0 : decide (0 < (l1.length : Int)) = true := decide_eq_true c5
   have c5b1 : decide (0 < l1.length) = true := decide_eq_true t12_
   clear c5
   by_cases c6 : 0 < (l0.length : Int)
   ·rw [if_pos c6] at H
    have c6b0 : decide (0 < (l0.length : Int)) = true := decide_eq_true c6
    have c6b1 : decide (0 < l0.length) = true := decide_eq_true t12_
    clear c6
    by_cases c7 : ((rd_T80 l1 0).f1) < (((rd_T32 l0 0).f0).length : Int)
    ·rw [if_pos c7] at H
     have c7b0 : decide (((rd_T80 l1 0).f1) < (((rd_T32 l0 0).f0).length : Int)) = true := decide_eq_true c7
     clear c7
     obtain rfl := Option.some.inj H
     go_enter Try.func86, Try.ntmps86
     try go_wp2
     have n0_ := Aside0.mk (below_drew1 HB.out)
     clear HB
     have HB := n0_
     clear n0_
     have p128 : 0 ≤ (0 : Int) := t12_
     have q128 : 0 < (l1.length : Int) := of_decide_eq_true t3_
     obtain ⟨ad128, e128, hx128_0, hx128_1, hx128_2, hx128_3, hx128_4, hx128_5⟩ := at_T80 HR1.out 0 p128 q128
     have hw128_5 := hx128_5
     (try rw [show ((0 : Int)).toNat = 0 from rfl] at hw128_5)
     (try rw [show 0 * 6 = 0 from rfl] at hw128_5)
     (try rw [Addr.add_zero'] at hw128_5)
     have hw128_4 := hx128_4
     (try rw [show ((0 : Int)).toNat = 0 from rfl] at hw128_4)
     (try rw [show 0 * 6 = 0 from rfl] at hw128_4)
     (try rw [Addr.add_zero'] at hw128_4)
     have hw128_3 := hx128_3
     (try rw [show ((0 : Int)).toNat = 0 from rfl] at hw128_3)
     (try rw [show 0 * 6 = 0 from rfl] at hw128_3)
     (try rw [Addr.add_zero'] at hw128_3)
     have hw128_2 := hx128_2
     (try rw [show ((0 : Int)).toNat = 0 from rfl] at hw128_2)
     (try rw [show 0 * 6 = 0 from rfl] at hw128_2)
     (try rw [Addr.add_zero'] at hw128_2)
     have hw128_1 := hx128_1
     (try rw [show ((0 : Int)).toNat = 0 from rfl] at hw128_1)
     (try rw [show 0 * 6 = 0 from rfl] at hw128_1)
     (try rw [Addr.add_zero'] at hw128_1)
     have hw128_0 := hx128_0
     (try rw [show ((0 : Int)).toNat = 0 from rfl] at hw128_0)
     (try rw [show 0 * 6 = 0 from rfl] at hw128_0)
     (try rw [Addr.add_zero'] at hw128_0)
     cases e128
     have qi128 : (0 < l1.length) = True := eq_true t12_
     (try rw [show ((0 : Int)).toNat = 0 from rfl] at hx128_0)
     (try rw [show 0 * 6 = 0 from rfl] at hx128_0)
     (try rw [Addr.add_zero'] at hx128_0)
     (try rw [show ((0 : Int)).toNat = 0 from rfl] at hx128_1)
     (try rw [show 0 * 6 = 0 from rfl] at hx128_1)
     (try rw [Addr.add_zero'] at hx128_1)
     (try rw [show ((0 : Int)).toNat = 0 from rfl] at hx128_2)
     (try rw [show 0 * 6 = 0 from rfl] at hx128_2)
     (try rw [Addr.add_zero'] at hx128_2)
     (try rw [show ((0 : Int)).toNat = 0 from rfl] at hx128_3)
     (try rw [show 0 * 6 = 0 from rfl] at hx128_3)
     (try rw [Addr.add_zero'] at hx128_3)
     (try rw [show ((0 : Int)).toNat = 0 from rfl] at hx128_4)
     (try rw [show 0 * 6 = 0 from rfl] at hx128_4)
     (try rw [Addr.add_zero'] at hx128_4)
     (try rw [show ((0 : Int)).toNat = 0 from rfl] at hx128_5)
     (try rw [show 0 * 6 = 0 from rfl] at hx128_5)
     (try rw [Addr.add_zero'] at hx128_5)
     replace hx128_0 := (HB.out.cell (World.block_lt_of_cell? w _ hx128_0)).trans hx128_0
     replace hx128_1 := (HB.out.cell (World.block_lt_of_cell? w _ hx128_1)).trans hx128_1
     replace hx128_2 := (HB.out.cell (World.block_lt_of_cell? w _ hx128_2)).trans hx128_2
     replace hx128_3 := (HB.out.cell (World.block_lt_of_cell? w _ hx128_3)).trans hx128_3
     replace hx128_4 := (HB.out.cell (World.block_lt_of_cell? w _ hx128_4)).trans hx128_4
     replace hx128_5 := (HB.out.cell (World.block_lt_of_cell? w _ hx128_5)).trans hx128_5
     replace p128 := eq_true p128
     replace q128 := eq_true q128
     have p129 : 0 ≤ (0 : Int) := t12_
     have q129 : 0 < (l0.length : Int) := of_decide_eq_true t3_
     obtain ⟨ad129, A129_0, c129_0, A129_1, c129_1, e129, hx129_0, hx129_1, hl129_0, hi129_0, hl129_1, hi129_1⟩ := at_T32 HR0.out 0 p129 q129
     have hw129_1 := hx129_1
     (try rw [show ((0 : Int)).toNat = 0 from rfl] at hw129_1)
     (try rw [show 0 * 2 = 0 from rfl] at hw129_1)
     (try rw [Addr.add_zero'] at hw129_1)
     have hw129_0 := hx129_0
     (try rw [show ((0 : Int)).toNat = 0 from rfl] at hw129_0)
     (try rw [show 0 * 2 = 0 from rfl] at hw129_0)
     (try rw [Addr.add_zero'] at hw129_0)
     cases e129
     have qi129 : (0 < l0.length) = True := eq_true t12_
     (try rw [show ((0 : Int)).toNat = 0 from rfl] at hx129_0)
     (try rw [show 0 * 2 = 0 from rfl] at hx129_0)
     (try rw [Addr.add_zero'] at hx129_0)
     (try rw [show ((0 : Int)).toNat = 0 from rfl] at hx129_1)
     (try rw [show 0 * 2 = 0 from rfl] at hx129_1)
     (try rw [Addr.add_zero'] at hx129_1)
     replace hx129_0 := (HB.out.cell (World.block_lt_of_cell? w _ hx129_0)).trans hx129_0
     replace hx129_1 := (HB.out.cell (World.block_lt_of_cell? w _ hx129_1)).trans hx129_1
     have HR129_0 := Aside0.mk hi129_0
     have HC129_0 := Aside0.mk hl129_0
     clear hi129_0 hl129_0
     have HR129_1 := Aside0.mk hi129_1
     have HC129_1 := Aside0.mk hl129_1
     clear hi129_1 hl129_1
     replace p129 := eq_true p129
     replace q129 := eq_true q129
     have p130 : 0 ≤ (0 : Int) := t12_
     have q130 : 0 < (l1.length : Int) := of_decide_eq_true t3_
     obtain ⟨ad130, e130, hx130_0, hx130_1, hx130_2, hx130_3, hx130_4, hx130_5⟩ := at_T80 HR1.out 0 p130 q130
     have hw130_5 := hx130_5
     (try rw [show ((0 : Int)).toNat = 0 from rfl] at hw130_5)
     (try rw [show 0 * 6 = 0 from rfl] at hw130_5)
     (try rw [Addr.add_zero'] at hw130_5)
     have hw130_4 := hx130_4
     (try rw [show ((0 : Int)).toNat = 0 from rfl] at hw130_4)
     (try rw [show 0 * 6 = 0 from rfl] at hw130_4)
     (try rw [Addr.add_zero'] at hw130_4)
     have hw130_3 := hx130_3
     (try rw [show ((0 : Int)).toNat = 0 from rfl] at hw130_3)
     (try rw [show 0 * 6 = 0 from rfl] at hw130_3)
     (try rw [Addr.add_zero'] at hw130_3)
     have hw130_2 := hx130_2
     (try rw [show ((0 : Int)).toNat = 0 from rfl] at hw130_2)
     (try rw [show 0 * 6 = 0 from rfl] at hw130_2)
     (try rw [Addr.add_zero'] at hw130_2)
     have hw130_1 := hx130_1
     (try rw [show ((0 : Int)).toNat = 0 from rfl] at hw130_1)
     (try rw [show 0 * 6 = 0 from rfl] at hw130_1)
     (try rw [Addr.add_zero'] at hw130_1)
     have hw130_0 := hx130_0
     (try rw [show ((0 : Int)).toNat = 0 from rfl] at hw130_0)
     (try rw [show 0 * 6 = 0 from rfl] at hw130_0)
     (try rw [Addr.add_zero'] at hw130_0)
     obtain rfl : ad128 = ad130 := (by injection e130)
     have qi130 : (0 < l1.length) = True := eq_true t12_
     (try rw [show ((0 : Int)).toNat = 0 from rfl] at hx130_0)
     (try rw [show 0 * 6 = 0 from rfl] at hx130_0)
     (try rw [Addr.add_zero'] at hx130_0)
     (try rw [show ((0 : Int)).toNat = 0 from rfl] at hx130_1)
     (try rw [show 0 * 6 = 0 from rfl] at hx130_1)
     (try rw [Addr.add_zero'] at hx130_1)
     (try rw [show ((0 : Int)).toNat = 0 from rfl] at hx130_2)
     (try rw [show 0 * 6 = 0 from rfl] at hx130_2)
     (try rw [Addr.add_zero'] at hx130_2)
     (try rw [show ((0 : Int)).toNat = 0 from rfl] at hx130_3)
     (try rw [show 0 * 6 = 0 from rfl] at hx130_3)
     (try rw [Addr.add_zero'] at hx130_3)
     (try rw [show ((0 : Int)).toNat = 0 from rfl] at hx130_4)
     (try rw [show 0 * 6 = 0 from rfl] at hx130_4)
     (try rw [Addr.add_zero'] at hx130_4)
     (try rw [show ((0 : Int)).toNat = 0 from rfl] at hx130_5)
     (try rw [show 0 * 6 = 0 from rfl] at hx130_5)
     (try rw [Addr.add_zero'] at hx130_5)
     replace hx130_0 := (HB.out.cell (World.block_lt_of_cell? w _ hx130_0)).trans hx130_0
     replace hx130_1 := (HB.out.cell (World.block_lt_of_cell? w _ hx130_1)).trans hx130_1
     replace hx130_2 := (HB.out.cell (World.block_lt_of_cell? w _ hx130_2)).trans hx130_2
     replace hx130_3 := (HB.out.cell (World.block_lt_of_cell? w _ hx130_3)).trans hx130_3
     replace hx130_4 := (HB.out.cell (World.block_lt_of_cell? w _ hx130_4)).trans hx130_4
     replace hx130_5 := (HB.out.cell (World.block_lt_of_cell? w _ hx130_5)).trans hx130_5
     replace p130 := eq_true p130
     replace q130 := eq_true q130
     have p131 : 0 ≤ (0 : Int) := t12_
     have q131 : 0 < (l0.length : Int) := of_decide_eq_true t3_
     obtain ⟨ad131, A131_0, c131_0, A131_1, c131_1, e131, hx131_0, hx131_1, hl131_0, hi131_0, hl131_1, hi131_1⟩ := at_T32 HR0.out 0 p131 q131
     have hw131_1 := hx131_1
     (try rw [show ((0 : Int)).toNat = 0 from rfl] at hw131_1)
     (try rw [show 0 * 2 = 0 from rfl] at hw131_1)
     (try rw [Addr.add_zero'] at hw131_1)
     have hw131_0 := hx131_0
     (try rw [show ((0 : Int)).toNat = 0 from rfl] at hw131_0)
     (try rw [show 0 * 2 = 0 from rfl] at hw131_0)
     (try rw [Addr.add_zero'] at hw131_0)
     obtain rfl : ad129 = ad131 := (by injection e131)
     have qi131 : (0 < l0.length) = True := eq_true t12_
     (try rw [show ((0 : Int)).toNat = 0 from rfl] at hx131_0)
     (try rw [show 0 * 2 = 0 from rfl] at hx131_0)
     (try rw [Addr.add_zero'] at hx131_0)
     (try rw [show ((0 : Int)).toNat = 0 from rfl] at hx131_1)
     (try rw [show 0 * 2 = 0 from rfl] at hx131_1)
     (try rw [Addr.add_zero'] at hx131_1)
     replace hx131_0 := (HB.out.cell (World.block_lt_of_cell? w _ hx131_0)).trans hx131_0
     replace hx131_1 := (HB.out.cell (World.block_lt_of_cell? w _ hx131_1)).trans hx131_1
     have HR131_0 := Aside0.mk hi131_0
     have HC131_0 := Aside0.mk hl131_0
     clear hi131_0 hl131_0
     have HR131_1 := Aside0.mk hi131_1
     have HC131_1 := Aside0.mk hl131_1
     clear hi131_1 hl131_1
     replace p131 := eq_true p131
     replace q131 := eq_true q131
     have ea_ := Option.some.inj (hx129_0.symm.trans hx131_0)
     injection ea_ with ea_ en_ ec_
     subst ea_
     subst ec_
     clear en_
     have ea_ := Option.some.inj (hx129_1.symm.trans hx131_1)
     injection ea_ with ea_ en_ ec_
     subst ea_
     subst ec_
     clear en_
     refine start_ (n := 27) (S := fun w' => w'.cell? ad128 = some (.string ((rd_T80 l1 0).f0)) ∧ w'.cell? ⟨ad128.block, ad128.off + 1, none⟩ = some (.int .i64 ((rd_T80 l1 0).f1)) ∧ w'.cell? ⟨ad128.block, ad128.off + 2, none⟩ = some (.int .i64 ((rd_T80 l1 0).f2)) ∧ w'.cell? ⟨ad128.block, ad128.off + 3, none⟩ = some (.int .i64 ((rd_T80 l1 0).f3)) ∧ w'.cell? ⟨ad128.block, ad128.off + 4, none⟩ = some (.int .i64 ((rd_T80 l1 0).f4)) ∧ w'.cell? ⟨ad128.block, ad128.off + 5, none⟩ = some (.int .i64 ((rd_T80 l1 0).f5)) ∧ w'.cell? ad129 = some (.slice A129_0 ((rd_T32 l0 0).f0).length c129_0) ∧ w'.cell? ⟨ad129.block, ad129.off + 1, none⟩ = some (.slice A129_1 ((rd_T32 l0 0).f1).length c129_1) ∧ w'.cell? ad128 = some (.string ((rd_T80 l1 0).f0)) ∧ w'.cell? ⟨ad128.block, ad128.off + 1, none⟩ = some (.int .i64 ((rd_T80 l1 0).f1)) ∧ w'.cell? ⟨ad128.block, ad128.off + 2, none⟩ = some (.int .i64 ((rd_T80 l1 0).f2)) ∧ w'.cell? ⟨ad128.block, ad128.off + 3, none⟩ = some (.int .i64 ((rd_T80 l1 0).f3)) ∧ w'.cell? ⟨ad128.block, ad128.off + 4, none⟩ = some (.int .i64 ((rd_T80 l1 0).f4)) ∧ w'.cell? ⟨ad128.block, ad128.off + 5, none⟩ = some (.int .i64 ((rd_T80 l1 0).f5)) ∧ w'.cell? ad129 = some (.slice A129_0 ((rd_T32 l0 0).f0).length c129_0) ∧ w'.cell? ⟨ad129.block, ad129.off + 1, none⟩ = some (.slice A129_1 ((rd_T32 l0 0).f1).length c129_1)) (ds := []) (tf 0 27) t8_ rfl rfl ⟨((HB.out.cell (World.block_lt_of_cell? w _ hw128_0)).trans hw128_0), ((HB.out.cell (World.block_lt_of_cell? w _ hw128_1)).trans hw128_1), ((HB.out.cell (World.block_lt_of_cell? w _ hw128_2)).trans hw128_2), ((HB.out.cell (World.block_lt_of_cell? w _ hw128_3)).trans hw128_3), ((HB.out.cell (World.block_lt_of_cell? w _ hw128_4)).trans hw128_4), ((HB.out.cell (World.block_lt_of_cell? w _ hw128_5)).trans hw128_5), ((HB.out.cell (World.block_lt_of_cell? w _ hw129_0)).trans hw129_0), ((HB.out.cell (World.block_lt_of_cell? w _ hw129_1)).trans hw129_1), ((HB.out.cell (World.block_lt_of_cell? w _ hw130_0)).trans hw130_0), ((HB.out.cell (World.block_lt_of_cell? w _ hw130_1)).trans hw130_1), ((HB.out.cell (World.block_lt_of_cell? w _ hw130_2)).trans hw130_2), ((HB.out.cell (World.block_lt_of_cell? w _ hw130_3)).trans hw130_3), ((HB.out.cell (World.block_lt_of_cell? w _ hw130_4)).trans hw130_4), ((HB.out.cell (World.block_lt_of_cell? w _ hw130_5)).trans hw130_5), ((HB.out.cell (World.block_lt_of_cell? w _ hw131_0)).trans hw131_0), ((HB.out.cell (World.block_lt_of_cell? w _ hw131_1)).trans hw131_1)⟩ (fun hHeld => ?_); refine with_tabW spec_l04Fits.tab1 spec_l04Fits.bits1 (fun HT_ HW_ => ?_)
     generalize w.drew = w8 at HB HR129_0 HR129_1 HR131_0 HR131_1 hx128_0 hx128_1 hx128_2 hx128_3 hx128_4 hx128_5 hx129_0 hx129_1 hx130_0 hx130_1 hx130_2 hx130_3 hx130_4 hx130_5 hx131_0 hx131_1 hHeld ⊢
     refine px 0 (some 5) (tf 1 27) HT_ ?_
     refine one_ (i := 1) (N := some 6) (tf 2 27) rfl rfl (one_of HT_.out t8_) t20_ (fun K hK => ?_)
     refine goes_ Try.func105 t8_ rfl #[.pointer (some ad128)] t37_ rfl rfl t2_ ?_
     with_reducible refine (spec_l03Ok.calls k _ c1 l1 true _ ?side1 ?side2 A3.out).mono ?_
     (case side1 => repeat (first | exact (Kd.C_below HR1.out HB.out) | (with_reducible refine Kd.C_alloc ?_ _) | (with_reducible refine Kd.C_drewN ?_ _) | (with_reducible refine Kd.C_drew ?_)))
     (case side2 => exact HC1.out)
     rintro e w9 ⟨rfl, hb⟩
     refine ⟨_, rfl, ?_⟩
     have n0_ := Aside0.mk (below_step t1_ hb)
     clear HB
     have HB := n0_
     clear n0_
     (try clear hb)
     (try clear hb2)
     (try clear hk)
     (try clear hi)
     refine hK.out _ _ ⟨((HB.out.cell (World.block_lt_of_cell? w _ hw128_0)).trans hw128_0), ((HB.out.cell (World.block_lt_of_cell? w _ hw128_1)).trans hw128_1), ((HB.out.cell (World.block_lt_of_cell? w _ hw128_2)).trans hw128_2), ((HB.out.cell (World.block_lt_of_cell? w _ hw128_3)).trans hw128_3), ((HB.out.cell (World.block_lt_of_cell? w _ hw128_4)).trans hw128_4), ((HB.out.cell (World.block_lt_of_cell? w _ hw128_5)).trans hw128_5), ((HB.out.cell (World.block_lt_of_cell? w _ hw129_0)).trans hw129_0), ((HB.out.cell (World.block_lt_of_cell? w _ hw129_1)).trans hw129_1), ((HB.out.cell (World.block_lt_of_cell? w _ hw130_0)).trans hw130_0), ((HB.out.cell (World.block_lt_of_cell? w _ hw130_1)).trans hw130_1), ((HB.out.cell (World.block_lt_of_cell? w _ hw130_2)).trans hw130_2), ((HB.out.cell (World.block_lt_of_cell? w _ hw130_3)).trans hw130_3), ((HB.out.cell (World.block_lt_of_cell? w _ hw130_4)).trans hw130_4), ((HB.out.cell (World.block_lt_of_cell? w _ hw130_5)).trans hw130_5), ((HB.out.cell (World.block_lt_of_cell? w _ hw131_0)).trans hw131_0), ((HB.out.cell (World.block_lt_of_cell? w _ hw131_1)).trans hw131_1)⟩ (fun hHeld => ?_)
     clear hK K
     refine norm_ (a' := ?_) ?_ ?_
     rotate_left
     ·show Act.put _ (some 6) _ = _
      simp only [Act.put, List.setIfInBounds_toArray, List.set_cons_zero, List.set_cons_succ, i64_w, i32_w]
      rfl
     refine px 2 (some 7) (tf 3 27) HT_ ?_
     refine px 3 (some 8) (tf 4 27) HT_ ?_
     refine px 4 (some 9) (tf 5 27) HT_ ?_
     refine px 5 (some 10) (tf 6 27) HT_ ?_
     refine px 7 (some 12) (tb 27 191) HT_ ?_
     refine px 8 (some 13) (tb 27 447) HT_ ?_
     refine px 9 (some 14) (tb 27 959) HT_ ?_
     refine tx (v := ?_) 6 (some 11) (tf 10 27) HT_ HW_ hHeld ?_ ?_
     rotate_left; (· rintro w' ⟨s0, s1, s2, s3, s4, s5, s6, s7, s8, s9, s10, s11, s12, s13, s14, s15⟩; go_simp; with_reducible rfl)
     refine tx (v := ?_) 10 (some 15) (tf 11 27) HT_ HW_ hHeld ?_ ?_
     rotate_left; (· rintro w' ⟨s0, s1, s2, s3, s4, s5, s6, s7, s8, s9, s10, s11, s12, s13, s14, s15⟩; go_simp; with_reducible rfl)
     refine px 11 (some 16) (tf 12 27) HT_ ?_
     refine px 12 (some 17) (tf 13 27) HT_ ?_
     refine px 13 (some 18) (tf 14 27) HT_ ?_
     refine px 14 (some 19) (tf 15 27) HT_ ?_
     refine px 15 (some 20) (tf 16 27) HT_ ?_
     refine px 16 (some 21) (tf 17 27) HT_ ?_
     refine px 17 (some 22) (tf 18 27) HT_ ?_
     refine px 19 (some 24) (tb 27 786431) HT_ ?_
     refine px 20 (some 25) (tb 27 1835007) HT_ ?_
     refine px 21 (some 26) (tb 27 3932159) HT_ ?_
     refine tx (v := ?_) 18 (some 23) (tf 22 27) HT_ HW_ hHeld ?_ ?_
     rotate_left; (· rintro w' ⟨s0, s1, s2, s3, s4, s5, s6, s7, s8, s9, s10, s11, s12, s13, s14, s15⟩; go_simp; with_reducible rfl)
     refine tx (v := ?_) 22 (some 27) (tf 23 27) HT_ HW_ hHeld ?_ ?_
     rotate_left; (· rintro w' ⟨s0, s1, s2, s3, s4, s5, s6, s7, s8, s9, s10, s11, s12, s13, s14, s15⟩; go_simp; with_reducible rfl)
     refine px 23 (some 28) (tf 24 27) HT_ ?_
     refine px 24 (some 29) (tf 25 27) HT_ ?_
     refine px 25 (some 30) (tf 26 27) HT_ ?_
     refine px 26 (some 4) (tf 27 27) HT_ ?_
     refine done_ (done_of HT_.out t8_) ?_
     try go_wp2
     go_ret
     exact ⟨by first | rfl | (rw [Int.tdiv_eq_ediv_of_nonneg t12_]; rfl) | (simp [errW_none, errW_some] <;> rfl) | (simp [*, errW_none, errW_some] <;> rfl), by repeat (first | (with_reducible first | exact HB.out | apply below_alloc | apply pw_below_drewN | apply below_drew1) | exact HB.out)⟩
    ·rw [if_neg c7] at H
     have c7b0 : decide (((rd_T80 l1 0).f1) < (((rd_T32 l0 0).f0).length : Int)) = false := decide_eq_false c7
     clear c7
     obtain rfl := Option.some.inj H
     go_enter Try.func86, Try.ntmps86
     try go_wp2
     have n0_ := Aside0.mk (below_drew1 HB.out)
     clear HB
     have HB := n0_
     clear n0_
     have p128 : 0 ≤ (0 : Int) := t12_
     have q128 : 0 < (l1.length : Int) := of_decide_eq_true t3_
     obtain ⟨ad128, e128, hx128_0, hx128_1, hx128_2, hx128_3, hx128_4, hx128_5⟩ := at_T80 HR1.out 0 p128 q128
     have hw128_5 := hx128_5
     (try rw [show ((0 : Int)).toNat = 0 from rfl] at hw128_5)
     (try rw [show 0 * 6 = 0 from rfl] at hw128_5)
     (try rw [Addr.add_zero'] at hw128_5)
     have hw128_4 := hx128_4
     (try rw [show ((0 : Int)).toNat = 0 from rfl] at hw128_4)
     (try rw [show 0 * 6 = 0 from rfl] at hw128_4)
     (try rw [Addr.add_zero'] at hw128_4)
     have hw128_3 := hx128_3
     (try rw [show ((0 : Int)).toNat = 0 from rfl] at hw128_3)
     (try rw [show 0 * 6 = 0 from rfl] at hw128_3)
     (try rw [Addr.add_zero'] at hw128_3)
     have hw128_2 := hx128_2
     (try rw [show ((0 : Int)).toNat = 0 from rfl] at hw128_2)
     (try rw [show 0 * 6 = 0 from rfl] at hw128_2)
     (try rw [Addr.add_zero'] at hw128_2)
     have hw128_1 := hx128_1
     (try rw [show ((0 : Int)).toNat = 0 from rfl] at hw128_1)
     (try rw [show 0 * 6 = 0 from rfl] at hw128_1)
     (try rw [Addr.add_zero'] at hw128_1)
     have hw128_0 := hx128_0
     (try rw [show ((0 : Int)).toNat = 0 from rfl] at hw128_0)
     (try rw [show 0 * 6 = 0 from rfl] at hw128_0)
     (try rw [Addr.add_zero'] at hw128_0)
     cases e128
     have qi128 : (0 < l1.length) = True := eq_true t12_
     (try rw [show ((0 : Int)).toNat = 0 from rfl] at hx128_0)
     (try rw [show 0 * 6 = 0 from rfl] at hx128_0)
     (try rw [Addr.add_zero'] at hx128_0)
     (try rw [show ((0 : Int)).toNat = 0 from rfl] at hx128_1)
     (try rw [show 0 * 6 = 0 from rfl] at hx128_1)
     (try rw [Addr.add_zero'] at hx128_1)
     (try rw [show ((0 : Int)).toNat = 0 from rfl] at hx128_2)
     (try rw [show 0 * 6 = 0 from rfl] at hx128_2)
     (try rw [Addr.add_zero'] at hx128_2)
     (try rw [show ((0 : Int)).toNat = 0 from rfl] at hx128_3)
     (try rw [show 0 * 6 = 0 from rfl] at hx128_3)
     (try rw [Addr.add_zero'] at hx128_3)
     (try rw [show ((0 : Int)).toNat = 0 from rfl] at hx128_4)
     (try rw [show 0 * 6 = 0 from rfl] at hx128_4)
     (try rw [Addr.add_zero'] at hx128_4)
     (try rw [show ((0 : Int)).toNat = 0 from rfl] at hx128_5)
     (try rw [show 0 * 6 = 0 from rfl] at hx128_5)
     (try rw [Addr.add_zero'] at hx128_5)
     replace hx128_0 := (HB.out.cell (World.block_lt_of_cell? w _ hx128_0)).trans hx128_0
     replace hx128_1 := (HB.out.cell (World.block_lt_of_cell? w _ hx128_1)).trans hx128_1
     replace hx128_2 := (HB.out.cell (World.block_lt_of_cell? w _ hx128_2)).trans hx128_2
     replace hx128_3 := (HB.out.cell (World.block_lt_of_cell? w _ hx128_3)).trans hx128_3
     replace hx128_4 := (HB.out.cell (World.block_lt_of_cell? w _ hx128_4)).trans hx128_4
     replace hx128_5 := (HB.out.cell (World.block_lt_of_cell? w _ hx128_5)).trans hx128_5
     replace p128 := eq_true p128
     replace q128 := eq_true q128
     have p129 : 0 ≤ (0 : Int) := t12_
     have q129 : 0 < (l0.length : Int) := of_decide_eq_true t3_
     obtain ⟨ad129, A129_0, c129_0, A129_1, c129_1, e129, hx129_0, hx129_1, hl129_0, hi129_0, hl129_1, hi129_1⟩ := at_T32 HR0.out 0 p129 q129
     have hw129_1 := hx129_1
     (try rw [show ((0 : Int)).toNat = 0 from rfl] at hw129_1)
     (try rw [show 0 * 2 = 0 from rfl] at hw129_1)
     (try rw [Addr.add_zero'] at hw129_1)
     have hw129_0 := hx129_0
     (try rw [show ((0 : Int)).toNat = 0 from rfl] at hw129_0)
     (try rw [show 0 * 2 = 0 from rfl] at hw129_0)
     (try rw [Addr.add_zero'] at hw129_0)
     cases e129
     have qi129 : (0 < l0.length) = True := eq_true t12_
     (try rw [show ((0 : Int)).toNat = 0 from rfl] at hx129_0)
     (try rw [show 0 * 2 = 0 from rfl] at hx129_0)
     (try rw [Addr.add_zero'] at hx129_0)
     (try rw [show ((0 : Int)).toNat = 0 from rfl] at hx129_1)
     (try rw [show 0 * 2 = 0 from rfl] at hx129_1)
     (try rw [Addr.add_zero'] at hx129_1)
     replace hx129_0 := (HB.out.cell (World.block_lt_of_cell? w _ hx129_0)).trans hx129_0
     replace hx129_1 := (HB.out.cell (World.block_lt_of_cell? w _ hx129_1)).trans hx129_1
     have HR129_0 := Aside0.mk hi129_0
     have HC129_0 := Aside0.mk hl129_0
     clear hi129_0 hl129_0
     have HR129_1 := Aside0.mk hi129_1
     have HC129_1 := Aside0.mk hl129_1
     clear hi129_1 hl129_1
     replace p129 := eq_true p129
     replace q129 := eq_true q129
     refine start_ (n := 27) (S := fun w' => w'.cell? ad128 = some (.string ((rd_T80 l1 0).f0)) ∧ w'.cell? ⟨ad128.block, ad128.off + 1, none⟩ = some (.int .i64 ((rd_T80 l1 0).f1)) ∧ w'.cell? ⟨ad128.block, ad128.off + 2, none⟩ = some (.int .i64 ((rd_T80 l1 0).f2)) ∧ w'.cell? ⟨ad128.block, ad128.off + 3, none⟩ = some (.int .i64 ((rd_T80 l1 0).f3)) ∧ w'.cell? ⟨ad128.block, ad128.off + 4, none⟩ = some (.int .i64 ((rd_T80 l1 0).f4)) ∧ w'.cell? ⟨ad128.block, ad128.off + 5, none⟩ = some (.int .i64 ((rd_T80 l1 0).f5)) ∧ w'.cell? ad129 = some (.slice A129_0 ((rd_T32 l0 0).f0).length c129_0) ∧ w'.cell? ⟨ad129.block, ad129.off + 1, none⟩ = some (.slice A129_1 ((rd_T32 l0 0).f1).length c129_1)) (ds := []) (tf 0 27) t8_ rfl rfl ⟨((HB.out.cell (World.block_lt_of_cell? w _ hw128_0)).trans hw128_0), ((HB.out.cell (World.block_lt_of_cell? w _ hw128_1)).trans hw128_1), ((HB.out.cell (World.block_lt_of_cell? w _ hw128_2)).trans hw128_2), ((HB.out.cell (World.block_lt_of_cell? w _ hw128_3)).trans hw128_3), ((HB.out.cell (World.block_lt_of_cell? w _ hw128_4)).trans hw128_4), ((HB.out.cell (World.block_lt_of_cell? w _ hw128_5)).trans hw128_5), ((HB.out.cell (World.block_lt_of_cell? w _ hw129_0)).trans hw129_0), ((HB.out.cell (World.block_lt_of_cell? w _ hw129_1)).trans hw129_1)⟩ (fun hHeld => ?_); refine with_tabW spec_l04Fits.tab1 spec_l04Fits.bits1 (fun HT_ HW_ => ?_)
     generalize w.drew = w10 at HB HR129_0 HR129_1 hx128_0 hx128_1 hx128_2 hx128_3 hx128_4 hx128_5 hx129_0 hx129_1 hHeld ⊢
     refine px 0 (some 5) (tf 1 27) HT_ ?_
     refine one_ (i := 1) (N := some 6) (tf 2 27) rfl rfl (one_of HT_.out t8_) t20_ (fun K hK => ?_)
     refine goes_ Try.func105 t8_ rfl #[.pointer (some ad128)] t37_ rfl rfl t2_ ?_
     with_reducible refine (spec_l03Ok.calls k _ c1 l1 true _ ?side1 ?side2 A3.out).mono ?_
     (case side1 => repeat (first | exact (Kd.C_below HR1.out HB.out) | (with_reducible refine Kd.C_alloc ?_ _) | (with_reducible refine Kd.C_drewN ?_ _) | (with_reducible refine Kd.C_drew ?_)))
     (case side2 => exact HC1.out)
     rintro e w11 ⟨rfl, hb⟩
     refine ⟨_, rfl, ?_⟩
     have n0_ := Aside0.mk (below_step t1_ hb)
     clear HB
     have HB := n0_
     clear n0_
     (try clear hb)
     (try clear hb2)
     (try clear hk)
     (try clear hi)
     refine hK.out _ _ ⟨((HB.out.cell (World.block_lt_of_cell? w _ hw128_0)).trans hw128_0), ((HB.out.cell (World.block_lt_of_cell? w _ hw128_1)).trans hw128_1), ((HB.out.cell (World.block_lt_of_cell? w _ hw128_2)).trans hw128_2), ((HB.out.cell (World.block_lt_of_cell? w _ hw128_3)).trans hw128_3), ((HB.out.cell (World.block_lt_of_cell? w _ hw128_4)).trans hw128_4), ((HB.out.cell (World.block_lt_of_cell? w _ hw128_5)).trans hw128_5), ((HB.out.cell (World.block_lt_of_cell? w _ hw129_0)).trans hw129_0), ((HB.out.cell (World.block_lt_of_cell? w _ hw129_1)).trans hw129_1)⟩ (fun hHeld => ?_)
     clear hK K
     refine norm_ (a' := ?_) ?_ ?_
     rotate_left
     ·show Act.put _ (some 6) _ = _
      simp only [Act.put, List.setIfInBounds_toArray, List.set_cons_zero, List.set_cons_succ, i64_w, i32_w]
      rfl
     refine px 2 (some 7) (tf 3 27) HT_ ?_
     refine px 3 (some 8) (tf 4 27) HT_ ?_
     refine px 4 (some 9) (tf 5 27) HT_ ?_
     refine px 5 (some 10) (tf 6 27) HT_ ?_
     refine px 7 (some 12) (tb 27 191) HT_ ?_
     refine px 8 (some 13) (tb 27 447) HT_ ?_
     refine px 9 (some 14) (tb 27 959) HT_ ?_
     refine tx (v := ?_) 6 (some 11) (tf 10 27) HT_ HW_ hHeld ?_ ?_
     rotate_left; (· rintro w' ⟨s0, s1, s2, s3, s4, s5, s6, s7⟩; go_simp; with_reducible rfl)
     refine tx (v := ?_) 10 (some 15) (tf 11 27) HT_ HW_ hHeld ?_ ?_
     rotate_left; (· rintro w' ⟨s0, s1, s2, s3, s4, s5, s6, s7⟩; go_simp; with_reducible rfl)
     refine px 11 (some 16) (tf 12 27) HT_ ?_
     refine px 12 (some 17) (tf 13 27) HT_ ?_
     refine px 13 (some 18) (tf 14 27) HT_ ?_
     refine px 14 (some 19) (tf 15 27) HT_ ?_
     refine sx 15 (some 20) (tf 16 27) HT_ ?_
     refine sx 16 (some 21) (tf 17 27) HT_ ?_
     refine sx 17 (some 22) (tf 18 27) HT_ ?_
     refine sx 18 (some 23) (tf 19 27) HT_ ?_
     refine sx 19 (some 24) (tf 20 27) HT_ ?_
     refine sx 20 (some 25) (tf 21 27) HT_ ?_
     refine sx 21 (some 26) (tf 22 27) HT_ ?_
     refine sx 22 (some 27) (tf 23 27) HT_ ?_
     refine sx 23 (some 28) (tf 24 27) HT_ ?_
     refine sx 24 (some 29) (tf 25 27) HT_ ?_
     refine px 25 (some 30) (tf 26 27) HT_ ?_
     refine px 26 (some 4) (tf 27 27) HT_ ?_
     refine done_ (done_of HT_.out t8_) ?_
     try go_wp2
     go_ret
     exact ⟨by first | rfl | (rw [Int.tdiv_eq_ediv_of_nonneg t12_]; rfl) | (simp [errW_none, errW_some] <;> rfl) | (simp [*, errW_none, errW_some] <;> rfl), by repeat (first | (with_reducible first | exact HB.out | apply below_alloc | apply pw_below_drewN | apply below_drew1) | exact HB.out)⟩
   ·rw [if_neg c6] at H
    exact absurd H t36_
  ·rw [if_neg c5] at H
   exact absurd H t36_
 ·replace c4 := Bool.eq_false_iff.mpr c4
  subst c4
  have H1 : (some false) = some r := by rw [if_neg (show ¬ (false = true) by decide)] at H; exact H
  clear H
  have H := H1
  clear H1
  obtain rfl := Option.some.inj H
  go_enter Try.func86, Try.ntmps86
  try go_wp2
  have n0_ := Aside0.mk (below_drew1 HB.out)
  clear HB
  have HB := n0_
  clear n0_
  refine start_ (n := 27) (S := fun w' => True) (ds := []) (tf 0 27) t8_ rfl rfl trivial (fun hHeld => ?_); refine with_tabW spec_l04Fits.tab1 spec_l04Fits.bits1 (fun HT_ HW_ => ?_)
  generalize w.drew = w12 at HB hHeld ⊢
  refine px 0 (some 5) (tf 1 27) HT_ ?_
  refine one_ (i := 1) (N := some 6) (tf 2 27) rfl rfl (one_of HT_.out t8_) t20_ (fun K hK => ?_)
  refine goes_ Try.func105 t8_ rfl #[.pointer A1] t37_ rfl rfl t2_ ?_
  with_reducible refine (spec_l03Ok.calls k _ c1 l1 false _ ?side1 ?side2 A3.out).mono ?_
  (case side1 => repeat (first | exact (Kd.C_below HR1.out HB.out) | (with_reducible refine Kd.C_alloc ?_ _) | (with_reducible refine Kd.C_drewN ?_ _) | (with_reducible refine Kd.C_drew ?_)))
  (case side2 => exact HC1.out)
  rintro e w13 ⟨rfl, hb⟩
  refine ⟨_, rfl, ?_⟩
  have n0_ := Aside0.mk (below_step t1_ hb)
  clear HB
  have HB := n0_
  clear n0_
  (try clear hb)
  (try clear hb2)
  (try clear hk)
  (try clear hi)
  refine hK.out _ _ trivial (fun hHeld => ?_)
  clear hK K
  refine norm_ (a' := ?_) ?_ ?_
  rotate_left
  ·show Act.put _ (some 6) _ = _
   simp only [Act.put, List.setIfInBounds_toArray, List.set_cons_zero, List.set_cons_succ, i64_w, i32_w]
   rfl
  refine px 2 (some 7) (tf 3 27) HT_ ?_
  refine sx 3 (some 8) (tf 4 27) HT_ ?_
  refine sx 4 (some 9) (tf 5 27) HT_ ?_
  refine sx 5 (some 10) (tf 6 27) HT_ ?_
  refine sx 6 (some 11) (tf 7 27) HT_ ?_
  refine sx 7 (some 12) (tf 8 27) HT_ ?_
  refine sx 8 (some 13) (tf 9 27) HT_ ?_
  refine sx 9 (some 14) (tf 10 27) HT_ ?_
  refine sx 10 (some 15) (tf 11 27) HT_ ?_
  refine sx 11 (some 16) (tf 12 27) HT_ ?_
  refine sx 12 (some 17) (tf 13 27) HT_ ?_
  refine px 13 (some 18) (tf 14 27) HT_ ?_
  refine px 14 (some 19) (tf 15 27) HT_ ?_
  refine sx 15 (some 20) (tf 16 27) HT_ ?_
  refine sx 16 (some 21) (tf 17 27) HT_ ?_
  refine sx 17 (some 22) (tf 18 27) HT_ ?_
  refine sx 18 (some 23) (tf 19 27) HT_ ?_
  refine sx 19 (some 24) (tf 20 27) HT_ ?_
  refine sx 20 (some 25) (tf 21 27) HT_ ?_
  refine sx 21 (some 26) (tf 22 27) HT_ ?_
  refine sx 22 (some 27) (tf 23 27) HT_ ?_
  refine sx 23 (some 28) (tf 24 27) HT_ ?_
  refine sx 24 (some 29) (tf 25 27) HT_ ?_
  refine px 25 (some 30) (tf 26 27) HT_ ?_
  refine px 26 (some 4) (tf 27 27) HT_ ?_
  refine done_ (done_of HT_.out t8_) ?_
  try go_wp2
  go_ret
  exact ⟨by first | rfl | (rw [Int.tdiv_eq_ediv_of_nonneg t12_]; rfl) | (simp [errW_none, errW_some] <;> rfl) | (simp [*, errW_none, errW_some] <;> rfl), by repeat (first | (with_reducible first | exact HB.out | apply below_alloc | apply pw_below_drewN | apply below_drew1) | exact HB.out)⟩

end Go.Proofs.Ytjelfhmgbhidnaa.PFnExactValidValves
