-- written by wip/xprint.py, a program of this session, for this claim; not trusted: Lean checks it.
import Derived.Test.YtjelfhmgbhidnaaPFnExactUnservedLoadx0
import Derived.Test.YtjelfhmgbhidnaaPFnExactUnservedLoadx3
namespace Go.Proofs.Ytjelfhmgbhidnaa.PFnExactUnservedLoad
open Go.RowKit Go.Proofs.YtjelfhmgbhidnaaW.PrintWords Go.Proofs.YtjelfhmgbhidnaaW.PrintLast Go.Proofs.YtjelfhmgbhidnaaW.PrintMore
attribute [local go_sem] leq_less_ max2_int min2_int max_two min_two max_three min_three max_four min_four   -- for this text's walks alone
set_option linter.unusedVariables false
set_option linter.unusedSimpArgs false

/-! ### spec_l04Fits: function 86 -/
def spec_l04Fits.f (k : Nat) (l0 : List (S32)) (l1 : List (S80)) : Option (Bool) := (spec_l03Ok.f k l1).bind fun t163 => (if t163 = true then (if 0 < (l1.length : Int) then (if 0 < (l0.length : Int) then (if ((rd_T80 l1 0).f1) < (((rd_T32 l0 0).f0).length : Int) then (some (decide (((rd_T80 l1 0).f2) < (((rd_T32 l0 0).f0).length : Int)))) else (some false)) else (none)) else (none)) else (some false))
theorem spec_l04Fits.mono : ∀ a0 a1 k, LeO (spec_l04Fits.f k a0 a1) (spec_l04Fits.f (k + 1) a0 a1) := by
 intro a0 a1 k
 unfold spec_l04Fits.f
 repeat' first
   | (with_reducible exact spec_l03Ok.mono _ _)
   | (with_reducible exact LeO.refl _)
   | (with_reducible exact LeO.none _)
   | (with_reducible refine LeO.ite ?_ ?_)
   | (with_reducible refine LeO.bind ?_ (fun _ => ?_))
   | exact spec_l03Ok.mono _ _
   | exact LeO.none _
   | refine LeO.ite ?_ ?_
   | refine LeO.bind ?_ (fun _ => ?_)
def spec_l04Fits.T1 : Bool × List (List Nat × List Nat) := (true, [([], []), ([0], [0]), ([1, 1], [1]), ([2], [2]), ([3, 2], [2, 3]), ([4, 2], [2, 4]), ([5, 2], [2, 5]), ([2], [2]), ([7, 2], [2, 7]), ([8, 2], [2, 8]), ([9, 2], [2, 9]), ([10, 2], [2, 10]), ([6, 11, 2], [2, 6, 11]), ([2, 12], [2, 12]), ([13, 2], [13]), ([14], [14]), ([15, 14], [14, 15]), ([16, 14], [14, 16]), ([17, 14], [14, 17]), ([14], [14]), ([19, 14], [14, 19]), ([20, 14], [14, 20]), ([21, 14], [14, 21]), ([22, 14], [14, 22]), ([18, 23, 14], [14, 18, 23]), ([14, 24], [14, 24]), ([25, 14, 0, 1, 2, 3, 4, 5, 6, 7, 8, 9, 10, 11, 12, 13, 14, 15, 16, 17, 18, 19, 20, 21, 22, 23, 24, 25], [25])])
def spec_l04Fits.B1 : List Nat := [0, 1, 3, 7, 15, 31, 63, 7, 135, 391, 903, 1927, 4095, 8191, 16383, 32767, 65535, 131071, 262143, 32767, 557055, 1605631, 3702783, 7897087, 16777215, 33554431, 67108863]
theorem spec_l04Fits.tab1 : rtab .any (opsOf Try.f86 1) = spec_l04Fits.T1 := by kernel_rfl
theorem spec_l04Fits.bits1 : waitsOk spec_l04Fits.T1.2 spec_l04Fits.B1 = true := by kernel_rfl
set_option maxHeartbeats 8000000 in
set_option maxRecDepth 100000 in
theorem spec_l04Fits.calls (k : Nat) (A0 : Option Addr) (c0 : Nat) (l0 : List (S32)) (A1 : Option Addr) (c1 : Nat) (l1 : List (S80)) (r : Bool) (w : World) (hr0 : Kd.C k32 w A0 l0.length l0) (hc0 : l0.length ≤ c0) (hr1 : Kd.C k80 w A1 l1.length l1) (hc1 : l1.length ≤ c1) (h : spec_l04Fits.f k l0 l1 = some r) :
  Calls Try.prog 86 #[.pointer A0, .pointer A1] w fun e w' => e = .returned (.bool r) ∧ Below w.heap.size w w' := by
 have HR0 := Aside0.mk hr0
 have HC0 := Aside0.mk hc0
 clear hr0 hc0
 have HR1 := Aside0.mk hr1
 have HC1 := Aside0.mk hc1
 clear hr1 hc1
 have HB := Aside0.mk (Below.refl w.heap.size w)
 have H : ((spec_l03Ok.f k l1).bind fun t163 => (if t163 = true then (if 0 < (l1.length : Int) then (if 0 < (l0.length : Int) then (if ((rd_T80 l1 0).f1) < (((rd_T32 l0 0).f0).length : Int) then (some (decide (((rd_T80 l1 0).f2) < (((rd_T32 l0 0).f0).length : Int)))) else (some false)) else (none)) else (none)) else (some false))) = some r := h
 clear h
 replace H := Option.bind_eq_some_iff.mp H
 obtain ⟨t163, A30, H⟩ := H
 replace H : (if t163 = true then (if 0 < (l1.length : Int) then (if 0 < (l0.length : Int) then (if ((rd_T80 l1 0).f1) < (((rd_T32 l0 0).f0).length : Int) then (some (decide (((rd_T80 l1 0).f2) < (((rd_T32 l0 0).f0).length : Int)))) else (some false)) else (none)) else (none)) else (some false)) = some r := H
 have A3 := Aside0.mk A30
 clear A30
 by_cases c4 : t163 = true
 ·subst c4
  have H1 : (if 0 < (l1.length : Int) then (if 0 < (l0.length : Int) then (if ((rd_T80 l1 0).f1) < (((rd_T32 l0 0).f0).length : Int) then (some (decide (((rd_T80 l1 0).f2) < (((rd_T32 l0 0).f0).length : Int)))) else (some false)) else (none)) else (none)) = some r := by rw [if_pos rfl] at H; exact H
  clear H
  have H := H1
  clear H1
  by_cases c5 : 0 < (l1.length : Int)
  ·rw [if_pos c5] at H
   have c5b0 : decide (0 < (l1.length : Int)) = true := decide_eq_true c5
   have c5b1 : decide (0 < l1.length) = true := decide_eq_true t11_
   clear c5
   by_cases c6 : 0 < (l0.length : Int)
   ·rw [if_pos c6] at H
    have c6b0 : decide (0 < (l0.length : Int)) = true := decide_eq_true c6
    have c6b1 : decide (0 < l0.length) = true := decide_eq_true t11_
    clear c6
    by_cases c7 : ((rd_T80 l1 0).f1) < (((rd_T32 l0 0).f0).length : Int)
    ·rw [if_pos c7] at H
     have c7b0 : decide (((rd_T80 l1 0).f1) < (((rd_T32 l0 0).f0).length : Int)) = true := decide_eq_true c7
     clear c7
     obtain rfl := Option.some.inj H
     go_enter Try.func86, Try.ntmps86
     try go_wp2
     have n0_ := Aside0.mk (below_drew1 HB.out)
     clear HB
     have HB := n0_
     clear n0_
     have p164 : 0 ≤ (0 : Int) := t11_
     have q164 : 0 < (l1.length : Int) := of_decide_eq_true t3_
     obtain ⟨ad164, e164, hx164_0, hx164_1, hx164_2, hx164_3, hx164_4, hx164_5⟩ := at_T80 HR1.out 0 p164 q164
     have hw164_5 := hx164_5
     (try rw [show ((0 : Int)).toNat = 0 from rfl] at hw164_5)
     (try rw [show 0 * 6 = 0 from rfl] at hw164_5)
     (try rw [Addr.add_zero'] at hw164_5)
     have hw164_4 := hx164_4
     (try rw [show ((0 : Int)).toNat = 0 from rfl] at hw164_4)
     (try rw [show 0 * 6 = 0 from rfl] at hw164_4)
     (try rw [Addr.add_zero'] at hw164_4)
     have hw164_3 := hx164_3
     (try rw [show ((0 : Int)).toNat = 0 from rfl] at hw164_3)
     (try rw [show 0 * 6 = 0 from rfl] at hw164_3)
     (try rw [Addr.add_zero'] at hw164_3)
     have hw164_2 := hx164_2
     (try rw [show ((0 : Int)).toNat = 0 from rfl] at hw164_2)
     (try rw [show 0 * 6 = 0 from rfl] at hw164_2)
     (try rw [Addr.add_zero'] at hw164_2)
     have hw164_1 := hx164_1
     (try rw [show ((0 : Int)).toNat = 0 from rfl] at hw164_1)
     (try rw [show 0 * 6 = 0 from rfl] at hw164_1)
     (try rw [Addr.add_zero'] at hw164_1)
     have hw164_0 := hx164_0
     (try rw [show ((0 : Int)).toNat = 0 from rfl] at hw164_0)
     (try rw [show 0 * 6 = 0 from rfl] at hw164_0)
     (try rw [Addr.add_zero'] at hw164_0)
     cases e164
     have qi164 : (0 < l1.length) = True := eq_true t11_
     (try rw [show ((0 : Int)).toNat = 0 from rfl] at hx164_0)
     (try rw [show 0 * 6 = 0 from rfl] at hx164_0)
     (try rw [Addr.add_zero'] at hx164_0)
     (try rw [show ((0 : Int)).toNat = 0 from rfl] at hx164_1)
     (try rw [show 0 * 6 = 0 from rfl] at hx164_1)
     (try rw [Addr.add_zero'] at hx164_1)
     (try rw [show ((0 : Int)).toNat = 0 from rfl] at hx164_2)
     (try rw [show 0 * 6 = 0 from rfl] at hx164_2)
     (try rw [Addr.add_zero'] at hx164_2)
     (try rw [show ((0 : Int)).toNat = 0 from rfl] at hx164_3)
     (try rw [show 0 * 6 = 0 from rfl] at hx164_3)
     (try rw [Addr.add_zero'] at hx164_3)
     (try rw [show ((0 : Int)).toNat = 0 from rfl] at hx164_4)
     (try rw [show 0 * 6 = 0 from rfl] at hx164_4)
     (try rw [Addr.add_zero'] at hx164_4)
     (try rw [show ((0 : Int)).toNat = 0 from rfl] at hx164_5)
     (try rw [show 0 * 6 = 0 from rfl] at hx164_5)
     (try rw [Addr.add_zero'] at hx164_5)
     replace hx164_0 := (HB.out.cell (World.block_lt_of_cell? w _ hx164_0)).trans hx164_0
     replace hx164_1 := (HB.out.cell (World.block_lt_of_cell? w _ hx164_1)).trans hx164_1
     replace hx164_2 := (HB.out.cell (World.block_lt_of_cell? w _ hx164_2)).trans hx164_2
     replace hx164_3 := (HB.out.cell (World.block_lt_of_cell? w _ hx164_3)).trans hx164_3
     replace hx164_4 := (HB.out.cell (World.block_lt_of_cell? w _ hx164_4)).trans hx164_4
     replace hx164_5 := (HB.out.cell (World.block_lt_of_cell? w _ hx164_5)).trans hx164_5
     replace p164 := eq_true p164
     replace q164 := eq_true q164
     have p165 : 0 ≤ (0 : Int) := t11_
     have q165 : 0 < (l0.length : Int) := of_decide_eq_true t3_
     obtain ⟨ad165, A165_0, c165_0, A165_1, c165_1, e165, hx165_0, hx165_1, hl165_0, hi165_0, hl165_1, hi165_1⟩ := at_T32 HR0.out 0 p165 q165
     have hw165_1 := hx165_1
     (try rw [show ((0 : Int)).toNat = 0 from rfl] at hw165_1)
     (try rw [show 0 * 2 = 0 from rfl] at hw165_1)
     (try rw [Addr.add_zero'] at hw165_1)
     have hw165_0 := hx165_0
     (try rw [show ((0 : Int)).toNat = 0 from rfl] at hw165_0)
     (try rw [show 0 * 2 = 0 from rfl] at hw165_0)
     (try rw [Addr.add_zero'] at hw165_0)
     cases e165
     have qi165 : (0 < l0.length) = True := eq_true t11_
     (try rw [show ((0 : Int)).toNat = 0 from rfl] at hx165_0)
     (try rw [show 0 * 2 = 0 from rfl] at hx165_0)
     (try rw [Addr.add_zero'] at hx165_0)
     (try rw [show ((0 : Int)).toNat = 0 from rfl] at hx165_1)
     (try rw [show 0 * 2 = 0 from rfl] at hx165_1)
     (try rw [Addr.add_zero'] at hx165_1)
     replace hx165_0 := (HB.out.cell (World.block_lt_of_cell? w _ hx165_0)).trans hx165_0
     replace hx165_1 := (HB.out.cell (World.block_lt_of_cell? w _ hx165_1)).trans hx165_1
     have HR165_0 := Aside0.mk hi165_0
     have HC165_0 := Aside0.mk hl165_0
     clear hi165_0 hl165_0
     have HR165_1 := Aside0.mk hi165_1
     have HC165_1 := Aside0.mk hl165_1
     clear hi165_1 hl165_1
     replace p165 := eq_true p165
     replace q165 := eq_true q165
     have p166 : 0 ≤ (0 : Int) := t11_
     have q166 : 0 < (l1.length : Int) := of_decide_eq_true t3_
     obtain ⟨ad166, e166, hx166_0, hx166_1, hx166_2, hx166_3, hx166_4, hx166_5⟩ := at_T80 HR1.out 0 p166 q166
     have hw166_5 := hx166_5
     (try rw [show ((0 : Int)).toNat = 0 from rfl] at hw166_5)
     (try rw [show 0 * 6 = 0 from rfl] at hw166_5)
     (try rw [Addr.add_zero'] at hw166_5)
     have hw166_4 := hx166_4
     (try rw [show ((0 : Int)).toNat = 0 from rfl] at hw166_4)
     (try rw [show 0 * 6 = 0 from rfl] at hw166_4)
     (try rw [Addr.add_zero'] at hw166_4)
     have hw166_3 := hx166_3
     (try rw [show ((0 : Int)).toNat = 0 from rfl] at hw166_3)
     (try rw [show 0 * 6 = 0 from rfl] at hw166_3)
     (try rw [Addr.add_zero'] at hw166_3)
     have hw166_2 := hx166_2
     (try rw [show ((0 : Int)).toNat = 0 from rfl] at hw166_2)
     (try rw [show 0 * 6 = 0 from rfl] at hw166_2)
     (try rw [Addr.add_zero'] at hw166_2)
     have hw166_1 := hx166_1
     (try rw [show ((0 : Int)).toNat = 0 from rfl] at hw166_1)
     (try rw [show 0 * 6 = 0 from rfl] at hw166_1)
     (try rw [Addr.add_zero'] at hw166_1)
     have hw166_0 := hx166_0
     (try rw [show ((0 : Int)).toNat = 0 from rfl] at hw166_0)
     (try rw [show 0 * 6 = 0 from rfl] at hw166_0)
     (try rw [Addr.add_zero'] at hw166_0)
     obtain rfl : ad164 = ad166 := (by injection e166)
     have qi166 : (0 < l1.length) = True := eq_true t11_
     (try rw [show ((0 : Int)).toNat = 0 from rfl] at hx166_0)
     (try rw [show 0 * 6 = 0 from rfl] at hx166_0)
     (try rw [Addr.add_zero'] at hx166_0)
     (try rw [show ((0 : Int)).toNat = 0 from rfl] at hx166_1)
     (try rw [show 0 * 6 = 0 from rfl] at hx166_1)
     (try rw [Addr.add_zero'] at hx166_1)
     (try rw [show ((0 : Int)).toNat = 0 from rfl] at hx166_2)
     (try rw [show 0 * 6 = 0 from rfl] at hx166_2)
     (try rw [Addr.add_zero'] at hx166_2)
     (try rw [show ((0 : Int)).toNat = 0 from rfl] at hx166_3)
     (try rw [show 0 * 6 = 0 from rfl] at hx166_3)
     (try rw [Addr.add_zero'] at hx166_3)
     (try rw [show ((0 : Int)).toNat = 0 from rfl] at hx166_4)
     (try rw [show 0 * 6 = 0 from rfl] at hx166_4)
     (try rw [Addr.add_zero'] at hx166_4)
     (try rw [show ((0 : Int)).toNat = 0 from rfl] at hx166_5)
     (try rw [show 0 * 6 = 0 from rfl] at hx166_5)
     (try rw [Addr.add_zero'] at hx166_5)
     replace hx166_0 := (HB.out.cell (World.block_lt_of_cell? w _ hx166_0)).trans hx166_0
     replace hx166_1 := (HB.out.cell (World.block_lt_of_cell? w _ hx166_1)).trans hx166_1
     replace hx166_2 := (HB.out.cell (World.block_lt_of_cell? w _ hx166_2)).trans hx166_2
     replace hx166_3 := (HB.out.cell (World.block_lt_of_cell? w _ hx166_3)).trans hx166_3
     replace hx166_4 := (HB.out.cell (World.block_lt_of_cell? w _ hx166_4)).trans hx166_4
     replace hx166_5 := (HB.out.cell (World.block_lt_of_cell? w _ hx166_5)).trans hx166_5
     replace p166 := eq_true p166
     replace q166 := eq_true q166
     have p167 : 0 ≤ (0 : Int) := t11_
     have q167 : 0 < (l0.length : Int) := of_decide_eq_true t3_
     obtain ⟨ad167, A167_0, c167_0, A167_1, c167_1, e167, hx167_0, hx167_1, hl167_0, hi167_0, hl167_1, hi167_1⟩ := at_T32 HR0.out 0 p167 q167
     have hw167_1 := hx167_1
     (try rw [show ((0 : Int)).toNat = 0 from rfl] at hw167_1)
     (try rw [show 0 * 2 = 0 from rfl] at hw167_1)
     (try rw [Addr.add_zero'] at hw167_1)
     have hw167_0 := hx167_0
     (try rw [show ((0 : Int)).toNat = 0 from rfl] at hw167_0)
     (try rw [show 0 * 2 = 0 from rfl] at hw167_0)
     (try rw [Addr.add_zero'] at hw167_0)
     obtain rfl : ad165 = ad167 := (by injection e167)
     have qi167 : (0 < l0.length) = True := eq_true t11_
     (try rw [show ((0 : Int)).toNat = 0 from rfl] at hx167_0)
     (try rw [show 0 * 2 = 0 from rfl] at hx167_0)
     (try rw [Addr.add_zero'] at hx167_0)
     (try rw [show ((0 : Int)).toNat = 0 from rfl] at hx167_1)
     (try rw [show 0 * 2 = 0 from rfl] at hx167_1)
     (try rw [Addr.add_zero'] at hx167_1)
     replace hx167_0 := (HB.out.cell (World.block_lt_of_cell? w _ hx167_0)).trans hx167_0
     replace hx167_1 := (HB.out.cell (World.block_lt_of_cell? w _ hx167_1)).trans hx167_1
     have HR167_0 := Aside0.mk hi167_0
     have HC167_0 := Aside0.mk hl167_0
     clear hi167_0 hl167_0
     have HR167_1 := Aside0.mk hi167_1
     have HC167_1 := Aside0.mk hl167_1
     clear hi167_1 hl167_1
     replace p167 := eq_true p167
     replace q167 := eq_true q167
     have ea_ := Option.some.inj (hx165_0.symm.trans hx167_0)
     injection ea_ with ea_ en_ ec_
     subst ea_
     subst ec_
     clear en_
     have ea_ := Option.some.inj (hx165_1.symm.trans hx167_1)
     injection ea_ with ea_ en_ ec_
     subst ea_
     subst ec_
     clear en_
     refine start_ (n := 27) (S := fun w' => w'.cell? ad164 = some (.string ((rd_T80 l1 0).f0)) ∧ w'.cell? ⟨ad164.block, ad164.off + 1, none⟩ = some (.int .i64 ((rd_T80 l1 0).f1)) ∧ w'.cell? ⟨ad164.block, ad164.off + 2, none⟩ = some (.int .i64 ((rd_T80 l1 0).f2)) ∧ w'.cell? ⟨ad164.block, ad164.off + 3, none⟩ = some (.int .i64 ((rd_T80 l1 0).f3)) ∧ w'.cell? ⟨ad164.block, ad164.off + 4, none⟩ = some (.int .i64 ((rd_T80 l1 0).f4)) ∧ w'.cell? ⟨ad164.block, ad164.off + 5, none⟩ = some (.int .i64 ((rd_T80 l1 0).f5)) ∧ w'.cell? ad165 = some (.slice A165_0 ((rd_T32 l0 0).f0).length c165_0) ∧ w'.cell? ⟨ad165.block, ad165.off + 1, none⟩ = some (.slice A165_1 ((rd_T32 l0 0).f1).length c165_1) ∧ w'.cell? ad164 = some (.string ((rd_T80 l1 0).f0)) ∧ w'.cell? ⟨ad164.block, ad164.off + 1, none⟩ = some (.int .i64 ((rd_T80 l1 0).f1)) ∧ w'.cell? ⟨ad164.block, ad164.off + 2, none⟩ = some (.int .i64 ((rd_T80 l1 0).f2)) ∧ w'.cell? ⟨ad164.block, ad164.off + 3, none⟩ = some (.int .i64 ((rd_T80 l1 0).f3)) ∧ w'.cell? ⟨ad164.block, ad164.off + 4, none⟩ = some (.int .i64 ((rd_T80 l1 0).f4)) ∧ w'.cell? ⟨ad164.block, ad164.off + 5, none⟩ = some (.int .i64 ((rd_T80 l1 0).f5)) ∧ w'.cell? ad165 = some (.slice A165_0 ((rd_T32 l0 0).f0).length c165_0) ∧ w'.cell? ⟨ad165.block, ad165.off + 1, none⟩ = some (.slice A165_1 ((rd_T32 l0 0).f1).length c165_1)) (ds := []) (tf 0 27) t6_ rfl rfl ⟨((HB.out.cell (World.block_lt_of_cell? w _ hw164_0)).trans hw164_0), ((HB.out.cell (World.block_lt_of_cell? w _ hw164_1)).trans hw164_1), ((HB.out.cell (World.block_lt_of_cell? w _ hw164_2)).trans hw164_2), ((HB.out.cell (World.block_lt_of_cell? w _ hw164_3)).trans hw164_3), ((HB.out.cell (World.block_lt_of_cell? w _ hw164_4)).trans hw164_4), ((HB.out.cell (World.block_lt_of_cell? w _ hw164_5)).trans hw164_5), ((HB.out.cell (World.block_lt_of_cell? w _ hw165_0)).trans hw165_0), ((HB.out.cell (World.block_lt_of_cell? w _ hw165_1)).trans hw165_1), ((HB.out.cell (World.block_lt_of_cell? w _ hw166_0)).trans hw166_0), ((HB.out.cell (World.block_lt_of_cell? w _ hw166_1)).trans hw166_1), ((HB.out.cell (World.block_lt_of_cell? w _ hw166_2)).trans hw166_2), ((HB.out.cell (World.block_lt_of_cell? w _ hw166_3)).trans hw166_3), ((HB.out.cell (World.block_lt_of_cell? w _ hw166_4)).trans hw166_4), ((HB.out.cell (World.block_lt_of_cell? w _ hw166_5)).trans hw166_5), ((HB.out.cell (World.block_lt_of_cell? w _ hw167_0)).trans hw167_0), ((HB.out.cell (World.block_lt_of_cell? w _ hw167_1)).trans hw167_1)⟩ (fun hHeld => ?_); refine with_tabW spec_l04Fits.tab1 spec_l04Fits.bits1 (fun HT_ HW_ => ?_)
     generalize w.drew = w8 at HB HR165_0 HR165_1 HR167_0 HR167_1 hx164_0 hx164_1 hx164_2 hx164_3 hx164_4 hx164_5 hx165_0 hx165_1 hx166_0 hx166_1 hx166_2 hx166_3 hx166_4 hx166_5 hx167_0 hx167_1 hHeld ⊢
     refine px 0 (some 5) (tf 1 27) HT_ ?_
     refine one_ (i := 1) (N := some 6) (tf 2 27) rfl rfl (one_of HT_.out t6_) t24_ (fun K hK => ?_)
     refine goes_ Try.func105 t6_ rfl #[.pointer (some ad164)] t38_ rfl rfl t2_ ?_
     with_reducible refine (spec_l03Ok.calls k _ c1 l1 true _ ?side1 ?side2 A3.out).mono ?_
     (case side1 => repeat (first | exact (Kd.C_below HR1.out HB.out) | (with_reducible refine Kd.C_alloc ?_ _) | (with_reducible refine Kd.C_drewN ?_ _) | (with_reducible refine Kd.C_drew ?_)))
     (case side2 => exact HC1.out)
     rintro e w9 ⟨rfl, hb⟩
     refine ⟨_, rfl, ?_⟩
     have n0_ := Aside0.mk (below_step t1_ hb)
     clear HB
     have HB := n0_
     clear n0_
     (try clear hb)
     (try clear hb2)
     (try clear hk)
     (try clear hi)
     refine hK.out _ _ ⟨((HB.out.cell (World.block_lt_of_cell? w _ hw164_0)).trans hw164_0), ((HB.out.cell (World.block_lt_of_cell? w _ hw164_1)).trans hw164_1), ((HB.out.cell (World.block_lt_of_cell? w _ hw164_2)).trans hw164_2), ((HB.out.cell (World.block_lt_of_cell? w _ hw164_3)).trans hw164_3), ((HB.out.cell (World.block_lt_of_cell? w _ hw164_4)).trans hw164_4), ((HB.out.cell (World.block_lt_of_cell? w _ hw164_5)).trans hw164_5), ((HB.out.cell (World.block_lt_of_cell? w _ hw165_0)).trans hw165_0), ((HB.out.cell (World.block_lt_of_cell? w _ hw165_1)).trans hw165_1), ((HB.out.cell (World.block_lt_of_cell? w _ hw166_0)).trans hw166_0), ((HB.out.cell (World.block_lt_of_cell? w _ hw166_1)).trans hw166_1), ((HB.out.cell (World.block_lt_of_cell? w _ hw166_2)).trans hw166_2), ((HB.out.cell (World.block_lt_of_cell? w _ hw166_3)).trans hw166_3), ((HB.out.cell (World.block_lt_of_cell? w _ hw166_4)).trans hw166_4), ((HB.out.cell (World.block_lt_of_cell? w _ hw166_5)).trans hw166_5), ((HB.out.cell (World.block_lt_of_cell? w _ hw167_0)).trans hw167_0), ((HB.out.cell (World.block_lt_of_cell? w _ hw167_1)).trans hw167_1)⟩ (fun hHeld => ?_)
     clear hK K
     refine norm_ (a' := ?_) ?_ ?_
     rotate_left
     ·show Act.put _ (some 6) _ = _
      simp only [Act.put, List.setIfInBounds_toArray, List.set_cons_zero, List.set_cons_succ, i64_w, i32_w]
      rfl
     refine px 2 (some 7) (tf 3 27) HT_ ?_
     refine px 3 (some 8) (tf 4 27) HT_ ?_
     refine px 4 (some 9) (tf 5 27) HT_ ?_
     refine px 5 (some 10) (tf 6 27) HT_ ?_
     refine px 7 (some 12) (tb 27 191) HT_ ?_
     refine px 8 (some 13) (tb 27 447) HT_ ?_
     refine px 9 (some 14) (tb 27 959) HT_ ?_
     refine tx (v := ?_) 6 (some 11) (tf 10 27) HT_ HW_ hHeld ?_ ?_
     rotate_left; (· rintro w' ⟨s0, s1, s2, s3, s4, s5, s6, s7, s8, s9, s10, s11, s12, s13, s14, s15⟩; go_simp; with_reducible rfl)
     refine tx (v := ?_) 10 (some 15) (tf 11 27) HT_ HW_ hHeld ?_ ?_
     rotate_left; (· rintro w' ⟨s0, s1, s2, s3, s4, s5, s6, s7, s8, s9, s10, s11, s12, s13, s14, s15⟩; go_simp; with_reducible rfl)
     refine px 11 (some 16) (tf 12 27) HT_ ?_
     refine px 12 (some 17) (tf 13 27) HT_ ?_
     refine px 13 (some 18) (tf 14 27) HT_ ?_
     refine px 14 (some 19) (tf 15 27) HT_ ?_
     refine px 15 (some 20) (tf 16 27) HT_ ?_
     refine px 16 (some 21) (tf 17 27) HT_ ?_
     refine px 17 (some 22) (tf 18 27) HT_ ?_
     refine px 19 (some 24) (tb 27 786431) HT_ ?_
     refine px 20 (some 25) (tb 27 1835007) HT_ ?_
     refine px 21 (some 26) (tb 27 3932159) HT_ ?_
     refine tx (v := ?_) 18 (some 23) (tf 22 27) HT_ HW_ hHeld ?_ ?_
     rotate_left; (· rintro w' ⟨s0, s1, s2, s3, s4, s5, s6, s7, s8, s9, s10, s11, s12, s13, s14, s15⟩; go_simp; with_reducible rfl)
     refine tx (v := ?_) 22 (some 27) (tf 23 27) HT_ HW_ hHeld ?_ ?_
     rotate_left; (· rintro w' ⟨s0, s1, s2, s3, s4, s5, s6, s7, s8, s9, s10, s11, s12, s13, s14, s15⟩; go_simp; with_reducible rfl)
     refine px 23 (some 28) (tf 24 27) HT_ ?_
     refine px 24 (some 29) (tf 25 27) HT_ ?_
     refine px 25 (some 30) (tf 26 27) HT_ ?_
     refine px 26 (some 4) (tf 27 27) HT_ ?_
     refine done_ (done_of HT_.out t6_) ?_
     try go_wp2
     go_ret
     exact ⟨by first | rfl | (rw [Int.tdiv_eq_ediv_of_nonneg t11_]; rfl) | (simp [errW_none, errW_some] <;> rfl) | (simp [*, errW_none, errW_some] <;> rfl), by repeat (first | (with_reducible first | exact HB.out | apply below_alloc | apply pw_below_drewN | apply below_drew1) | exact HB.out)⟩
    ·rw [if_neg c7] at H
     have c7b0 : decide (((rd_T80 l1 0).f1) < (((rd_T32 l0 0).f0).length : Int)) = false := decide_eq_false c7
     clear c7
     obtain rfl := Option.some.inj H
     go_enter Try.func86, Try.ntmps86
     try go_wp2
     have n0_ := Aside0.mk (below_drew1 HB.out)
     clear HB
     have HB := n0_
     clear n0_
     have p164 : 0 ≤ (0 : Int) := t11_
     have q164 : 0 < (l1.length : Int) := of_decide_eq_true t3_
     obtain ⟨ad164, e164, hx164_0, hx164_1, hx164_2, hx164_3, hx164_4, hx164_5⟩ := at_T80 HR1.out 0 p164 q164
     have hw164_5 := hx164_5
     (try rw [show ((0 : Int)).toNat = 0 from rfl] at hw164_5)
     (try rw [show 0 * 6 = 0 from rfl] at hw164_5)
     (try rw [Addr.add_zero'] at hw164_5)
     have hw164_4 := hx164_4
     (try rw [show ((0 : Int)).toNat = 0 from rfl] at hw164_4)
     (try rw [show 0 * 6 = 0 from rfl] at hw164_4)
     (try rw [Addr.add_zero'] at hw164_4)
     have hw164_3 := hx164_3
     (try rw [show ((0 : Int)).toNat = 0 from rfl] at hw164_3)
     (try rw [show 0 * 6 = 0 from rfl] at hw164_3)
     (try rw [Addr.add_zero'] at hw164_3)
     have hw164_2 := hx164_2
     (try rw [show ((0 : Int)).toNat = 0 from rfl] at hw164_2)
     (try rw [show 0 * 6 = 0 from rfl] at hw164_2)
     (try rw [Addr.add_zero'] at hw164_2)
     have hw164_1 := hx164_1
     (try rw [show ((0 : Int)).toNat = 0 from rfl] at hw164_1)
     (try rw [show 0 * 6 = 0 from rfl] at hw164_1)
     (try rw [Addr.add_zero'] at hw164_1)
     have hw164_0 := hx164_0
     (try rw [show ((0 : Int)).toNat = 0 from rfl] at hw164_0)
     (try rw [show 0 * 6 = 0 from rfl] at hw164_0)
     (try rw [Addr.add_zero'] at hw164_0)
     cases e164
     have qi164 : (0 < l1.length) = True := eq_true t11_
     (try rw [show ((0 : Int)).toNat = 0 from rfl] at hx164_0)
     (try rw [show 0 * 6 = 0 from rfl] at hx164_0)
     (try rw [Addr.add_zero'] at hx164_0)
     (try rw [show ((0 : Int)).toNat = 0 from rfl] at hx164_1)
     (try rw [show 0 * 6 = 0 from rfl] at hx164_1)
     (try rw [Addr.add_zero'] at hx164_1)
     (try rw [show ((0 : Int)).toNat = 0 from rfl] at hx164_2)
     (try rw [show 0 * 6 = 0 from rfl] at hx164_2)
     (try rw [Addr.add_zero'] at hx164_2)
     (try rw [show ((0 : Int)).toNat = 0 from rfl] at hx164_3)
     (try rw [show 0 * 6 = 0 from rfl] at hx164_3)
     (try rw [Addr.add_zero'] at hx164_3)
     (try rw [show ((0 : Int)).toNat = 0 from rfl] at hx164_4)
     (try rw [show 0 * 6 = 0 from rfl] at hx164_4)
     (try rw [Addr.add_zero'] at hx164_4)
     (try rw [show ((0 : Int)).toNat = 0 from rfl] at hx164_5)
     (try rw [show 0 * 6 = 0 from rfl] at hx164_5)
     (try rw [Addr.add_zero'] at hx164_5)
     replace hx164_0 := (HB.out.cell (World.block_lt_of_cell? w _ hx164_0)).trans hx164_0
     replace hx164_1 := (HB.out.cell (World.block_lt_of_cell? w _ hx164_1)).trans hx164_1
     replace hx164_2 := (HB.out.cell (World.block_lt_of_cell? w _ hx164_2)).trans hx164_2
     replace hx164_3 := (HB.out.cell (World.block_lt_of_cell? w _ hx164_3)).trans hx164_3
     replace hx164_4 := (HB.out.cell (World.block_lt_of_cell? w _ hx164_4)).trans hx164_4
     replace hx164_5 := (HB.out.cell (World.block_lt_of_cell? w _ hx164_5)).trans hx164_5
     replace p164 := eq_true p164
     replace q164 := eq_true q164
     have p165 : 0 ≤ (0 : Int) := t11_
     have q165 : 0 < (l0.length : Int) := of_decide_eq_true t3_
     obtain ⟨ad165, A165_0, c165_0, A165_1, c165_1, e165, hx165_0, hx165_1, hl165_0, hi165_0, hl165_1, hi165_1⟩ := at_T32 HR0.out 0 p165 q165
     have hw165_1 := hx165_1
     (try rw [show ((0 : Int)).toNat = 0 from rfl] at hw165_1)
     (try rw [show 0 * 2 = 0 from rfl] at hw165_1)
     (try rw [Addr.add_zero'] at hw165_1)
     have hw165_0 := hx165_0
     (try rw [show ((0 : Int)).toNat = 0 from rfl] at hw165_0)
     (try rw [show 0 * 2 = 0 from rfl] at hw165_0)
     (try rw [Addr.add_zero'] at hw165_0)
     cases e165
     have qi165 : (0 < l0.length) = True := eq_true t11_
     (try rw [show ((0 : Int)).toNat = 0 from rfl] at hx165_0)
     (try rw [show 0 * 2 = 0 from rfl] at hx165_0)
     (try rw [Addr.add_zero'] at hx165_0)
     (try rw [show ((0 : Int)).toNat = 0 from rfl] at hx165_1)
     (try rw [show 0 * 2 = 0 from rfl] at hx165_1)
     (try rw [Addr.add_zero'] at hx165_1)
     replace hx165_0 := (HB.out.cell (World.block_lt_of_cell? w _ hx165_0)).trans hx165_0
     replace hx165_1 := (HB.out.cell (World.block_lt_of_cell? w _ hx165_1)).trans hx165_1
     have HR165_0 := Aside0.mk hi165_0
     have HC165_0 := Aside0.mk hl165_0
     clear hi165_0 hl165_0
     have HR165_1 := Aside0.mk hi165_1
     have HC165_1 := Aside0.mk hl165_1
     clear hi165_1 hl165_1
     replace p165 := eq_true p165
     replace q165 := eq_true q165
     refine start_ (n := 27) (S := fun w' => w'.cell? ad164 = some (.string ((rd_T80 l1 0).f0)) ∧ w'.cell? ⟨ad164.block, ad164.off + 1, none⟩ = some (.int .i64 ((rd_T80 l1 0).f1)) ∧ w'.cell? ⟨ad164.block, ad164.off + 2, none⟩ = some (.int .i64 ((rd_T80 l1 0).f2)) ∧ w'.cell? ⟨ad164.block, ad164.off + 3, none⟩ = some (.int .i64 ((rd_T80 l1 0).f3)) ∧ w'.cell? ⟨ad164.block, ad164.off + 4, none⟩ = some (.int .i64 ((rd_T80 l1 0).f4)) ∧ w'.cell? ⟨ad164.block, ad164.off + 5, none⟩ = some (.int .i64 ((rd_T80 l1 0).f5)) ∧ w'.cell? ad165 = some (.slice A165_0 ((rd_T32 l0 0).f0).length c165_0) ∧ w'.cell? ⟨ad165.block, ad165.off + 1, none⟩ = some (.slice A165_1 ((rd_T32 l0 0).f1).length c165_1)) (ds := []) (tf 0 27) t6_ rfl rfl ⟨((HB.out.cell (World.block_lt_of_cell? w _ hw164_0)).trans hw164_0), ((HB.out.cell (World.block_lt_of_cell? w _ hw164_1)).trans hw164_1), ((HB.out.cell (World.block_lt_of_cell? w _ hw164_2)).trans hw164_2), ((HB.out.cell (World.block_lt_of_cell? w _ hw164_3)).trans hw164_3), ((HB.out.cell (World.block_lt_of_cell? w _ hw164_4)).trans hw164_4), ((HB.out.cell (World.block_lt_of_cell? w _ hw164_5)).trans hw164_5), ((HB.out.cell (World.block_lt_of_cell? w _ hw165_0)).trans hw165_0), ((HB.out.cell (World.block_lt_of_cell? w _ hw165_1)).trans hw165_1)⟩ (fun hHeld => ?_); refine with_tabW spec_l04Fits.tab1 spec_l04Fits.bits1 (fun HT_ HW_ => ?_)
     generalize w.drew = w10 at HB HR165_0 HR165_1 hx164_0 hx164_1 hx164_2 hx164_3 hx164_4 hx164_5 hx165_0 hx165_1 hHeld ⊢
     refine px 0 (some 5) (tf 1 27) HT_ ?_
     refine one_ (i := 1) (N := some 6) (tf 2 27) rfl rfl (one_of HT_.out t6_) t24_ (fun K hK => ?_)
     refine goes_ Try.func105 t6_ rfl #[.pointer (some ad164)] t38_ rfl rfl t2_ ?_
     with_reducible refine (spec_l03Ok.calls k _ c1 l1 true _ ?side1 ?side2 A3.out).mono ?_
     (case side1 => repeat (first | exact (Kd.C_below HR1.out HB.out) | (with_reducible refine Kd.C_alloc ?_ _) | (with_reducible refine Kd.C_drewN ?_ _) | (with_reducible refine Kd.C_drew ?_)))
     (case side2 => exact HC1.out)
     rintro e w11 ⟨rfl, hb⟩
     refine ⟨_, rfl, ?_⟩
     have n0_ := Aside0.mk (below_step t1_ hb)
     clear HB
     have HB := n0_
     clear n0_
     (try clear hb)
     (try clear hb2)
     (try clear hk)
     (try clear hi)
     refine hK.out _ _ ⟨((HB.out.cell (World.block_lt_of_cell? w _ hw164_0)).trans hw164_0), ((HB.out.cell (World.block_lt_of_cell? w _ hw164_1)).trans hw164_1), ((HB.out.cell (World.block_lt_of_cell? w _ hw164_2)).trans hw164_2), ((HB.out.cell (World.block_lt_of_cell? w _ hw164_3)).trans hw164_3), ((HB.out.cell (World.block_lt_of_cell? w _ hw164_4)).trans hw164_4), ((HB.out.cell (World.block_lt_of_cell? w _ hw164_5)).trans hw164_5), ((HB.out.cell (World.block_lt_of_cell? w _ hw165_0)).trans hw165_0), ((HB.out.cell (World.block_lt_of_cell? w _ hw165_1)).trans hw165_1)⟩ (fun hHeld => ?_)
     clear hK K
     refine norm_ (a' := ?_) ?_ ?_
     rotate_left
     ·show Act.put _ (some 6) _ = _
      simp only [Act.put, List.setIfInBounds_toArray, List.set_cons_zero, List.set_cons_succ, i64_w, i32_w]
      rfl
     refine px 2 (some 7) (tf 3 27) HT_ ?_
     refine px 3 (some 8) (tf 4 27) HT_ ?_
     refine px 4 (some 9) (tf 5 27) HT_ ?_
     refine px 5 (some 10) (tf 6 27) HT_ ?_
     refine px 7 (some 12) (tb 27 191) HT_ ?_
     refine px 8 (some 13) (tb 27 447) HT_ ?_
     refine px 9 (some 14) (tb 27 959) HT_ ?_
     refine tx (v := ?_) 6 (some 11) (tf 10 27) HT_ HW_ hHeld ?_ ?_
     rotate_left; (· rintro w' ⟨s0, s1, s2, s3, s4, s5, s6, s7⟩; go_simp; with_reducible rfl)
     refine tx (v := ?_) 10 (some 15) (tf 11 27) HT_ HW_ hHeld ?_ ?_
     rotate_left; (· rintro w' ⟨s0, s1, s2, s3, s4, s5, s6, s7⟩; go_simp; with_reducible rfl)
     refine px 11 (some 16) (tf 12 27) HT_ ?_
     refine px 12 (some 17) (tf 13 27) HT_ ?_
     refine px 13 (some 18) (tf 14 27) HT_ ?_
     refine px 14 (some 19) (tf 15 27) HT_ ?_
     refine sx 15 (some 20) (tf 16 27) HT_ ?_
     refine sx 16 (some 21) (tf 17 27) HT_ ?_
     refine sx 17 (some 22) (tf 18 27) HT_ ?_
     refine sx 18 (some 23) (tf 19 27) HT_ ?_
     refine sx 19 (some 24) (tf 20 27) HT_ ?_
     refine sx 20 (some 25) (tf 21 27) HT_ ?_
     refine sx 21 (some 26) (tf 22 27) HT_ ?_
     refine sx 22 (some 27) (tf 23 27) HT_ ?_
     refine sx 23 (some 28) (tf 24 27) HT_ ?_
     refine sx 24 (some 29) (tf 25 27) HT_ ?_
     refine px 25 (some 30) (tf 26 27) HT_ ?_
     refine px 26 (some 4) (tf 27 27) HT_ ?_
     refine done_ (done_of HT_.out t6_) ?_
     try go_wp2
     go_ret
     exact ⟨by first | rfl | (rw [Int.tdiv_eq_ediv_of_nonneg t11_]; rfl) | (simp [errW_none, errW_some] <;> rfl) | (simp [*, errW_none, errW_some] <;> rfl), by repeat (first | (with_reducible first | exact HB.out | apply below_alloc | apply pw_below_drewN | apply below_drew1) | exact HB.out)⟩
   ·rw [if_neg c6] at H
    exact absurd H t30_
  ·rw [if_neg c5] at H
   exact absurd H t30_
 ·replace c4 := Bool.eq_false_iff.mpr c4
  subst c4
  have H1 : (some false) = some r := by rw [if_neg (show ¬ (false = true) by decide)] at H; exact H
  clear H
  have H := H1
  clear H1
  obtain rfl := Option.some.inj H
  go_enter Try.func86, Try.ntmps86
  try go_wp2
  have n0_ := Aside0.mk (below_drew1 HB.out)
  clear HB
  have HB := n0_
  clear n0_
  refine start_ (n := 27) (S := fun w' => True) (ds := []) (tf 0 27) t6_ rfl rfl trivial (fun hHeld => ?_); refine with_tabW spec_l04Fits.tab1 spec_l04Fits.bits1 (fun HT_ HW_ => ?_)
  generalize w.drew = w12 at HB hHeld ⊢
  refine px 0 (some 5) (tf 1 27) HT_ ?_
  refine one_ (i := 1) (N := some 6) (tf 2 27) rfl rfl (one_of HT_.out t6_) t24_ (fun K hK => ?_)
  refine goes_ Try.func105 t6_ rfl #[.pointer A1] t38_ rfl rfl t2_ ?_
  with_reducible refine (spec_l03Ok.calls k _ c1 l1 false _ ?side1 ?side2 A3.out).mono ?_
  (case side1 => repeat (first | exact (Kd.C_below HR1.out HB.out) | (with_reducible refine Kd.C_alloc ?_ _) | (with_reducible refine Kd.C_drewN ?_ _) | (with_reducible refine Kd.C_drew ?_)))
  (case side2 => exact HC1.out)
  rintro e w13 ⟨rfl, hb⟩
  refine ⟨_, rfl, ?_⟩
  have n0_ := Aside0.mk (below_step t1_ hb)
  clear HB
  have HB := n0_
  clear n0_
  (try clear hb)
  (try clear hb2)
  (try clear hk)
  (try clear hi)
  refine hK.out _ _ trivial (fun hHeld => ?_)
  clear hK K
  refine norm_ (a' := ?_) ?_ ?_
  rotate_left
  ·show Act.put _ (some 6) _ = _
   simp only [Act.put, List.setIfInBounds_toArray, List.set_cons_zero, List.set_cons_succ, i64_w, i32_w]
   rfl
  refine px 2 (some 7) (tf 3 27) HT_ ?_
  refine sx 3 (some 8) (tf 4 27) HT_ ?_
  refine sx 4 (some 9) (tf 5 27) HT_ ?_
  refine sx 5 (some 10) (tf 6 27) HT_ ?_
  refine sx 6 (some 11) (tf 7 27) HT_ ?_
  refine sx 7 (some 12) (tf 8 27) HT_ ?_
  refine sx 8 (some 13) (tf 9 27) HT_ ?_
  refine sx 9 (some 14) (tf 10 27) HT_ ?_
  refine sx 10 (some 15) (tf 11 27) HT_ ?_
  refine sx 11 (some 16) (tf 12 27) HT_ ?_
  refine sx 12 (some 17) (tf 13 27) HT_ ?_
  refine px 13 (some 18) (tf 14 27) HT_ ?_
  refine px 14 (some 19) (tf 15 27) HT_ ?_
  refine sx 15 (some 20) (tf 16 27) HT_ ?_
  refine sx 16 (some 21) (tf 17 27) HT_ ?_
  refine sx 17 (some 22) (tf 18 27) HT_ ?_
  refine sx 18 (some 23) (tf 19 27) HT_ ?_
  refine sx 19 (some 24) (tf 20 27) HT_ ?_
  refine sx 20 (some 25) (tf 21 27) HT_ ?_
  refine sx 21 (some 26) (tf 22 27) HT_ ?_
  refine sx 22 (some 27) (tf 23 27) HT_ ?_
  refine sx 23 (some 28) (tf 24 27) HT_ ?_
  refine sx 24 (some 29) (tf 25 27) HT_ ?_
  refine px 25 (some 30) (tf 26 27) HT_ ?_
  refine px 26 (some 4) (tf 27 27) HT_ ?_
  refine done_ (done_of HT_.out t6_) ?_
  try go_wp2
  go_ret
  exact ⟨by first | rfl | (rw [Int.tdiv_eq_ediv_of_nonneg t11_]; rfl) | (simp [errW_none, errW_some] <;> rfl) | (simp [*, errW_none, errW_some] <;> rfl), by repeat (first | (with_reducible first | exact HB.out | apply below_alloc | apply pw_below_drewN | apply below_drew1) | exact HB.out)⟩

end Go.Proofs.Ytjelfhmgbhidnaa.PFnExactUnservedLoad
