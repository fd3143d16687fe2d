-- written by wip/xprint.py, a program of this session, for this claim; not trusted: Lean checks it.
import Derived.Test.YtjelfhmgbhidnaaPFnExactValveNamedx0
import Derived.Test.YtjelfhmgbhidnaaPFnExactValveNamedx4
namespace Go.Proofs.Ytjelfhmgbhidnaa.PFnExactValveNamed
open Go.RowKit Go.Proofs.YtjelfhmgbhidnaaW.PrintWords Go.Proofs.YtjelfhmgbhidnaaW.PrintLast Go.Proofs.YtjelfhmgbhidnaaW.PrintMore
attribute [local go_sem] leq_less_ max2_int min2_int max_two min_two max_three min_three max_four min_four   -- for this text's walks alone
set_option linter.unusedVariables false
set_option linter.unusedSimpArgs false

/-! ### spec_l04Fits: function 86 -/
def spec_l04Fits.f (k : Nat) (l0 : List (S32)) (l1 : List (S80)) : Option (Bool) := (spec_l03Ok.f k l1).bind fun t182 => (if t182 = true then (if 0 < (l1.length : Int) then (if 0 < (l0.length : Int) then (if ((rd_T80 l1 0).f1) < (((rd_T32 l0 0).f0).length : Int) then (some (decide (((rd_T80 l1 0).f2) < (((rd_T32 l0 0).f0).length : Int)))) else (some false)) else (none)) else (none)) else (some false))
theorem spec_l04Fits.mono : ∀ a0 a1 k, LeO (spec_l04Fits.f k a0 a1) (spec_l04Fits.f (k + 1) a0 a1) := by
 intro a0 a1 k
 unfold spec_l04Fits.f
 repeat' first
   | (with_reducible exact spec_l03Ok.mono _ _)
   | (with_reducible exact LeO.refl _)
   | (with_reducible exact LeO.none _)
   | (with_reducible refine LeO.ite ?_ ?_)
   | (with_reducible refine LeO.bind ?_ (fun _ => ?_))
   | exact spec_l03Ok.mono _ _
   | exact LeO.none _
   | refine LeO.ite ?_ ?_
   | refine LeO.bind ?_ (fun _ => ?_)
def spec_l04Fits.T1 : Bool × List (List Nat × List Nat) := (true, [([], []), ([0], [0]), ([1, 1], [1]), ([2], [2]), ([3, 2], [2, 3]), ([4, 2], [2, 4]), ([5, 2], [2, 5]), ([2], [2]), ([7, 2], [2, 7]), ([8, 2], [2, 8]), ([9, 2], [2, 9]), ([10, 2], [2, 10]), ([6, 11, 2], [2, 6, 11]), ([2, 12], [2, 12]), ([13, 2], [13]), ([14], [14]), ([15, 14], [14, 15]), ([16, 14], [14, 16]), ([17, 14], [14, 17]), ([14], [14]), ([19, 14], [14, 19]), ([20, 14], [14, 20]), ([21, 14], [14, 21]), ([22, 14], [14, 22]), ([18, 23, 14], [14, 18, 23]), ([14, 24], [14, 24]), ([25, 14, 0, 1, 2, 3, 4, 5, 6, 7, 8, 9, 10, 11, 12, 13, 14, 15, 16, 17, 18, 19, 20, 21, 22, 23, 24, 25], [25])])
def spec_l04Fits.B1 : List Nat := [0, 1, 3, 7, 15, 31, 63, 7, 135, 391, 903, 1927, 4095, 8191, 16383, 32767, 65535, 131071, 262143, 32767, 557055, 1605631, 3702783, 7897087, 16777215, 33554431, 67108863]
theorem spec_l04Fits.tab1 : rtab .any (opsOf Try.f86 1) = spec_l04Fits.T1 := by kernel_rfl
theorem spec_l04Fits.bits1 : waitsOk spec_l04Fits.T1.2 spec_l04Fits.B1 = true := by kernel_rfl
set_option maxHeartbeats 8000000 in
set_option maxRecDepth 100000 in
theorem spec_l04Fits.calls (k : Nat) (A0 : Option Addr) (c0 : Nat) (l0 : List (S32)) (A1 : Option Addr) (c1 : Nat) (l1 : List (S80)) (r : Bool) (w : World) (hr0 : Kd.C k32 w A0 l0.length l0) (hc0 : l0.length ≤ c0) (hr1 : Kd.C k80 w A1 l1.length l1) (hc1 : l1.length ≤ c1) (h : spec_l04Fits.f k l0 l1 = some r) :
  Calls Try.prog 86 #[.pointer A0, .pointer A1] w fun e w' => e = .returned (.bool r) ∧ Below w.heap.size w w' := by
 have HR0 := Aside0.mk hr0
 have HC0 := Aside0.mk hc0
 clear hr0 hc0
 have HR1 := Aside0.mk hr1
 have HC1 := Aside0.mk hc1
 clear hr1 hc1
 have HB := Aside0.mk (Below.refl w.heap.size w)
 have H : ((spec_l03Ok.f k l1).bind fun t182 => (if t182 = true then (if 0 < (l1.length : Int) then (if 0 < (l0.length : Int) then (if ((rd_T80 l1 0).f1) < (((rd_T32 l0 0).f0).length : Int) then (some (decide (((rd_T80 l1 0).f2) < (((rd_T32 l0 0).f0).length : Int)))) else (some false)) else (none)) else (none)) else (some false))) = some r := h
 clear h
 replace H := Option.bind_eq_some_iff.mp H
 obtain ⟨t182, A30, H⟩ := H
 replace H : (if t182 = true then (if 0 < (l1.length : Int) then (if 0 < (l0.length : Int) then (if ((rd_T80 l1 0).f1) < (((rd_T32 l0 0).f0).length : Int) then (some (decide (((rd_T80 l1 0).f2) < (((rd_T32 l0 0).f0).length : Int)))) else (some false)) else (none)) else (none)) else (some false)) = some r := H
 have A3 := Aside0.mk A30
 clear A30
 by_cases c4 : t182 = true
 ·subst c4
  have H1 : (if 0 < (l1.length : Int) then (if 0 < (l0.length : Int) then (if ((rd_T80 l1 0).f1) < (((rd_T32 l0 0).f0).length : Int) then (some (decide (((rd_T80 l1 0).f2) < (((rd_T32 l0 0).f0).length : Int)))) else (some false)) else (none)) else (none)) = some r := by rw [if_pos rfl] at H; exact H
  clear H
  have H := H1
  clear H1
  by_cases c5 : 0 < (l1.length : Int)
  ·rw [if_pos c5] at H
   have c5b0 : decide (0 < (l1.length : Int)) = true := decide_eq_true c5
   have c5b1 : decide (0 < l1.length) = true := decide_eq_true t12_
   clear c5
   by_cases c6 : 0 < (l0.length : Int)
   ·rw [if_pos c6] at H
    have c6b0 : decide (0 < (l0.length : Int)) = true := decide_eq_true c6
    have c6b1 : decide (0 < l0.length) = true := decide_eq_true t12_
    clear c6
    by_cases c7 : ((rd_T80 l1 0).f1) < (((rd_T32 l0 0).f0).length : Int)
    ·rw [if_pos c7] at H
     have c7b0 : decide (((rd_T80 l1 0).f1) < (((rd_T32 l0 0).f0).length : Int)) = true := decide_eq_true c7
     clear c7
     obtain rfl := Option.some.inj H
     go_enter Try.func86, Try.ntmps86
     try go_wp2
     have n0_ := Aside0.mk (below_drew1 HB.out)
     clear HB
     have HB := n0_
     clear n0_
     have p183 : 0 ≤ (0 : Int) := t12_
     have q183 : 0 < (l1.length : Int) := of_decide_eq_true t3_
     obtain ⟨ad183, e183, hx183_0, hx183_1, hx183_2, hx183_3, hx183_4, hx183_5⟩ := at_T80 HR1.out 0 p183 q183
     have hw183_5 := hx183_5
     (try rw [show ((0 : Int)).toNat = 0 from rfl] at hw183_5)
     (try rw [show 0 * 6 = 0 from rfl] at hw183_5)
     (try rw [Addr.add_zero'] at hw183_5)
     have hw183_4 := hx183_4
     (try rw [show ((0 : Int)).toNat = 0 from rfl] at hw183_4)
     (try rw [show 0 * 6 = 0 from rfl] at hw183_4)
     (try rw [Addr.add_zero'] at hw183_4)
     have hw183_3 := hx183_3
     (try rw [show ((0 : Int)).toNat = 0 from rfl] at hw183_3)
     (try rw [show 0 * 6 = 0 from rfl] at hw183_3)
     (try rw [Addr.add_zero'] at hw183_3)
     have hw183_2 := hx183_2
     (try rw [show ((0 : Int)).toNat = 0 from rfl] at hw183_2)
     (try rw [show 0 * 6 = 0 from rfl] at hw183_2)
     (try rw [Addr.add_zero'] at hw183_2)
     have hw183_1 := hx183_1
     (try rw [show ((0 : Int)).toNat = 0 from rfl] at hw183_1)
     (try rw [show 0 * 6 = 0 from rfl] at hw183_1)
     (try rw [Addr.add_zero'] at hw183_1)
     have hw183_0 := hx183_0
     (try rw [show ((0 : Int)).toNat = 0 from rfl] at hw183_0)
     (try rw [show 0 * 6 = 0 from rfl] at hw183_0)
     (try rw [Addr.add_zero'] at hw183_0)
     cases e183
     have qi183 : (0 < l1.length) = True := eq_true t12_
     (try rw [show ((0 : Int)).toNat = 0 from rfl] at hx183_0)
     (try rw [show 0 * 6 = 0 from rfl] at hx183_0)
     (try rw [Addr.add_zero'] at hx183_0)
     (try rw [show ((0 : Int)).toNat = 0 from rfl] at hx183_1)
     (try rw [show 0 * 6 = 0 from rfl] at hx183_1)
     (try rw [Addr.add_zero'] at hx183_1)
     (try rw [show ((0 : Int)).toNat = 0 from rfl] at hx183_2)
     (try rw [show 0 * 6 = 0 from rfl] at hx183_2)
     (try rw [Addr.add_zero'] at hx183_2)
     (try rw [show ((0 : Int)).toNat = 0 from rfl] at hx183_3)
     (try rw [show 0 * 6 = 0 from rfl] at hx183_3)
     (try rw [Addr.add_zero'] at hx183_3)
     (try rw [show ((0 : Int)).toNat = 0 from rfl] at hx183_4)
     (try rw [show 0 * 6 = 0 from rfl] at hx183_4)
     (try rw [Addr.add_zero'] at hx183_4)
     (try rw [show ((0 : Int)).toNat = 0 from rfl] at hx183_5)
     (try rw [show 0 * 6 = 0 from rfl] at hx183_5)
     (try rw [Addr.add_zero'] at hx183_5)
     replace hx183_0 := (HB.out.cell (World.block_lt_of_cell? w _ hx183_0)).trans hx183_0
     replace hx183_1 := (HB.out.cell (World.block_lt_of_cell? w _ hx183_1)).trans hx183_1
     replace hx183_2 := (HB.out.cell (World.block_lt_of_cell? w _ hx183_2)).trans hx183_2
     replace hx183_3 := (HB.out.cell (World.block_lt_of_cell? w _ hx183_3)).trans hx183_3
     replace hx183_4 := (HB.out.cell (World.block_lt_of_cell? w _ hx183_4)).trans hx183_4
     replace hx183_5 := (HB.out.cell (World.block_lt_of_cell? w _ hx183_5)).trans hx183_5
     replace p183 := eq_true p183
     replace q183 := eq_true q183
     have p184 : 0 ≤ (0 : Int) := t12_
     have q184 : 0 < (l0.length : Int) := of_decide_eq_true t3_
     obtain ⟨ad184, A184_0, c184_0, A184_1, c184_1, e184, hx184_0, hx184_1, hl184_0, hi184_0, hl184_1, hi184_1⟩ := at_T32 HR0.out 0 p184 q184
     have hw184_1 := hx184_1
     (try rw [show ((0 : Int)).toNat = 0 from rfl] at hw184_1)
     (try rw [show 0 * 2 = 0 from rfl] at hw184_1)
     (try rw [Addr.add_zero'] at hw184_1)
     have hw184_0 := hx184_0
     (try rw [show ((0 : Int)).toNat = 0 from rfl] at hw184_0)
     (try rw [show 0 * 2 = 0 from rfl] at hw184_0)
     (try rw [Addr.add_zero'] at hw184_0)
     cases e184
     have qi184 : (0 < l0.length) = True := eq_true t12_
     (try rw [show ((0 : Int)).toNat = 0 from rfl] at hx184_0)
     (try rw [show 0 * 2 = 0 from rfl] at hx184_0)
     (try rw [Addr.add_zero'] at hx184_0)
     (try rw [show ((0 : Int)).toNat = 0 from rfl] at hx184_1)
     (try rw [show 0 * 2 = 0 from rfl] at hx184_1)
     (try rw [Addr.add_zero'] at hx184_1)
     replace hx184_0 := (HB.out.cell (World.block_lt_of_cell? w _ hx184_0)).trans hx184_0
     replace hx184_1 := (HB.out.cell (World.block_lt_of_cell? w _ hx184_1)).trans hx184_1
     have HR184_0 := Aside0.mk hi184_0
     have HC184_0 := Aside0.mk hl184_0
     clear hi184_0 hl184_0
     have HR184_1 := Aside0.mk hi184_1
     have HC184_1 := Aside0.mk hl184_1
     clear hi184_1 hl184_1
     replace p184 := eq_true p184
     replace q184 := eq_true q184
     have p185 : 0 ≤ (0 : Int) := t12_
     have q185 : 0 < (l1.length : Int) := of_decide_eq_true t3_
     obtain ⟨ad185, e185, hx185_0, hx185_1, hx185_2, hx185_3, hx185_4, hx185_5⟩ := at_T80 HR1.out 0 p185 q185
     have hw185_5 := hx185_5
     (try rw [show ((0 : Int)).toNat = 0 from rfl] at hw185_5)
     (try rw [show 0 * 6 = 0 from rfl] at hw185_5)
     (try rw [Addr.add_zero'] at hw185_5)
     have hw185_4 := hx185_4
     (try rw [show ((0 : Int)).toNat = 0 from rfl] at hw185_4)
     (try rw [show 0 * 6 = 0 from rfl] at hw185_4)
     (try rw [Addr.add_zero'] at hw185_4)
     have hw185_3 := hx185_3
     (try rw [show ((0 : Int)).toNat = 0 from rfl] at hw185_3)
     (try rw [show 0 * 6 = 0 from rfl] at hw185_3)
     (try rw [Addr.add_zero'] at hw185_3)
     have hw185_2 := hx185_2
     (try rw [show ((0 : Int)).toNat = 0 from rfl] at hw185_2)
     (try rw [show 0 * 6 = 0 from rfl] at hw185_2)
     (try rw [Addr.add_zero'] at hw185_2)
     have hw185_1 := hx185_1
     (try rw [show ((0 : Int)).toNat = 0 from rfl] at hw185_1)
     (try rw [show 0 * 6 = 0 from rfl] at hw185_1)
     (try rw [Addr.add_zero'] at hw185_1)
     have hw185_0 := hx185_0
     (try rw [show ((0 : Int)).toNat = 0 from rfl] at hw185_0)
     (try rw [show 0 * 6 = 0 from rfl] at hw185_0)
     (try rw [Addr.add_zero'] at hw185_0)
     obtain rfl : ad183 = ad185 := (by injection e185)
     have qi185 : (0 < l1.length) = True := eq_true t12_
     (try rw [show ((0 : Int)).toNat = 0 from rfl] at hx185_0)
     (try rw [show 0 * 6 = 0 from rfl] at hx185_0)
     (try rw [Addr.add_zero'] at hx185_0)
     (try rw [show ((0 : Int)).toNat = 0 from rfl] at hx185_1)
     (try rw [show 0 * 6 = 0 from rfl] at hx185_1)
     (try rw [Addr.add_zero'] at hx185_1)
     (try rw [show ((0 : Int)).toNat = 0 from rfl] at hx185_2)
     (try rw [show 0 * 6 = 0 from rfl] at hx185_2)
     (try rw [Addr.add_zero'] at hx185_2)
     (try rw [show ((0 : Int)).toNat = 0 from rfl] at hx185_3)
     (try rw [show 0 * 6 = 0 from rfl] at hx185_3)
     (try rw [Addr.add_zero'] at hx185_3)
     (try rw [show ((0 : Int)).toNat = 0 from rfl] at hx185_4)
     (try rw [show 0 * 6 = 0 from rfl] at hx185_4)
     (try rw [Addr.add_zero'] at hx185_4)
     (try rw [show ((0 : Int)).toNat = 0 from rfl] at hx185_5)
     (try rw [show 0 * 6 = 0 from rfl] at hx185_5)
     (try rw [Addr.add_zero'] at hx185_5)
     replace hx185_0 := (HB.out.cell (World.block_lt_of_cell? w _ hx185_0)).trans hx185_0
     replace hx185_1 := (HB.out.cell (World.block_lt_of_cell? w _ hx185_1)).trans hx185_1
     replace hx185_2 := (HB.out.cell (World.block_lt_of_cell? w _ hx185_2)).trans hx185_2
     replace hx185_3 := (HB.out.cell (World.block_lt_of_cell? w _ hx185_3)).trans hx185_3
     replace hx185_4 := (HB.out.cell (World.block_lt_of_cell? w _ hx185_4)).trans hx185_4
     replace hx185_5 := (HB.out.cell (World.block_lt_of_cell? w _ hx185_5)).trans hx185_5
     replace p185 := eq_true p185
     replace q185 := eq_true q185
     have p186 : 0 ≤ (0 : Int) := t12_
     have q186 : 0 < (l0.length : Int) := of_decide_eq_true t3_
     obtain ⟨ad186, A186_0, c186_0, A186_1, c186_1, e186, hx186_0, hx186_1, hl186_0, hi186_0, hl186_1, hi186_1⟩ := at_T32 HR0.out 0 p186 q186
     have hw186_1 := hx186_1
     (try rw [show ((0 : Int)).toNat = 0 from rfl] at hw186_1)
     (try rw [show 0 * 2 = 0 from rfl] at hw186_1)
     (try rw [Addr.add_zero'] at hw186_1)
     have hw186_0 := hx186_0
     (try rw [show ((0 : Int)).toNat = 0 from rfl] at hw186_0)
     (try rw [show 0 * 2 = 0 from rfl] at hw186_0)
     (try rw [Addr.add_zero'] at hw186_0)
     obtain rfl : ad184 = ad186 := (by injection e186)
     have qi186 : (0 < l0.length) = True := eq_true t12_
     (try rw [show ((0 : Int)).toNat = 0 from rfl] at hx186_0)
     (try rw [show 0 * 2 = 0 from rfl] at hx186_0)
     (try rw [Addr.add_zero'] at hx186_0)
     (try rw [show ((0 : Int)).toNat = 0 from rfl] at hx186_1)
     (try rw [show 0 * 2 = 0 from rfl] at hx186_1)
     (try rw [Addr.add_zero'] at hx186_1)
     replace hx186_0 := (HB.out.cell (World.block_lt_of_cell? w _ hx186_0)).trans hx186_0
     replace hx186_1 := (HB.out.cell (World.block_lt_of_cell? w _ hx186_1)).trans hx186_1
     have HR186_0 := Aside0.mk hi186_0
     have HC186_0 := Aside0.mk hl186_0
     clear hi186_0 hl186_0
     have HR186_1 := Aside0.mk hi186_1
     have HC186_1 := Aside0.mk hl186_1
     clear hi186_1 hl186_1
     replace p186 := eq_true p186
     replace q186 := eq_true q186
     have ea_ := Option.some.inj (hx184_0.symm.trans hx186_0)
     injection ea_ with ea_ en_ ec_
     subst ea_
     subst ec_
     clear en_
     have ea_ := Option.some.inj (hx184_1.symm.trans hx186_1)
     injection ea_ with ea_ en_ ec_
     subst ea_
     subst ec_
     clear en_
     refine start_ (n := 27) (S := fun w' => w'.cell? ad183 = some (.string ((rd_T80 l1 0).f0)) ∧ w'.cell? ⟨ad183.block, ad183.off + 1, none⟩ = some (.int .i64 ((rd_T80 l1 0).f1)) ∧ w'.cell? ⟨ad183.block, ad183.off + 2, none⟩ = some (.int .i64 ((rd_T80 l1 0).f2)) ∧ w'.cell? ⟨ad183.block, ad183.off + 3, none⟩ = some (.int .i64 ((rd_T80 l1 0).f3)) ∧ w'.cell? ⟨ad183.block, ad183.off + 4, none⟩ = some (.int .i64 ((rd_T80 l1 0).f4)) ∧ w'.cell? ⟨ad183.block, ad183.off + 5, none⟩ = some (.int .i64 ((rd_T80 l1 0).f5)) ∧ w'.cell? ad184 = some (.slice A184_0 ((rd_T32 l0 0).f0).length c184_0) ∧ w'.cell? ⟨ad184.block, ad184.off + 1, none⟩ = some (.slice A184_1 ((rd_T32 l0 0).f1).length c184_1) ∧ w'.cell? ad183 = some (.string ((rd_T80 l1 0).f0)) ∧ w'.cell? ⟨ad183.block, ad183.off + 1, none⟩ = some (.int .i64 ((rd_T80 l1 0).f1)) ∧ w'.cell? ⟨ad183.block, ad183.off + 2, none⟩ = some (.int .i64 ((rd_T80 l1 0).f2)) ∧ w'.cell? ⟨ad183.block, ad183.off + 3, none⟩ = some (.int .i64 ((rd_T80 l1 0).f3)) ∧ w'.cell? ⟨ad183.block, ad183.off + 4, none⟩ = some (.int .i64 ((rd_T80 l1 0).f4)) ∧ w'.cell? ⟨ad183.block, ad183.off + 5, none⟩ = some (.int .i64 ((rd_T80 l1 0).f5)) ∧ w'.cell? ad184 = some (.slice A184_0 ((rd_T32 l0 0).f0).length c184_0) ∧ w'.cell? ⟨ad184.block, ad184.off + 1, none⟩ = some (.slice A184_1 ((rd_T32 l0 0).f1).length c184_1)) (ds := []) (tf 0 27) t7_ rfl rfl ⟨((HB.out.cell (World.block_lt_of_cell? w _ hw183_0)).trans hw183_0), ((HB.out.cell (World.block_lt_of_cell? w _ hw183_1)).trans hw183_1), ((HB.out.cell (World.block_lt_of_cell? w _ hw183_2)).trans hw183_2), ((HB.out.cell (World.block_lt_of_cell? w _ hw183_3)).trans hw183_3), ((HB.out.cell (World.block_lt_of_cell? w _ hw183_4)).trans hw183_4), ((HB.out.cell (World.block_lt_of_cell? w _ hw183_5)).trans hw183_5), ((HB.out.cell (World.block_lt_of_cell? w _ hw184_0)).trans hw184_0), ((HB.out.cell (World.block_lt_of_cell? w _ hw184_1)).trans hw184_1), ((HB.out.cell (World.block_lt_of_cell? w _ hw185_0)).trans hw185_0), ((HB.out.cell (World.block_lt_of_cell? w _ hw185_1)).trans hw185_1), ((HB.out.cell (World.block_lt_of_cell? w _ hw185_2)).trans hw185_2), ((HB.out.cell (World.block_lt_of_cell? w _ hw185_3)).trans hw185_3), ((HB.out.cell (World.block_lt_of_cell? w _ hw185_4)).trans hw185_4), ((HB.out.cell (World.block_lt_of_cell? w _ hw185_5)).trans hw185_5), ((HB.out.cell (World.block_lt_of_cell? w _ hw186_0)).trans hw186_0), ((HB.out.cell (World.block_lt_of_cell? w _ hw186_1)).trans hw186_1)⟩ (fun hHeld => ?_); refine with_tabW spec_l04Fits.tab1 spec_l04Fits.bits1 (fun HT_ HW_ => ?_)
     generalize w.drew = w8 at HB HR184_0 HR184_1 HR186_0 HR186_1 hx183_0 hx183_1 hx183_2 hx183_3 hx183_4 hx183_5 hx184_0 hx184_1 hx185_0 hx185_1 hx185_2 hx185_3 hx185_4 hx185_5 hx186_0 hx186_1 hHeld ⊢
     refine px 0 (some 5) (tf 1 27) HT_ ?_
     refine one_ (i := 1) (N := some 6) (tf 2 27) rfl rfl (one_of HT_.out t7_) t22_ (fun K hK => ?_)
     refine goes_ Try.func105 t7_ rfl #[.pointer (some ad183)] t35_ rfl rfl t2_ ?_
     with_reducible refine (spec_l03Ok.calls k _ c1 l1 true _ ?side1 ?side2 A3.out).mono ?_
     (case side1 => repeat (first | exact (Kd.C_below HR1.out HB.out) | (with_reducible refine Kd.C_alloc ?_ _) | (with_reducible refine Kd.C_drewN ?_ _) | (with_reducible refine Kd.C_drew ?_)))
     (case side2 => exact HC1.out)
     rintro e w9 ⟨rfl, hb⟩
     refine ⟨_, rfl, ?_⟩
     have n0_ := Aside0.mk (below_step t1_ hb)
     clear HB
     have HB := n0_
     clear n0_
     (try clear hb)
     (try clear hb2)
     (try clear hk)
     (try clear hi)
     refine hK.out _ _ ⟨((HB.out.cell (World.block_lt_of_cell? w _ hw183_0)).trans hw183_0), ((HB.out.cell (World.block_lt_of_cell? w _ hw183_1)).trans hw183_1), ((HB.out.cell (World.block_lt_of_cell? w _ hw183_2)).trans hw183_2), ((HB.out.cell (World.block_lt_of_cell? w _ hw183_3)).trans hw183_3), ((HB.out.cell (World.block_lt_of_cell? w _ hw183_4)).trans hw183_4), ((HB.out.cell (World.block_lt_of_cell? w _ hw183_5)).trans hw183_5), ((HB.out.cell (World.block_lt_of_cell? w _ hw184_0)).trans hw184_0), ((HB.out.cell (World.block_lt_of_cell? w _ hw184_1)).trans hw184_1), ((HB.out.cell (World.block_lt_of_cell? w _ hw185_0)).trans hw185_0), ((HB.out.cell (World.block_lt_of_cell? w _ hw185_1)).trans hw185_1), ((HB.out.cell (World.block_lt_of_cell? w _ hw185_2)).trans hw185_2), ((HB.out.cell (World.block_lt_of_cell? w _ hw185_3)).trans hw185_3), ((HB.out.cell (World.block_lt_of_cell? w _ hw185_4)).trans hw185_4), ((HB.out.cell (World.block_lt_of_cell? w _ hw185_5)).trans hw185_5), ((HB.out.cell (World.block_lt_of_cell? w _ hw186_0)).trans hw186_0), ((HB.out.cell (World.block_lt_of_cell? w _ hw186_1)).trans hw186_1)⟩ (fun hHeld => ?_)
     clear hK K
     refine norm_ (a' := ?_) ?_ ?_
     rotate_left
     ·show Act.put _ (some 6) _ = _
      simp only [Act.put, List.setIfInBounds_toArray, List.set_cons_zero, List.set_cons_succ, i64_w, i32_w]
      rfl
     refine px 2 (some 7) (tf 3 27) HT_ ?_
     refine px 3 (some 8) (tf 4 27) HT_ ?_
     refine px 4 (some 9) (tf 5 27) HT_ ?_
     refine px 5 (some 10) (tf 6 27) HT_ ?_
     refine px 7 (some 12) (tb 27 191) HT_ ?_
     refine px 8 (some 13) (tb 27 447) HT_ ?_
     refine px 9 (some 14) (tb 27 959) HT_ ?_
     refine tx (v := ?_) 6 (some 11) (tf 10 27) HT_ HW_ hHeld ?_ ?_
     rotate_left; (· rintro w' ⟨s0, s1, s2, s3, s4, s5, s6, s7, s8, s9, s10, s11, s12, s13, s14, s15⟩; go_simp; with_reducible rfl)
     refine tx (v := ?_) 10 (some 15) (tf 11 27) HT_ HW_ hHeld ?_ ?_
     rotate_left; (· rintro w' ⟨s0, s1, s2, s3, s4, s5, s6, s7, s8, s9, s10, s11, s12, s13, s14, s15⟩; go_simp; with_reducible rfl)
     refine px 11 (some 16) (tf 12 27) HT_ ?_
     refine px 12 (some 17) (tf 13 27) HT_ ?_
     refine px 13 (some 18) (tf 14 27) HT_ ?_
     refine px 14 (some 19) (tf 15 27) HT_ ?_
     refine px 15 (some 20) (tf 16 27) HT_ ?_
     refine px 16 (some 21) (tf 17 27) HT_ ?_
     refine px 17 (some 22) (tf 18 27) HT_ ?_
     refine px 19 (some 24) (tb 27 786431) HT_ ?_
     refine px 20 (some 25) (tb 27 1835007) HT_ ?_
     refine px 21 (some 26) (tb 27 3932159) HT_ ?_
     refine tx (v := ?_) 18 (some 23) (tf 22 27) HT_ HW_ hHeld ?_ ?_
     rotate_left; (· rintro w' ⟨s0, s1, s2, s3, s4, s5, s6, s7, s8, s9, s10, s11, s12, s13, s14, s15⟩; go_simp; with_reducible rfl)
     refine tx (v := ?_) 22 (some 27) (tf 23 27) HT_ HW_ hHeld ?_ ?_
     rotate_left; (· rintro w' ⟨s0, s1, s2, s3, s4, s5, s6, s7, s8, s9, s10, s11, s12, s13, s14, s15⟩; go_simp; with_reducible rfl)
     refine px 23 (some 28) (tf 24 27) HT_ ?_
     refine px 24 (some 29) (tf 25 27) HT_ ?_
     refine px 25 (some 30) (tf 26 27) HT_ ?_
     refine px 26 (some 4) (tf 27 27) HT_ ?_
     refine done_ (done_of HT_.out t7_) ?_
     try go_wp2
     go_ret
     exact ⟨by first | rfl | (rw [Int.tdiv_eq_ediv_of_nonneg t12_]; rfl) | (simp [errW_none, errW_some] <;> rfl) | (simp [*, errW_none, errW_some] <;> rfl), by repeat (first | (with_reducible first | exact HB.out | apply below_alloc | apply pw_below_drewN | apply below_drew1) | exact HB.out)⟩
    ·rw [if_neg c7] at H
     have c7b0 : decide (((rd_T80 l1 0).f1) < (((rd_T32 l0 0).f0).length : Int)) = false := decide_eq_false c7
     clear c7
     obtain rfl := Option.some.inj H
     go_enter Try.func86, Try.ntmps86
     try go_wp2
     have n0_ := Aside0.mk (below_drew1 HB.out)
     clear HB
     have HB := n0_
     clear n0_
     have p183 : 0 ≤ (0 : Int) := t12_
     have q183 : 0 < (l1.length : Int) := of_decide_eq_true t3_
     obtain ⟨ad183, e183, hx183_0, hx183_1, hx183_2, hx183_3, hx183_4, hx183_5⟩ := at_T80 HR1.out 0 p183 q183
     have hw183_5 := hx183_5
     (try rw [show ((0 : Int)).toNat = 0 from rfl] at hw183_5)
     (try rw [show 0 * 6 = 0 from rfl] at hw183_5)
     (try rw [Addr.add_zero'] at hw183_5)
     have hw183_4 := hx183_4
     (try rw [show ((0 : Int)).toNat = 0 from rfl] at hw183_4)
     (try rw [show 0 * 6 = 0 from rfl] at hw183_4)
     (try rw [Addr.add_zero'] at hw183_4)
     have hw183_3 := hx183_3
     (try rw [show ((0 : Int)).toNat = 0 from rfl] at hw183_3)
     (try rw [show 0 * 6 = 0 from rfl] at hw183_3)
     (try rw [Addr.add_zero'] at hw183_3)
     have hw183_2 := hx183_2
     (try rw [show ((0 : Int)).toNat = 0 from rfl] at hw183_2)
     (try rw [show 0 * 6 = 0 from rfl] at hw183_2)
     (try rw [Addr.add_zero'] at hw183_2)
     have hw183_1 := hx183_1
     (try rw [show ((0 : Int)).toNat = 0 from rfl] at hw183_1)
     (try rw [show 0 * 6 = 0 from rfl] at hw183_1)
     (try rw [Addr.add_zero'] at hw183_1)
     have hw183_0 := hx183_0
     (try rw [show ((0 : Int)).toNat = 0 from rfl] at hw183_0)
     (try rw [show 0 * 6 = 0 from rfl] at hw183_0)
     (try rw [Addr.add_zero'] at hw183_0)
     cases e183
     have qi183 : (0 < l1.length) = True := eq_true t12_
     (try rw [show ((0 : Int)).toNat = 0 from rfl] at hx183_0)
     (try rw [show 0 * 6 = 0 from rfl] at hx183_0)
     (try rw [Addr.add_zero'] at hx183_0)
     (try rw [show ((0 : Int)).toNat = 0 from rfl] at hx183_1)
     (try rw [show 0 * 6 = 0 from rfl] at hx183_1)
     (try rw [Addr.add_zero'] at hx183_1)
     (try rw [show ((0 : Int)).toNat = 0 from rfl] at hx183_2)
     (try rw [show 0 * 6 = 0 from rfl] at hx183_2)
     (try rw [Addr.add_zero'] at hx183_2)
     (try rw [show ((0 : Int)).toNat = 0 from rfl] at hx183_3)
     (try rw [show 0 * 6 = 0 from rfl] at hx183_3)
     (try rw [Addr.add_zero'] at hx183_3)
     (try rw [show ((0 : Int)).toNat = 0 from rfl] at hx183_4)
     (try rw [show 0 * 6 = 0 from rfl] at hx183_4)
     (try rw [Addr.add_zero'] at hx183_4)
     (try rw [show ((0 : Int)).toNat = 0 from rfl] at hx183_5)
     (try rw [show 0 * 6 = 0 from rfl] at hx183_5)
     (try rw [Addr.add_zero'] at hx183_5)
     replace hx183_0 := (HB.out.cell (World.block_lt_of_cell? w _ hx183_0)).trans hx183_0
     replace hx183_1 := (HB.out.cell (World.block_lt_of_cell? w _ hx183_1)).trans hx183_1
     replace hx183_2 := (HB.out.cell (World.block_lt_of_cell? w _ hx183_2)).trans hx183_2
     replace hx183_3 := (HB.out.cell (World.block_lt_of_cell? w _ hx183_3)).trans hx183_3
     replace hx183_4 := (HB.out.cell (World.block_lt_of_cell? w _ hx183_4)).trans hx183_4
     replace hx183_5 := (HB.out.cell (World.block_lt_of_cell? w _ hx183_5)).trans hx183_5
     replace p183 := eq_true p183
     replace q183 := eq_true q183
     have p184 : 0 ≤ (0 : Int) := t12_
     have q184 : 0 < (l0.length : Int) := of_decide_eq_true t3_
     obtain ⟨ad184, A184_0, c184_0, A184_1, c184_1, e184, hx184_0, hx184_1, hl184_0, hi184_0, hl184_1, hi184_1⟩ := at_T32 HR0.out 0 p184 q184
     have hw184_1 := hx184_1
     (try rw [show ((0 : Int)).toNat = 0 from rfl] at hw184_1)
     (try rw [show 0 * 2 = 0 from rfl] at hw184_1)
     (try rw [Addr.add_zero'] at hw184_1)
     have hw184_0 := hx184_0
     (try rw [show ((0 : Int)).toNat = 0 from rfl] at hw184_0)
     (try rw [show 0 * 2 = 0 from rfl] at hw184_0)
     (try rw [Addr.add_zero'] at hw184_0)
     cases e184
     have qi184 : (0 < l0.length) = True := eq_true t12_
     (try rw [show ((0 : Int)).toNat = 0 from rfl] at hx184_0)
     (try rw [show 0 * 2 = 0 from rfl] at hx184_0)
     (try rw [Addr.add_zero'] at hx184_0)
     (try rw [show ((0 : Int)).toNat = 0 from rfl] at hx184_1)
     (try rw [show 0 * 2 = 0 from rfl] at hx184_1)
     (try rw [Addr.add_zero'] at hx184_1)
     replace hx184_0 := (HB.out.cell (World.block_lt_of_cell? w _ hx184_0)).trans hx184_0
     replace hx184_1 := (HB.out.cell (World.block_lt_of_cell? w _ hx184_1)).trans hx184_1
     have HR184_0 := Aside0.mk hi184_0
     have HC184_0 := Aside0.mk hl184_0
     clear hi184_0 hl184_0
     have HR184_1 := Aside0.mk hi184_1
     have HC184_1 := Aside0.mk hl184_1
     clear hi184_1 hl184_1
     replace p184 := eq_true p184
     replace q184 := eq_true q184
     refine start_ (n := 27) (S := fun w' => w'.cell? ad183 = some (.string ((rd_T80 l1 0).f0)) ∧ w'.cell? ⟨ad183.block, ad183.off + 1, none⟩ = some (.int .i64 ((rd_T80 l1 0).f1)) ∧ w'.cell? ⟨ad183.block, ad183.off + 2, none⟩ = some (.int .i64 ((rd_T80 l1 0).f2)) ∧ w'.cell? ⟨ad183.block, ad183.off + 3, none⟩ = some (.int .i64 ((rd_T80 l1 0).f3)) ∧ w'.cell? ⟨ad183.block, ad183.off + 4, none⟩ = some (.int .i64 ((rd_T80 l1 0).f4)) ∧ w'.cell? ⟨ad183.block, ad183.off + 5, none⟩ = some (.int .i64 ((rd_T80 l1 0).f5)) ∧ w'.cell? ad184 = some (.slice A184_0 ((rd_T32 l0 0).f0).length c184_0) ∧ w'.cell? ⟨ad184.block, ad184.off + 1, none⟩ = some (.slice A184_1 ((rd_T32 l0 0).f1).length c184_1)) (ds := []) (tf 0 27) t7_ rfl rfl ⟨((HB.out.cell (World.block_lt_of_cell? w _ hw183_0)).trans hw183_0), ((HB.out.cell (World.block_lt_of_cell? w _ hw183_1)).trans hw183_1), ((HB.out.cell (World.block_lt_of_cell? w _ hw183_2)).trans hw183_2), ((HB.out.cell (World.block_lt_of_cell? w _ hw183_3)).trans hw183_3), ((HB.out.cell (World.block_lt_of_cell? w _ hw183_4)).trans hw183_4), ((HB.out.cell (World.block_lt_of_cell? w _ hw183_5)).trans hw183_5), ((HB.out.cell (World.block_lt_of_cell? w _ hw184_0)).trans hw184_0), ((HB.out.cell (World.block_lt_of_cell? w _ hw184_1)).trans hw184_1)⟩ (fun hHeld => ?_); refine with_tabW spec_l04Fits.tab1 spec_l04Fits.bits1 (fun HT_ HW_ => ?_)
     generalize w.drew = w10 at HB HR184_0 HR184_1 hx183_0 hx183_1 hx183_2 hx183_3 hx183_4 hx183_5 hx184_0 hx184_1 hHeld ⊢
     refine px 0 (some 5) (tf 1 27) HT_ ?_
     refine one_ (i := 1) (N := some 6) (tf 2 27) rfl rfl (one_of HT_.out t7_) t22_ (fun K hK => ?_)
     refine goes_ Try.func105 t7_ rfl #[.pointer (some ad183)] t35_ rfl rfl t2_ ?_
     with_reducible refine (spec_l03Ok.calls k _ c1 l1 true _ ?side1 ?side2 A3.out).mono ?_
     (case side1 => repeat (first | exact (Kd.C_below HR1.out HB.out) | (with_reducible refine Kd.C_alloc ?_ _) | (with_reducible refine Kd.C_drewN ?_ _) | (with_reducible refine Kd.C_drew ?_)))
     (case side2 => exact HC1.out)
     rintro e w11 ⟨rfl, hb⟩
     refine ⟨_, rfl, ?_⟩
     have n0_ := Aside0.mk (below_step t1_ hb)
     clear HB
     have HB := n0_
     clear n0_
     (try clear hb)
     (try clear hb2)
     (try clear hk)
     (try clear hi)
     refine hK.out _ _ ⟨((HB.out.cell (World.block_lt_of_cell? w _ hw183_0)).trans hw183_0), ((HB.out.cell (World.block_lt_of_cell? w _ hw183_1)).trans hw183_1), ((HB.out.cell (World.block_lt_of_cell? w _ hw183_2)).trans hw183_2), ((HB.out.cell (World.block_lt_of_cell? w _ hw183_3)).trans hw183_3), ((HB.out.cell (World.block_lt_of_cell? w _ hw183_4)).trans hw183_4), ((HB.out.cell (World.block_lt_of_cell? w _ hw183_5)).trans hw183_5), ((HB.out.cell (World.block_lt_of_cell? w _ hw184_0)).trans hw184_0), ((HB.out.cell (World.block_lt_of_cell? w _ hw184_1)).trans hw184_1)⟩ (fun hHeld => ?_)
     clear hK K
     refine norm_ (a' := ?_) ?_ ?_
     rotate_left
     ·show Act.put _ (some 6) _ = _
      simp only [Act.put, List.setIfInBounds_toArray, List.set_cons_zero, List.set_cons_succ, i64_w, i32_w]
      rfl
     refine px 2 (some 7) (tf 3 27) HT_ ?_
     refine px 3 (some 8) (tf 4 27) HT_ ?_
     refine px 4 (some 9) (tf 5 27) HT_ ?_
     refine px 5 (some 10) (tf 6 27) HT_ ?_
     refine px 7 (some 12) (tb 27 191) HT_ ?_
     refine px 8 (some 13) (tb 27 447) HT_ ?_
     refine px 9 (some 14) (tb 27 959) HT_ ?_
     refine tx (v := ?_) 6 (some 11) (tf 10 27) HT_ HW_ hHeld ?_ ?_
     rotate_left; (· rintro w' ⟨s0, s1, s2, s3, s4, s5, s6, s7⟩; go_simp; with_reducible rfl)
     refine tx (v := ?_) 10 (some 15) (tf 11 27) HT_ HW_ hHeld ?_ ?_
     rotate_left; (· rintro w' ⟨s0, s1, s2, s3, s4, s5, s6, s7⟩; go_simp; with_reducible rfl)
     refine px 11 (some 16) (tf 12 27) HT_ ?_
     refine px 12 (some 17) (tf 13 27) HT_ ?_
     refine px 13 (some 18) (tf 14 27) HT_ ?_
     refine px 14 (some 19) (tf 15 27) HT_ ?_
     refine sx 15 (some 20) (tf 16 27) HT_ ?_
     refine sx 16 (some 21) (tf 17 27) HT_ ?_
     refine sx 17 (some 22) (tf 18 27) HT_ ?_
     refine sx 18 (some 23) (tf 19 27) HT_ ?_
     refine sx 19 (some 24) (tf 20 27) HT_ ?_
     refine sx 20 (some 25) (tf 21 27) HT_ ?_
     refine sx 21 (some 26) (tf 22 27) HT_ ?_
     refine sx 22 (some 27) (tf 23 27) HT_ ?_
     refine sx 23 (some 28) (tf 24 27) HT_ ?_
     refine sx 24 (some 29) (tf 25 27) HT_ ?_
     refine px 25 (some 30) (tf 26 27) HT_ ?_
     refine px 26 (some 4) (tf 27 27) HT_ ?_
     refine done_ (done_of HT_.out t7_) ?_
     try go_wp2
     go_ret
     exact ⟨by first | rfl | (rw [Int.tdiv_eq_ediv_of_nonneg t12_]; rfl) | (simp [errW_none, errW_some] <;> rfl) | (simp [*, errW_none, errW_some] <;> rfl), by repeat (first | (with_reducible first | exact HB.out | apply below_alloc | apply pw_below_drewN | apply below_drew1) | exact HB.out)⟩
   ·rw [if_neg c6] at H
    exact absurd H t30_
  ·rw [if_neg c5] at H
   exact absurd H t30_
 ·replace c4 := Bool.eq_false_iff.mpr c4
  subst c4
  have H1 : (some false) = some r := by rw [if_neg (show ¬ (false = true) by decide)] at H; exact H
  clear H
  have H := H1
  clear H1
  obtain rfl := Option.some.inj H
  go_enter Try.func86, Try.ntmps86
  try go_wp2
  have n0_ := Aside0.mk (below_drew1 HB.out)
  clear HB
  have HB := n0_
  clear n0_
  refine start_ (n := 27) (S := fun w' => True) (ds := []) (tf 0 27) t7_ rfl rfl trivial (fun hHeld => ?_); refine with_tabW spec_l04Fits.tab1 spec_l04Fits.bits1 (fun HT_ HW_ => ?_)
  generalize w.drew = w12 at HB hHeld ⊢
  refine px 0 (some 5) (tf 1 27) HT_ ?_
  refine one_ (i := 1) (N := some 6) (tf 2 27) rfl rfl (one_of HT_.out t7_) t22_ (fun K hK => ?_)
  refine goes_ Try.func105 t7_ rfl #[.pointer A1] t35_ rfl rfl t2_ ?_
  with_reducible refine (spec_l03Ok.calls k _ c1 l1 false _ ?side1 ?side2 A3.out).mono ?_
  (case side1 => repeat (first | exact (Kd.C_below HR1.out HB.out) | (with_reducible refine Kd.C_alloc ?_ _) | (with_reducible refine Kd.C_drewN ?_ _) | (with_reducible refine Kd.C_drew ?_)))
  (case side2 => exact HC1.out)
  rintro e w13 ⟨rfl, hb⟩
  refine ⟨_, rfl, ?_⟩
  have n0_ := Aside0.mk (below_step t1_ hb)
  clear HB
  have HB := n0_
  clear n0_
  (try clear hb)
  (try clear hb2)
  (try clear hk)
  (try clear hi)
  refine hK.out _ _ trivial (fun hHeld => ?_)
  clear hK K
  refine norm_ (a' := ?_) ?_ ?_
  rotate_left
  ·show Act.put _ (some 6) _ = _
   simp only [Act.put, List.setIfInBounds_toArray, List.set_cons_zero, List.set_cons_succ, i64_w, i32_w]
   rfl
  refine px 2 (some 7) (tf 3 27) HT_ ?_
  refine sx 3 (some 8) (tf 4 27) HT_ ?_
  refine sx 4 (some 9) (tf 5 27) HT_ ?_
  refine sx 5 (some 10) (tf 6 27) HT_ ?_
  refine sx 6 (some 11) (tf 7 27) HT_ ?_
  refine sx 7 (some 12) (tf 8 27) HT_ ?_
  refine sx 8 (some 13) (tf 9 27) HT_ ?_
  refine sx 9 (some 14) (tf 10 27) HT_ ?_
  refine sx 10 (some 15) (tf 11 27) HT_ ?_
  refine sx 11 (some 16) (tf 12 27) HT_ ?_
  refine sx 12 (some 17) (tf 13 27) HT_ ?_
  refine px 13 (some 18) (tf 14 27) HT_ ?_
  refine px 14 (some 19) (tf 15 27) HT_ ?_
  refine sx 15 (some 20) (tf 16 27) HT_ ?_
  refine sx 16 (some 21) (tf 17 27) HT_ ?_
  refine sx 17 (some 22) (tf 18 27) HT_ ?_
  refine sx 18 (some 23) (tf 19 27) HT_ ?_
  refine sx 19 (some 24) (tf 20 27) HT_ ?_
  refine sx 20 (some 25) (tf 21 27) HT_ ?_
  refine sx 21 (some 26) (tf 22 27) HT_ ?_
  refine sx 22 (some 27) (tf 23 27) HT_ ?_
  refine sx 23 (some 28) (tf 24 27) HT_ ?_
  refine sx 24 (some 29) (tf 25 27) HT_ ?_
  refine px 25 (some 30) (tf 26 27) HT_ ?_
  refine px 26 (some 4) (tf 27 27) HT_ ?_
  refine done_ (done_of HT_.out t7_) ?_
  try go_wp2
  go_ret
  exact ⟨by first | rfl | (rw [Int.tdiv_eq_ediv_of_nonneg t12_]; rfl) | (simp [errW_none, errW_some] <;> rfl) | (simp [*, errW_none, errW_some] <;> rfl), by repeat (first | (with_reducible first | exact HB.out | apply below_alloc | apply pw_below_drewN | apply below_drew1) | exact HB.out)⟩

end Go.Proofs.Ytjelfhmgbhidnaa.PFnExactValveNamed
