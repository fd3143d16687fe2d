-- written by wip/xprint.py, a program of this session, for this claim; not trusted: Lean checks it.
import Derived.Test.YtjelfhmgbhidnaaPFnExactValidValvesx0
import Derived.Test.YtjelfhmgbhidnaaPFnExactValidValvesx1
namespace Go.Proofs.Ytjelfhmgbhidnaa.PFnExactValidValves
open Go.RowKit Go.Proofs.YtjelfhmgbhidnaaW.PrintWords Go.Proofs.YtjelfhmgbhidnaaW.PrintLast Go.Proofs.YtjelfhmgbhidnaaW.PrintMore
attribute [local go_sem] leq_less_ max2_int min2_int max_two min_two max_three min_three max_four min_four   -- for this text's walks alone
set_option linter.unusedVariables false
set_option linter.unusedSimpArgs false

/-! ### spec_l03Ok: function 105 -/
def spec_l03Ok.j0 : Nat → List (S80) → Bool → Option (Bool)
 | 0, _, _ => none
 | k + 1, x0, x35 => if x35 = true then (some false) else (if 0 < (x0.length : Int) then ((spec_l00In.f ((rd_T80 x0 0).f3) 1 10000).bind fun t122 => (if t122 = true then ((spec_l00In.f ((rd_T80 x0 0).f4) 20 1000).bind fun t124 => (if t124 = true then ((spec_l00In.f ((rd_T80 x0 0).f5) 0 5000).bind fun t126 => (some t126)) else (some false))) else (some false))) else (none))
def spec_l03Ok.f (k : Nat) (l0 : List (S80)) : Option (Bool) := if 0 < (l0.length : Int) then ((spec_l01Name.f k ((rd_T80 l0 0).f0)).bind fun t114 => (if t114 = true then ((spec_l00In.f ((rd_T80 l0 0).f1) 0 15).bind fun t116 => (if t116 = true then ((spec_l00In.f ((rd_T80 l0 0).f2) 0 15).bind fun t118 => (if t118 = true then (spec_l03Ok.j0 k l0 (((rd_T80 l0 0).f1) == ((rd_T80 l0 0).f2))) else (spec_l03Ok.j0 k l0 true))) else (spec_l03Ok.j0 k l0 true))) else (spec_l03Ok.j0 k l0 true))) else (none)
theorem spec_l03Ok.mono_l : ∀ k, (∀ y0 y1, LeO (spec_l03Ok.j0 k y0 y1) (spec_l03Ok.j0 (k + 1) y0 y1))
 | 0 => fun _ _ r h => by simp [spec_l03Ok.j0] at h
 | k + 1 => by
  have ih0 := spec_l03Ok.mono_l k
  ·intro y0 y1
   unfold spec_l03Ok.j0
   repeat' first
   | (with_reducible exact ih0 _ _)
   | (with_reducible exact spec_l01Name.mono _ _)
   | (with_reducible exact LeO.refl _)
   | (with_reducible exact LeO.none _)
   | (with_reducible refine LeO.ite ?_ ?_)
   | (with_reducible refine LeO.bind ?_ (fun _ => ?_))
   | exact ih0 _ _
   | exact spec_l01Name.mono _ _
   | exact LeO.none _
   | refine LeO.ite ?_ ?_
   | refine LeO.bind ?_ (fun _ => ?_)
theorem spec_l03Ok.mono : ∀ a0 k, LeO (spec_l03Ok.f k a0) (spec_l03Ok.f (k + 1) a0) := by
 intro a0 k
 have ih0 := spec_l03Ok.mono_l k
 unfold spec_l03Ok.f
 repeat' first
   | (with_reducible exact ih0 _ _)
   | (with_reducible exact spec_l01Name.mono _ _)
   | (with_reducible exact LeO.refl _)
   | (with_reducible exact LeO.none _)
   | (with_reducible refine LeO.ite ?_ ?_)
   | (with_reducible refine LeO.bind ?_ (fun _ => ?_))
   | exact ih0 _ _
   | exact spec_l01Name.mono _ _
   | exact LeO.none _
   | refine LeO.ite ?_ ?_
   | refine LeO.bind ?_ (fun _ => ?_)
def spec_l03Ok.T1 : Bool × List (List Nat × List Nat) := (true, [([], []), ([0], [0]), ([1], [1]), ([2], [2]), ([3], [3]), ([4], [4]), ([5, 4], [5]), ([6], [6]), ([7, 6], [6, 7]), ([8, 6], [6, 8]), ([9, 6], [6, 9]), ([10, 6, 6], [6, 10]), ([11, 6], [6, 11]), ([6, 12], [6, 12]), ([13, 11], [13]), ([14], [14]), ([15, 14], [14, 15]), ([16, 14], [14, 16]), ([17, 14], [14, 17]), ([18, 14, 14], [14, 18]), ([19, 14], [14, 19]), ([14, 20], [14, 20]), ([21, 19], [21]), ([22], [22]), ([23, 22], [22, 23]), ([24, 22], [22, 24]), ([25, 22], [22, 25]), ([22], [22]), ([27, 22], [22, 27]), ([28, 22], [22, 28]), ([29, 22], [22, 29]), ([26, 30, 22], [22, 26, 30]), ([22, 31], [22, 31])])
def spec_l03Ok.B1 : List Nat := [0, 1, 3, 7, 15, 31, 63, 127, 255, 511, 1023, 2047, 4095, 8191, 16383, 32767, 65535, 131071, 262143, 524287, 1048575, 2097151, 4194303, 8388607, 16777215, 33554431, 67108863, 8388607, 142606335, 411041791, 947912703, 2147483647, 4294967295]
theorem spec_l03Ok.tab1 : rtab .any (opsOf Try.f105 1) = spec_l03Ok.T1 := by kernel_rfl
theorem spec_l03Ok.bits1 : waitsOk spec_l03Ok.T1.2 spec_l03Ok.B1 = true := by kernel_rfl
set_option maxHeartbeats 8000000 in
set_option maxRecDepth 100000 in
theorem spec_l03Ok.calls (k : Nat) (A0 : Option Addr) (c0 : Nat) (l0 : List (S80)) (r : Bool) (w : World) (hr0 : Kd.C k80 w A0 l0.length l0) (hc0 : l0.length ≤ c0) (h : spec_l03Ok.f k l0 = some r) :
  Calls Try.prog 105 #[.pointer A0] w fun e w' => e = .returned (.bool r) ∧ Below w.heap.size w w' := by
 have HR0 := Aside0.mk hr0
 have HC0 := Aside0.mk hc0
 clear hr0 hc0
 have HB := Aside0.mk (Below.refl w.heap.size w)
 have H : (if 0 < (l0.length : Int) then ((spec_l01Name.f k ((rd_T80 l0 0).f0)).bind fun t114 => (if t114 = true then ((spec_l00In.f ((rd_T80 l0 0).f1) 0 15).bind fun t116 => (if t116 = true then ((spec_l00In.f ((rd_T80 l0 0).f2) 0 15).bind fun t118 => (if t118 = true then (spec_l03Ok.j0 k l0 (((rd_T80 l0 0).f1) == ((rd_T80 l0 0).f2))) else (spec_l03Ok.j0 k l0 true))) else (spec_l03Ok.j0 k l0 true))) else (spec_l03Ok.j0 k l0 true))) else (none)) = some r := h
 clear h
 have HC2 := Aside0.mk H
 clear H
 go_enter Try.func105, Try.ntmps105
 go_upto_region 1 with (fail)
 go_cut [35] (fun v35 wc => ∃ (kq : Nat) (x35_1 : Bool), v35 = .bool x35_1 ∧ Aside0 (spec_l03Ok.j0 kq l0 x35_1 = some r) ∧ Aside0 (kq ≤ k) ∧ Aside0 (Below w.heap.size w wc))
 case first =>
  have H := HC2.out
  clear HC2
  by_cases c3 : 0 < (l0.length : Int)
  ·rw [if_pos c3] at H
   have c3b0 : decide (0 < (l0.length : Int)) = true := decide_eq_true c3
   have c3b1 : decide (0 < l0.length) = true := decide_eq_true t12_
   clear c3
   (first | rw [c3b0] | (simp only [i64_w, i32_w]; rw [c3b0]) | skip)
   replace H := Option.bind_eq_some_iff.mp H
   obtain ⟨t114, A40, H⟩ := H
   replace H : (if t114 = true then ((spec_l00In.f ((rd_T80 l0 0).f1) 0 15).bind fun t116 => (if t116 = true then ((spec_l00In.f ((rd_T80 l0 0).f2) 0 15).bind fun t118 => (if t118 = true then (spec_l03Ok.j0 k l0 (((rd_T80 l0 0).f1) == ((rd_T80 l0 0).f2))) else (spec_l03Ok.j0 k l0 true))) else (spec_l03Ok.j0 k l0 true))) else (spec_l03Ok.j0 k l0 true)) = some r := H
   have A4 := Aside0.mk A40
   clear A40
   by_cases c5 : t114 = true
   ·subst c5
    have H1 : ((spec_l00In.f ((rd_T80 l0 0).f1) 0 15).bind fun t116 => (if t116 = true then ((spec_l00In.f ((rd_T80 l0 0).f2) 0 15).bind fun t118 => (if t118 = true then (spec_l03Ok.j0 k l0 (((rd_T80 l0 0).f1) == ((rd_T80 l0 0).f2))) else (spec_l03Ok.j0 k l0 true))) else (spec_l03Ok.j0 k l0 true))) = some r := by rw [if_pos rfl] at H; exact H
    clear H
    have H := H1
    clear H1
    replace H := Option.bind_eq_some_iff.mp H
    obtain ⟨t116, A60, H⟩ := H
    replace H : (if t116 = true then ((spec_l00In.f ((rd_T80 l0 0).f2) 0 15).bind fun t118 => (if t118 = true then (spec_l03Ok.j0 k l0 (((rd_T80 l0 0).f1) == ((rd_T80 l0 0).f2))) else (spec_l03Ok.j0 k l0 true))) else (spec_l03Ok.j0 k l0 true)) = some r := H
    have A6 := Aside0.mk A60
    clear A60
    by_cases c7 : t116 = true
    ·subst c7
     have H1 : ((spec_l00In.f ((rd_T80 l0 0).f2) 0 15).bind fun t118 => (if t118 = true then (spec_l03Ok.j0 k l0 (((rd_T80 l0 0).f1) == ((rd_T80 l0 0).f2))) else (spec_l03Ok.j0 k l0 true))) = some r := by rw [if_pos rfl] at H; exact H
     clear H
     have H := H1
     clear H1
     replace H := Option.bind_eq_some_iff.mp H
     obtain ⟨t118, A80, H⟩ := H
     replace H : (if t118 = true then (spec_l03Ok.j0 k l0 (((rd_T80 l0 0).f1) == ((rd_T80 l0 0).f2))) else (spec_l03Ok.j0 k l0 true)) = some r := H
     have A8 := Aside0.mk A80
     clear A80
     by_cases c9 : t118 = true
     ·subst c9
      have H1 : (spec_l03Ok.j0 k l0 (((rd_T80 l0 0).f1) == ((rd_T80 l0 0).f2))) = some r := by rw [if_pos rfl] at H; exact H
      clear H
      have H := H1
      clear H1
      have H' := Aside0.mk H
      clear H
      try go_wp2
      have n0_ := Aside0.mk (below_drew1 HB.out)
      clear HB
      have HB := n0_
      clear n0_
      have p113 : 0 ≤ (0 : Int) := t12_
      have q113 : 0 < (l0.length : Int) := of_decide_eq_true t3_
      obtain ⟨ad113, e113, hx113_0, hx113_1, hx113_2, hx113_3, hx113_4, hx113_5⟩ := at_T80 HR0.out 0 p113 q113
      have hw113_5 := hx113_5
      (try rw [show ((0 : Int)).toNat = 0 from rfl] at hw113_5)
      (try rw [show 0 * 6 = 0 from rfl] at hw113_5)
      (try rw [Addr.add_zero'] at hw113_5)
      have hw113_4 := hx113_4
      (try rw [show ((0 : Int)).toNat = 0 from rfl] at hw113_4)
      (try rw [show 0 * 6 = 0 from rfl] at hw113_4)
      (try rw [Addr.add_zero'] at hw113_4)
      have hw113_3 := hx113_3
      (try rw [show ((0 : Int)).toNat = 0 from rfl] at hw113_3)
      (try rw [show 0 * 6 = 0 from rfl] at hw113_3)
      (try rw [Addr.add_zero'] at hw113_3)
      have hw113_2 := hx113_2
      (try rw [show ((0 : Int)).toNat = 0 from rfl] at hw113_2)
      (try rw [show 0 * 6 = 0 from rfl] at hw113_2)
      (try rw [Addr.add_zero'] at hw113_2)
      have hw113_1 := hx113_1
      (try rw [show ((0 : Int)).toNat = 0 from rfl] at hw113_1)
      (try rw [show 0 * 6 = 0 from rfl] at hw113_1)
      (try rw [Addr.add_zero'] at hw113_1)
      have hw113_0 := hx113_0
      (try rw [show ((0 : Int)).toNat = 0 from rfl] at hw113_0)
      (try rw [show 0 * 6 = 0 from rfl] at hw113_0)
      (try rw [Addr.add_zero'] at hw113_0)
      cases e113
      have qi113 : (0 < l0.length) = True := eq_true t12_
      (try rw [show ((0 : Int)).toNat = 0 from rfl] at hx113_0)
      (try rw [show 0 * 6 = 0 from rfl] at hx113_0)
      (try rw [Addr.add_zero'] at hx113_0)
      (try rw [show ((0 : Int)).toNat = 0 from rfl] at hx113_1)
      (try rw [show 0 * 6 = 0 from rfl] at hx113_1)
      (try rw [Addr.add_zero'] at hx113_1)
      (try rw [show ((0 : Int)).toNat = 0 from rfl] at hx113_2)
      (try rw [show 0 * 6 = 0 from rfl] at hx113_2)
      (try rw [Addr.add_zero'] at hx113_2)
      (try rw [show ((0 : Int)).toNat = 0 from rfl] at hx113_3)
      (try rw [show 0 * 6 = 0 from rfl] at hx113_3)
      (try rw [Addr.add_zero'] at hx113_3)
      (try rw [show ((0 : Int)).toNat = 0 from rfl] at hx113_4)
      (try rw [show 0 * 6 = 0 from rfl] at hx113_4)
      (try rw [Addr.add_zero'] at hx113_4)
      (try rw [show ((0 : Int)).toNat = 0 from rfl] at hx113_5)
      (try rw [show 0 * 6 = 0 from rfl] at hx113_5)
      (try rw [Addr.add_zero'] at hx113_5)
      replace hx113_0 := (HB.out.cell (World.block_lt_of_cell? w _ hx113_0)).trans hx113_0
      replace hx113_1 := (HB.out.cell (World.block_lt_of_cell? w _ hx113_1)).trans hx113_1
      replace hx113_2 := (HB.out.cell (World.block_lt_of_cell? w _ hx113_2)).trans hx113_2
      replace hx113_3 := (HB.out.cell (World.block_lt_of_cell? w _ hx113_3)).trans hx113_3
      replace hx113_4 := (HB.out.cell (World.block_lt_of_cell? w _ hx113_4)).trans hx113_4
      replace hx113_5 := (HB.out.cell (World.block_lt_of_cell? w _ hx113_5)).trans hx113_5
      replace p113 := eq_true p113
      replace q113 := eq_true q113
      have p115 : 0 ≤ (0 : Int) := t12_
      have q115 : 0 < (l0.length : Int) := of_decide_eq_true t3_
      obtain ⟨ad115, e115, hx115_0, hx115_1, hx115_2, hx115_3, hx115_4, hx115_5⟩ := at_T80 HR0.out 0 p115 q115
      have hw115_5 := hx115_5
      (try rw [show ((0 : Int)).toNat = 0 from rfl] at hw115_5)
      (try rw [show 0 * 6 = 0 from rfl] at hw115_5)
      (try rw [Addr.add_zero'] at hw115_5)
      have hw115_4 := hx115_4
      (try rw [show ((0 : Int)).toNat = 0 from rfl] at hw115_4)
      (try rw [show 0 * 6 = 0 from rfl] at hw115_4)
      (try rw [Addr.add_zero'] at hw115_4)
      have hw115_3 := hx115_3
      (try rw [show ((0 : Int)).toNat = 0 from rfl] at hw115_3)
      (try rw [show 0 * 6 = 0 from rfl] at hw115_3)
      (try rw [Addr.add_zero'] at hw115_3)
      have hw115_2 := hx115_2
      (try rw [show ((0 : Int)).toNat = 0 from rfl] at hw115_2)
      (try rw [show 0 * 6 = 0 from rfl] at hw115_2)
      (try rw [Addr.add_zero'] at hw115_2)
      have hw115_1 := hx115_1
      (try rw [show ((0 : Int)).toNat = 0 from rfl] at hw115_1)
      (try rw [show 0 * 6 = 0 from rfl] at hw115_1)
      (try rw [Addr.add_zero'] at hw115_1)
      have hw115_0 := hx115_0
      (try rw [show ((0 : Int)).toNat = 0 from rfl] at hw115_0)
      (try rw [show 0 * 6 = 0 from rfl] at hw115_0)
      (try rw [Addr.add_zero'] at hw115_0)
      obtain rfl : ad113 = ad115 := (by injection e115)
      have qi115 : (0 < l0.length) = True := eq_true t12_
      (try rw [show ((0 : Int)).toNat = 0 from rfl] at hx115_0)
      (try rw [show 0 * 6 = 0 from rfl] at hx115_0)
      (try rw [Addr.add_zero'] at hx115_0)
      (try rw [show ((0 : Int)).toNat = 0 from rfl] at hx115_1)
      (try rw [show 0 * 6 = 0 from rfl] at hx115_1)
      (try rw [Addr.add_zero'] at hx115_1)
      (try rw [show ((0 : Int)).toNat = 0 from rfl] at hx115_2)
      (try rw [show 0 * 6 = 0 from rfl] at hx115_2)
      (try rw [Addr.add_zero'] at hx115_2)
      (try rw [show ((0 : Int)).toNat = 0 from rfl] at hx115_3)
      (try rw [show 0 * 6 = 0 from rfl] at hx115_3)
      (try rw [Addr.add_zero'] at hx115_3)
      (try rw [show ((0 : Int)).toNat = 0 from rfl] at hx115_4)
      (try rw [show 0 * 6 = 0 from rfl] at hx115_4)
      (try rw [Addr.add_zero'] at hx115_4)
      (try rw [show ((0 : Int)).toNat = 0 from rfl] at hx115_5)
      (try rw [show 0 * 6 = 0 from rfl] at hx115_5)
      (try rw [Addr.add_zero'] at hx115_5)
      replace hx115_0 := (HB.out.cell (World.block_lt_of_cell? w _ hx115_0)).trans hx115_0
      replace hx115_1 := (HB.out.cell (World.block_lt_of_cell? w _ hx115_1)).trans hx115_1
      replace hx115_2 := (HB.out.cell (World.block_lt_of_cell? w _ hx115_2)).trans hx115_2
      replace hx115_3 := (HB.out.cell (World.block_lt_of_cell? w _ hx115_3)).trans hx115_3
      replace hx115_4 := (HB.out.cell (World.block_lt_of_cell? w _ hx115_4)).trans hx115_4
      replace hx115_5 := (HB.out.cell (World.block_lt_of_cell? w _ hx115_5)).trans hx115_5
      replace p115 := eq_true p115
      replace q115 := eq_true q115
      have p117 : 0 ≤ (0 : Int) := t12_
      have q117 : 0 < (l0.length : Int) := of_decide_eq_true t3_
      obtain ⟨ad117, e117, hx117_0, hx117_1, hx117_2, hx117_3, hx117_4, hx117_5⟩ := at_T80 HR0.out 0 p117 q117
      have hw117_5 := hx117_5
      (try rw [show ((0 : Int)).toNat = 0 from rfl] at hw117_5)
      (try rw [show 0 * 6 = 0 from rfl] at hw117_5)
      (try rw [Addr.add_zero'] at hw117_5)
      have hw117_4 := hx117_4
      (try rw [show ((0 : Int)).toNat = 0 from rfl] at hw117_4)
      (try rw [show 0 * 6 = 0 from rfl] at hw117_4)
      (try rw [Addr.add_zero'] at hw117_4)
      have hw117_3 := hx117_3
      (try rw [show ((0 : Int)).toNat = 0 from rfl] at hw117_3)
      (try rw [show 0 * 6 = 0 from rfl] at hw117_3)
      (try rw [Addr.add_zero'] at hw117_3)
      have hw117_2 := hx117_2
      (try rw [show ((0 : Int)).toNat = 0 from rfl] at hw117_2)
      (try rw [show 0 * 6 = 0 from rfl] at hw117_2)
      (try rw [Addr.add_zero'] at hw117_2)
      have hw117_1 := hx117_1
      (try rw [show ((0 : Int)).toNat = 0 from rfl] at hw117_1)
      (try rw [show 0 * 6 = 0 from rfl] at hw117_1)
      (try rw [Addr.add_zero'] at hw117_1)
      have hw117_0 := hx117_0
      (try rw [show ((0 : Int)).toNat = 0 from rfl] at hw117_0)
      (try rw [show 0 * 6 = 0 from rfl] at hw117_0)
      (try rw [Addr.add_zero'] at hw117_0)
      obtain rfl : ad113 = ad117 := (by injection e117)
      have qi117 : (0 < l0.length) = True := eq_true t12_
      (try rw [show ((0 : Int)).toNat = 0 from rfl] at hx117_0)
      (try rw [show 0 * 6 = 0 from rfl] at hx117_0)
      (try rw [Addr.add_zero'] at hx117_0)
      (try rw [show ((0 : Int)).toNat = 0 from rfl] at hx117_1)
      (try rw [show 0 * 6 = 0 from rfl] at hx117_1)
      (try rw [Addr.add_zero'] at hx117_1)
      (try rw [show ((0 : Int)).toNat = 0 from rfl] at hx117_2)
      (try rw [show 0 * 6 = 0 from rfl] at hx117_2)
      (try rw [Addr.add_zero'] at hx117_2)
      (try rw [show ((0 : Int)).toNat = 0 from rfl] at hx117_3)
      (try rw [show 0 * 6 = 0 from rfl] at hx117_3)
      (try rw [Addr.add_zero'] at hx117_3)
      (try rw [show ((0 : Int)).toNat = 0 from rfl] at hx117_4)
      (try rw [show 0 * 6 = 0 from rfl] at hx117_4)
      (try rw [Addr.add_zero'] at hx117_4)
      (try rw [show ((0 : Int)).toNat = 0 from rfl] at hx117_5)
      (try rw [show 0 * 6 = 0 from rfl] at hx117_5)
      (try rw [Addr.add_zero'] at hx117_5)
      replace hx117_0 := (HB.out.cell (World.block_lt_of_cell? w _ hx117_0)).trans hx117_0
      replace hx117_1 := (HB.out.cell (World.block_lt_of_cell? w _ hx117_1)).trans hx117_1
      replace hx117_2 := (HB.out.cell (World.block_lt_of_cell? w _ hx117_2)).trans hx117_2
      replace hx117_3 := (HB.out.cell (World.block_lt_of_cell? w _ hx117_3)).trans hx117_3
      replace hx117_4 := (HB.out.cell (World.block_lt_of_cell? w _ hx117_4)).trans hx117_4
      replace hx117_5 := (HB.out.cell (World.block_lt_of_cell? w _ hx117_5)).trans hx117_5
      replace p117 := eq_true p117
      replace q117 := eq_true q117
      have p119 : 0 ≤ (0 : Int) := t12_
      have q119 : 0 < (l0.length : Int) := of_decide_eq_true t3_
      obtain ⟨ad119, e119, hx119_0, hx119_1, hx119_2, hx119_3, hx119_4, hx119_5⟩ := at_T80 HR0.out 0 p119 q119
      have hw119_5 := hx119_5
      (try rw [show ((0 : Int)).toNat = 0 from rfl] at hw119_5)
      (try rw [show 0 * 6 = 0 from rfl] at hw119_5)
      (try rw [Addr.add_zero'] at hw119_5)
      have hw119_4 := hx119_4
      (try rw [show ((0 : Int)).toNat = 0 from rfl] at hw119_4)
      (try rw [show 0 * 6 = 0 from rfl] at hw119_4)
      (try rw [Addr.add_zero'] at hw119_4)
      have hw119_3 := hx119_3
      (try rw [show ((0 : Int)).toNat = 0 from rfl] at hw119_3)
      (try rw [show 0 * 6 = 0 from rfl] at hw119_3)
      (try rw [Addr.add_zero'] at hw119_3)
      have hw119_2 := hx119_2
      (try rw [show ((0 : Int)).toNat = 0 from rfl] at hw119_2)
      (try rw [show 0 * 6 = 0 from rfl] at hw119_2)
      (try rw [Addr.add_zero'] at hw119_2)
      have hw119_1 := hx119_1
      (try rw [show ((0 : Int)).toNat = 0 from rfl] at hw119_1)
      (try rw [show 0 * 6 = 0 from rfl] at hw119_1)
      (try rw [Addr.add_zero'] at hw119_1)
      have hw119_0 := hx119_0
      (try rw [show ((0 : Int)).toNat = 0 from rfl] at hw119_0)
      (try rw [show 0 * 6 = 0 from rfl] at hw119_0)
      (try rw [Addr.add_zero'] at hw119_0)
      obtain rfl : ad113 = ad119 := (by injection e119)
      have qi119 : (0 < l0.length) = True := eq_true t12_
      (try rw [show ((0 : Int)).toNat = 0 from rfl] at hx119_0)
      (try rw [show 0 * 6 = 0 from rfl] at hx119_0)
      (try rw [Addr.add_zero'] at hx119_0)
      (try rw [show ((0 : Int)).toNat = 0 from rfl] at hx119_1)
      (try rw [show 0 * 6 = 0 from rfl] at hx119_1)
      (try rw [Addr.add_zero'] at hx119_1)
      (try rw [show ((0 : Int)).toNat = 0 from rfl] at hx119_2)
      (try rw [show 0 * 6 = 0 from rfl] at hx119_2)
      (try rw [Addr.add_zero'] at hx119_2)
      (try rw [show ((0 : Int)).toNat = 0 from rfl] at hx119_3)
      (try rw [show 0 * 6 = 0 from rfl] at hx119_3)
      (try rw [Addr.add_zero'] at hx119_3)
      (try rw [show ((0 : Int)).toNat = 0 from rfl] at hx119_4)
      (try rw [show 0 * 6 = 0 from rfl] at hx119_4)
      (try rw [Addr.add_zero'] at hx119_4)
      (try rw [show ((0 : Int)).toNat = 0 from rfl] at hx119_5)
      (try rw [show 0 * 6 = 0 from rfl] at hx119_5)
      (try rw [Addr.add_zero'] at hx119_5)
      replace hx119_0 := (HB.out.cell (World.block_lt_of_cell? w _ hx119_0)).trans hx119_0
      replace hx119_1 := (HB.out.cell (World.block_lt_of_cell? w _ hx119_1)).trans hx119_1
      replace hx119_2 := (HB.out.cell (World.block_lt_of_cell? w _ hx119_2)).trans hx119_2
      replace hx119_3 := (HB.out.cell (World.block_lt_of_cell? w _ hx119_3)).trans hx119_3
      replace hx119_4 := (HB.out.cell (World.block_lt_of_cell? w _ hx119_4)).trans hx119_4
      replace hx119_5 := (HB.out.cell (World.block_lt_of_cell? w _ hx119_5)).trans hx119_5
      replace p119 := eq_true p119
      replace q119 := eq_true q119
      have p120 : 0 ≤ (0 : Int) := t12_
      have q120 : 0 < (l0.length : Int) := of_decide_eq_true t3_
      obtain ⟨ad120, e120, hx120_0, hx120_1, hx120_2, hx120_3, hx120_4, hx120_5⟩ := at_T80 HR0.out 0 p120 q120
      have hw120_5 := hx120_5
      (try rw [show ((0 : Int)).toNat = 0 from rfl] at hw120_5)
      (try rw [show 0 * 6 = 0 from rfl] at hw120_5)
      (try rw [Addr.add_zero'] at hw120_5)
      have hw120_4 := hx120_4
      (try rw [show ((0 : Int)).toNat = 0 from rfl] at hw120_4)
      (try rw [show 0 * 6 = 0 from rfl] at hw120_4)
      (try rw [Addr.add_zero'] at hw120_4)
      have hw120_3 := hx120_3
      (try rw [show ((0 : Int)).toNat = 0 from rfl] at hw120_3)
      (try rw [show 0 * 6 = 0 from rfl] at hw120_3)
      (try rw [Addr.add_zero'] at hw120_3)
      have hw120_2 := hx120_2
      (try rw [show ((0 : Int)).toNat = 0 from rfl] at hw120_2)
      (try rw [show 0 * 6 = 0 from rfl] at hw120_2)
      (try rw [Addr.add_zero'] at hw120_2)
      have hw120_1 := hx120_1
      (try rw [show ((0 : Int)).toNat = 0 from rfl] at hw120_1)
      (try rw [show 0 * 6 = 0 from rfl] at hw120_1)
      (try rw [Addr.add_zero'] at hw120_1)
      have hw120_0 := hx120_0
      (try rw [show ((0 : Int)).toNat = 0 from rfl] at hw120_0)
      (try rw [show 0 * 6 = 0 from rfl] at hw120_0)
      (try rw [Addr.add_zero'] at hw120_0)
      obtain rfl : ad113 = ad120 := (by injection e120)
      have qi120 : (0 < l0.length) = True := eq_true t12_
      (try rw [show ((0 : Int)).toNat = 0 from rfl] at hx120_0)
      (try rw [show 0 * 6 = 0 from rfl] at hx120_0)
      (try rw [Addr.add_zero'] at hx120_0)
      (try rw [show ((0 : Int)).toNat = 0 from rfl] at hx120_1)
      (try rw [show 0 * 6 = 0 from rfl] at hx120_1)
      (try rw [Addr.add_zero'] at hx120_1)
      (try rw [show ((0 : Int)).toNat = 0 from rfl] at hx120_2)
      (try rw [show 0 * 6 = 0 from rfl] at hx120_2)
      (try rw [Addr.add_zero'] at hx120_2)
      (try rw [show ((0 : Int)).toNat = 0 from rfl] at hx120_3)
      (try rw [show 0 * 6 = 0 from rfl] at hx120_3)
      (try rw [Addr.add_zero'] at hx120_3)
      (try rw [show ((0 : Int)).toNat = 0 from rfl] at hx120_4)
      (try rw [show 0 * 6 = 0 from rfl] at hx120_4)
      (try rw [Addr.add_zero'] at hx120_4)
      (try rw [show ((0 : Int)).toNat = 0 from rfl] at hx120_5)
      (try rw [show 0 * 6 = 0 from rfl] at hx120_5)
      (try rw [Addr.add_zero'] at hx120_5)
      replace hx120_0 := (HB.out.cell (World.block_lt_of_cell? w _ hx120_0)).trans hx120_0
      replace hx120_1 := (HB.out.cell (World.block_lt_of_cell? w _ hx120_1)).trans hx120_1
      replace hx120_2 := (HB.out.cell (World.block_lt_of_cell? w _ hx120_2)).trans hx120_2
      replace hx120_3 := (HB.out.cell (World.block_lt_of_cell? w _ hx120_3)).trans hx120_3
      replace hx120_4 := (HB.out.cell (World.block_lt_of_cell? w _ hx120_4)).trans hx120_4
      replace hx120_5 := (HB.out.cell (World.block_lt_of_cell? w _ hx120_5)).trans hx120_5
      replace p120 := eq_true p120
      replace q120 := eq_true q120
      refine start_ (n := 33) (S := fun w' => w'.cell? ad113 = some (.string ((rd_T80 l0 0).f0)) ∧ w'.cell? ⟨ad113.block, ad113.off + 1, none⟩ = some (.int .i64 ((rd_T80 l0 0).f1)) ∧ w'.cell? ⟨ad113.block, ad113.off + 2, none⟩ = some (.int .i64 ((rd_T80 l0 0).f2)) ∧ w'.cell? ⟨ad113.block, ad113.off + 3, none⟩ = some (.int .i64 ((rd_T80 l0 0).f3)) ∧ w'.cell? ⟨ad113.block, ad113.off + 4, none⟩ = some (.int .i64 ((rd_T80 l0 0).f4)) ∧ w'.cell? ⟨ad113.block, ad113.off + 5, none⟩ = some (.int .i64 ((rd_T80 l0 0).f5)) ∧ w'.cell? ad113 = some (.string ((rd_T80 l0 0).f0)) ∧ w'.cell? ⟨ad113.block, ad113.off + 1, none⟩ = some (.int .i64 ((rd_T80 l0 0).f1)) ∧ w'.cell? ⟨ad113.block, ad113.off + 2, none⟩ = some (.int .i64 ((rd_T80 l0 0).f2)) ∧ w'.cell? ⟨ad113.block, ad113.off + 3, none⟩ = some (.int .i64 ((rd_T80 l0 0).f3)) ∧ w'.cell? ⟨ad113.block, ad113.off + 4, none⟩ = some (.int .i64 ((rd_T80 l0 0).f4)) ∧ w'.cell? ⟨ad113.block, ad113.off + 5, none⟩ = some (.int .i64 ((rd_T80 l0 0).f5)) ∧ w'.cell? ad113 = some (.string ((rd_T80 l0 0).f0)) ∧ w'.cell? ⟨ad113.block, ad113.off + 1, none⟩ = some (.int .i64 ((rd_T80 l0 0).f1)) ∧ w'.cell? ⟨ad113.block, ad113.off + 2, none⟩ = some (.int .i64 ((rd_T80 l0 0).f2)) ∧ w'.cell? ⟨ad113.block, ad113.off + 3, none⟩ = some (.int .i64 ((rd_T80 l0 0).f3)) ∧ w'.cell? ⟨ad113.block, ad113.off + 4, none⟩ = some (.int .i64 ((rd_T80 l0 0).f4)) ∧ w'.cell? ⟨ad113.block, ad113.off + 5, none⟩ = some (.int .i64 ((rd_T80 l0 0).f5)) ∧ w'.cell? ad113 = some (.string ((rd_T80 l0 0).f0)) ∧ w'.cell? ⟨ad113.block, ad113.off + 1, none⟩ = some (.int .i64 ((rd_T80 l0 0).f1)) ∧ w'.cell? ⟨ad113.block, ad113.off + 2, none⟩ = some (.int .i64 ((rd_T80 l0 0).f2)) ∧ w'.cell? ⟨ad113.block, ad113.off + 3, none⟩ = some (.int .i64 ((rd_T80 l0 0).f3)) ∧ w'.cell? ⟨ad113.block, ad113.off + 4, none⟩ = some (.int .i64 ((rd_T80 l0 0).f4)) ∧ w'.cell? ⟨ad113.block, ad113.off + 5, none⟩ = some (.int .i64 ((rd_T80 l0 0).f5)) ∧ w'.cell? ad113 = some (.string ((rd_T80 l0 0).f0)) ∧ w'.cell? ⟨ad113.block, ad113.off + 1, none⟩ = some (.int .i64 ((rd_T80 l0 0).f1)) ∧ w'.cell? ⟨ad113.block, ad113.off + 2, none⟩ = some (.int .i64 ((rd_T80 l0 0).f2)) ∧ w'.cell? ⟨ad113.block, ad113.off + 3, none⟩ = some (.int .i64 ((rd_T80 l0 0).f3)) ∧ w'.cell? ⟨ad113.block, ad113.off + 4, none⟩ = some (.int .i64 ((rd_T80 l0 0).f4)) ∧ w'.cell? ⟨ad113.block, ad113.off + 5, none⟩ = some (.int .i64 ((rd_T80 l0 0).f5))) (ds := []) (tf 0 33) t8_ rfl rfl ⟨((HB.out.cell (World.block_lt_of_cell? w _ hw113_0)).trans hw113_0), ((HB.out.cell (World.block_lt_of_cell? w _ hw113_1)).trans hw113_1), ((HB.out.cell (World.block_lt_of_cell? w _ hw113_2)).trans hw113_2), ((HB.out.cell (World.block_lt_of_cell? w _ hw113_3)).trans hw113_3), ((HB.out.cell (World.block_lt_of_cell? w _ hw113_4)).trans hw113_4), ((HB.out.cell (World.block_lt_of_cell? w _ hw113_5)).trans hw113_5), ((HB.out.cell (World.block_lt_of_cell? w _ hw115_0)).trans hw115_0), ((HB.out.cell (World.block_lt_of_cell? w _ hw115_1)).trans hw115_1), ((HB.out.cell (World.block_lt_of_cell? w _ hw115_2)).trans hw115_2), ((HB.out.cell (World.block_lt_of_cell? w _ hw115_3)).trans hw115_3), ((HB.out.cell (World.block_lt_of_cell? w _ hw115_4)).trans hw115_4), ((HB.out.cell (World.block_lt_of_cell? w _ hw115_5)).trans hw115_5), ((HB.out.cell (World.block_lt_of_cell? w _ hw117_0)).trans hw117_0), ((HB.out.cell (World.block_lt_of_cell? w _ hw117_1)).trans hw117_1), ((HB.out.cell (World.block_lt_of_cell? w _ hw117_2)).trans hw117_2), ((HB.out.cell (World.block_lt_of_cell? w _ hw117_3)).trans hw117_3), ((HB.out.cell (World.block_lt_of_cell? w _ hw117_4)).trans hw117_4), ((HB.out.cell (World.block_lt_of_cell? w _ hw117_5)).trans hw117_5), ((HB.out.cell (World.block_lt_of_cell? w _ hw119_0)).trans hw119_0), ((HB.out.cell (World.block_lt_of_cell? w _ hw119_1)).trans hw119_1), ((HB.out.cell (World.block_lt_of_cell? w _ hw119_2)).trans hw119_2), ((HB.out.cell (World.block_lt_of_cell? w _ hw119_3)).trans hw119_3), ((HB.out.cell (World.block_lt_of_cell? w _ hw119_4)).trans hw119_4), ((HB.out.cell (World.block_lt_of_cell? w _ hw119_5)).trans hw119_5), ((HB.out.cell (World.block_lt_of_cell? w _ hw120_0)).trans hw120_0), ((HB.out.cell (World.block_lt_of_cell? w _ hw120_1)).trans hw120_1), ((HB.out.cell (World.block_lt_of_cell? w _ hw120_2)).trans hw120_2), ((HB.out.cell (World.block_lt_of_cell? w _ hw120_3)).trans hw120_3), ((HB.out.cell (World.block_lt_of_cell? w _ hw120_4)).trans hw120_4), ((HB.out.cell (World.block_lt_of_cell? w _ hw120_5)).trans hw120_5)⟩ (fun hHeld => ?_); refine with_tabW spec_l03Ok.tab1 spec_l03Ok.bits1 (fun HT_ HW_ => ?_)
      generalize w.drew = w10 at HB hx113_0 hx113_1 hx113_2 hx113_3 hx113_4 hx113_5 hx115_0 hx115_1 hx115_2 hx115_3 hx115_4 hx115_5 hx117_0 hx117_1 hx117_2 hx117_3 hx117_4 hx117_5 hx119_0 hx119_1 hx119_2 hx119_3 hx119_4 hx119_5 hx120_0 hx120_1 hx120_2 hx120_3 hx120_4 hx120_5 hHeld ⊢
      refine px 0 (some 3) (tf 1 33) HT_ ?_
      refine px 1 (some 4) (tf 2 33) HT_ ?_
      refine px 2 (some 5) (tf 3 33) HT_ ?_
      refine tx (v := ?_) 3 (some 6) (tf 4 33) HT_ HW_ hHeld ?_ ?_
      rotate_left; (· rintro w' ⟨s0, s1, s2, s3, s4, s5, s6, s7, s8, s9, s10, s11, s12, s13, s14, s15, s16, s17, s18, s19, s20, s21, s22, s23, s24, s25, s26, s27, s28, s29⟩; go_simp; with_reducible rfl)
      refine one_ (i := 4) (N := some 7) (tf 5 33) rfl rfl (one_of HT_.out t8_) t20_ (fun K hK => ?_)
      refine goes_ Try.func77 t8_ rfl #[.string ((rd_T80 l0 0).f0)] t37_ rfl rfl t2_ ?_
      with_reducible refine (spec_l01Name.calls k ((rd_T80 l0 0).f0) true _ A4.out).mono ?_
      rintro e w' ⟨rfl, ⟨nd, rfl⟩⟩
      refine ⟨_, rfl, ?_⟩
      refine hK.out _ _ ⟨((HB.out.cell (World.block_lt_of_cell? w _ hw113_0)).trans hw113_0), ((HB.out.cell (World.block_lt_of_cell? w _ hw113_1)).trans hw113_1), ((HB.out.cell (World.block_lt_of_cell? w _ hw113_2)).trans hw113_2), ((HB.out.cell (World.block_lt_of_cell? w _ hw113_3)).trans hw113_3), ((HB.out.cell (World.block_lt_of_cell? w _ hw113_4)).trans hw113_4), ((HB.out.cell (World.block_lt_of_cell? w _ hw113_5)).trans hw113_5), ((HB.out.cell (World.block_lt_of_cell? w _ hw115_0)).trans hw115_0), ((HB.out.cell (World.block_lt_of_cell? w _ hw115_1)).trans hw115_1), ((HB.out.cell (World.block_lt_of_cell? w _ hw115_2)).trans hw115_2), ((HB.out.cell (World.block_lt_of_cell? w _ hw115_3)).trans hw115_3), ((HB.out.cell (World.block_lt_of_cell? w _ hw115_4)).trans hw115_4), ((HB.out.cell (World.block_lt_of_cell? w _ hw115_5)).trans hw115_5), ((HB.out.cell (World.block_lt_of_cell? w _ hw117_0)).trans hw117_0), ((HB.out.cell (World.block_lt_of_cell? w _ hw117_1)).trans hw117_1), ((HB.out.cell (World.block_lt_of_cell? w _ hw117_2)).trans hw117_2), ((HB.out.cell (World.block_lt_of_cell? w _ hw117_3)).trans hw117_3), ((HB.out.cell (World.block_lt_of_cell? w _ hw117_4)).trans hw117_4), ((HB.out.cell (World.block_lt_of_cell? w _ hw117_5)).trans hw117_5), ((HB.out.cell (World.block_lt_of_cell? w _ hw119_0)).trans hw119_0), ((HB.out.cell (World.block_lt_of_cell? w _ hw119_1)).trans hw119_1), ((HB.out.cell (World.block_lt_of_cell? w _ hw119_2)).trans hw119_2), ((HB.out.cell (World.block_lt_of_cell? w _ hw119_3)).trans hw119_3), ((HB.out.cell (World.block_lt_of_cell? w _ hw119_4)).trans hw119_4), ((HB.out.cell (World.block_lt_of_cell? w _ hw119_5)).trans hw119_5), ((HB.out.cell (World.block_lt_of_cell? w _ hw120_0)).trans hw120_0), ((HB.out.cell (World.block_lt_of_cell? w _ hw120_1)).trans hw120_1), ((HB.out.cell (World.block_lt_of_cell? w _ hw120_2)).trans hw120_2), ((HB.out.cell (World.block_lt_of_cell? w _ hw120_3)).trans hw120_3), ((HB.out.cell (World.block_lt_of_cell? w _ hw120_4)).trans hw120_4), ((HB.out.cell (World.block_lt_of_cell? w _ hw120_5)).trans hw120_5)⟩ (fun hHeld => ?_)
      clear hK K
      refine norm_ (a' := ?_) ?_ ?_
      rotate_left
      ·show Act.put _ (some 7) _ = _
       simp only [Act.put, List.setIfInBounds_toArray, List.set_cons_zero, List.set_cons_succ, i64_w, i32_w]
       rfl
      refine px 5 (some 8) (tf 6 33) HT_ ?_
      refine px 6 (some 9) (tf 7 33) HT_ ?_
      refine px 7 (some 10) (tf 8 33) HT_ ?_
      refine px 8 (some 11) (tf 9 33) HT_ ?_
      refine px 9 (some 12) (tf 10 33) HT_ ?_
      refine tx (v := ?_) 10 (some 13) (tf 11 33) HT_ HW_ hHeld ?_ ?_
      rotate_left; (· rintro w' ⟨s0, s1, s2, s3, s4, s5, s6, s7, s8, s9, s10, s11, s12, s13, s14, s15, s16, s17, s18, s19, s20, s21, s22, s23, s24, s25, s26, s27, s28, s29⟩; go_simp; with_reducible rfl)
      refine one_ (i := 11) (N := some 14) (tf 12 33) rfl rfl (one_of HT_.out t8_) t20_ (fun K hK => ?_)
      refine goes_ Try.func64 t8_ rfl #[.int .i64 ((rd_T80 l0 0).f1), .int .i64 0, .int .i64 15] t37_ rfl rfl t2_ ?_
      with_reducible refine (spec_l00In.calls ((rd_T80 l0 0).f1) 0 15 true _ A6.out).mono ?_
      rintro e w' ⟨rfl, ⟨nd, rfl⟩⟩
      refine ⟨_, rfl, ?_⟩
      refine hK.out _ _ ⟨((HB.out.cell (World.block_lt_of_cell? w _ hw113_0)).trans hw113_0), ((HB.out.cell (World.block_lt_of_cell? w _ hw113_1)).trans hw113_1), ((HB.out.cell (World.block_lt_of_cell? w _ hw113_2)).trans hw113_2), ((HB.out.cell (World.block_lt_of_cell? w _ hw113_3)).trans hw113_3), ((HB.out.cell (World.block_lt_of_cell? w _ hw113_4)).trans hw113_4), ((HB.out.cell (World.block_lt_of_cell? w _ hw113_5)).trans hw113_5), ((HB.out.cell (World.block_lt_of_cell? w _ hw115_0)).trans hw115_0), ((HB.out.cell (World.block_lt_of_cell? w _ hw115_1)).trans hw115_1), ((HB.out.cell (World.block_lt_of_cell? w _ hw115_2)).trans hw115_2), ((HB.out.cell (World.block_lt_of_cell? w _ hw115_3)).trans hw115_3), ((HB.out.cell (World.block_lt_of_cell? w _ hw115_4)).trans hw115_4), ((HB.out.cell (World.block_lt_of_cell? w _ hw115_5)).trans hw115_5), ((HB.out.cell (World.block_lt_of_cell? w _ hw117_0)).trans hw117_0), ((HB.out.cell (World.block_lt_of_cell? w _ hw117_1)).trans hw117_1), ((HB.out.cell (World.block_lt_of_cell? w _ hw117_2)).trans hw117_2), ((HB.out.cell (World.block_lt_of_cell? w _ hw117_3)).trans hw117_3), ((HB.out.cell (World.block_lt_of_cell? w _ hw117_4)).trans hw117_4), ((HB.out.cell (World.block_lt_of_cell? w _ hw117_5)).trans hw117_5), ((HB.out.cell (World.block_lt_of_cell? w _ hw119_0)).trans hw119_0), ((HB.out.cell (World.block_lt_of_cell? w _ hw119_1)).trans hw119_1), ((HB.out.cell (World.block_lt_of_cell? w _ hw119_2)).trans hw119_2), ((HB.out.cell (World.block_lt_of_cell? w _ hw119_3)).trans hw119_3), ((HB.out.cell (World.block_lt_of_cell? w _ hw119_4)).trans hw119_4), ((HB.out.cell (World.block_lt_of_cell? w _ hw119_5)).trans hw119_5), ((HB.out.cell (World.block_lt_of_cell? w _ hw120_0)).trans hw120_0), ((HB.out.cell (World.block_lt_of_cell? w _ hw120_1)).trans hw120_1), ((HB.out.cell (World.block_lt_of_cell? w _ hw120_2)).trans hw120_2), ((HB.out.cell (World.block_lt_of_cell? w _ hw120_3)).trans hw120_3), ((HB.out.cell (World.block_lt_of_cell? w _ hw120_4)).trans hw120_4), ((HB.out.cell (World.block_lt_of_cell? w _ hw120_5)).trans hw120_5)⟩ (fun hHeld => ?_)
      clear hK K
      refine norm_ (a' := ?_) ?_ ?_
      rotate_left
      ·show Act.put _ (some 14) _ = _
       simp only [Act.put, List.setIfInBounds_toArray, List.set_cons_zero, List.set_cons_succ, i64_w, i32_w]
       rfl
      refine px 12 (some 15) (tf 13 33) HT_ ?_
      refine px 13 (some 16) (tf 14 33) HT_ ?_
      refine px 14 (some 17) (tf 15 33) HT_ ?_
      refine px 15 (some 18) (tf 16 33) HT_ ?_
      refine px 16 (some 19) (tf 17 33) HT_ ?_
      refine px 17 (some 20) (tf 18 33) HT_ ?_
      refine tx (v := ?_) 18 (some 21) (tf 19 33) HT_ HW_ hHeld ?_ ?_
      rotate_left; (· rintro w' ⟨s0, s1, s2, s3, s4, s5, s6, s7, s8, s9, s10, s11, s12, s13, s14, s15, s16, s17, s18, s19, s20, s21, s22, s23, s24, s25, s26, s27, s28, s29⟩; go_simp; with_reducible rfl)
      refine one_ (i := 19) (N := some 22) (tf 20 33) rfl rfl (one_of HT_.out t8_) t20_ (fun K hK => ?_)
      refine goes_ Try.func64 t8_ rfl #[.int .i64 ((rd_T80 l0 0).f2), .int .i64 0, .int .i64 15] t37_ rfl rfl t2_ ?_
      with_reducible refine (spec_l00In.calls ((rd_T80 l0 0).f2) 0 15 true _ A8.out).mono ?_
      rintro e w' ⟨rfl, ⟨nd, rfl⟩⟩
      refine ⟨_, rfl, ?_⟩
      refine hK.out _ _ ⟨((HB.out.cell (World.block_lt_of_cell? w _ hw113_0)).trans hw113_0), ((HB.out.cell (World.block_lt_of_cell? w _ hw113_1)).trans hw113_1), ((HB.out.cell (World.block_lt_of_cell? w _ hw113_2)).trans hw113_2), ((HB.out.cell (World.block_lt_of_cell? w _ hw113_3)).trans hw113_3), ((HB.out.cell (World.block_lt_of_cell? w _ hw113_4)).trans hw113_4), ((HB.out.cell (World.block_lt_of_cell? w _ hw113_5)).trans hw113_5), ((HB.out.cell (World.block_lt_of_cell? w _ hw115_0)).trans hw115_0), ((HB.out.cell (World.block_lt_of_cell? w _ hw115_1)).trans hw115_1), ((HB.out.cell (World.block_lt_of_cell? w _ hw115_2)).trans hw115_2), ((HB.out.cell (World.block_lt_of_cell? w _ hw115_3)).trans hw115_3), ((HB.out.cell (World.block_lt_of_cell? w _ hw115_4)).trans hw115_4), ((HB.out.cell (World.block_lt_of_cell? w _ hw115_5)).trans hw115_5), ((HB.out.cell (World.block_lt_of_cell? w _ hw117_0)).trans hw117_0), ((HB.out.cell (World.block_lt_of_cell? w _ hw117_1)).trans hw117_1), ((HB.out.cell (World.block_lt_of_cell? w _ hw117_2)).trans hw117_2), ((HB.out.cell (World.block_lt_of_cell? w _ hw117_3)).trans hw117_3), ((HB.out.cell (World.block_lt_of_cell? w _ hw117_4)).trans hw117_4), ((HB.out.cell (World.block_lt_of_cell? w _ hw117_5)).trans hw117_5), ((HB.out.cell (World.block_lt_of_cell? w _ hw119_0)).trans hw119_0), ((HB.out.cell (World.block_lt_of_cell? w _ hw119_1)).trans hw119_1), ((HB.out.cell (World.block_lt_of_cell? w _ hw119_2)).trans hw119_2), ((HB.out.cell (World.block_lt_of_cell? w _ hw119_3)).trans hw119_3), ((HB.out.cell (World.block_lt_of_cell? w _ hw119_4)).trans hw119_4), ((HB.out.cell (World.block_lt_of_cell? w _ hw119_5)).trans hw119_5), ((HB.out.cell (World.block_lt_of_cell? w _ hw120_0)).trans hw120_0), ((HB.out.cell (World.block_lt_of_cell? w _ hw120_1)).trans hw120_1), ((HB.out.cell (World.block_lt_of_cell? w _ hw120_2)).trans hw120_2), ((HB.out.cell (World.block_lt_of_cell? w _ hw120_3)).trans hw120_3), ((HB.out.cell (World.block_lt_of_cell? w _ hw120_4)).trans hw120_4), ((HB.out.cell (World.block_lt_of_cell? w _ hw120_5)).trans hw120_5)⟩ (fun hHeld => ?_)
      clear hK K
      refine norm_ (a' := ?_) ?_ ?_
      rotate_left
      ·show Act.put _ (some 22) _ = _
       simp only [Act.put, List.setIfInBounds_toArray, List.set_cons_zero, List.set_cons_succ, i64_w, i32_w]
       rfl
      refine px 20 (some 23) (tf 21 33) HT_ ?_
      refine px 21 (some 24) (tf 22 33) HT_ ?_
      refine px 22 (some 25) (tf 23 33) HT_ ?_
      refine px 23 (some 26) (tf 24 33) HT_ ?_
      refine px 24 (some 27) (tf 25 33) HT_ ?_
      refine px 25 (some 28) (tf 26 33) HT_ ?_
      refine px 27 (some 30) (tb 33 201326591) HT_ ?_
      refine px 28 (some 31) (tb 33 469762047) HT_ ?_
      refine px 29 (some 32) (tb 33 1006632959) HT_ ?_
      refine tx (v := ?_) 26 (some 29) (tf 30 33) HT_ HW_ hHeld ?_ ?_
      rotate_left; (· rintro w' ⟨s0, s1, s2, s3, s4, s5, s6, s7, s8, s9, s10, s11, s12, s13, s14, s15, s16, s17, s18, s19, s20, s21, s22, s23, s24, s25, s26, s27, s28, s29⟩; go_simp; with_reducible rfl)
      refine tx (v := ?_) 30 (some 33) (tf 31 33) HT_ HW_ hHeld ?_ ?_
      rotate_left; (· rintro w' ⟨s0, s1, s2, s3, s4, s5, s6, s7, s8, s9, s10, s11, s12, s13, s14, s15, s16, s17, s18, s19, s20, s21, s22, s23, s24, s25, s26, s27, s28, s29⟩; go_simp; with_reducible rfl)
      refine px 31 (some 34) (tf 32 33) HT_ ?_
      refine px 32 (some 35) (tf 33 33) HT_ ?_
      refine done_ (done_of HT_.out t8_) ?_
      try go_wp2
      go_meet
      case rel => exact ⟨_, ((((rd_T80 l0 0).f1) == ((rd_T80 l0 0).f2))), t6_, H', ⟨by first | omega | exact Nat.le_refl _⟩, ⟨by repeat (first | (with_reducible first | exact HB.out | apply below_alloc | apply pw_below_drewN | apply below_drew1) | exact HB.out)⟩⟩
     ·replace c9 := Bool.eq_false_iff.mpr c9
      subst c9
      have H1 : (spec_l03Ok.j0 k l0 true) = some r := by rw [if_neg (show ¬ (false = true) by decide)] at H; exact H
      clear H
      have H := H1
      clear H1
      have H' := Aside0.mk H
      clear H
      try go_wp2
      have n0_ := Aside0.mk (below_drew1 HB.out)
      clear HB
      have HB := n0_
      clear n0_
      have p113 : 0 ≤ (0 : Int) := t12_
      have q113 : 0 < (l0.length : Int) := of_decide_eq_true t3_
      obtain ⟨ad113, e113, hx113_0, hx113_1, hx113_2, hx113_3, hx113_4, hx113_5⟩ := at_T80 HR0.out 0 p113 q113
      have hw113_5 := hx113_5
      (try rw [show ((0 : Int)).toNat = 0 from rfl] at hw113_5)
      (try rw [show 0 * 6 = 0 from rfl] at hw113_5)
      (try rw [Addr.add_zero'] at hw113_5)
      have hw113_4 := hx113_4
      (try rw [show ((0 : Int)).toNat = 0 from rfl] at hw113_4)
      (try rw [show 0 * 6 = 0 from rfl] at hw113_4)
      (try rw [Addr.add_zero'] at hw113_4)
      have hw113_3 := hx113_3
      (try rw [show ((0 : Int)).toNat = 0 from rfl] at hw113_3)
      (try rw [show 0 * 6 = 0 from rfl] at hw113_3)
      (try rw [Addr.add_zero'] at hw113_3)
      have hw113_2 := hx113_2
      (try rw [show ((0 : Int)).toNat = 0 from rfl] at hw113_2)
      (try rw [show 0 * 6 = 0 from rfl] at hw113_2)
      (try rw [Addr.add_zero'] at hw113_2)
      have hw113_1 := hx113_1
      (try rw [show ((0 : Int)).toNat = 0 from rfl] at hw113_1)
      (try rw [show 0 * 6 = 0 from rfl] at hw113_1)
      (try rw [Addr.add_zero'] at hw113_1)
      have hw113_0 := hx113_0
      (try rw [show ((0 : Int)).toNat = 0 from rfl] at hw113_0)
      (try rw [show 0 * 6 = 0 from rfl] at hw113_0)
      (try rw [Addr.add_zero'] at hw113_0)
      cases e113
      have qi113 : (0 < l0.length) = True := eq_true t12_
      (try rw [show ((0 : Int)).toNat = 0 from rfl] at hx113_0)
      (try rw [show 0 * 6 = 0 from rfl] at hx113_0)
      (try rw [Addr.add_zero'] at hx113_0)
      (try rw [show ((0 : Int)).toNat = 0 from rfl] at hx113_1)
      (try rw [show 0 * 6 = 0 from rfl] at hx113_1)
      (try rw [Addr.add_zero'] at hx113_1)
      (try rw [show ((0 : Int)).toNat = 0 from rfl] at hx113_2)
      (try rw [show 0 * 6 = 0 from rfl] at hx113_2)
      (try rw [Addr.add_zero'] at hx113_2)
      (try rw [show ((0 : Int)).toNat = 0 from rfl] at hx113_3)
      (try rw [show 0 * 6 = 0 from rfl] at hx113_3)
      (try rw [Addr.add_zero'] at hx113_3)
      (try rw [show ((0 : Int)).toNat = 0 from rfl] at hx113_4)
      (try rw [show 0 * 6 = 0 from rfl] at hx113_4)
      (try rw [Addr.add_zero'] at hx113_4)
      (try rw [show ((0 : Int)).toNat = 0 from rfl] at hx113_5)
      (try rw [show 0 * 6 = 0 from rfl] at hx113_5)
      (try rw [Addr.add_zero'] at hx113_5)
      replace hx113_0 := (HB.out.cell (World.block_lt_of_cell? w _ hx113_0)).trans hx113_0
      replace hx113_1 := (HB.out.cell (World.block_lt_of_cell? w _ hx113_1)).trans hx113_1
      replace hx113_2 := (HB.out.cell (World.block_lt_of_cell? w _ hx113_2)).trans hx113_2
      replace hx113_3 := (HB.out.cell (World.block_lt_of_cell? w _ hx113_3)).trans hx113_3
      replace hx113_4 := (HB.out.cell (World.block_lt_of_cell? w _ hx113_4)).trans hx113_4
      replace hx113_5 := (HB.out.cell (World.block_lt_of_cell? w _ hx113_5)).trans hx113_5
      replace p113 := eq_true p113
      replace q113 := eq_true q113
      have p115 : 0 ≤ (0 : Int) := t12_
      have q115 : 0 < (l0.length : Int) := of_decide_eq_true t3_
      obtain ⟨ad115, e115, hx115_0, hx115_1, hx115_2, hx115_3, hx115_4, hx115_5⟩ := at_T80 HR0.out 0 p115 q115
      have hw115_5 := hx115_5
      (try rw [show ((0 : Int)).toNat = 0 from rfl] at hw115_5)
      (try rw [show 0 * 6 = 0 from rfl] at hw115_5)
      (try rw [Addr.add_zero'] at hw115_5)
      have hw115_4 := hx115_4
      (try rw [show ((0 : Int)).toNat = 0 from rfl] at hw115_4)
      (try rw [show 0 * 6 = 0 from rfl] at hw115_4)
      (try rw [Addr.add_zero'] at hw115_4)
      have hw115_3 := hx115_3
      (try rw [show ((0 : Int)).toNat = 0 from rfl] at hw115_3)
      (try rw [show 0 * 6 = 0 from rfl] at hw115_3)
      (try rw [Addr.add_zero'] at hw115_3)
      have hw115_2 := hx115_2
      (try rw [show ((0 : Int)).toNat = 0 from rfl] at hw115_2)
      (try rw [show 0 * 6 = 0 from rfl] at hw115_2)
      (try rw [Addr.add_zero'] at hw115_2)
      have hw115_1 := hx115_1
      (try rw [show ((0 : Int)).toNat = 0 from rfl] at hw115_1)
      (try rw [show 0 * 6 = 0 from rfl] at hw115_1)
      (try rw [Addr.add_zero'] at hw115_1)
      have hw115_0 := hx115_0
      (try rw [show ((0 : Int)).toNat = 0 from rfl] at hw115_0)
      (try rw [show 0 * 6 = 0 from rfl] at hw115_0)
      (try rw [Addr.add_zero'] at hw115_0)
      obtain rfl : ad113 = ad115 := (by injection e115)
      have qi115 : (0 < l0.length) = True := eq_true t12_
      (try rw [show ((0 : Int)).toNat = 0 from rfl] at hx115_0)
      (try rw [show 0 * 6 = 0 from rfl] at hx115_0)
      (try rw [Addr.add_zero'] at hx115_0)
      (try rw [show ((0 : Int)).toNat = 0 from rfl] at hx115_1)
      (try rw [show 0 * 6 = 0 from rfl] at hx115_1)
      (try rw [Addr.add_zero'] at hx115_1)
      (try rw [show ((0 : Int)).toNat = 0 from rfl] at hx115_2)
      (try rw [show 0 * 6 = 0 from rfl] at hx115_2)
      (try rw [Addr.add_zero'] at hx115_2)
      (try rw [show ((0 : Int)).toNat = 0 from rfl] at hx115_3)
      (try rw [show 0 * 6 = 0 from rfl] at hx115_3)
      (try rw [Addr.add_zero'] at hx115_3)
      (try rw [show ((0 : Int)).toNat = 0 from rfl] at hx115_4)
      (try rw [show 0 * 6 = 0 from rfl] at hx115_4)
      (try rw [Addr.add_zero'] at hx115_4)
      (try rw [show ((0 : Int)).toNat = 0 from rfl] at hx115_5)
      (try rw [show 0 * 6 = 0 from rfl] at hx115_5)
      (try rw [Addr.add_zero'] at hx115_5)
      replace hx115_0 := (HB.out.cell (World.block_lt_of_cell? w _ hx115_0)).trans hx115_0
      replace hx115_1 := (HB.out.cell (World.block_lt_of_cell? w _ hx115_1)).trans hx115_1
      replace hx115_2 := (HB.out.cell (World.block_lt_of_cell? w _ hx115_2)).trans hx115_2
      replace hx115_3 := (HB.out.cell (World.block_lt_of_cell? w _ hx115_3)).trans hx115_3
      replace hx115_4 := (HB.out.cell (World.block_lt_of_cell? w _ hx115_4)).trans hx115_4
      replace hx115_5 := (HB.out.cell (World.block_lt_of_cell? w _ hx115_5)).trans hx115_5
      replace p115 := eq_true p115
      replace q115 := eq_true q115
      have p117 : 0 ≤ (0 : Int) := t12_
      have q117 : 0 < (l0.length : Int) := of_decide_eq_true t3_
      obtain ⟨ad117, e117, hx117_0, hx117_1, hx117_2, hx117_3, hx117_4, hx117_5⟩ := at_T80 HR0.out 0 p117 q117
      have hw117_5 := hx117_5
      (try rw [show ((0 : Int)).toNat = 0 from rfl] at hw117_5)
      (try rw [show 0 * 6 = 0 from rfl] at hw117_5)
      (try rw [Addr.add_zero'] at hw117_5)
      have hw117_4 := hx117_4
      (try rw [show ((0 : Int)).toNat = 0 from rfl] at hw117_4)
      (try rw [show 0 * 6 = 0 from rfl] at hw117_4)
      (try rw [Addr.add_zero'] at hw117_4)
      have hw117_3 := hx117_3
      (try rw [show ((0 : Int)).toNat = 0 from rfl] at hw117_3)
      (try rw [show 0 * 6 = 0 from rfl] at hw117_3)
      (try rw [Addr.add_zero'] at hw117_3)
      have hw117_2 := hx117_2
      (try rw [show ((0 : Int)).toNat = 0 from rfl] at hw117_2)
      (try rw [show 0 * 6 = 0 from rfl] at hw117_2)
      (try rw [Addr.add_zero'] at hw117_2)
      have hw117_1 := hx117_1
      (try rw [show ((0 : Int)).toNat = 0 from rfl] at hw117_1)
      (try rw [show 0 * 6 = 0 from rfl] at hw117_1)
      (try rw [Addr.add_zero'] at hw117_1)
      have hw117_0 := hx117_0
      (try rw [show ((0 : Int)).toNat = 0 from rfl] at hw117_0)
      (try rw [show 0 * 6 = 0 from rfl] at hw117_0)
      (try rw [Addr.add_zero'] at hw117_0)
      obtain rfl : ad113 = ad117 := (by injection e117)
      have qi117 : (0 < l0.length) = True := eq_true t12_
      (try rw [show ((0 : Int)).toNat = 0 from rfl] at hx117_0)
      (try rw [show 0 * 6 = 0 from rfl] at hx117_0)
      (try rw [Addr.add_zero'] at hx117_0)
      (try rw [show ((0 : Int)).toNat = 0 from rfl] at hx117_1)
      (try rw [show 0 * 6 = 0 from rfl] at hx117_1)
      (try rw [Addr.add_zero'] at hx117_1)
      (try rw [show ((0 : Int)).toNat = 0 from rfl] at hx117_2)
      (try rw [show 0 * 6 = 0 from rfl] at hx117_2)
      (try rw [Addr.add_zero'] at hx117_2)
      (try rw [show ((0 : Int)).toNat = 0 from rfl] at hx117_3)
      (try rw [show 0 * 6 = 0 from rfl] at hx117_3)
      (try rw [Addr.add_zero'] at hx117_3)
      (try rw [show ((0 : Int)).toNat = 0 from rfl] at hx117_4)
      (try rw [show 0 * 6 = 0 from rfl] at hx117_4)
      (try rw [Addr.add_zero'] at hx117_4)
      (try rw [show ((0 : Int)).toNat = 0 from rfl] at hx117_5)
      (try rw [show 0 * 6 = 0 from rfl] at hx117_5)
      (try rw [Addr.add_zero'] at hx117_5)
      replace hx117_0 := (HB.out.cell (World.block_lt_of_cell? w _ hx117_0)).trans hx117_0
      replace hx117_1 := (HB.out.cell (World.block_lt_of_cell? w _ hx117_1)).trans hx117_1
      replace hx117_2 := (HB.out.cell (World.block_lt_of_cell? w _ hx117_2)).trans hx117_2
      replace hx117_3 := (HB.out.cell (World.block_lt_of_cell? w _ hx117_3)).trans hx117_3
      replace hx117_4 := (HB.out.cell (World.block_lt_of_cell? w _ hx117_4)).trans hx117_4
      replace hx117_5 := (HB.out.cell (World.block_lt_of_cell? w _ hx117_5)).trans hx117_5
      replace p117 := eq_true p117
      replace q117 := eq_true q117
      refine start_ (n := 33) (S := fun w' => w'.cell? ad113 = some (.string ((rd_T80 l0 0).f0)) ∧ w'.cell? ⟨ad113.block, ad113.off + 1, none⟩ = some (.int .i64 ((rd_T80 l0 0).f1)) ∧ w'.cell? ⟨ad113.block, ad113.off + 2, none⟩ = some (.int .i64 ((rd_T80 l0 0).f2)) ∧ w'.cell? ⟨ad113.block, ad113.off + 3, none⟩ = some (.int .i64 ((rd_T80 l0 0).f3)) ∧ w'.cell? ⟨ad113.block, ad113.off + 4, none⟩ = some (.int .i64 ((rd_T80 l0 0).f4)) ∧ w'.cell? ⟨ad113.block, ad113.off + 5, none⟩ = some (.int .i64 ((rd_T80 l0 0).f5)) ∧ w'.cell? ad113 = some (.string ((rd_T80 l0 0).f0)) ∧ w'.cell? ⟨ad113.block, ad113.off + 1, none⟩ = some (.int .i64 ((rd_T80 l0 0).f1)) ∧ w'.cell? ⟨ad113.block, ad113.off + 2, none⟩ = some (.int .i64 ((rd_T80 l0 0).f2)) ∧ w'.cell? ⟨ad113.block, ad113.off + 3, none⟩ = some (.int .i64 ((rd_T80 l0 0).f3)) ∧ w'.cell? ⟨ad113.block, ad113.off + 4, none⟩ = some (.int .i64 ((rd_T80 l0 0).f4)) ∧ w'.cell? ⟨ad113.block, ad113.off + 5, none⟩ = some (.int .i64 ((rd_T80 l0 0).f5)) ∧ w'.cell? ad113 = some (.string ((rd_T80 l0 0).f0)) ∧ w'.cell? ⟨ad113.block, ad113.off + 1, none⟩ = some (.int .i64 ((rd_T80 l0 0).f1)) ∧ w'.cell? ⟨ad113.block, ad113.off + 2, none⟩ = some (.int .i64 ((rd_T80 l0 0).f2)) ∧ w'.cell? ⟨ad113.block, ad113.off + 3, none⟩ = some (.int .i64 ((rd_T80 l0 0).f3)) ∧ w'.cell? ⟨ad113.block, ad113.off + 4, none⟩ = some (.int .i64 ((rd_T80 l0 0).f4)) ∧ w'.cell? ⟨ad113.block, ad113.off + 5, none⟩ = some (.int .i64 ((rd_T80 l0 0).f5))) (ds := []) (tf 0 33) t8_ rfl rfl ⟨((HB.out.cell (World.block_lt_of_cell? w _ hw113_0)).trans hw113_0), ((HB.out.cell (World.block_lt_of_cell? w _ hw113_1)).trans hw113_1), ((HB.out.cell (World.block_lt_of_cell? w _ hw113_2)).trans hw113_2), ((HB.out.cell (World.block_lt_of_cell? w _ hw113_3)).trans hw113_3), ((HB.out.cell (World.block_lt_of_cell? w _ hw113_4)).trans hw113_4), ((HB.out.cell (World.block_lt_of_cell? w _ hw113_5)).trans hw113_5), ((HB.out.cell (World.block_lt_of_cell? w _ hw115_0)).trans hw115_0), ((HB.out.cell (World.block_lt_of_cell? w _ hw115_1)).trans hw115_1), ((HB.out.cell (World.block_lt_of_cell? w _ hw115_2)).trans hw115_2), ((HB.out.cell (World.block_lt_of_cell? w _ hw115_3)).trans hw115_3), ((HB.out.cell (World.block_lt_of_cell? w _ hw115_4)).trans hw115_4), ((HB.out.cell (World.block_lt_of_cell? w _ hw115_5)).trans hw115_5), ((HB.out.cell (World.block_lt_of_cell? w _ hw117_0)).trans hw117_0), ((HB.out.cell (World.block_lt_of_cell? w _ hw117_1)).trans hw117_1), ((HB.out.cell (World.block_lt_of_cell? w _ hw117_2)).trans hw117_2), ((HB.out.cell (World.block_lt_of_cell? w _ hw117_3)).trans hw117_3), ((HB.out.cell (World.block_lt_of_cell? w _ hw117_4)).trans hw117_4), ((HB.out.cell (World.block_lt_of_cell? w _ hw117_5)).trans hw117_5)⟩ (fun hHeld => ?_); refine with_tabW spec_l03Ok.tab1 spec_l03Ok.bits1 (fun HT_ HW_ => ?_)
      generalize w.drew = w11 at HB hx113_0 hx113_1 hx113_2 hx113_3 hx113_4 hx113_5 hx115_0 hx115_1 hx115_2 hx115_3 hx115_4 hx115_5 hx117_0 hx117_1 hx117_2 hx117_3 hx117_4 hx117_5 hHeld ⊢
      refine px 0 (some 3) (tf 1 33) HT_ ?_
      refine px 1 (some 4) (tf 2 33) HT_ ?_
      refine px 2 (some 5) (tf 3 33) HT_ ?_
      refine tx (v := ?_) 3 (some 6) (tf 4 33) HT_ HW_ hHeld ?_ ?_
      rotate_left; (· rintro w' ⟨s0, s1, s2, s3, s4, s5, s6, s7, s8, s9, s10, s11, s12, s13, s14, s15, s16, s17⟩; go_simp; with_reducible rfl)
      refine one_ (i := 4) (N := some 7) (tf 5 33) rfl rfl (one_of HT_.out t8_) t20_ (fun K hK => ?_)
      refine goes_ Try.func77 t8_ rfl #[.string ((rd_T80 l0 0).f0)] t37_ rfl rfl t2_ ?_
      with_reducible refine (spec_l01Name.calls k ((rd_T80 l0 0).f0) true _ A4.out).mono ?_
      rintro e w' ⟨rfl, ⟨nd, rfl⟩⟩
      refine ⟨_, rfl, ?_⟩
      refine hK.out _ _ ⟨((HB.out.cell (World.block_lt_of_cell? w _ hw113_0)).trans hw113_0), ((HB.out.cell (World.block_lt_of_cell? w _ hw113_1)).trans hw113_1), ((HB.out.cell (World.block_lt_of_cell? w _ hw113_2)).trans hw113_2), ((HB.out.cell (World.block_lt_of_cell? w _ hw113_3)).trans hw113_3), ((HB.out.cell (World.block_lt_of_cell? w _ hw113_4)).trans hw113_4), ((HB.out.cell (World.block_lt_of_cell? w _ hw113_5)).trans hw113_5), ((HB.out.cell (World.block_lt_of_cell? w _ hw115_0)).trans hw115_0), ((HB.out.cell (World.block_lt_of_cell? w _ hw115_1)).trans hw115_1), ((HB.out.cell (World.block_lt_of_cell? w _ hw115_2)).trans hw115_2), ((HB.out.cell (World.block_lt_of_cell? w _ hw115_3)).trans hw115_3), ((HB.out.cell (World.block_lt_of_cell? w _ hw115_4)).trans hw115_4), ((HB.out.cell (World.block_lt_of_cell? w _ hw115_5)).trans hw115_5), ((HB.out.cell (World.block_lt_of_cell? w _ hw117_0)).trans hw117_0), ((HB.out.cell (World.block_lt_of_cell? w _ hw117_1)).trans hw117_1), ((HB.out.cell (World.block_lt_of_cell? w _ hw117_2)).trans hw117_2), ((HB.out.cell (World.block_lt_of_cell? w _ hw117_3)).trans hw117_3), ((HB.out.cell (World.block_lt_of_cell? w _ hw117_4)).trans hw117_4), ((HB.out.cell (World.block_lt_of_cell? w _ hw117_5)).trans hw117_5)⟩ (fun hHeld => ?_)
      clear hK K
      refine norm_ (a' := ?_) ?_ ?_
      rotate_left
      ·show Act.put _ (some 7) _ = _
       simp only [Act.put, List.setIfInBounds_toArray, List.set_cons_zero, List.set_cons_succ, i64_w, i32_w]
       rfl
      refine px 5 (some 8) (tf 6 33) HT_ ?_
      refine px 6 (some 9) (tf 7 33) HT_ ?_
      refine px 7 (some 10) (tf 8 33) HT_ ?_
      refine px 8 (some 11) (tf 9 33) HT_ ?_
      refine px 9 (some 12) (tf 10 33) HT_ ?_
      refine tx (v := ?_) 10 (some 13) (tf 11 33) HT_ HW_ hHeld ?_ ?_
      rotate_left; (· rintro w' ⟨s0, s1, s2, s3, s4, s5, s6, s7, s8, s9, s10, s11, s12, s13, s14, s15, s16, s17⟩; go_simp; with_reducible rfl)
      refine one_ (i := 11) (N := some 14) (tf 12 33) rfl rfl (one_of HT_.out t8_) t20_ (fun K hK => ?_)
      refine goes_ Try.func64 t8_ rfl #[.int .i64 ((rd_T80 l0 0).f1), .int .i64 0, .int .i64 15] t37_ rfl rfl t2_ ?_
      with_reducible refine (spec_l00In.calls ((rd_T80 l0 0).f1) 0 15 true _ A6.out).mono ?_
      rintro e w' ⟨rfl, ⟨nd, rfl⟩⟩
      refine ⟨_, rfl, ?_⟩
      refine hK.out _ _ ⟨((HB.out.cell (World.block_lt_of_cell? w _ hw113_0)).trans hw113_0), ((HB.out.cell (World.block_lt_of_cell? w _ hw113_1)).trans hw113_1), ((HB.out.cell (World.block_lt_of_cell? w _ hw113_2)).trans hw113_2), ((HB.out.cell (World.block_lt_of_cell? w _ hw113_3)).trans hw113_3), ((HB.out.cell (World.block_lt_of_cell? w _ hw113_4)).trans hw113_4), ((HB.out.cell (World.block_lt_of_cell? w _ hw113_5)).trans hw113_5), ((HB.out.cell (World.block_lt_of_cell? w _ hw115_0)).trans hw115_0), ((HB.out.cell (World.block_lt_of_cell? w _ hw115_1)).trans hw115_1), ((HB.out.cell (World.block_lt_of_cell? w _ hw115_2)).trans hw115_2), ((HB.out.cell (World.block_lt_of_cell? w _ hw115_3)).trans hw115_3), ((HB.out.cell (World.block_lt_of_cell? w _ hw115_4)).trans hw115_4), ((HB.out.cell (World.block_lt_of_cell? w _ hw115_5)).trans hw115_5), ((HB.out.cell (World.block_lt_of_cell? w _ hw117_0)).trans hw117_0), ((HB.out.cell (World.block_lt_of_cell? w _ hw117_1)).trans hw117_1), ((HB.out.cell (World.block_lt_of_cell? w _ hw117_2)).trans hw117_2), ((HB.out.cell (World.block_lt_of_cell? w _ hw117_3)).trans hw117_3), ((HB.out.cell (World.block_lt_of_cell? w _ hw117_4)).trans hw117_4), ((HB.out.cell (World.block_lt_of_cell? w _ hw117_5)).trans hw117_5)⟩ (fun hHeld => ?_)
      clear hK K
      refine norm_ (a' := ?_) ?_ ?_
      rotate_left
      ·show Act.put _ (some 14) _ = _
       simp only [Act.put, List.setIfInBounds_toArray, List.set_cons_zero, List.set_cons_succ, i64_w, i32_w]
       rfl
      refine px 12 (some 15) (tf 13 33) HT_ ?_
      refine px 13 (some 16) (tf 14 33) HT_ ?_
      refine px 14 (some 17) (tf 15 33) HT_ ?_
      refine px 15 (some 18) (tf 16 33) HT_ ?_
      refine px 16 (some 19) (tf 17 33) HT_ ?_
      refine px 17 (some 20) (tf 18 33) HT_ ?_
      refine tx (v := ?_) 18 (some 21) (tf 19 33) HT_ HW_ hHeld ?_ ?_
      rotate_left; (· rintro w' ⟨s0, s1, s2, s3, s4, s5, s6, s7, s8, s9, s10, s11, s12, s13, s14, s15, s16, s17⟩; go_simp; with_reducible rfl)
      refine one_ (i := 19) (N := some 22) (tf 20 33) rfl rfl (one_of HT_.out t8_) t20_ (fun K hK => ?_)
      refine goes_ Try.func64 t8_ rfl #[.int .i64 ((rd_T80 l0 0).f2), .int .i64 0, .int .i64 15] t37_ rfl rfl t2_ ?_
      with_reducible refine (spec_l00In.calls ((rd_T80 l0 0).f2) 0 15 false _ A8.out).mono ?_
      rintro e w' ⟨rfl, ⟨nd, rfl⟩⟩
      refine ⟨_, rfl, ?_⟩
      refine hK.out _ _ ⟨((HB.out.cell (World.block_lt_of_cell? w _ hw113_0)).trans hw113_0), ((HB.out.cell (World.block_lt_of_cell? w _ hw113_1)).trans hw113_1), ((HB.out.cell (World.block_lt_of_cell? w _ hw113_2)).trans hw113_2), ((HB.out.cell (World.block_lt_of_cell? w _ hw113_3)).trans hw113_3), ((HB.out.cell (World.block_lt_of_cell? w _ hw113_4)).trans hw113_4), ((HB.out.cell (World.block_lt_of_cell? w _ hw113_5)).trans hw113_5), ((HB.out.cell (World.block_lt_of_cell? w _ hw115_0)).trans hw115_0), ((HB.out.cell (World.block_lt_of_cell? w _ hw115_1)).trans hw115_1), ((HB.out.cell (World.block_lt_of_cell? w _ hw115_2)).trans hw115_2), ((HB.out.cell (World.block_lt_of_cell? w _ hw115_3)).trans hw115_3), ((HB.out.cell (World.block_lt_of_cell? w _ hw115_4)).trans hw115_4), ((HB.out.cell (World.block_lt_of_cell? w _ hw115_5)).trans hw115_5), ((HB.out.cell (World.block_lt_of_cell? w _ hw117_0)).trans hw117_0), ((HB.out.cell (World.block_lt_of_cell? w _ hw117_1)).trans hw117_1), ((HB.out.cell (World.block_lt_of_cell? w _ hw117_2)).trans hw117_2), ((HB.out.cell (World.block_lt_of_cell? w _ hw117_3)).trans hw117_3), ((HB.out.cell (World.block_lt_of_cell? w _ hw117_4)).trans hw117_4), ((HB.out.cell (World.block_lt_of_cell? w _ hw117_5)).trans hw117_5)⟩ (fun hHeld => ?_)
      clear hK K
      refine norm_ (a' := ?_) ?_ ?_
      rotate_left
      ·show Act.put _ (some 22) _ = _
       simp only [Act.put, List.setIfInBounds_toArray, List.set_cons_zero, List.set_cons_succ, i64_w, i32_w]
       rfl
      refine px 20 (some 23) (tf 21 33) HT_ ?_
      refine px 21 (some 24) (tf 22 33) HT_ ?_
      refine px 22 (some 25) (tf 23 33) HT_ ?_
      refine sx 23 (some 26) (tf 24 33) HT_ ?_
      refine sx 24 (some 27) (tf 25 33) HT_ ?_
      refine sx 25 (some 28) (tf 26 33) HT_ ?_
      refine sx 26 (some 29) (tf 27 33) HT_ ?_
      refine sx 27 (some 30) (tf 28 33) HT_ ?_
      refine sx 28 (some 31) (tf 29 33) HT_ ?_
      refine sx 29 (some 32) (tf 30 33) HT_ ?_
      refine sx 30 (some 33) (tf 31 33) HT_ ?_
      refine sx 31 (some 34) (tf 32 33) HT_ ?_
      refine px 32 (some 35) (tf 33 33) HT_ ?_
      refine done_ (done_of HT_.out t8_) ?_
      try go_wp2
      go_meet
      case rel => exact ⟨_, (true), t6_, H', ⟨by first | omega | exact Nat.le_refl _⟩, ⟨by repeat (first | (with_reducible first | exact HB.out | apply below_alloc | apply pw_below_drewN | apply below_drew1) | exact HB.out)⟩⟩
    ·replace c7 := Bool.eq_false_iff.mpr c7
     subst c7
     have H1 : (spec_l03Ok.j0 k l0 true) = some r := by rw [if_neg (show ¬ (false = true) by decide)] at H; exact H
     clear H
     have H := H1
     clear H1
     have H' := Aside0.mk H
     clear H
     try go_wp2
     have n0_ := Aside0.mk (below_drew1 HB.out)
     clear HB
     have HB := n0_
     clear n0_
     have p113 : 0 ≤ (0 : Int) := t12_
     have q113 : 0 < (l0.length : Int) := of_decide_eq_true t3_
     obtain ⟨ad113, e113, hx113_0, hx113_1, hx113_2, hx113_3, hx113_4, hx113_5⟩ := at_T80 HR0.out 0 p113 q113
     have hw113_5 := hx113_5
     (try rw [show ((0 : Int)).toNat = 0 from rfl] at hw113_5)
     (try rw [show 0 * 6 = 0 from rfl] at hw113_5)
     (try rw [Addr.add_zero'] at hw113_5)
     have hw113_4 := hx113_4
     (try rw [show ((0 : Int)).toNat = 0 from rfl] at hw113_4)
     (try rw [show 0 * 6 = 0 from rfl] at hw113_4)
     (try rw [Addr.add_zero'] at hw113_4)
     have hw113_3 := hx113_3
     (try rw [show ((0 : Int)).toNat = 0 from rfl] at hw113_3)
     (try rw [show 0 * 6 = 0 from rfl] at hw113_3)
     (try rw [Addr.add_zero'] at hw113_3)
     have hw113_2 := hx113_2
     (try rw [show ((0 : Int)).toNat = 0 from rfl] at hw113_2)
     (try rw [show 0 * 6 = 0 from rfl] at hw113_2)
     (try rw [Addr.add_zero'] at hw113_2)
     have hw113_1 := hx113_1
     (try rw [show ((0 : Int)).toNat = 0 from rfl] at hw113_1)
     (try rw [show 0 * 6 = 0 from rfl] at hw113_1)
     (try rw [Addr.add_zero'] at hw113_1)
     have hw113_0 := hx113_0
     (try rw [show ((0 : Int)).toNat = 0 from rfl] at hw113_0)
     (try rw [show 0 * 6 = 0 from rfl] at hw113_0)
     (try rw [Addr.add_zero'] at hw113_0)
     cases e113
     have qi113 : (0 < l0.length) = True := eq_true t12_
     (try rw [show ((0 : Int)).toNat = 0 from rfl] at hx113_0)
     (try rw [show 0 * 6 = 0 from rfl] at hx113_0)
     (try rw [Addr.add_zero'] at hx113_0)
     (try rw [show ((0 : Int)).toNat = 0 from rfl] at hx113_1)
     (try rw [show 0 * 6 = 0 from rfl] at hx113_1)
     (try rw [Addr.add_zero'] at hx113_1)
     (try rw [show ((0 : Int)).toNat = 0 from rfl] at hx113_2)
     (try rw [show 0 * 6 = 0 from rfl] at hx113_2)
     (try rw [Addr.add_zero'] at hx113_2)
     (try rw [show ((0 : Int)).toNat = 0 from rfl] at hx113_3)
     (try rw [show 0 * 6 = 0 from rfl] at hx113_3)
     (try rw [Addr.add_zero'] at hx113_3)
     (try rw [show ((0 : Int)).toNat = 0 from rfl] at hx113_4)
     (try rw [show 0 * 6 = 0 from rfl] at hx113_4)
     (try rw [Addr.add_zero'] at hx113_4)
     (try rw [show ((0 : Int)).toNat = 0 from rfl] at hx113_5)
     (try rw [show 0 * 6 = 0 from rfl] at hx113_5)
     (try rw [Addr.add_zero'] at hx113_5)
     replace hx113_0 := (HB.out.cell (World.block_lt_of_cell? w _ hx113_0)).trans hx113_0
     replace hx113_1 := (HB.out.cell (World.block_lt_of_cell? w _ hx113_1)).trans hx113_1
     replace hx113_2 := (HB.out.cell (World.block_lt_of_cell? w _ hx113_2)).trans hx113_2
     replace hx113_3 := (HB.out.cell (World.block_lt_of_cell? w _ hx113_3)).trans hx113_3
     replace hx113_4 := (HB.out.cell (World.block_lt_of_cell? w _ hx113_4)).trans hx113_4
     replace hx113_5 := (HB.out.cell (World.block_lt_of_cell? w _ hx113_5)).trans hx113_5
     replace p113 := eq_true p113
     replace q113 := eq_true q113
     have p115 : 0 ≤ (0 : Int) := t12_
     have q115 : 0 < (l0.length : Int) := of_decide_eq_true t3_
     obtain ⟨ad115, e115, hx115_0, hx115_1, hx115_2, hx115_3, hx115_4, hx115_5⟩ := at_T80 HR0.out 0 p115 q115
     have hw115_5 := hx115_5
     (try rw [show ((0 : Int)).toNat = 0 from rfl] at hw115_5)
     (try rw [show 0 * 6 = 0 from rfl] at hw115_5)
     (try rw [Addr.add_zero'] at hw115_5)
     have hw115_4 := hx115_4
     (try rw [show ((0 : Int)).toNat = 0 from rfl] at hw115_4)
     (try rw [show 0 * 6 = 0 from rfl] at hw115_4)
     (try rw [Addr.add_zero'] at hw115_4)
     have hw115_3 := hx115_3
     (try rw [show ((0 : Int)).toNat = 0 from rfl] at hw115_3)
     (try rw [show 0 * 6 = 0 from rfl] at hw115_3)
     (try rw [Addr.add_zero'] at hw115_3)
     have hw115_2 := hx115_2
     (try rw [show ((0 : Int)).toNat = 0 from rfl] at hw115_2)
     (try rw [show 0 * 6 = 0 from rfl] at hw115_2)
     (try rw [Addr.add_zero'] at hw115_2)
     have hw115_1 := hx115_1
     (try rw [show ((0 : Int)).toNat = 0 from rfl] at hw115_1)
     (try rw [show 0 * 6 = 0 from rfl] at hw115_1)
     (try rw [Addr.add_zero'] at hw115_1)
     have hw115_0 := hx115_0
     (try rw [show ((0 : Int)).toNat = 0 from rfl] at hw115_0)
     (try rw [show 0 * 6 = 0 from rfl] at hw115_0)
     (try rw [Addr.add_zero'] at hw115_0)
     obtain rfl : ad113 = ad115 := (by injection e115)
     have qi115 : (0 < l0.length) = True := eq_true t12_
     (try rw [show ((0 : Int)).toNat = 0 from rfl] at hx115_0)
     (try rw [show 0 * 6 = 0 from rfl] at hx115_0)
     (try rw [Addr.add_zero'] at hx115_0)
     (try rw [show ((0 : Int)).toNat = 0 from rfl] at hx115_1)
     (try rw [show 0 * 6 = 0 from rfl] at hx115_1)
     (try rw [Addr.add_zero'] at hx115_1)
     (try rw [show ((0 : Int)).toNat = 0 from rfl] at hx115_2)
     (try rw [show 0 * 6 = 0 from rfl] at hx115_2)
     (try rw [Addr.add_zero'] at hx115_2)
     (try rw [show ((0 : Int)).toNat = 0 from rfl] at hx115_3)
     (try rw [show 0 * 6 = 0 from rfl] at hx115_3)
     (try rw [Addr.add_zero'] at hx115_3)
     (try rw [show ((0 : Int)).toNat = 0 from rfl] at hx115_4)
     (try rw [show 0 * 6 = 0 from rfl] at hx115_4)
     (try rw [Addr.add_zero'] at hx115_4)
     (try rw [show ((0 : Int)).toNat = 0 from rfl] at hx115_5)
     (try rw [show 0 * 6 = 0 from rfl] at hx115_5)
     (try rw [Addr.add_zero'] at hx115_5)
     replace hx115_0 := (HB.out.cell (World.block_lt_of_cell? w _ hx115_0)).trans hx115_0
     replace hx115_1 := (HB.out.cell (World.block_lt_of_cell? w _ hx115_1)).trans hx115_1
     replace hx115_2 := (HB.out.cell (World.block_lt_of_cell? w _ hx115_2)).trans hx115_2
     replace hx115_3 := (HB.out.cell (World.block_lt_of_cell? w _ hx115_3)).trans hx115_3
     replace hx115_4 := (HB.out.cell (World.block_lt_of_cell? w _ hx115_4)).trans hx115_4
     replace hx115_5 := (HB.out.cell (World.block_lt_of_cell? w _ hx115_5)).trans hx115_5
     replace p115 := eq_true p115
     replace q115 := eq_true q115
     refine start_ (n := 33) (S := fun w' => w'.cell? ad113 = some (.string ((rd_T80 l0 0).f0)) ∧ w'.cell? ⟨ad113.block, ad113.off + 1, none⟩ = some (.int .i64 ((rd_T80 l0 0).f1)) ∧ w'.cell? ⟨ad113.block, ad113.off + 2, none⟩ = some (.int .i64 ((rd_T80 l0 0).f2)) ∧ w'.cell? ⟨ad113.block, ad113.off + 3, none⟩ = some (.int .i64 ((rd_T80 l0 0).f3)) ∧ w'.cell? ⟨ad113.block, ad113.off + 4, none⟩ = some (.int .i64 ((rd_T80 l0 0).f4)) ∧ w'.cell? ⟨ad113.block, ad113.off + 5, none⟩ = some (.int .i64 ((rd_T80 l0 0).f5)) ∧ w'.cell? ad113 = some (.string ((rd_T80 l0 0).f0)) ∧ w'.cell? ⟨ad113.block, ad113.off + 1, none⟩ = some (.int .i64 ((rd_T80 l0 0).f1)) ∧ w'.cell? ⟨ad113.block, ad113.off + 2, none⟩ = some (.int .i64 ((rd_T80 l0 0).f2)) ∧ w'.cell? ⟨ad113.block, ad113.off + 3, none⟩ = some (.int .i64 ((rd_T80 l0 0).f3)) ∧ w'.cell? ⟨ad113.block, ad113.off + 4, none⟩ = some (.int .i64 ((rd_T80 l0 0).f4)) ∧ w'.cell? ⟨ad113.block, ad113.off + 5, none⟩ = some (.int .i64 ((rd_T80 l0 0).f5))) (ds := []) (tf 0 33) t8_ rfl rfl ⟨((HB.out.cell (World.block_lt_of_cell? w _ hw113_0)).trans hw113_0), ((HB.out.cell (World.block_lt_of_cell? w _ hw113_1)).trans hw113_1), ((HB.out.cell (World.block_lt_of_cell? w _ hw113_2)).trans hw113_2), ((HB.out.cell (World.block_lt_of_cell? w _ hw113_3)).trans hw113_3), ((HB.out.cell (World.block_lt_of_cell? w _ hw113_4)).trans hw113_4), ((HB.out.cell (World.block_lt_of_cell? w _ hw113_5)).trans hw113_5), ((HB.out.cell (World.block_lt_of_cell? w _ hw115_0)).trans hw115_0), ((HB.out.cell (World.block_lt_of_cell? w _ hw115_1)).trans hw115_1), ((HB.out.cell (World.block_lt_of_cell? w _ hw115_2)).trans hw115_2), ((HB.out.cell (World.block_lt_of_cell? w _ hw115_3)).trans hw115_3), ((HB.out.cell (World.block_lt_of_cell? w _ hw115_4)).trans hw115_4), ((HB.out.cell (World.block_lt_of_cell? w _ hw115_5)).trans hw115_5)⟩ (fun hHeld => ?_); refine with_tabW spec_l03Ok.tab1 spec_l03Ok.bits1 (fun HT_ HW_ => ?_)
     generalize w.drew = w12 at HB hx113_0 hx113_1 hx113_2 hx113_3 hx113_4 hx113_5 hx115_0 hx115_1 hx115_2 hx115_3 hx115_4 hx115_5 hHeld ⊢
     refine px 0 (some 3) (tf 1 33) HT_ ?_
     refine px 1 (some 4) (tf 2 33) HT_ ?_
     refine px 2 (some 5) (tf 3 33) HT_ ?_
     refine tx (v := ?_) 3 (some 6) (tf 4 33) HT_ HW_ hHeld ?_ ?_
     rotate_left; (· rintro w' ⟨s0, s1, s2, s3, s4, s5, s6, s7, s8, s9, s10, s11⟩; go_simp; with_reducible rfl)
     refine one_ (i := 4) (N := some 7) (tf 5 33) rfl rfl (one_of HT_.out t8_) t20_ (fun K hK => ?_)
     refine goes_ Try.func77 t8_ rfl #[.string ((rd_T80 l0 0).f0)] t37_ rfl rfl t2_ ?_
     with_reducible refine (spec_l01Name.calls k ((rd_T80 l0 0).f0) true _ A4.out).mono ?_
     rintro e w' ⟨rfl, ⟨nd, rfl⟩⟩
     refine ⟨_, rfl, ?_⟩
     refine hK.out _ _ ⟨((HB.out.cell (World.block_lt_of_cell? w _ hw113_0)).trans hw113_0), ((HB.out.cell (World.block_lt_of_cell? w _ hw113_1)).trans hw113_1), ((HB.out.cell (World.block_lt_of_cell? w _ hw113_2)).trans hw113_2), ((HB.out.cell (World.block_lt_of_cell? w _ hw113_3)).trans hw113_3), ((HB.out.cell (World.block_lt_of_cell? w _ hw113_4)).trans hw113_4), ((HB.out.cell (World.block_lt_of_cell? w _ hw113_5)).trans hw113_5), ((HB.out.cell (World.block_lt_of_cell? w _ hw115_0)).trans hw115_0), ((HB.out.cell (World.block_lt_of_cell? w _ hw115_1)).trans hw115_1), ((HB.out.cell (World.block_lt_of_cell? w _ hw115_2)).trans hw115_2), ((HB.out.cell (World.block_lt_of_cell? w _ hw115_3)).trans hw115_3), ((HB.out.cell (World.block_lt_of_cell? w _ hw115_4)).trans hw115_4), ((HB.out.cell (World.block_lt_of_cell? w _ hw115_5)).trans hw115_5)⟩ (fun hHeld => ?_)
     clear hK K
     refine norm_ (a' := ?_) ?_ ?_
     rotate_left
     ·show Act.put _ (some 7) _ = _
      simp only [Act.put, List.setIfInBounds_toArray, List.set_cons_zero, List.set_cons_succ, i64_w, i32_w]
      rfl
     refine px 5 (some 8) (tf 6 33) HT_ ?_
     refine px 6 (some 9) (tf 7 33) HT_ ?_
     refine px 7 (some 10) (tf 8 33) HT_ ?_
     refine px 8 (some 11) (tf 9 33) HT_ ?_
     refine px 9 (some 12) (tf 10 33) HT_ ?_
     refine tx (v := ?_) 10 (some 13) (tf 11 33) HT_ HW_ hHeld ?_ ?_
     rotate_left; (· rintro w' ⟨s0, s1, s2, s3, s4, s5, s6, s7, s8, s9, s10, s11⟩; go_simp; with_reducible rfl)
     refine one_ (i := 11) (N := some 14) (tf 12 33) rfl rfl (one_of HT_.out t8_) t20_ (fun K hK => ?_)
     refine goes_ Try.func64 t8_ rfl #[.int .i64 ((rd_T80 l0 0).f1), .int .i64 0, .int .i64 15] t37_ rfl rfl t2_ ?_
     with_reducible refine (spec_l00In.calls ((rd_T80 l0 0).f1) 0 15 false _ A6.out).mono ?_
     rintro e w' ⟨rfl, ⟨nd, rfl⟩⟩
     refine ⟨_, rfl, ?_⟩
     refine hK.out _ _ ⟨((HB.out.cell (World.block_lt_of_cell? w _ hw113_0)).trans hw113_0), ((HB.out.cell (World.block_lt_of_cell? w _ hw113_1)).trans hw113_1), ((HB.out.cell (World.block_lt_of_cell? w _ hw113_2)).trans hw113_2), ((HB.out.cell (World.block_lt_of_cell? w _ hw113_3)).trans hw113_3), ((HB.out.cell (World.block_lt_of_cell? w _ hw113_4)).trans hw113_4), ((HB.out.cell (World.block_lt_of_cell? w _ hw113_5)).trans hw113_5), ((HB.out.cell (World.block_lt_of_cell? w _ hw115_0)).trans hw115_0), ((HB.out.cell (World.block_lt_of_cell? w _ hw115_1)).trans hw115_1), ((HB.out.cell (World.block_lt_of_cell? w _ hw115_2)).trans hw115_2), ((HB.out.cell (World.block_lt_of_cell? w _ hw115_3)).trans hw115_3), ((HB.out.cell (World.block_lt_of_cell? w _ hw115_4)).trans hw115_4), ((HB.out.cell (World.block_lt_of_cell? w _ hw115_5)).trans hw115_5)⟩ (fun hHeld => ?_)
     clear hK K
     refine norm_ (a' := ?_) ?_ ?_
     rotate_left
     ·show Act.put _ (some 14) _ = _
      simp only [Act.put, List.setIfInBounds_toArray, List.set_cons_zero, List.set_cons_succ, i64_w, i32_w]
      rfl
     refine px 12 (some 15) (tf 13 33) HT_ ?_
     refine px 13 (some 16) (tf 14 33) HT_ ?_
     refine px 14 (some 17) (tf 15 33) HT_ ?_
     refine sx 15 (some 18) (tf 16 33) HT_ ?_
     refine sx 16 (some 19) (tf 17 33) HT_ ?_
     refine sx 17 (some 20) (tf 18 33) HT_ ?_
     refine sx 18 (some 21) (tf 19 33) HT_ ?_
     refine sx 19 (some 22) (tf 20 33) HT_ ?_
     refine sx 20 (some 23) (tf 21 33) HT_ ?_
     refine px 21 (some 24) (tf 22 33) HT_ ?_
     refine px 22 (some 25) (tf 23 33) HT_ ?_
     refine sx 23 (some 26) (tf 24 33) HT_ ?_
     refine sx 24 (some 27) (tf 25 33) HT_ ?_
     refine sx 25 (some 28) (tf 26 33) HT_ ?_
     refine sx 26 (some 29) (tf 27 33) HT_ ?_
     refine sx 27 (some 30) (tf 28 33) HT_ ?_
     refine sx 28 (some 31) (tf 29 33) HT_ ?_
     refine sx 29 (some 32) (tf 30 33) HT_ ?_
     refine sx 30 (some 33) (tf 31 33) HT_ ?_
     refine sx 31 (some 34) (tf 32 33) HT_ ?_
     refine px 32 (some 35) (tf 33 33) HT_ ?_
     refine done_ (done_of HT_.out t8_) ?_
     try go_wp2
     go_meet
     case rel => exact ⟨_, (true), t6_, H', ⟨by first | omega | exact Nat.le_refl _⟩, ⟨by repeat (first | (with_reducible first | exact HB.out | apply below_alloc | apply pw_below_drewN | apply below_drew1) | exact HB.out)⟩⟩
   ·replace c5 := Bool.eq_false_iff.mpr c5
    subst c5
    have H1 : (spec_l03Ok.j0 k l0 true) = some r := by rw [if_neg (show ¬ (false = true) by decide)] at H; exact H
    clear H
    have H := H1
    clear H1
    have H' := Aside0.mk H
    clear H
    try go_wp2
    have n0_ := Aside0.mk (below_drew1 HB.out)
    clear HB
    have HB := n0_
    clear n0_
    have p113 : 0 ≤ (0 : Int) := t12_
    have q113 : 0 < (l0.length : Int) := of_decide_eq_true t3_
    obtain ⟨ad113, e113, hx113_0, hx113_1, hx113_2, hx113_3, hx113_4, hx113_5⟩ := at_T80 HR0.out 0 p113 q113
    have hw113_5 := hx113_5
    (try rw [show ((0 : Int)).toNat = 0 from rfl] at hw113_5)
    (try rw [show 0 * 6 = 0 from rfl] at hw113_5)
    (try rw [Addr.add_zero'] at hw113_5)
    have hw113_4 := hx113_4
    (try rw [show ((0 : Int)).toNat = 0 from rfl] at hw113_4)
    (try rw [show 0 * 6 = 0 from rfl] at hw113_4)
    (try rw [Addr.add_zero'] at hw113_4)
    have hw113_3 := hx113_3
    (try rw [show ((0 : Int)).toNat = 0 from rfl] at hw113_3)
    (try rw [show 0 * 6 = 0 from rfl] at hw113_3)
    (try rw [Addr.add_zero'] at hw113_3)
    have hw113_2 := hx113_2
    (try rw [show ((0 : Int)).toNat = 0 from rfl] at hw113_2)
    (try rw [show 0 * 6 = 0 from rfl] at hw113_2)
    (try rw [Addr.add_zero'] at hw113_2)
    have hw113_1 := hx113_1
    (try rw [show ((0 : Int)).toNat = 0 from rfl] at hw113_1)
    (try rw [show 0 * 6 = 0 from rfl] at hw113_1)
    (try rw [Addr.add_zero'] at hw113_1)
    have hw113_0 := hx113_0
    (try rw [show ((0 : Int)).toNat = 0 from rfl] at hw113_0)
    (try rw [show 0 * 6 = 0 from rfl] at hw113_0)
    (try rw [Addr.add_zero'] at hw113_0)
    cases e113
    have qi113 : (0 < l0.length) = True := eq_true t12_
    (try rw [show ((0 : Int)).toNat = 0 from rfl] at hx113_0)
    (try rw [show 0 * 6 = 0 from rfl] at hx113_0)
    (try rw [Addr.add_zero'] at hx113_0)
    (try rw [show ((0 : Int)).toNat = 0 from rfl] at hx113_1)
    (try rw [show 0 * 6 = 0 from rfl] at hx113_1)
    (try rw [Addr.add_zero'] at hx113_1)
    (try rw [show ((0 : Int)).toNat = 0 from rfl] at hx113_2)
    (try rw [show 0 * 6 = 0 from rfl] at hx113_2)
    (try rw [Addr.add_zero'] at hx113_2)
    (try rw [show ((0 : Int)).toNat = 0 from rfl] at hx113_3)
    (try rw [show 0 * 6 = 0 from rfl] at hx113_3)
    (try rw [Addr.add_zero'] at hx113_3)
    (try rw [show ((0 : Int)).toNat = 0 from rfl] at hx113_4)
    (try rw [show 0 * 6 = 0 from rfl] at hx113_4)
    (try rw [Addr.add_zero'] at hx113_4)
    (try rw [show ((0 : Int)).toNat = 0 from rfl] at hx113_5)
    (try rw [show 0 * 6 = 0 from rfl] at hx113_5)
    (try rw [Addr.add_zero'] at hx113_5)
    replace hx113_0 := (HB.out.cell (World.block_lt_of_cell? w _ hx113_0)).trans hx113_0
    replace hx113_1 := (HB.out.cell (World.block_lt_of_cell? w _ hx113_1)).trans hx113_1
    replace hx113_2 := (HB.out.cell (World.block_lt_of_cell? w _ hx113_2)).trans hx113_2
    replace hx113_3 := (HB.out.cell (World.block_lt_of_cell? w _ hx113_3)).trans hx113_3
    replace hx113_4 := (HB.out.cell (World.block_lt_of_cell? w _ hx113_4)).trans hx113_4
    replace hx113_5 := (HB.out.cell (World.block_lt_of_cell? w _ hx113_5)).trans hx113_5
    replace p113 := eq_true p113
    replace q113 := eq_true q113
    refine start_ (n := 33) (S := fun w' => w'.cell? ad113 = some (.string ((rd_T80 l0 0).f0)) ∧ w'.cell? ⟨ad113.block, ad113.off + 1, none⟩ = some (.int .i64 ((rd_T80 l0 0).f1)) ∧ w'.cell? ⟨ad113.block, ad113.off + 2, none⟩ = some (.int .i64 ((rd_T80 l0 0).f2)) ∧ w'.cell? ⟨ad113.block, ad113.off + 3, none⟩ = some (.int .i64 ((rd_T80 l0 0).f3)) ∧ w'.cell? ⟨ad113.block, ad113.off + 4, none⟩ = some (.int .i64 ((rd_T80 l0 0).f4)) ∧ w'.cell? ⟨ad113.block, ad113.off + 5, none⟩ = some (.int .i64 ((rd_T80 l0 0).f5))) (ds := []) (tf 0 33) t8_ rfl rfl ⟨((HB.out.cell (World.block_lt_of_cell? w _ hw113_0)).trans hw113_0), ((HB.out.cell (World.block_lt_of_cell? w _ hw113_1)).trans hw113_1), ((HB.out.cell (World.block_lt_of_cell? w _ hw113_2)).trans hw113_2), ((HB.out.cell (World.block_lt_of_cell? w _ hw113_3)).trans hw113_3), ((HB.out.cell (World.block_lt_of_cell? w _ hw113_4)).trans hw113_4), ((HB.out.cell (World.block_lt_of_cell? w _ hw113_5)).trans hw113_5)⟩ (fun hHeld => ?_); refine with_tabW spec_l03Ok.tab1 spec_l03Ok.bits1 (fun HT_ HW_ => ?_)
    generalize w.drew = w13 at HB hx113_0 hx113_1 hx113_2 hx113_3 hx113_4 hx113_5 hHeld ⊢
    refine px 0 (some 3) (tf 1 33) HT_ ?_
    refine px 1 (some 4) (tf 2 33) HT_ ?_
    refine px 2 (some 5) (tf 3 33) HT_ ?_
    refine tx (v := ?_) 3 (some 6) (tf 4 33) HT_ HW_ hHeld ?_ ?_
    rotate_left; (· rintro w' ⟨s0, s1, s2, s3, s4, s5⟩; go_simp; with_reducible rfl)
    refine one_ (i := 4) (N := some 7) (tf 5 33) rfl rfl (one_of HT_.out t8_) t20_ (fun K hK => ?_)
    refine goes_ Try.func77 t8_ rfl #[.string ((rd_T80 l0 0).f0)] t37_ rfl rfl t2_ ?_
    with_reducible refine (spec_l01Name.calls k ((rd_T80 l0 0).f0) false _ A4.out).mono ?_
    rintro e w' ⟨rfl, ⟨nd, rfl⟩⟩
    refine ⟨_, rfl, ?_⟩
    refine hK.out _ _ ⟨((HB.out.cell (World.block_lt_of_cell? w _ hw113_0)).trans hw113_0), ((HB.out.cell (World.block_lt_of_cell? w _ hw113_1)).trans hw113_1), ((HB.out.cell (World.block_lt_of_cell? w _ hw113_2)).trans hw113_2), ((HB.out.cell (World.block_lt_of_cell? w _ hw113_3)).trans hw113_3), ((HB.out.cell (World.block_lt_of_cell? w _ hw113_4)).trans hw113_4), ((HB.out.cell (World.block_lt_of_cell? w _ hw113_5)).trans hw113_5)⟩ (fun hHeld => ?_)
    clear hK K
    refine norm_ (a' := ?_) ?_ ?_
    rotate_left
    ·show Act.put _ (some 7) _ = _
     simp only [Act.put, List.setIfInBounds_toArray, List.set_cons_zero, List.set_cons_succ, i64_w, i32_w]
     rfl
    refine px 5 (some 8) (tf 6 33) HT_ ?_
    refine px 6 (some 9) (tf 7 33) HT_ ?_
    refine sx 7 (some 10) (tf 8 33) HT_ ?_
    refine sx 8 (some 11) (tf 9 33) HT_ ?_
    refine sx 9 (some 12) (tf 10 33) HT_ ?_
    refine sx 10 (some 13) (tf 11 33) HT_ ?_
    refine sx 11 (some 14) (tf 12 33) HT_ ?_
    refine sx 12 (some 15) (tf 13 33) HT_ ?_
    refine px 13 (some 16) (tf 14 33) HT_ ?_
    refine px 14 (some 17) (tf 15 33) HT_ ?_
    refine sx 15 (some 18) (tf 16 33) HT_ ?_
    refine sx 16 (some 19) (tf 17 33) HT_ ?_
    refine sx 17 (some 20) (tf 18 33) HT_ ?_
    refine sx 18 (some 21) (tf 19 33) HT_ ?_
    refine sx 19 (some 22) (tf 20 33) HT_ ?_
    refine sx 20 (some 23) (tf 21 33) HT_ ?_
    refine px 21 (some 24) (tf 22 33) HT_ ?_
    refine px 22 (some 25) (tf 23 33) HT_ ?_
    refine sx 23 (some 26) (tf 24 33) HT_ ?_
    refine sx 24 (some 27) (tf 25 33) HT_ ?_
    refine sx 25 (some 28) (tf 26 33) HT_ ?_
    refine sx 26 (some 29) (tf 27 33) HT_ ?_
    refine sx 27 (some 30) (tf 28 33) HT_ ?_
    refine sx 28 (some 31) (tf 29 33) HT_ ?_
    refine sx 29 (some 32) (tf 30 33) HT_ ?_
    refine sx 30 (some 33) (tf 31 33) HT_ ?_
    refine sx 31 (some 34) (tf 32 33) HT_ ?_
    refine px 32 (some 35) (tf 33 33) HT_ ?_
    refine done_ (done_of HT_.out t8_) ?_
    try go_wp2
    go_meet
    case rel => exact ⟨_, (true), t6_, H', ⟨by first | omega | exact Nat.le_refl _⟩, ⟨by repeat (first | (with_reducible first | exact HB.out | apply below_alloc | apply pw_below_drewN | apply below_drew1) | exact HB.out)⟩⟩
  ·rw [if_neg c3] at H
   exact absurd H t36_
 case rest =>
  clear HC2
  try clear p1
  try clear q1
  try clear hx1
  try clear qi1
  try clear p2
  try clear c3
  try clear c5
  try clear c6
  try clear c7
  try clear p11
  try clear q11
  try clear hx11
  try clear qi11
  try clear hx113_0
  try clear hx113_1
  try clear hx113_2
  try clear hx113_3
  try clear hx113_4
  try clear hx113_5
  try clear hx115_0
  try clear hx115_1
  try clear hx115_2
  try clear hx115_3
  try clear hx115_4
  try clear hx115_5
  try clear p113
  try clear p115
  try clear q113
  try clear q115
  obtain ⟨kq, x35_1, rfl, HA, HJ1, HB⟩ := hcut
  cases kq with
  | zero => exact absurd HA.out (by simp [spec_l03Ok.j0])
  | succ kj1 =>
   have H := HA.out
   clear HA
   simp only [spec_l03Ok.j0] at H
   by_cases c14 : x35_1 = true
   ·subst c14
    have H1 : (some false) = some r := by rw [if_pos rfl] at H; exact H
    clear H
    have H := H1
    clear H1
    obtain rfl := Option.some.inj H
    go_wp2
    go_ret
    exact ⟨by first | rfl | (rw [Int.tdiv_eq_ediv_of_nonneg t12_]; rfl) | (simp [errW_none, errW_some] <;> rfl) | (simp [*, errW_none, errW_some] <;> rfl), by repeat (first | (with_reducible first | exact HB.out | apply below_alloc | apply pw_below_drewN | apply below_drew1) | exact HB.out)⟩
   ·replace c14 := Bool.eq_false_iff.mpr c14
    subst c14
    have H1 : (if 0 < (l0.length : Int) then ((spec_l00In.f ((rd_T80 l0 0).f3) 1 10000).bind fun t122 => (if t122 = true then ((spec_l00In.f ((rd_T80 l0 0).f4) 20 1000).bind fun t124 => (if t124 = true then ((spec_l00In.f ((rd_T80 l0 0).f5) 0 5000).bind fun t126 => (some t126)) else (some false))) else (some false))) else (none)) = some r := by rw [if_neg (show ¬ (false = true) by decide)] at H; exact H
    clear H
    have H := H1
    clear H1
    by_cases c15 : 0 < (l0.length : Int)
    ·rw [if_pos c15] at H
     have c15b0 : decide (0 < (l0.length : Int)) = true := decide_eq_true c15
     have c15b1 : decide (0 < l0.length) = true := decide_eq_true t12_
     clear c15
     replace H := Option.bind_eq_some_iff.mp H
     obtain ⟨t122, A160, H⟩ := H
     replace H : (if t122 = true then ((spec_l00In.f ((rd_T80 l0 0).f4) 20 1000).bind fun t124 => (if t124 = true then ((spec_l00In.f ((rd_T80 l0 0).f5) 0 5000).bind fun t126 => (some t126)) else (some false))) else (some false)) = some r := H
     have A16 := Aside0.mk A160
     clear A160
     by_cases c17 : t122 = true
     ·subst c17
      have H1 : ((spec_l00In.f ((rd_T80 l0 0).f4) 20 1000).bind fun t124 => (if t124 = true then ((spec_l00In.f ((rd_T80 l0 0).f5) 0 5000).bind fun t126 => (some t126)) else (some false))) = some r := by rw [if_pos rfl] at H; exact H
      clear H
      have H := H1
      clear H1
      replace H := Option.bind_eq_some_iff.mp H
      obtain ⟨t124, A180, H⟩ := H
      replace H : (if t124 = true then ((spec_l00In.f ((rd_T80 l0 0).f5) 0 5000).bind fun t126 => (some t126)) else (some false)) = some r := H
      have A18 := Aside0.mk A180
      clear A180
      by_cases c19 : t124 = true
      ·subst c19
       have H1 : ((spec_l00In.f ((rd_T80 l0 0).f5) 0 5000).bind fun t126 => (some t126)) = some r := by rw [if_pos rfl] at H; exact H
       clear H
       have H := H1
       clear H1
       replace H := Option.bind_eq_some_iff.mp H
       obtain ⟨t126, A200, H⟩ := H
       replace H : (some t126) = some r := H
       have A20 := Aside0.mk A200
       clear A200
       obtain rfl := Option.some.inj H
       have p121 : 0 ≤ (0 : Int) := t12_
       have q121 : 0 < (l0.length : Int) := of_decide_eq_true t3_
       obtain ⟨ad121, e121, hx121_0, hx121_1, hx121_2, hx121_3, hx121_4, hx121_5⟩ := at_T80 HR0.out 0 p121 q121
       cases e121
       have qi121 : (0 < l0.length) = True := eq_true t12_
       (try rw [show ((0 : Int)).toNat = 0 from rfl] at hx121_0)
       (try rw [show 0 * 6 = 0 from rfl] at hx121_0)
       (try rw [Addr.add_zero'] at hx121_0)
       (try rw [show ((0 : Int)).toNat = 0 from rfl] at hx121_1)
       (try rw [show 0 * 6 = 0 from rfl] at hx121_1)
       (try rw [Addr.add_zero'] at hx121_1)
       (try rw [show ((0 : Int)).toNat = 0 from rfl] at hx121_2)
       (try rw [show 0 * 6 = 0 from rfl] at hx121_2)
       (try rw [Addr.add_zero'] at hx121_2)
       (try rw [show ((0 : Int)).toNat = 0 from rfl] at hx121_3)
       (try rw [show 0 * 6 = 0 from rfl] at hx121_3)
       (try rw [Addr.add_zero'] at hx121_3)
       (try rw [show ((0 : Int)).toNat = 0 from rfl] at hx121_4)
       (try rw [show 0 * 6 = 0 from rfl] at hx121_4)
       (try rw [Addr.add_zero'] at hx121_4)
       (try rw [show ((0 : Int)).toNat = 0 from rfl] at hx121_5)
       (try rw [show 0 * 6 = 0 from rfl] at hx121_5)
       (try rw [Addr.add_zero'] at hx121_5)
       replace hx121_0 := (HB.out.cell (World.block_lt_of_cell? w _ hx121_0)).trans hx121_0
       replace hx121_1 := (HB.out.cell (World.block_lt_of_cell? w _ hx121_1)).trans hx121_1
       replace hx121_2 := (HB.out.cell (World.block_lt_of_cell? w _ hx121_2)).trans hx121_2
       replace hx121_3 := (HB.out.cell (World.block_lt_of_cell? w _ hx121_3)).trans hx121_3
       replace hx121_4 := (HB.out.cell (World.block_lt_of_cell? w _ hx121_4)).trans hx121_4
       replace hx121_5 := (HB.out.cell (World.block_lt_of_cell? w _ hx121_5)).trans hx121_5
       replace p121 := eq_true p121
       replace q121 := eq_true q121
       go_wp2_with (first | ((with_reducible refine gate_callee (f := 64) rfl ?_); refine goesL_ (some 40) rfl rfl Try.func64 t8_ rfl #[.int .i64 ((rd_T80 l0 0).f3), .int .i64 1, .int .i64 10000] rfl t2_ ?_; (with_reducible refine (spec_l00In.calls ((rd_T80 l0 0).f3) 1 10000 true _ A16.out).mono ?_); rintro e w' ⟨rfl, ⟨nd, rfl⟩⟩; refine ⟨_, rfl, ?_⟩; have p123 : 0 ≤ (0 : Int) := t12_; have q123 : 0 < (l0.length : Int) := of_decide_eq_true t3_; obtain ⟨ad123, e123, hx123_0, hx123_1, hx123_2, hx123_3, hx123_4, hx123_5⟩ := at_T80 HR0.out 0 p123 q123; obtain rfl : ad121 = ad123 := (by injection e123); have qi123 : (0 < l0.length) = True := eq_true t12_; (try rw [show ((0 : Int)).toNat = 0 from rfl] at hx123_0); (try rw [show 0 * 6 = 0 from rfl] at hx123_0); (try rw [Addr.add_zero'] at hx123_0); (try rw [show ((0 : Int)).toNat = 0 from rfl] at hx123_1); (try rw [show 0 * 6 = 0 from rfl] at hx123_1); (try rw [Addr.add_zero'] at hx123_1); (try rw [show ((0 : Int)).toNat = 0 from rfl] at hx123_2); (try rw [show 0 * 6 = 0 from rfl] at hx123_2); (try rw [Addr.add_zero'] at hx123_2); (try rw [show ((0 : Int)).toNat = 0 from rfl] at hx123_3); (try rw [show 0 * 6 = 0 from rfl] at hx123_3); (try rw [Addr.add_zero'] at hx123_3); (try rw [show ((0 : Int)).toNat = 0 from rfl] at hx123_4); (try rw [show 0 * 6 = 0 from rfl] at hx123_4); (try rw [Addr.add_zero'] at hx123_4); (try rw [show ((0 : Int)).toNat = 0 from rfl] at hx123_5); (try rw [show 0 * 6 = 0 from rfl] at hx123_5); (try rw [Addr.add_zero'] at hx123_5); replace hx123_0 := (HB.out.cell (World.block_lt_of_cell? w _ hx123_0)).trans hx123_0; replace hx123_1 := (HB.out.cell (World.block_lt_of_cell? w _ hx123_1)).trans hx123_1; replace hx123_2 := (HB.out.cell (World.block_lt_of_cell? w _ hx123_2)).trans hx123_2; replace hx123_3 := (HB.out.cell (World.block_lt_of_cell? w _ hx123_3)).trans hx123_3; replace hx123_4 := (HB.out.cell (World.block_lt_of_cell? w _ hx123_4)).trans hx123_4; replace hx123_5 := (HB.out.cell (World.block_lt_of_cell? w _ hx123_5)).trans hx123_5; replace p123 := eq_true p123; replace q123 := eq_true q123) | (go_at_call 64; (with_reducible refine (spec_l00In.calls ((rd_T80 l0 0).f4) 20 1000 true _ A18.out).mono ?_); rintro e w' ⟨rfl, ⟨nd, rfl⟩⟩; have p125 : 0 ≤ (0 : Int) := t12_; have q125 : 0 < (l0.length : Int) := of_decide_eq_true t3_; obtain ⟨ad125, e125, hx125_0, hx125_1, hx125_2, hx125_3, hx125_4, hx125_5⟩ := at_T80 HR0.out 0 p125 q125; obtain rfl : ad121 = ad125 := (by injection e125); have qi125 : (0 < l0.length) = True := eq_true t12_; (try rw [show ((0 : Int)).toNat = 0 from rfl] at hx125_0); (try rw [show 0 * 6 = 0 from rfl] at hx125_0); (try rw [Addr.add_zero'] at hx125_0); (try rw [show ((0 : Int)).toNat = 0 from rfl] at hx125_1); (try rw [show 0 * 6 = 0 from rfl] at hx125_1); (try rw [Addr.add_zero'] at hx125_1); (try rw [show ((0 : Int)).toNat = 0 from rfl] at hx125_2); (try rw [show 0 * 6 = 0 from rfl] at hx125_2); (try rw [Addr.add_zero'] at hx125_2); (try rw [show ((0 : Int)).toNat = 0 from rfl] at hx125_3); (try rw [show 0 * 6 = 0 from rfl] at hx125_3); (try rw [Addr.add_zero'] at hx125_3); (try rw [show ((0 : Int)).toNat = 0 from rfl] at hx125_4); (try rw [show 0 * 6 = 0 from rfl] at hx125_4); (try rw [Addr.add_zero'] at hx125_4); (try rw [show ((0 : Int)).toNat = 0 from rfl] at hx125_5); (try rw [show 0 * 6 = 0 from rfl] at hx125_5); (try rw [Addr.add_zero'] at hx125_5); replace hx125_0 := (HB.out.cell (World.block_lt_of_cell? w _ hx125_0)).trans hx125_0; replace hx125_1 := (HB.out.cell (World.block_lt_of_cell? w _ hx125_1)).trans hx125_1; replace hx125_2 := (HB.out.cell (World.block_lt_of_cell? w _ hx125_2)).trans hx125_2; replace hx125_3 := (HB.out.cell (World.block_lt_of_cell? w _ hx125_3)).trans hx125_3; replace hx125_4 := (HB.out.cell (World.block_lt_of_cell? w _ hx125_4)).trans hx125_4; replace hx125_5 := (HB.out.cell (World.block_lt_of_cell? w _ hx125_5)).trans hx125_5; replace p125 := eq_true p125; replace q125 := eq_true q125) | (go_at_call 64; (with_reducible refine (spec_l00In.calls ((rd_T80 l0 0).f5) 0 5000 t126 _ A20.out).mono ?_); rintro e w' ⟨rfl, ⟨nd, rfl⟩⟩))
       go_ret
       exact ⟨by first | rfl | (rw [Int.tdiv_eq_ediv_of_nonneg t12_]; rfl) | (simp [errW_none, errW_some] <;> rfl) | (simp [*, errW_none, errW_some] <;> rfl), by repeat (first | (with_reducible first | exact HB.out | apply below_alloc | apply pw_below_drewN | apply below_drew1) | exact HB.out)⟩
      ·replace c19 := Bool.eq_false_iff.mpr c19
       subst c19
       have H1 : (some false) = some r := by rw [if_neg (show ¬ (false = true) by decide)] at H; exact H
       clear H
       have H := H1
       clear H1
       obtain rfl := Option.some.inj H
       have p121 : 0 ≤ (0 : Int) := t12_
       have q121 : 0 < (l0.length : Int) := of_decide_eq_true t3_
       obtain ⟨ad121, e121, hx121_0, hx121_1, hx121_2, hx121_3, hx121_4, hx121_5⟩ := at_T80 HR0.out 0 p121 q121
       cases e121
       have qi121 : (0 < l0.length) = True := eq_true t12_
       (try rw [show ((0 : Int)).toNat = 0 from rfl] at hx121_0)
       (try rw [show 0 * 6 = 0 from rfl] at hx121_0)
       (try rw [Addr.add_zero'] at hx121_0)
       (try rw [show ((0 : Int)).toNat = 0 from rfl] at hx121_1)
       (try rw [show 0 * 6 = 0 from rfl] at hx121_1)
       (try rw [Addr.add_zero'] at hx121_1)
       (try rw [show ((0 : Int)).toNat = 0 from rfl] at hx121_2)
       (try rw [show 0 * 6 = 0 from rfl] at hx121_2)
       (try rw [Addr.add_zero'] at hx121_2)
       (try rw [show ((0 : Int)).toNat = 0 from rfl] at hx121_3)
       (try rw [show 0 * 6 = 0 from rfl] at hx121_3)
       (try rw [Addr.add_zero'] at hx121_3)
       (try rw [show ((0 : Int)).toNat = 0 from rfl] at hx121_4)
       (try rw [show 0 * 6 = 0 from rfl] at hx121_4)
       (try rw [Addr.add_zero'] at hx121_4)
       (try rw [show ((0 : Int)).toNat = 0 from rfl] at hx121_5)
       (try rw [show 0 * 6 = 0 from rfl] at hx121_5)
       (try rw [Addr.add_zero'] at hx121_5)
       replace hx121_0 := (HB.out.cell (World.block_lt_of_cell? w _ hx121_0)).trans hx121_0
       replace hx121_1 := (HB.out.cell (World.block_lt_of_cell? w _ hx121_1)).trans hx121_1
       replace hx121_2 := (HB.out.cell (World.block_lt_of_cell? w _ hx121_2)).trans hx121_2
       replace hx121_3 := (HB.out.cell (World.block_lt_of_cell? w _ hx121_3)).trans hx121_3
       replace hx121_4 := (HB.out.cell (World.block_lt_of_cell? w _ hx121_4)).trans hx121_4
       replace hx121_5 := (HB.out.cell (World.block_lt_of_cell? w _ hx121_5)).trans hx121_5
       replace p121 := eq_true p121
       replace q121 := eq_true q121
       go_wp2_with (first | ((with_reducible refine gate_callee (f := 64) rfl ?_); refine goesL_ (some 40) rfl rfl Try.func64 t8_ rfl #[.int .i64 ((rd_T80 l0 0).f3), .int .i64 1, .int .i64 10000] rfl t2_ ?_; (with_reducible refine (spec_l00In.calls ((rd_T80 l0 0).f3) 1 10000 true _ A16.out).mono ?_); rintro e w' ⟨rfl, ⟨nd, rfl⟩⟩; refine ⟨_, rfl, ?_⟩; have p123 : 0 ≤ (0 : Int) := t12_; have q123 : 0 < (l0.length : Int) := of_decide_eq_true t3_; obtain ⟨ad123, e123, hx123_0, hx123_1, hx123_2, hx123_3, hx123_4, hx123_5⟩ := at_T80 HR0.out 0 p123 q123; obtain rfl : ad121 = ad123 := (by injection e123); have qi123 : (0 < l0.length) = True := eq_true t12_; (try rw [show ((0 : Int)).toNat = 0 from rfl] at hx123_0); (try rw [show 0 * 6 = 0 from rfl] at hx123_0); (try rw [Addr.add_zero'] at hx123_0); (try rw [show ((0 : Int)).toNat = 0 from rfl] at hx123_1); (try rw [show 0 * 6 = 0 from rfl] at hx123_1); (try rw [Addr.add_zero'] at hx123_1); (try rw [show ((0 : Int)).toNat = 0 from rfl] at hx123_2); (try rw [show 0 * 6 = 0 from rfl] at hx123_2); (try rw [Addr.add_zero'] at hx123_2); (try rw [show ((0 : Int)).toNat = 0 from rfl] at hx123_3); (try rw [show 0 * 6 = 0 from rfl] at hx123_3); (try rw [Addr.add_zero'] at hx123_3); (try rw [show ((0 : Int)).toNat = 0 from rfl] at hx123_4); (try rw [show 0 * 6 = 0 from rfl] at hx123_4); (try rw [Addr.add_zero'] at hx123_4); (try rw [show ((0 : Int)).toNat = 0 from rfl] at hx123_5); (try rw [show 0 * 6 = 0 from rfl] at hx123_5); (try rw [Addr.add_zero'] at hx123_5); replace hx123_0 := (HB.out.cell (World.block_lt_of_cell? w _ hx123_0)).trans hx123_0; replace hx123_1 := (HB.out.cell (World.block_lt_of_cell? w _ hx123_1)).trans hx123_1; replace hx123_2 := (HB.out.cell (World.block_lt_of_cell? w _ hx123_2)).trans hx123_2; replace hx123_3 := (HB.out.cell (World.block_lt_of_cell? w _ hx123_3)).trans hx123_3; replace hx123_4 := (HB.out.cell (World.block_lt_of_cell? w _ hx123_4)).trans hx123_4; replace hx123_5 := (HB.out.cell (World.block_lt_of_cell? w _ hx123_5)).trans hx123_5; replace p123 := eq_true p123; replace q123 := eq_true q123) | (go_at_call 64; (with_reducible refine (spec_l00In.calls ((rd_T80 l0 0).f4) 20 1000 false _ A18.out).mono ?_); rintro e w' ⟨rfl, ⟨nd, rfl⟩⟩))
       go_ret
       exact ⟨by first | rfl | (rw [Int.tdiv_eq_ediv_of_nonneg t12_]; rfl) | (simp [errW_none, errW_some] <;> rfl) | (simp [*, errW_none, errW_some] <;> rfl), by repeat (first | (with_reducible first | exact HB.out | apply below_alloc | apply pw_below_drewN | apply below_drew1) | exact HB.out)⟩
     ·replace c17 := Bool.eq_false_iff.mpr c17
      subst c17
      have H1 : (some false) = some r := by rw [if_neg (show ¬ (false = true) by decide)] at H; exact H
      clear H
      have H := H1
      clear H1
      obtain rfl := Option.some.inj H
      have p121 : 0 ≤ (0 : Int) := t12_
      have q121 : 0 < (l0.length : Int) := of_decide_eq_true t3_
      obtain ⟨ad121, e121, hx121_0, hx121_1, hx121_2, hx121_3, hx121_4, hx121_5⟩ := at_T80 HR0.out 0 p121 q121
      cases e121
      have qi121 : (0 < l0.length) = True := eq_true t12_
      (try rw [show ((0 : Int)).toNat = 0 from rfl] at hx121_0)
      (try rw [show 0 * 6 = 0 from rfl] at hx121_0)
      (try rw [Addr.add_zero'] at hx121_0)
      (try rw [show ((0 : Int)).toNat = 0 from rfl] at hx121_1)
      (try rw [show 0 * 6 = 0 from rfl] at hx121_1)
      (try rw [Addr.add_zero'] at hx121_1)
      (try rw [show ((0 : Int)).toNat = 0 from rfl] at hx121_2)
      (try rw [show 0 * 6 = 0 from rfl] at hx121_2)
      (try rw [Addr.add_zero'] at hx121_2)
      (try rw [show ((0 : Int)).toNat = 0 from rfl] at hx121_3)
      (try rw [show 0 * 6 = 0 from rfl] at hx121_3)
      (try rw [Addr.add_zero'] at hx121_3)
      (try rw [show ((0 : Int)).toNat = 0 from rfl] at hx121_4)
      (try rw [show 0 * 6 = 0 from rfl] at hx121_4)
      (try rw [Addr.add_zero'] at hx121_4)
      (try rw [show ((0 : Int)).toNat = 0 from rfl] at hx121_5)
      (try rw [show 0 * 6 = 0 from rfl] at hx121_5)
      (try rw [Addr.add_zero'] at hx121_5)
      replace hx121_0 := (HB.out.cell (World.block_lt_of_cell? w _ hx121_0)).trans hx121_0
      replace hx121_1 := (HB.out.cell (World.block_lt_of_cell? w _ hx121_1)).trans hx121_1
      replace hx121_2 := (HB.out.cell (World.block_lt_of_cell? w _ hx121_2)).trans hx121_2
      replace hx121_3 := (HB.out.cell (World.block_lt_of_cell? w _ hx121_3)).trans hx121_3
      replace hx121_4 := (HB.out.cell (World.block_lt_of_cell? w _ hx121_4)).trans hx121_4
      replace hx121_5 := (HB.out.cell (World.block_lt_of_cell? w _ hx121_5)).trans hx121_5
      replace p121 := eq_true p121
      replace q121 := eq_true q121
      go_wp2_with (first | ((with_reducible refine gate_callee (f := 64) rfl ?_); refine goesL_ (some 40) rfl rfl Try.func64 t8_ rfl #[.int .i64 ((rd_T80 l0 0).f3), .int .i64 1, .int .i64 10000] rfl t2_ ?_; (with_reducible refine (spec_l00In.calls ((rd_T80 l0 0).f3) 1 10000 false _ A16.out).mono ?_); rintro e w' ⟨rfl, ⟨nd, rfl⟩⟩; refine ⟨_, rfl, ?_⟩))
      go_ret
      exact ⟨by first | rfl | (rw [Int.tdiv_eq_ediv_of_nonneg t12_]; rfl) | (simp [errW_none, errW_some] <;> rfl) | (simp [*, errW_none, errW_some] <;> rfl), by repeat (first | (with_reducible first | exact HB.out | apply below_alloc | apply pw_below_drewN | apply below_drew1) | exact HB.out)⟩
    ·rw [if_neg c15] at H
     exact absurd H t36_

end Go.Proofs.Ytjelfhmgbhidnaa.PFnExactValidValves
