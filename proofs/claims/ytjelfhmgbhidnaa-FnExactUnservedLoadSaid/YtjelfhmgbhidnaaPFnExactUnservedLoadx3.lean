-- written by wip/xprint.py, a program of this session, for this claim; not trusted: Lean checks it.
import Derived.Test.YtjelfhmgbhidnaaPFnExactUnservedLoadx0
import Derived.Test.YtjelfhmgbhidnaaPFnExactUnservedLoadx2
namespace Go.Proofs.Ytjelfhmgbhidnaa.PFnExactUnservedLoad
open Go.RowKit Go.Proofs.YtjelfhmgbhidnaaW.PrintWords Go.Proofs.YtjelfhmgbhidnaaW.PrintLast Go.Proofs.YtjelfhmgbhidnaaW.PrintMore
attribute [local go_sem] leq_less_ max2_int min2_int max_two min_two max_three min_three max_four min_four   -- for this text's walks alone
set_option linter.unusedVariables false
set_option linter.unusedSimpArgs false

/-! ### spec_l03Ok: function 105 -/
def spec_l03Ok.j0 : Nat → List (S80) → Bool → Option (Bool)
 | 0, _, _ => none
 | k + 1, x0, x35 => if x35 = true then (some false) else (if 0 < (x0.length : Int) then ((spec_l00In.f ((rd_T80 x0 0).f3) 1 10000).bind fun t158 => (if t158 = true then ((spec_l00In.f ((rd_T80 x0 0).f4) 20 1000).bind fun t160 => (if t160 = true then ((spec_l00In.f ((rd_T80 x0 0).f5) 0 5000).bind fun t162 => (some t162)) else (some false))) else (some false))) else (none))
def spec_l03Ok.f (k : Nat) (l0 : List (S80)) : Option (Bool) := if 0 < (l0.length : Int) then ((spec_l01Name.f k ((rd_T80 l0 0).f0)).bind fun t150 => (if t150 = true then ((spec_l00In.f ((rd_T80 l0 0).f1) 0 15).bind fun t152 => (if t152 = true then ((spec_l00In.f ((rd_T80 l0 0).f2) 0 15).bind fun t154 => (if t154 = true then (spec_l03Ok.j0 k l0 (((rd_T80 l0 0).f1) == ((rd_T80 l0 0).f2))) else (spec_l03Ok.j0 k l0 true))) else (spec_l03Ok.j0 k l0 true))) else (spec_l03Ok.j0 k l0 true))) else (none)
theorem spec_l03Ok.mono_l : ∀ k, (∀ y0 y1, LeO (spec_l03Ok.j0 k y0 y1) (spec_l03Ok.j0 (k + 1) y0 y1))
 | 0 => fun _ _ r h => by simp [spec_l03Ok.j0] at h
 | k + 1 => by
  have ih0 := spec_l03Ok.mono_l k
  ·intro y0 y1
   unfold spec_l03Ok.j0
   repeat' first
   | (with_reducible exact ih0 _ _)
   | (with_reducible exact spec_l01Name.mono _ _)
   | (with_reducible exact LeO.refl _)
   | (with_reducible exact LeO.none _)
   | (with_reducible refine LeO.ite ?_ ?_)
   | (with_reducible refine LeO.bind ?_ (fun _ => ?_))
   | exact ih0 _ _
   | exact spec_l01Name.mono _ _
   | exact LeO.none _
   | refine LeO.ite ?_ ?_
   | refine LeO.bind ?_ (fun _ => ?_)
theorem spec_l03Ok.mono : ∀ a0 k, LeO (spec_l03Ok.f k a0) (spec_l03Ok.f (k + 1) a0) := by
 intro a0 k
 have ih0 := spec_l03Ok.mono_l k
 unfold spec_l03Ok.f
 repeat' first
   | (with_reducible exact ih0 _ _)
   | (with_reducible exact spec_l01Name.mono _ _)
   | (with_reducible exact LeO.refl _)
   | (with_reducible exact LeO.none _)
   | (with_reducible refine LeO.ite ?_ ?_)
   | (with_reducible refine LeO.bind ?_ (fun _ => ?_))
   | exact ih0 _ _
   | exact spec_l01Name.mono _ _
   | exact LeO.none _
   | refine LeO.ite ?_ ?_
   | refine LeO.bind ?_ (fun _ => ?_)
def spec_l03Ok.T1 : Bool × List (List Nat × List Nat) := (true, [([], []), ([0], [0]), ([1], [1]), ([2], [2]), ([3], [3]), ([4], [4]), ([5, 4], [5]), ([6], [6]), ([7, 6], [6, 7]), ([8, 6], [6, 8]), ([9, 6], [6, 9]), ([10, 6, 6], [6, 10]), ([11, 6], [6, 11]), ([6, 12], [6, 12]), ([13, 11], [13]), ([14], [14]), ([15, 14], [14, 15]), ([16, 14], [14, 16]), ([17, 14], [14, 17]), ([18, 14, 14], [14, 18]), ([19, 14], [14, 19]), ([14, 20], [14, 20]), ([21, 19], [21]), ([22], [22]), ([23, 22], [22, 23]), ([24, 22], [22, 24]), ([25, 22], [22, 25]), ([22], [22]), ([27, 22], [22, 27]), ([28, 22], [22, 28]), ([29, 22], [22, 29]), ([26, 30, 22], [22, 26, 30]), ([22, 31], [22, 31])])
def spec_l03Ok.B1 : List Nat := [0, 1, 3, 7, 15, 31, 63, 127, 255, 511, 1023, 2047, 4095, 8191, 16383, 32767, 65535, 131071, 262143, 524287, 1048575, 2097151, 4194303, 8388607, 16777215, 33554431, 67108863, 8388607, 142606335, 411041791, 947912703, 2147483647, 4294967295]
theorem spec_l03Ok.tab1 : rtab .any (opsOf Try.f105 1) = spec_l03Ok.T1 := by kernel_rfl
theorem spec_l03Ok.bits1 : waitsOk spec_l03Ok.T1.2 spec_l03Ok.B1 = true := by kernel_rfl
set_option maxHeartbeats 8000000 in
set_option maxRecDepth 100000 in
theorem spec_l03Ok.calls (k : Nat) (A0 : Option Addr) (c0 : Nat) (l0 : List (S80)) (r : Bool) (w : World) (hr0 : Kd.C k80 w A0 l0.length l0) (hc0 : l0.length ≤ c0) (h : spec_l03Ok.f k l0 = some r) :
  Calls Try.prog 105 #[.pointer A0] w fun e w' => e = .returned (.bool r) ∧ Below w.heap.size w w' := by
 have HR0 := Aside0.mk hr0
 have HC0 := Aside0.mk hc0
 clear hr0 hc0
 have HB := Aside0.mk (Below.refl w.heap.size w)
 have H : (if 0 < (l0.length : Int) then ((spec_l01Name.f k ((rd_T80 l0 0).f0)).bind fun t150 => (if t150 = true then ((spec_l00In.f ((rd_T80 l0 0).f1) 0 15).bind fun t152 => (if t152 = true then ((spec_l00In.f ((rd_T80 l0 0).f2) 0 15).bind fun t154 => (if t154 = true then (spec_l03Ok.j0 k l0 (((rd_T80 l0 0).f1) == ((rd_T80 l0 0).f2))) else (spec_l03Ok.j0 k l0 true))) else (spec_l03Ok.j0 k l0 true))) else (spec_l03Ok.j0 k l0 true))) else (none)) = some r := h
 clear h
 have HC2 := Aside0.mk H
 clear H
 go_enter Try.func105, Try.ntmps105
 go_upto_region 1 with (fail)
 go_cut [35] (fun v35 wc => ∃ (kq : Nat) (x35_1 : Bool), v35 = .bool x35_1 ∧ Aside0 (spec_l03Ok.j0 kq l0 x35_1 = some r) ∧ Aside0 (kq ≤ k) ∧ Aside0 (Below w.heap.size w wc))
 case first =>
  have H := HC2.out
  clear HC2
  by_cases c3 : 0 < (l0.length : Int)
  ·rw [if_pos c3] at H
   have c3b0 : decide (0 < (l0.length : Int)) = true := decide_eq_true c3
   have c3b1 : decide (0 < l0.length) = true := decide_eq_true t11_
   clear c3
   (first | rw [c3b0] | (simp only [i64_w, i32_w]; rw [c3b0]) | skip)
   replace H := Option.bind_eq_some_iff.mp H
   obtain ⟨t150, A40, H⟩ := H
   replace H : (if t150 = true then ((spec_l00In.f ((rd_T80 l0 0).f1) 0 15).bind fun t152 => (if t152 = true then ((spec_l00In.f ((rd_T80 l0 0).f2) 0 15).bind fun t154 => (if t154 = true then (spec_l03Ok.j0 k l0 (((rd_T80 l0 0).f1) == ((rd_T80 l0 0).f2))) else (spec_l03Ok.j0 k l0 true))) else (spec_l03Ok.j0 k l0 true))) else (spec_l03Ok.j0 k l0 true)) = some r := H
   have A4 := Aside0.mk A40
   clear A40
   by_cases c5 : t150 = true
   ·subst c5
    have H1 : ((spec_l00In.f ((rd_T80 l0 0).f1) 0 15).bind fun t152 => (if t152 = true then ((spec_l00In.f ((rd_T80 l0 0).f2) 0 15).bind fun t154 => (if t154 = true then (spec_l03Ok.j0 k l0 (((rd_T80 l0 0).f1) == ((rd_T80 l0 0).f2))) else (spec_l03Ok.j0 k l0 true))) else (spec_l03Ok.j0 k l0 true))) = some r := by rw [if_pos rfl] at H; exact H
    clear H
    have H := H1
    clear H1
    replace H := Option.bind_eq_some_iff.mp H
    obtain ⟨t152, A60, H⟩ := H
    replace H : (if t152 = true then ((spec_l00In.f ((rd_T80 l0 0).f2) 0 15).bind fun t154 => (if t154 = true then (spec_l03Ok.j0 k l0 (((rd_T80 l0 0).f1) == ((rd_T80 l0 0).f2))) else (spec_l03Ok.j0 k l0 true))) else (spec_l03Ok.j0 k l0 true)) = some r := H
    have A6 := Aside0.mk A60
    clear A60
    by_cases c7 : t152 = true
    ·subst c7
     have H1 : ((spec_l00In.f ((rd_T80 l0 0).f2) 0 15).bind fun t154 => (if t154 = true then (spec_l03Ok.j0 k l0 (((rd_T80 l0 0).f1) == ((rd_T80 l0 0).f2))) else (spec_l03Ok.j0 k l0 true))) = some r := by rw [if_pos rfl] at H; exact H
     clear H
     have H := H1
     clear H1
     replace H := Option.bind_eq_some_iff.mp H
     obtain ⟨t154, A80, H⟩ := H
     replace H : (if t154 = true then (spec_l03Ok.j0 k l0 (((rd_T80 l0 0).f1) == ((rd_T80 l0 0).f2))) else (spec_l03Ok.j0 k l0 true)) = some r := H
     have A8 := Aside0.mk A80
     clear A80
     by_cases c9 : t154 = true
     ·subst c9
      have H1 : (spec_l03Ok.j0 k l0 (((rd_T80 l0 0).f1) == ((rd_T80 l0 0).f2))) = some r := by rw [if_pos rfl] at H; exact H
      clear H
      have H := H1
      clear H1
      have H' := Aside0.mk H
      clear H
      try go_wp2
      have n0_ := Aside0.mk (below_drew1 HB.out)
      clear HB
      have HB := n0_
      clear n0_
      have p149 : 0 ≤ (0 : Int) := t11_
      have q149 : 0 < (l0.length : Int) := of_decide_eq_true t3_
      obtain ⟨ad149, e149, hx149_0, hx149_1, hx149_2, hx149_3, hx149_4, hx149_5⟩ := at_T80 HR0.out 0 p149 q149
      have hw149_5 := hx149_5
      (try rw [show ((0 : Int)).toNat = 0 from rfl] at hw149_5)
      (try rw [show 0 * 6 = 0 from rfl] at hw149_5)
      (try rw [Addr.add_zero'] at hw149_5)
      have hw149_4 := hx149_4
      (try rw [show ((0 : Int)).toNat = 0 from rfl] at hw149_4)
      (try rw [show 0 * 6 = 0 from rfl] at hw149_4)
      (try rw [Addr.add_zero'] at hw149_4)
      have hw149_3 := hx149_3
      (try rw [show ((0 : Int)).toNat = 0 from rfl] at hw149_3)
      (try rw [show 0 * 6 = 0 from rfl] at hw149_3)
      (try rw [Addr.add_zero'] at hw149_3)
      have hw149_2 := hx149_2
      (try rw [show ((0 : Int)).toNat = 0 from rfl] at hw149_2)
      (try rw [show 0 * 6 = 0 from rfl] at hw149_2)
      (try rw [Addr.add_zero'] at hw149_2)
      have hw149_1 := hx149_1
      (try rw [show ((0 : Int)).toNat = 0 from rfl] at hw149_1)
      (try rw [show 0 * 6 = 0 from rfl] at hw149_1)
      (try rw [Addr.add_zero'] at hw149_1)
      have hw149_0 := hx149_0
      (try rw [show ((0 : Int)).toNat = 0 from rfl] at hw149_0)
      (try rw [show 0 * 6 = 0 from rfl] at hw149_0)
      (try rw [Addr.add_zero'] at hw149_0)
      cases e149
      have qi149 : (0 < l0.length) = True := eq_true t11_
      (try rw [show ((0 : Int)).toNat = 0 from rfl] at hx149_0)
      (try rw [show 0 * 6 = 0 from rfl] at hx149_0)
      (try rw [Addr.add_zero'] at hx149_0)
      (try rw [show ((0 : Int)).toNat = 0 from rfl] at hx149_1)
      (try rw [show 0 * 6 = 0 from rfl] at hx149_1)
      (try rw [Addr.add_zero'] at hx149_1)
      (try rw [show ((0 : Int)).toNat = 0 from rfl] at hx149_2)
      (try rw [show 0 * 6 = 0 from rfl] at hx149_2)
      (try rw [Addr.add_zero'] at hx149_2)
      (try rw [show ((0 : Int)).toNat = 0 from rfl] at hx149_3)
      (try rw [show 0 * 6 = 0 from rfl] at hx149_3)
      (try rw [Addr.add_zero'] at hx149_3)
      (try rw [show ((0 : Int)).toNat = 0 from rfl] at hx149_4)
      (try rw [show 0 * 6 = 0 from rfl] at hx149_4)
      (try rw [Addr.add_zero'] at hx149_4)
      (try rw [show ((0 : Int)).toNat = 0 from rfl] at hx149_5)
      (try rw [show 0 * 6 = 0 from rfl] at hx149_5)
      (try rw [Addr.add_zero'] at hx149_5)
      replace hx149_0 := (HB.out.cell (World.block_lt_of_cell? w _ hx149_0)).trans hx149_0
      replace hx149_1 := (HB.out.cell (World.block_lt_of_cell? w _ hx149_1)).trans hx149_1
      replace hx149_2 := (HB.out.cell (World.block_lt_of_cell? w _ hx149_2)).trans hx149_2
      replace hx149_3 := (HB.out.cell (World.block_lt_of_cell? w _ hx149_3)).trans hx149_3
      replace hx149_4 := (HB.out.cell (World.block_lt_of_cell? w _ hx149_4)).trans hx149_4
      replace hx149_5 := (HB.out.cell (World.block_lt_of_cell? w _ hx149_5)).trans hx149_5
      replace p149 := eq_true p149
      replace q149 := eq_true q149
      have p151 : 0 ≤ (0 : Int) := t11_
      have q151 : 0 < (l0.length : Int) := of_decide_eq_true t3_
      obtain ⟨ad151, e151, hx151_0, hx151_1, hx151_2, hx151_3, hx151_4, hx151_5⟩ := at_T80 HR0.out 0 p151 q151
      have hw151_5 := hx151_5
      (try rw [show ((0 : Int)).toNat = 0 from rfl] at hw151_5)
      (try rw [show 0 * 6 = 0 from rfl] at hw151_5)
      (try rw [Addr.add_zero'] at hw151_5)
      have hw151_4 := hx151_4
      (try rw [show ((0 : Int)).toNat = 0 from rfl] at hw151_4)
      (try rw [show 0 * 6 = 0 from rfl] at hw151_4)
      (try rw [Addr.add_zero'] at hw151_4)
      have hw151_3 := hx151_3
      (try rw [show ((0 : Int)).toNat = 0 from rfl] at hw151_3)
      (try rw [show 0 * 6 = 0 from rfl] at hw151_3)
      (try rw [Addr.add_zero'] at hw151_3)
      have hw151_2 := hx151_2
      (try rw [show ((0 : Int)).toNat = 0 from rfl] at hw151_2)
      (try rw [show 0 * 6 = 0 from rfl] at hw151_2)
      (try rw [Addr.add_zero'] at hw151_2)
      have hw151_1 := hx151_1
      (try rw [show ((0 : Int)).toNat = 0 from rfl] at hw151_1)
      (try rw [show 0 * 6 = 0 from rfl] at hw151_1)
      (try rw [Addr.add_zero'] at hw151_1)
      have hw151_0 := hx151_0
      (try rw [show ((0 : Int)).toNat = 0 from rfl] at hw151_0)
      (try rw [show 0 * 6 = 0 from rfl] at hw151_0)
      (try rw [Addr.add_zero'] at hw151_0)
      obtain rfl : ad149 = ad151 := (by injection e151)
      have qi151 : (0 < l0.length) = True := eq_true t11_
      (try rw [show ((0 : Int)).toNat = 0 from rfl] at hx151_0)
      (try rw [show 0 * 6 = 0 from rfl] at hx151_0)
      (try rw [Addr.add_zero'] at hx151_0)
      (try rw [show ((0 : Int)).toNat = 0 from rfl] at hx151_1)
      (try rw [show 0 * 6 = 0 from rfl] at hx151_1)
      (try rw [Addr.add_zero'] at hx151_1)
      (try rw [show ((0 : Int)).toNat = 0 from rfl] at hx151_2)
      (try rw [show 0 * 6 = 0 from rfl] at hx151_2)
      (try rw [Addr.add_zero'] at hx151_2)
      (try rw [show ((0 : Int)).toNat = 0 from rfl] at hx151_3)
      (try rw [show 0 * 6 = 0 from rfl] at hx151_3)
      (try rw [Addr.add_zero'] at hx151_3)
      (try rw [show ((0 : Int)).toNat = 0 from rfl] at hx151_4)
      (try rw [show 0 * 6 = 0 from rfl] at hx151_4)
      (try rw [Addr.add_zero'] at hx151_4)
      (try rw [show ((0 : Int)).toNat = 0 from rfl] at hx151_5)
      (try rw [show 0 * 6 = 0 from rfl] at hx151_5)
      (try rw [Addr.add_zero'] at hx151_5)
      replace hx151_0 := (HB.out.cell (World.block_lt_of_cell? w _ hx151_0)).trans hx151_0
      replace hx151_1 := (HB.out.cell (World.block_lt_of_cell? w _ hx151_1)).trans hx151_1
      replace hx151_2 := (HB.out.cell (World.block_lt_of_cell? w _ hx151_2)).trans hx151_2
      replace hx151_3 := (HB.out.cell (World.block_lt_of_cell? w _ hx151_3)).trans hx151_3
      replace hx151_4 := (HB.out.cell (World.block_lt_of_cell? w _ hx151_4)).trans hx151_4
      replace hx151_5 := (HB.out.cell (World.block_lt_of_cell? w _ hx151_5)).trans hx151_5
      replace p151 := eq_true p151
      replace q151 := eq_true q151
      have p153 : 0 ≤ (0 : Int) := t11_
      have q153 : 0 < (l0.length : Int) := of_decide_eq_true t3_
      obtain ⟨ad153, e153, hx153_0, hx153_1, hx153_2, hx153_3, hx153_4, hx153_5⟩ := at_T80 HR0.out 0 p153 q153
      have hw153_5 := hx153_5
      (try rw [show ((0 : Int)).toNat = 0 from rfl] at hw153_5)
      (try rw [show 0 * 6 = 0 from rfl] at hw153_5)
      (try rw [Addr.add_zero'] at hw153_5)
      have hw153_4 := hx153_4
      (try rw [show ((0 : Int)).toNat = 0 from rfl] at hw153_4)
      (try rw [show 0 * 6 = 0 from rfl] at hw153_4)
      (try rw [Addr.add_zero'] at hw153_4)
      have hw153_3 := hx153_3
      (try rw [show ((0 : Int)).toNat = 0 from rfl] at hw153_3)
      (try rw [show 0 * 6 = 0 from rfl] at hw153_3)
      (try rw [Addr.add_zero'] at hw153_3)
      have hw153_2 := hx153_2
      (try rw [show ((0 : Int)).toNat = 0 from rfl] at hw153_2)
      (try rw [show 0 * 6 = 0 from rfl] at hw153_2)
      (try rw [Addr.add_zero'] at hw153_2)
      have hw153_1 := hx153_1
      (try rw [show ((0 : Int)).toNat = 0 from rfl] at hw153_1)
      (try rw [show 0 * 6 = 0 from rfl] at hw153_1)
      (try rw [Addr.add_zero'] at hw153_1)
      have hw153_0 := hx153_0
      (try rw [show ((0 : Int)).toNat = 0 from rfl] at hw153_0)
      (try rw [show 0 * 6 = 0 from rfl] at hw153_0)
      (try rw [Addr.add_zero'] at hw153_0)
      obtain rfl : ad149 = ad153 := (by injection e153)
      have qi153 : (0 < l0.length) = True := eq_true t11_
      (try rw [show ((0 : Int)).toNat = 0 from rfl] at hx153_0)
      (try rw [show 0 * 6 = 0 from rfl] at hx153_0)
      (try rw [Addr.add_zero'] at hx153_0)
      (try rw [show ((0 : Int)).toNat = 0 from rfl] at hx153_1)
      (try rw [show 0 * 6 = 0 from rfl] at hx153_1)
      (try rw [Addr.add_zero'] at hx153_1)
      (try rw [show ((0 : Int)).toNat = 0 from rfl] at hx153_2)
      (try rw [show 0 * 6 = 0 from rfl] at hx153_2)
      (try rw [Addr.add_zero'] at hx153_2)
      (try rw [show ((0 : Int)).toNat = 0 from rfl] at hx153_3)
      (try rw [show 0 * 6 = 0 from rfl] at hx153_3)
      (try rw [Addr.add_zero'] at hx153_3)
      (try rw [show ((0 : Int)).toNat = 0 from rfl] at hx153_4)
      (try rw [show 0 * 6 = 0 from rfl] at hx153_4)
      (try rw [Addr.add_zero'] at hx153_4)
      (try rw [show ((0 : Int)).toNat = 0 from rfl] at hx153_5)
      (try rw [show 0 * 6 = 0 from rfl] at hx153_5)
      (try rw [Addr.add_zero'] at hx153_5)
      replace hx153_0 := (HB.out.cell (World.block_lt_of_cell? w _ hx153_0)).trans hx153_0
      replace hx153_1 := (HB.out.cell (World.block_lt_of_cell? w _ hx153_1)).trans hx153_1
      replace hx153_2 := (HB.out.cell (World.block_lt_of_cell? w _ hx153_2)).trans hx153_2
      replace hx153_3 := (HB.out.cell (World.block_lt_of_cell? w _ hx153_3)).trans hx153_3
      replace hx153_4 := (HB.out.cell (World.block_lt_of_cell? w _ hx153_4)).trans hx153_4
      replace hx153_5 := (HB.out.cell (World.block_lt_of_cell? w _ hx153_5)).trans hx153_5
      replace p153 := eq_true p153
      replace q153 := eq_true q153
      have p155 : 0 ≤ (0 : Int) := t11_
      have q155 : 0 < (l0.length : Int) := of_decide_eq_true t3_
      obtain ⟨ad155, e155, hx155_0, hx155_1, hx155_2, hx155_3, hx155_4, hx155_5⟩ := at_T80 HR0.out 0 p155 q155
      have hw155_5 := hx155_5
      (try rw [show ((0 : Int)).toNat = 0 from rfl] at hw155_5)
      (try rw [show 0 * 6 = 0 from rfl] at hw155_5)
      (try rw [Addr.add_zero'] at hw155_5)
      have hw155_4 := hx155_4
      (try rw [show ((0 : Int)).toNat = 0 from rfl] at hw155_4)
      (try rw [show 0 * 6 = 0 from rfl] at hw155_4)
      (try rw [Addr.add_zero'] at hw155_4)
      have hw155_3 := hx155_3
      (try rw [show ((0 : Int)).toNat = 0 from rfl] at hw155_3)
      (try rw [show 0 * 6 = 0 from rfl] at hw155_3)
      (try rw [Addr.add_zero'] at hw155_3)
      have hw155_2 := hx155_2
      (try rw [show ((0 : Int)).toNat = 0 from rfl] at hw155_2)
      (try rw [show 0 * 6 = 0 from rfl] at hw155_2)
      (try rw [Addr.add_zero'] at hw155_2)
      have hw155_1 := hx155_1
      (try rw [show ((0 : Int)).toNat = 0 from rfl] at hw155_1)
      (try rw [show 0 * 6 = 0 from rfl] at hw155_1)
      (try rw [Addr.add_zero'] at hw155_1)
      have hw155_0 := hx155_0
      (try rw [show ((0 : Int)).toNat = 0 from rfl] at hw155_0)
      (try rw [show 0 * 6 = 0 from rfl] at hw155_0)
      (try rw [Addr.add_zero'] at hw155_0)
      obtain rfl : ad149 = ad155 := (by injection e155)
      have qi155 : (0 < l0.length) = True := eq_true t11_
      (try rw [show ((0 : Int)).toNat = 0 from rfl] at hx155_0)
      (try rw [show 0 * 6 = 0 from rfl] at hx155_0)
      (try rw [Addr.add_zero'] at hx155_0)
      (try rw [show ((0 : Int)).toNat = 0 from rfl] at hx155_1)
      (try rw [show 0 * 6 = 0 from rfl] at hx155_1)
      (try rw [Addr.add_zero'] at hx155_1)
      (try rw [show ((0 : Int)).toNat = 0 from rfl] at hx155_2)
      (try rw [show 0 * 6 = 0 from rfl] at hx155_2)
      (try rw [Addr.add_zero'] at hx155_2)
      (try rw [show ((0 : Int)).toNat = 0 from rfl] at hx155_3)
      (try rw [show 0 * 6 = 0 from rfl] at hx155_3)
      (try rw [Addr.add_zero'] at hx155_3)
      (try rw [show ((0 : Int)).toNat = 0 from rfl] at hx155_4)
      (try rw [show 0 * 6 = 0 from rfl] at hx155_4)
      (try rw [Addr.add_zero'] at hx155_4)
      (try rw [show ((0 : Int)).toNat = 0 from rfl] at hx155_5)
      (try rw [show 0 * 6 = 0 from rfl] at hx155_5)
      (try rw [Addr.add_zero'] at hx155_5)
      replace hx155_0 := (HB.out.cell (World.block_lt_of_cell? w _ hx155_0)).trans hx155_0
      replace hx155_1 := (HB.out.cell (World.block_lt_of_cell? w _ hx155_1)).trans hx155_1
      replace hx155_2 := (HB.out.cell (World.block_lt_of_cell? w _ hx155_2)).trans hx155_2
      replace hx155_3 := (HB.out.cell (World.block_lt_of_cell? w _ hx155_3)).trans hx155_3
      replace hx155_4 := (HB.out.cell (World.block_lt_of_cell? w _ hx155_4)).trans hx155_4
      replace hx155_5 := (HB.out.cell (World.block_lt_of_cell? w _ hx155_5)).trans hx155_5
      replace p155 := eq_true p155
      replace q155 := eq_true q155
      have p156 : 0 ≤ (0 : Int) := t11_
      have q156 : 0 < (l0.length : Int) := of_decide_eq_true t3_
      obtain ⟨ad156, e156, hx156_0, hx156_1, hx156_2, hx156_3, hx156_4, hx156_5⟩ := at_T80 HR0.out 0 p156 q156
      have hw156_5 := hx156_5
      (try rw [show ((0 : Int)).toNat = 0 from rfl] at hw156_5)
      (try rw [show 0 * 6 = 0 from rfl] at hw156_5)
      (try rw [Addr.add_zero'] at hw156_5)
      have hw156_4 := hx156_4
      (try rw [show ((0 : Int)).toNat = 0 from rfl] at hw156_4)
      (try rw [show 0 * 6 = 0 from rfl] at hw156_4)
      (try rw [Addr.add_zero'] at hw156_4)
      have hw156_3 := hx156_3
      (try rw [show ((0 : Int)).toNat = 0 from rfl] at hw156_3)
      (try rw [show 0 * 6 = 0 from rfl] at hw156_3)
      (try rw [Addr.add_zero'] at hw156_3)
      have hw156_2 := hx156_2
      (try rw [show ((0 : Int)).toNat = 0 from rfl] at hw156_2)
      (try rw [show 0 * 6 = 0 from rfl] at hw156_2)
      (try rw [Addr.add_zero'] at hw156_2)
      have hw156_1 := hx156_1
      (try rw [show ((0 : Int)).toNat = 0 from rfl] at hw156_1)
      (try rw [show 0 * 6 = 0 from rfl] at hw156_1)
      (try rw [Addr.add_zero'] at hw156_1)
      have hw156_0 := hx156_0
      (try rw [show ((0 : Int)).toNat = 0 from rfl] at hw156_0)
      (try rw [show 0 * 6 = 0 from rfl] at hw156_0)
      (try rw [Addr.add_zero'] at hw156_0)
      obtain rfl : ad149 = ad156 := (by injection e156)
      have qi156 : (0 < l0.length) = True := eq_true t11_
      (try rw [show ((0 : Int)).toNat = 0 from rfl] at hx156_0)
      (try rw [show 0 * 6 = 0 from rfl] at hx156_0)
      (try rw [Addr.add_zero'] at hx156_0)
      (try rw [show ((0 : Int)).toNat = 0 from rfl] at hx156_1)
      (try rw [show 0 * 6 = 0 from rfl] at hx156_1)
      (try rw [Addr.add_zero'] at hx156_1)
      (try rw [show ((0 : Int)).toNat = 0 from rfl] at hx156_2)
      (try rw [show 0 * 6 = 0 from rfl] at hx156_2)
      (try rw [Addr.add_zero'] at hx156_2)
      (try rw [show ((0 : Int)).toNat = 0 from rfl] at hx156_3)
      (try rw [show 0 * 6 = 0 from rfl] at hx156_3)
      (try rw [Addr.add_zero'] at hx156_3)
      (try rw [show ((0 : Int)).toNat = 0 from rfl] at hx156_4)
      (try rw [show 0 * 6 = 0 from rfl] at hx156_4)
      (try rw [Addr.add_zero'] at hx156_4)
      (try rw [show ((0 : Int)).toNat = 0 from rfl] at hx156_5)
      (try rw [show 0 * 6 = 0 from rfl] at hx156_5)
      (try rw [Addr.add_zero'] at hx156_5)
      replace hx156_0 := (HB.out.cell (World.block_lt_of_cell? w _ hx156_0)).trans hx156_0
      replace hx156_1 := (HB.out.cell (World.block_lt_of_cell? w _ hx156_1)).trans hx156_1
      replace hx156_2 := (HB.out.cell (World.block_lt_of_cell? w _ hx156_2)).trans hx156_2
      replace hx156_3 := (HB.out.cell (World.block_lt_of_cell? w _ hx156_3)).trans hx156_3
      replace hx156_4 := (HB.out.cell (World.block_lt_of_cell? w _ hx156_4)).trans hx156_4
      replace hx156_5 := (HB.out.cell (World.block_lt_of_cell? w _ hx156_5)).trans hx156_5
      replace p156 := eq_true p156
      replace q156 := eq_true q156
      refine start_ (n := 33) (S := fun w' => w'.cell? ad149 = some (.string ((rd_T80 l0 0).f0)) ∧ w'.cell? ⟨ad149.block, ad149.off + 1, none⟩ = some (.int .i64 ((rd_T80 l0 0).f1)) ∧ w'.cell? ⟨ad149.block, ad149.off + 2, none⟩ = some (.int .i64 ((rd_T80 l0 0).f2)) ∧ w'.cell? ⟨ad149.block, ad149.off + 3, none⟩ = some (.int .i64 ((rd_T80 l0 0).f3)) ∧ w'.cell? ⟨ad149.block, ad149.off + 4, none⟩ = some (.int .i64 ((rd_T80 l0 0).f4)) ∧ w'.cell? ⟨ad149.block, ad149.off + 5, none⟩ = some (.int .i64 ((rd_T80 l0 0).f5)) ∧ w'.cell? ad149 = some (.string ((rd_T80 l0 0).f0)) ∧ w'.cell? ⟨ad149.block, ad149.off + 1, none⟩ = some (.int .i64 ((rd_T80 l0 0).f1)) ∧ w'.cell? ⟨ad149.block, ad149.off + 2, none⟩ = some (.int .i64 ((rd_T80 l0 0).f2)) ∧ w'.cell? ⟨ad149.block, ad149.off + 3, none⟩ = some (.int .i64 ((rd_T80 l0 0).f3)) ∧ w'.cell? ⟨ad149.block, ad149.off + 4, none⟩ = some (.int .i64 ((rd_T80 l0 0).f4)) ∧ w'.cell? ⟨ad149.block, ad149.off + 5, none⟩ = some (.int .i64 ((rd_T80 l0 0).f5)) ∧ w'.cell? ad149 = some (.string ((rd_T80 l0 0).f0)) ∧ w'.cell? ⟨ad149.block, ad149.off + 1, none⟩ = some (.int .i64 ((rd_T80 l0 0).f1)) ∧ w'.cell? ⟨ad149.block, ad149.off + 2, none⟩ = some (.int .i64 ((rd_T80 l0 0).f2)) ∧ w'.cell? ⟨ad149.block, ad149.off + 3, none⟩ = some (.int .i64 ((rd_T80 l0 0).f3)) ∧ w'.cell? ⟨ad149.block, ad149.off + 4, none⟩ = some (.int .i64 ((rd_T80 l0 0).f4)) ∧ w'.cell? ⟨ad149.block, ad149.off + 5, none⟩ = some (.int .i64 ((rd_T80 l0 0).f5)) ∧ w'.cell? ad149 = some (.string ((rd_T80 l0 0).f0)) ∧ w'.cell? ⟨ad149.block, ad149.off + 1, none⟩ = some (.int .i64 ((rd_T80 l0 0).f1)) ∧ w'.cell? ⟨ad149.block, ad149.off + 2, none⟩ = some (.int .i64 ((rd_T80 l0 0).f2)) ∧ w'.cell? ⟨ad149.block, ad149.off + 3, none⟩ = some (.int .i64 ((rd_T80 l0 0).f3)) ∧ w'.cell? ⟨ad149.block, ad149.off + 4, none⟩ = some (.int .i64 ((rd_T80 l0 0).f4)) ∧ w'.cell? ⟨ad149.block, ad149.off + 5, none⟩ = some (.int .i64 ((rd_T80 l0 0).f5)) ∧ w'.cell? ad149 = some (.string ((rd_T80 l0 0).f0)) ∧ w'.cell? ⟨ad149.block, ad149.off + 1, none⟩ = some (.int .i64 ((rd_T80 l0 0).f1)) ∧ w'.cell? ⟨ad149.block, ad149.off + 2, none⟩ = some (.int .i64 ((rd_T80 l0 0).f2)) ∧ w'.cell? ⟨ad149.block, ad149.off + 3, none⟩ = some (.int .i64 ((rd_T80 l0 0).f3)) ∧ w'.cell? ⟨ad149.block, ad149.off + 4, none⟩ = some (.int .i64 ((rd_T80 l0 0).f4)) ∧ w'.cell? ⟨ad149.block, ad149.off + 5, none⟩ = some (.int .i64 ((rd_T80 l0 0).f5))) (ds := []) (tf 0 33) t6_ rfl rfl ⟨((HB.out.cell (World.block_lt_of_cell? w _ hw149_0)).trans hw149_0), ((HB.out.cell (World.block_lt_of_cell? w _ hw149_1)).trans hw149_1), ((HB.out.cell (World.block_lt_of_cell? w _ hw149_2)).trans hw149_2), ((HB.out.cell (World.block_lt_of_cell? w _ hw149_3)).trans hw149_3), ((HB.out.cell (World.block_lt_of_cell? w _ hw149_4)).trans hw149_4), ((HB.out.cell (World.block_lt_of_cell? w _ hw149_5)).trans hw149_5), ((HB.out.cell (World.block_lt_of_cell? w _ hw151_0)).trans hw151_0), ((HB.out.cell (World.block_lt_of_cell? w _ hw151_1)).trans hw151_1), ((HB.out.cell (World.block_lt_of_cell? w _ hw151_2)).trans hw151_2), ((HB.out.cell (World.block_lt_of_cell? w _ hw151_3)).trans hw151_3), ((HB.out.cell (World.block_lt_of_cell? w _ hw151_4)).trans hw151_4), ((HB.out.cell (World.block_lt_of_cell? w _ hw151_5)).trans hw151_5), ((HB.out.cell (World.block_lt_of_cell? w _ hw153_0)).trans hw153_0), ((HB.out.cell (World.block_lt_of_cell? w _ hw153_1)).trans hw153_1), ((HB.out.cell (World.block_lt_of_cell? w _ hw153_2)).trans hw153_2), ((HB.out.cell (World.block_lt_of_cell? w _ hw153_3)).trans hw153_3), ((HB.out.cell (World.block_lt_of_cell? w _ hw153_4)).trans hw153_4), ((HB.out.cell (World.block_lt_of_cell? w _ hw153_5)).trans hw153_5), ((HB.out.cell (World.block_lt_of_cell? w _ hw155_0)).trans hw155_0), ((HB.out.cell (World.block_lt_of_cell? w _ hw155_1)).trans hw155_1), ((HB.out.cell (World.block_lt_of_cell? w _ hw155_2)).trans hw155_2), ((HB.out.cell (World.block_lt_of_cell? w _ hw155_3)).trans hw155_3), ((HB.out.cell (World.block_lt_of_cell? w _ hw155_4)).trans hw155_4), ((HB.out.cell (World.block_lt_of_cell? w _ hw155_5)).trans hw155_5), ((HB.out.cell (World.block_lt_of_cell? w _ hw156_0)).trans hw156_0), ((HB.out.cell (World.block_lt_of_cell? w _ hw156_1)).trans hw156_1), ((HB.out.cell (World.block_lt_of_cell? w _ hw156_2)).trans hw156_2), ((HB.out.cell (World.block_lt_of_cell? w _ hw156_3)).trans hw156_3), ((HB.out.cell (World.block_lt_of_cell? w _ hw156_4)).trans hw156_4), ((HB.out.cell (World.block_lt_of_cell? w _ hw156_5)).trans hw156_5)⟩ (fun hHeld => ?_); refine with_tabW spec_l03Ok.tab1 spec_l03Ok.bits1 (fun HT_ HW_ => ?_)
      generalize w.drew = w10 at HB hx149_0 hx149_1 hx149_2 hx149_3 hx149_4 hx149_5 hx151_0 hx151_1 hx151_2 hx151_3 hx151_4 hx151_5 hx153_0 hx153_1 hx153_2 hx153_3 hx153_4 hx153_5 hx155_0 hx155_1 hx155_2 hx155_3 hx155_4 hx155_5 hx156_0 hx156_1 hx156_2 hx156_3 hx156_4 hx156_5 hHeld ⊢
      refine px 0 (some 3) (tf 1 33) HT_ ?_
      refine px 1 (some 4) (tf 2 33) HT_ ?_
      refine px 2 (some 5) (tf 3 33) HT_ ?_
      refine tx (v := ?_) 3 (some 6) (tf 4 33) HT_ HW_ hHeld ?_ ?_
      rotate_left; (· rintro w' ⟨s0, s1, s2, s3, s4, s5, s6, s7, s8, s9, s10, s11, s12, s13, s14, s15, s16, s17, s18, s19, s20, s21, s22, s23, s24, s25, s26, s27, s28, s29⟩; go_simp; with_reducible rfl)
      refine one_ (i := 4) (N := some 7) (tf 5 33) rfl rfl (one_of HT_.out t6_) t24_ (fun K hK => ?_)
      refine goes_ Try.func77 t6_ rfl #[.string ((rd_T80 l0 0).f0)] t38_ rfl rfl t2_ ?_
      with_reducible refine (spec_l01Name.calls k ((rd_T80 l0 0).f0) true _ A4.out).mono ?_
      rintro e w' ⟨rfl, ⟨nd, rfl⟩⟩
      refine ⟨_, rfl, ?_⟩
      refine hK.out _ _ ⟨((HB.out.cell (World.block_lt_of_cell? w _ hw149_0)).trans hw149_0), ((HB.out.cell (World.block_lt_of_cell? w _ hw149_1)).trans hw149_1), ((HB.out.cell (World.block_lt_of_cell? w _ hw149_2)).trans hw149_2), ((HB.out.cell (World.block_lt_of_cell? w _ hw149_3)).trans hw149_3), ((HB.out.cell (World.block_lt_of_cell? w _ hw149_4)).trans hw149_4), ((HB.out.cell (World.block_lt_of_cell? w _ hw149_5)).trans hw149_5), ((HB.out.cell (World.block_lt_of_cell? w _ hw151_0)).trans hw151_0), ((HB.out.cell (World.block_lt_of_cell? w _ hw151_1)).trans hw151_1), ((HB.out.cell (World.block_lt_of_cell? w _ hw151_2)).trans hw151_2), ((HB.out.cell (World.block_lt_of_cell? w _ hw151_3)).trans hw151_3), ((HB.out.cell (World.block_lt_of_cell? w _ hw151_4)).trans hw151_4), ((HB.out.cell (World.block_lt_of_cell? w _ hw151_5)).trans hw151_5), ((HB.out.cell (World.block_lt_of_cell? w _ hw153_0)).trans hw153_0), ((HB.out.cell (World.block_lt_of_cell? w _ hw153_1)).trans hw153_1), ((HB.out.cell (World.block_lt_of_cell? w _ hw153_2)).trans hw153_2), ((HB.out.cell (World.block_lt_of_cell? w _ hw153_3)).trans hw153_3), ((HB.out.cell (World.block_lt_of_cell? w _ hw153_4)).trans hw153_4), ((HB.out.cell (World.block_lt_of_cell? w _ hw153_5)).trans hw153_5), ((HB.out.cell (World.block_lt_of_cell? w _ hw155_0)).trans hw155_0), ((HB.out.cell (World.block_lt_of_cell? w _ hw155_1)).trans hw155_1), ((HB.out.cell (World.block_lt_of_cell? w _ hw155_2)).trans hw155_2), ((HB.out.cell (World.block_lt_of_cell? w _ hw155_3)).trans hw155_3), ((HB.out.cell (World.block_lt_of_cell? w _ hw155_4)).trans hw155_4), ((HB.out.cell (World.block_lt_of_cell? w _ hw155_5)).trans hw155_5), ((HB.out.cell (World.block_lt_of_cell? w _ hw156_0)).trans hw156_0), ((HB.out.cell (World.block_lt_of_cell? w _ hw156_1)).trans hw156_1), ((HB.out.cell (World.block_lt_of_cell? w _ hw156_2)).trans hw156_2), ((HB.out.cell (World.block_lt_of_cell? w _ hw156_3)).trans hw156_3), ((HB.out.cell (World.block_lt_of_cell? w _ hw156_4)).trans hw156_4), ((HB.out.cell (World.block_lt_of_cell? w _ hw156_5)).trans hw156_5)⟩ (fun hHeld => ?_)
      clear hK K
      refine norm_ (a' := ?_) ?_ ?_
      rotate_left
      ·show Act.put _ (some 7) _ = _
       simp only [Act.put, List.setIfInBounds_toArray, List.set_cons_zero, List.set_cons_succ, i64_w, i32_w]
       rfl
      refine px 5 (some 8) (tf 6 33) HT_ ?_
      refine px 6 (some 9) (tf 7 33) HT_ ?_
      refine px 7 (some 10) (tf 8 33) HT_ ?_
      refine px 8 (some 11) (tf 9 33) HT_ ?_
      refine px 9 (some 12) (tf 10 33) HT_ ?_
      refine tx (v := ?_) 10 (some 13) (tf 11 33) HT_ HW_ hHeld ?_ ?_
      rotate_left; (· rintro w' ⟨s0, s1, s2, s3, s4, s5, s6, s7, s8, s9, s10, s11, s12, s13, s14, s15, s16, s17, s18, s19, s20, s21, s22, s23, s24, s25, s26, s27, s28, s29⟩; go_simp; with_reducible rfl)
      refine one_ (i := 11) (N := some 14) (tf 12 33) rfl rfl (one_of HT_.out t6_) t24_ (fun K hK => ?_)
      refine goes_ Try.func64 t6_ rfl #[.int .i64 ((rd_T80 l0 0).f1), .int .i64 0, .int .i64 15] t38_ rfl rfl t2_ ?_
      with_reducible refine (spec_l00In.calls ((rd_T80 l0 0).f1) 0 15 true _ A6.out).mono ?_
      rintro e w' ⟨rfl, ⟨nd, rfl⟩⟩
      refine ⟨_, rfl, ?_⟩
      refine hK.out _ _ ⟨((HB.out.cell (World.block_lt_of_cell? w _ hw149_0)).trans hw149_0), ((HB.out.cell (World.block_lt_of_cell? w _ hw149_1)).trans hw149_1), ((HB.out.cell (World.block_lt_of_cell? w _ hw149_2)).trans hw149_2), ((HB.out.cell (World.block_lt_of_cell? w _ hw149_3)).trans hw149_3), ((HB.out.cell (World.block_lt_of_cell? w _ hw149_4)).trans hw149_4), ((HB.out.cell (World.block_lt_of_cell? w _ hw149_5)).trans hw149_5), ((HB.out.cell (World.block_lt_of_cell? w _ hw151_0)).trans hw151_0), ((HB.out.cell (World.block_lt_of_cell? w _ hw151_1)).trans hw151_1), ((HB.out.cell (World.block_lt_of_cell? w _ hw151_2)).trans hw151_2), ((HB.out.cell (World.block_lt_of_cell? w _ hw151_3)).trans hw151_3), ((HB.out.cell (World.block_lt_of_cell? w _ hw151_4)).trans hw151_4), ((HB.out.cell (World.block_lt_of_cell? w _ hw151_5)).trans hw151_5), ((HB.out.cell (World.block_lt_of_cell? w _ hw153_0)).trans hw153_0), ((HB.out.cell (World.block_lt_of_cell? w _ hw153_1)).trans hw153_1), ((HB.out.cell (World.block_lt_of_cell? w _ hw153_2)).trans hw153_2), ((HB.out.cell (World.block_lt_of_cell? w _ hw153_3)).trans hw153_3), ((HB.out.cell (World.block_lt_of_cell? w _ hw153_4)).trans hw153_4), ((HB.out.cell (World.block_lt_of_cell? w _ hw153_5)).trans hw153_5), ((HB.out.cell (World.block_lt_of_cell? w _ hw155_0)).trans hw155_0), ((HB.out.cell (World.block_lt_of_cell? w _ hw155_1)).trans hw155_1), ((HB.out.cell (World.block_lt_of_cell? w _ hw155_2)).trans hw155_2), ((HB.out.cell (World.block_lt_of_cell? w _ hw155_3)).trans hw155_3), ((HB.out.cell (World.block_lt_of_cell? w _ hw155_4)).trans hw155_4), ((HB.out.cell (World.block_lt_of_cell? w _ hw155_5)).trans hw155_5), ((HB.out.cell (World.block_lt_of_cell? w _ hw156_0)).trans hw156_0), ((HB.out.cell (World.block_lt_of_cell? w _ hw156_1)).trans hw156_1), ((HB.out.cell (World.block_lt_of_cell? w _ hw156_2)).trans hw156_2), ((HB.out.cell (World.block_lt_of_cell? w _ hw156_3)).trans hw156_3), ((HB.out.cell (World.block_lt_of_cell? w _ hw156_4)).trans hw156_4), ((HB.out.cell (World.block_lt_of_cell? w _ hw156_5)).trans hw156_5)⟩ (fun hHeld => ?_)
      clear hK K
      refine norm_ (a' := ?_) ?_ ?_
      rotate_left
      ·show Act.put _ (some 14) _ = _
       simp only [Act.put, List.setIfInBounds_toArray, List.set_cons_zero, List.set_cons_succ, i64_w, i32_w]
       rfl
      refine px 12 (some 15) (tf 13 33) HT_ ?_
      refine px 13 (some 16) (tf 14 33) HT_ ?_
      refine px 14 (some 17) (tf 15 33) HT_ ?_
      refine px 15 (some 18) (tf 16 33) HT_ ?_
      refine px 16 (some 19) (tf 17 33) HT_ ?_
      refine px 17 (some 20) (tf 18 33) HT_ ?_
      refine tx (v := ?_) 18 (some 21) (tf 19 33) HT_ HW_ hHeld ?_ ?_
      rotate_left; (· rintro w' ⟨s0, s1, s2, s3, s4, s5, s6, s7, s8, s9, s10, s11, s12, s13, s14, s15, s16, s17, s18, s19, s20, s21, s22, s23, s24, s25, s26, s27, s28, s29⟩; go_simp; with_reducible rfl)
      refine one_ (i := 19) (N := some 22) (tf 20 33) rfl rfl (one_of HT_.out t6_) t24_ (fun K hK => ?_)
      refine goes_ Try.func64 t6_ rfl #[.int .i64 ((rd_T80 l0 0).f2), .int .i64 0, .int .i64 15] t38_ rfl rfl t2_ ?_
      with_reducible refine (spec_l00In.calls ((rd_T80 l0 0).f2) 0 15 true _ A8.out).mono ?_
      rintro e w' ⟨rfl, ⟨nd, rfl⟩⟩
      refine ⟨_, rfl, ?_⟩
      refine hK.out _ _ ⟨((HB.out.cell (World.block_lt_of_cell? w _ hw149_0)).trans hw149_0), ((HB.out.cell (World.block_lt_of_cell? w _ hw149_1)).trans hw149_1), ((HB.out.cell (World.block_lt_of_cell? w _ hw149_2)).trans hw149_2), ((HB.out.cell (World.block_lt_of_cell? w _ hw149_3)).trans hw149_3), ((HB.out.cell (World.block_lt_of_cell? w _ hw149_4)).trans hw149_4), ((HB.out.cell (World.block_lt_of_cell? w _ hw149_5)).trans hw149_5), ((HB.out.cell (World.block_lt_of_cell? w _ hw151_0)).trans hw151_0), ((HB.out.cell (World.block_lt_of_cell? w _ hw151_1)).trans hw151_1), ((HB.out.cell (World.block_lt_of_cell? w _ hw151_2)).trans hw151_2), ((HB.out.cell (World.block_lt_of_cell? w _ hw151_3)).trans hw151_3), ((HB.out.cell (World.block_lt_of_cell? w _ hw151_4)).trans hw151_4), ((HB.out.cell (World.block_lt_of_cell? w _ hw151_5)).trans hw151_5), ((HB.out.cell (World.block_lt_of_cell? w _ hw153_0)).trans hw153_0), ((HB.out.cell (World.block_lt_of_cell? w _ hw153_1)).trans hw153_1), ((HB.out.cell (World.block_lt_of_cell? w _ hw153_2)).trans hw153_2), ((HB.out.cell (World.block_lt_of_cell? w _ hw153_3)).trans hw153_3), ((HB.out.cell (World.block_lt_of_cell? w _ hw153_4)).trans hw153_4), ((HB.out.cell (World.block_lt_of_cell? w _ hw153_5)).trans hw153_5), ((HB.out.cell (World.block_lt_of_cell? w _ hw155_0)).trans hw155_0), ((HB.out.cell (World.block_lt_of_cell? w _ hw155_1)).trans hw155_1), ((HB.out.cell (World.block_lt_of_cell? w _ hw155_2)).trans hw155_2), ((HB.out.cell (World.block_lt_of_cell? w _ hw155_3)).trans hw155_3), ((HB.out.cell (World.block_lt_of_cell? w _ hw155_4)).trans hw155_4), ((HB.out.cell (World.block_lt_of_cell? w _ hw155_5)).trans hw155_5), ((HB.out.cell (World.block_lt_of_cell? w _ hw156_0)).trans hw156_0), ((HB.out.cell (World.block_lt_of_cell? w _ hw156_1)).trans hw156_1), ((HB.out.cell (World.block_lt_of_cell? w _ hw156_2)).trans hw156_2), ((HB.out.cell (World.block_lt_of_cell? w _ hw156_3)).trans hw156_3), ((HB.out.cell (World.block_lt_of_cell? w _ hw156_4)).trans hw156_4), ((HB.out.cell (World.block_lt_of_cell? w _ hw156_5)).trans hw156_5)⟩ (fun hHeld => ?_)
      clear hK K
      refine norm_ (a' := ?_) ?_ ?_
      rotate_left
      ·show Act.put _ (some 22) _ = _
       simp only [Act.put, List.setIfInBounds_toArray, List.set_cons_zero, List.set_cons_succ, i64_w, i32_w]
       rfl
      refine px 20 (some 23) (tf 21 33) HT_ ?_
      refine px 21 (some 24) (tf 22 33) HT_ ?_
      refine px 22 (some 25) (tf 23 33) HT_ ?_
      refine px 23 (some 26) (tf 24 33) HT_ ?_
      refine px 24 (some 27) (tf 25 33) HT_ ?_
      refine px 25 (some 28) (tf 26 33) HT_ ?_
      refine px 27 (some 30) (tb 33 201326591) HT_ ?_
      refine px 28 (some 31) (tb 33 469762047) HT_ ?_
      refine px 29 (some 32) (tb 33 1006632959) HT_ ?_
      refine tx (v := ?_) 26 (some 29) (tf 30 33) HT_ HW_ hHeld ?_ ?_
      rotate_left; (· rintro w' ⟨s0, s1, s2, s3, s4, s5, s6, s7, s8, s9, s10, s11, s12, s13, s14, s15, s16, s17, s18, s19, s20, s21, s22, s23, s24, s25, s26, s27, s28, s29⟩; go_simp; with_reducible rfl)
      refine tx (v := ?_) 30 (some 33) (tf 31 33) HT_ HW_ hHeld ?_ ?_
      rotate_left; (· rintro w' ⟨s0, s1, s2, s3, s4, s5, s6, s7, s8, s9, s10, s11, s12, s13, s14, s15, s16, s17, s18, s19, s20, s21, s22, s23, s24, s25, s26, s27, s28, s29⟩; go_simp; with_reducible rfl)
      refine px 31 (some 34) (tf 32 33) HT_ ?_
      refine px 32 (some 35) (tf 33 33) HT_ ?_
      refine done_ (done_of HT_.out t6_) ?_
      try go_wp2
      go_meet
      case rel => exact ⟨_, ((((rd_T80 l0 0).f1) == ((rd_T80 l0 0).f2))), t5_, H', ⟨by first | omega | exact Nat.le_refl _⟩, ⟨by repeat (first | (with_reducible first | exact HB.out | apply below_alloc | apply pw_below_drewN | apply below_drew1) | exact HB.out)⟩⟩
     ·replace c9 := Bool.eq_false_iff.mpr c9
      subst c9
      have H1 : (spec_l03Ok.j0 k l0 true) = some r := by rw [if_neg (show ¬ (false = true) by decide)] at H; exact H
      clear H
      have H := H1
      clear H1
      have H' := Aside0.mk H
      clear H
      try go_wp2
      have n0_ := Aside0.mk (below_drew1 HB.out)
      clear HB
      have HB := n0_
      clear n0_
      have p149 : 0 ≤ (0 : Int) := t11_
      have q149 : 0 < (l0.length : Int) := of_decide_eq_true t3_
      obtain ⟨ad149, e149, hx149_0, hx149_1, hx149_2, hx149_3, hx149_4, hx149_5⟩ := at_T80 HR0.out 0 p149 q149
      have hw149_5 := hx149_5
      (try rw [show ((0 : Int)).toNat = 0 from rfl] at hw149_5)
      (try rw [show 0 * 6 = 0 from rfl] at hw149_5)
      (try rw [Addr.add_zero'] at hw149_5)
      have hw149_4 := hx149_4
      (try rw [show ((0 : Int)).toNat = 0 from rfl] at hw149_4)
      (try rw [show 0 * 6 = 0 from rfl] at hw149_4)
      (try rw [Addr.add_zero'] at hw149_4)
      have hw149_3 := hx149_3
      (try rw [show ((0 : Int)).toNat = 0 from rfl] at hw149_3)
      (try rw [show 0 * 6 = 0 from rfl] at hw149_3)
      (try rw [Addr.add_zero'] at hw149_3)
      have hw149_2 := hx149_2
      (try rw [show ((0 : Int)).toNat = 0 from rfl] at hw149_2)
      (try rw [show 0 * 6 = 0 from rfl] at hw149_2)
      (try rw [Addr.add_zero'] at hw149_2)
      have hw149_1 := hx149_1
      (try rw [show ((0 : Int)).toNat = 0 from rfl] at hw149_1)
      (try rw [show 0 * 6 = 0 from rfl] at hw149_1)
      (try rw [Addr.add_zero'] at hw149_1)
      have hw149_0 := hx149_0
      (try rw [show ((0 : Int)).toNat = 0 from rfl] at hw149_0)
      (try rw [show 0 * 6 = 0 from rfl] at hw149_0)
      (try rw [Addr.add_zero'] at hw149_0)
      cases e149
      have qi149 : (0 < l0.length) = True := eq_true t11_
      (try rw [show ((0 : Int)).toNat = 0 from rfl] at hx149_0)
      (try rw [show 0 * 6 = 0 from rfl] at hx149_0)
      (try rw [Addr.add_zero'] at hx149_0)
      (try rw [show ((0 : Int)).toNat = 0 from rfl] at hx149_1)
      (try rw [show 0 * 6 = 0 from rfl] at hx149_1)
      (try rw [Addr.add_zero'] at hx149_1)
      (try rw [show ((0 : Int)).toNat = 0 from rfl] at hx149_2)
      (try rw [show 0 * 6 = 0 from rfl] at hx149_2)
      (try rw [Addr.add_zero'] at hx149_2)
      (try rw [show ((0 : Int)).toNat = 0 from rfl] at hx149_3)
      (try rw [show 0 * 6 = 0 from rfl] at hx149_3)
      (try rw [Addr.add_zero'] at hx149_3)
      (try rw [show ((0 : Int)).toNat = 0 from rfl] at hx149_4)
      (try rw [show 0 * 6 = 0 from rfl] at hx149_4)
      (try rw [Addr.add_zero'] at hx149_4)
      (try rw [show ((0 : Int)).toNat = 0 from rfl] at hx149_5)
      (try rw [show 0 * 6 = 0 from rfl] at hx149_5)
      (try rw [Addr.add_zero'] at hx149_5)
      replace hx149_0 := (HB.out.cell (World.block_lt_of_cell? w _ hx149_0)).trans hx149_0
      replace hx149_1 := (HB.out.cell (World.block_lt_of_cell? w _ hx149_1)).trans hx149_1
      replace hx149_2 := (HB.out.cell (World.block_lt_of_cell? w _ hx149_2)).trans hx149_2
      replace hx149_3 := (HB.out.cell (World.block_lt_of_cell? w _ hx149_3)).trans hx149_3
      replace hx149_4 := (HB.out.cell (World.block_lt_of_cell? w _ hx149_4)).trans hx149_4
      replace hx149_5 := (HB.out.cell (World.block_lt_of_cell? w _ hx149_5)).trans hx149_5
      replace p149 := eq_true p149
      replace q149 := eq_true q149
      have p151 : 0 ≤ (0 : Int) := t11_
      have q151 : 0 < (l0.length : Int) := of_decide_eq_true t3_
      obtain ⟨ad151, e151, hx151_0, hx151_1, hx151_2, hx151_3, hx151_4, hx151_5⟩ := at_T80 HR0.out 0 p151 q151
      have hw151_5 := hx151_5
      (try rw [show ((0 : Int)).toNat = 0 from rfl] at hw151_5)
      (try rw [show 0 * 6 = 0 from rfl] at hw151_5)
      (try rw [Addr.add_zero'] at hw151_5)
      have hw151_4 := hx151_4
      (try rw [show ((0 : Int)).toNat = 0 from rfl] at hw151_4)
      (try rw [show 0 * 6 = 0 from rfl] at hw151_4)
      (try rw [Addr.add_zero'] at hw151_4)
      have hw151_3 := hx151_3
      (try rw [show ((0 : Int)).toNat = 0 from rfl] at hw151_3)
      (try rw [show 0 * 6 = 0 from rfl] at hw151_3)
      (try rw [Addr.add_zero'] at hw151_3)
      have hw151_2 := hx151_2
      (try rw [show ((0 : Int)).toNat = 0 from rfl] at hw151_2)
      (try rw [show 0 * 6 = 0 from rfl] at hw151_2)
      (try rw [Addr.add_zero'] at hw151_2)
      have hw151_1 := hx151_1
      (try rw [show ((0 : Int)).toNat = 0 from rfl] at hw151_1)
      (try rw [show 0 * 6 = 0 from rfl] at hw151_1)
      (try rw [Addr.add_zero'] at hw151_1)
      have hw151_0 := hx151_0
      (try rw [show ((0 : Int)).toNat = 0 from rfl] at hw151_0)
      (try rw [show 0 * 6 = 0 from rfl] at hw151_0)
      (try rw [Addr.add_zero'] at hw151_0)
      obtain rfl : ad149 = ad151 := (by injection e151)
      have qi151 : (0 < l0.length) = True := eq_true t11_
      (try rw [show ((0 : Int)).toNat = 0 from rfl] at hx151_0)
      (try rw [show 0 * 6 = 0 from rfl] at hx151_0)
      (try rw [Addr.add_zero'] at hx151_0)
      (try rw [show ((0 : Int)).toNat = 0 from rfl] at hx151_1)
      (try rw [show 0 * 6 = 0 from rfl] at hx151_1)
      (try rw [Addr.add_zero'] at hx151_1)
      (try rw [show ((0 : Int)).toNat = 0 from rfl] at hx151_2)
      (try rw [show 0 * 6 = 0 from rfl] at hx151_2)
      (try rw [Addr.add_zero'] at hx151_2)
      (try rw [show ((0 : Int)).toNat = 0 from rfl] at hx151_3)
      (try rw [show 0 * 6 = 0 from rfl] at hx151_3)
      (try rw [Addr.add_zero'] at hx151_3)
      (try rw [show ((0 : Int)).toNat = 0 from rfl] at hx151_4)
      (try rw [show 0 * 6 = 0 from rfl] at hx151_4)
      (try rw [Addr.add_zero'] at hx151_4)
      (try rw [show ((0 : Int)).toNat = 0 from rfl] at hx151_5)
      (try rw [show 0 * 6 = 0 from rfl] at hx151_5)
      (try rw [Addr.add_zero'] at hx151_5)
      replace hx151_0 := (HB.out.cell (World.block_lt_of_cell? w _ hx151_0)).trans hx151_0
      replace hx151_1 := (HB.out.cell (World.block_lt_of_cell? w _ hx151_1)).trans hx151_1
      replace hx151_2 := (HB.out.cell (World.block_lt_of_cell? w _ hx151_2)).trans hx151_2
      replace hx151_3 := (HB.out.cell (World.block_lt_of_cell? w _ hx151_3)).trans hx151_3
      replace hx151_4 := (HB.out.cell (World.block_lt_of_cell? w _ hx151_4)).trans hx151_4
      replace hx151_5 := (HB.out.cell (World.block_lt_of_cell? w _ hx151_5)).trans hx151_5
      replace p151 := eq_true p151
      replace q151 := eq_true q151
      have p153 : 0 ≤ (0 : Int) := t11_
      have q153 : 0 < (l0.length : Int) := of_decide_eq_true t3_
      obtain ⟨ad153, e153, hx153_0, hx153_1, hx153_2, hx153_3, hx153_4, hx153_5⟩ := at_T80 HR0.out 0 p153 q153
      have hw153_5 := hx153_5
      (try rw [show ((0 : Int)).toNat = 0 from rfl] at hw153_5)
      (try rw [show 0 * 6 = 0 from rfl] at hw153_5)
      (try rw [Addr.add_zero'] at hw153_5)
      have hw153_4 := hx153_4
      (try rw [show ((0 : Int)).toNat = 0 from rfl] at hw153_4)
      (try rw [show 0 * 6 = 0 from rfl] at hw153_4)
      (try rw [Addr.add_zero'] at hw153_4)
      have hw153_3 := hx153_3
      (try rw [show ((0 : Int)).toNat = 0 from rfl] at hw153_3)
      (try rw [show 0 * 6 = 0 from rfl] at hw153_3)
      (try rw [Addr.add_zero'] at hw153_3)
      have hw153_2 := hx153_2
      (try rw [show ((0 : Int)).toNat = 0 from rfl] at hw153_2)
      (try rw [show 0 * 6 = 0 from rfl] at hw153_2)
      (try rw [Addr.add_zero'] at hw153_2)
      have hw153_1 := hx153_1
      (try rw [show ((0 : Int)).toNat = 0 from rfl] at hw153_1)
      (try rw [show 0 * 6 = 0 from rfl] at hw153_1)
      (try rw [Addr.add_zero'] at hw153_1)
      have hw153_0 := hx153_0
      (try rw [show ((0 : Int)).toNat = 0 from rfl] at hw153_0)
      (try rw [show 0 * 6 = 0 from rfl] at hw153_0)
      (try rw [Addr.add_zero'] at hw153_0)
      obtain rfl : ad149 = ad153 := (by injection e153)
      have qi153 : (0 < l0.length) = True := eq_true t11_
      (try rw [show ((0 : Int)).toNat = 0 from rfl] at hx153_0)
      (try rw [show 0 * 6 = 0 from rfl] at hx153_0)
      (try rw [Addr.add_zero'] at hx153_0)
      (try rw [show ((0 : Int)).toNat = 0 from rfl] at hx153_1)
      (try rw [show 0 * 6 = 0 from rfl] at hx153_1)
      (try rw [Addr.add_zero'] at hx153_1)
      (try rw [show ((0 : Int)).toNat = 0 from rfl] at hx153_2)
      (try rw [show 0 * 6 = 0 from rfl] at hx153_2)
      (try rw [Addr.add_zero'] at hx153_2)
      (try rw [show ((0 : Int)).toNat = 0 from rfl] at hx153_3)
      (try rw [show 0 * 6 = 0 from rfl] at hx153_3)
      (try rw [Addr.add_zero'] at hx153_3)
      (try rw [show ((0 : Int)).toNat = 0 from rfl] at hx153_4)
      (try rw [show 0 * 6 = 0 from rfl] at hx153_4)
      (try rw [Addr.add_zero'] at hx153_4)
      (try rw [show ((0 : Int)).toNat = 0 from rfl] at hx153_5)
      (try rw [show 0 * 6 = 0 from rfl] at hx153_5)
      (try rw [Addr.add_zero'] at hx153_5)
      replace hx153_0 := (HB.out.cell (World.block_lt_of_cell? w _ hx153_0)).trans hx153_0
      replace hx153_1 := (HB.out.cell (World.block_lt_of_cell? w _ hx153_1)).trans hx153_1
      replace hx153_2 := (HB.out.cell (World.block_lt_of_cell? w _ hx153_2)).trans hx153_2
      replace hx153_3 := (HB.out.cell (World.block_lt_of_cell? w _ hx153_3)).trans hx153_3
      replace hx153_4 := (HB.out.cell (World.block_lt_of_cell? w _ hx153_4)).trans hx153_4
      replace hx153_5 := (HB.out.cell (World.block_lt_of_cell? w _ hx153_5)).trans hx153_5
      replace p153 := eq_true p153
      replace q153 := eq_true q153
      refine start_ (n := 33) (S := fun w' => w'.cell? ad149 = some (.string ((rd_T80 l0 0).f0)) ∧ w'.cell? ⟨ad149.block, ad149.off + 1, none⟩ = some (.int .i64 ((rd_T80 l0 0).f1)) ∧ w'.cell? ⟨ad149.block, ad149.off + 2, none⟩ = some (.int .i64 ((rd_T80 l0 0).f2)) ∧ w'.cell? ⟨ad149.block, ad149.off + 3, none⟩ = some (.int .i64 ((rd_T80 l0 0).f3)) ∧ w'.cell? ⟨ad149.block, ad149.off + 4, none⟩ = some (.int .i64 ((rd_T80 l0 0).f4)) ∧ w'.cell? ⟨ad149.block, ad149.off + 5, none⟩ = some (.int .i64 ((rd_T80 l0 0).f5)) ∧ w'.cell? ad149 = some (.string ((rd_T80 l0 0).f0)) ∧ w'.cell? ⟨ad149.block, ad149.off + 1, none⟩ = some (.int .i64 ((rd_T80 l0 0).f1)) ∧ w'.cell? ⟨ad149.block, ad149.off + 2, none⟩ = some (.int .i64 ((rd_T80 l0 0).f2)) ∧ w'.cell? ⟨ad149.block, ad149.off + 3, none⟩ = some (.int .i64 ((rd_T80 l0 0).f3)) ∧ w'.cell? ⟨ad149.block, ad149.off + 4, none⟩ = some (.int .i64 ((rd_T80 l0 0).f4)) ∧ w'.cell? ⟨ad149.block, ad149.off + 5, none⟩ = some (.int .i64 ((rd_T80 l0 0).f5)) ∧ w'.cell? ad149 = some (.string ((rd_T80 l0 0).f0)) ∧ w'.cell? ⟨ad149.block, ad149.off + 1, none⟩ = some (.int .i64 ((rd_T80 l0 0).f1)) ∧ w'.cell? ⟨ad149.block, ad149.off + 2, none⟩ = some (.int .i64 ((rd_T80 l0 0).f2)) ∧ w'.cell? ⟨ad149.block, ad149.off + 3, none⟩ = some (.int .i64 ((rd_T80 l0 0).f3)) ∧ w'.cell? ⟨ad149.block, ad149.off + 4, none⟩ = some (.int .i64 ((rd_T80 l0 0).f4)) ∧ w'.cell? ⟨ad149.block, ad149.off + 5, none⟩ = some (.int .i64 ((rd_T80 l0 0).f5))) (ds := []) (tf 0 33) t6_ rfl rfl ⟨((HB.out.cell (World.block_lt_of_cell? w _ hw149_0)).trans hw149_0), ((HB.out.cell (World.block_lt_of_cell? w _ hw149_1)).trans hw149_1), ((HB.out.cell (World.block_lt_of_cell? w _ hw149_2)).trans hw149_2), ((HB.out.cell (World.block_lt_of_cell? w _ hw149_3)).trans hw149_3), ((HB.out.cell (World.block_lt_of_cell? w _ hw149_4)).trans hw149_4), ((HB.out.cell (World.block_lt_of_cell? w _ hw149_5)).trans hw149_5), ((HB.out.cell (World.block_lt_of_cell? w _ hw151_0)).trans hw151_0), ((HB.out.cell (World.block_lt_of_cell? w _ hw151_1)).trans hw151_1), ((HB.out.cell (World.block_lt_of_cell? w _ hw151_2)).trans hw151_2), ((HB.out.cell (World.block_lt_of_cell? w _ hw151_3)).trans hw151_3), ((HB.out.cell (World.block_lt_of_cell? w _ hw151_4)).trans hw151_4), ((HB.out.cell (World.block_lt_of_cell? w _ hw151_5)).trans hw151_5), ((HB.out.cell (World.block_lt_of_cell? w _ hw153_0)).trans hw153_0), ((HB.out.cell (World.block_lt_of_cell? w _ hw153_1)).trans hw153_1), ((HB.out.cell (World.block_lt_of_cell? w _ hw153_2)).trans hw153_2), ((HB.out.cell (World.block_lt_of_cell? w _ hw153_3)).trans hw153_3), ((HB.out.cell (World.block_lt_of_cell? w _ hw153_4)).trans hw153_4), ((HB.out.cell (World.block_lt_of_cell? w _ hw153_5)).trans hw153_5)⟩ (fun hHeld => ?_); refine with_tabW spec_l03Ok.tab1 spec_l03Ok.bits1 (fun HT_ HW_ => ?_)
      generalize w.drew = w11 at HB hx149_0 hx149_1 hx149_2 hx149_3 hx149_4 hx149_5 hx151_0 hx151_1 hx151_2 hx151_3 hx151_4 hx151_5 hx153_0 hx153_1 hx153_2 hx153_3 hx153_4 hx153_5 hHeld ⊢
      refine px 0 (some 3) (tf 1 33) HT_ ?_
      refine px 1 (some 4) (tf 2 33) HT_ ?_
      refine px 2 (some 5) (tf 3 33) HT_ ?_
      refine tx (v := ?_) 3 (some 6) (tf 4 33) HT_ HW_ hHeld ?_ ?_
      rotate_left; (· rintro w' ⟨s0, s1, s2, s3, s4, s5, s6, s7, s8, s9, s10, s11, s12, s13, s14, s15, s16, s17⟩; go_simp; with_reducible rfl)
      refine one_ (i := 4) (N := some 7) (tf 5 33) rfl rfl (one_of HT_.out t6_) t24_ (fun K hK => ?_)
      refine goes_ Try.func77 t6_ rfl #[.string ((rd_T80 l0 0).f0)] t38_ rfl rfl t2_ ?_
      with_reducible refine (spec_l01Name.calls k ((rd_T80 l0 0).f0) true _ A4.out).mono ?_
      rintro e w' ⟨rfl, ⟨nd, rfl⟩⟩
      refine ⟨_, rfl, ?_⟩
      refine hK.out _ _ ⟨((HB.out.cell (World.block_lt_of_cell? w _ hw149_0)).trans hw149_0), ((HB.out.cell (World.block_lt_of_cell? w _ hw149_1)).trans hw149_1), ((HB.out.cell (World.block_lt_of_cell? w _ hw149_2)).trans hw149_2), ((HB.out.cell (World.block_lt_of_cell? w _ hw149_3)).trans hw149_3), ((HB.out.cell (World.block_lt_of_cell? w _ hw149_4)).trans hw149_4), ((HB.out.cell (World.block_lt_of_cell? w _ hw149_5)).trans hw149_5), ((HB.out.cell (World.block_lt_of_cell? w _ hw151_0)).trans hw151_0), ((HB.out.cell (World.block_lt_of_cell? w _ hw151_1)).trans hw151_1), ((HB.out.cell (World.block_lt_of_cell? w _ hw151_2)).trans hw151_2), ((HB.out.cell (World.block_lt_of_cell? w _ hw151_3)).trans hw151_3), ((HB.out.cell (World.block_lt_of_cell? w _ hw151_4)).trans hw151_4), ((HB.out.cell (World.block_lt_of_cell? w _ hw151_5)).trans hw151_5), ((HB.out.cell (World.block_lt_of_cell? w _ hw153_0)).trans hw153_0), ((HB.out.cell (World.block_lt_of_cell? w _ hw153_1)).trans hw153_1), ((HB.out.cell (World.block_lt_of_cell? w _ hw153_2)).trans hw153_2), ((HB.out.cell (World.block_lt_of_cell? w _ hw153_3)).trans hw153_3), ((HB.out.cell (World.block_lt_of_cell? w _ hw153_4)).trans hw153_4), ((HB.out.cell (World.block_lt_of_cell? w _ hw153_5)).trans hw153_5)⟩ (fun hHeld => ?_)
      clear hK K
      refine norm_ (a' := ?_) ?_ ?_
      rotate_left
      ·show Act.put _ (some 7) _ = _
       simp only [Act.put, List.setIfInBounds_toArray, List.set_cons_zero, List.set_cons_succ, i64_w, i32_w]
       rfl
      refine px 5 (some 8) (tf 6 33) HT_ ?_
      refine px 6 (some 9) (tf 7 33) HT_ ?_
      refine px 7 (some 10) (tf 8 33) HT_ ?_
      refine px 8 (some 11) (tf 9 33) HT_ ?_
      refine px 9 (some 12) (tf 10 33) HT_ ?_
      refine tx (v := ?_) 10 (some 13) (tf 11 33) HT_ HW_ hHeld ?_ ?_
      rotate_left; (· rintro w' ⟨s0, s1, s2, s3, s4, s5, s6, s7, s8, s9, s10, s11, s12, s13, s14, s15, s16, s17⟩; go_simp; with_reducible rfl)
      refine one_ (i := 11) (N := some 14) (tf 12 33) rfl rfl (one_of HT_.out t6_) t24_ (fun K hK => ?_)
      refine goes_ Try.func64 t6_ rfl #[.int .i64 ((rd_T80 l0 0).f1), .int .i64 0, .int .i64 15] t38_ rfl rfl t2_ ?_
      with_reducible refine (spec_l00In.calls ((rd_T80 l0 0).f1) 0 15 true _ A6.out).mono ?_
      rintro e w' ⟨rfl, ⟨nd, rfl⟩⟩
      refine ⟨_, rfl, ?_⟩
      refine hK.out _ _ ⟨((HB.out.cell (World.block_lt_of_cell? w _ hw149_0)).trans hw149_0), ((HB.out.cell (World.block_lt_of_cell? w _ hw149_1)).trans hw149_1), ((HB.out.cell (World.block_lt_of_cell? w _ hw149_2)).trans hw149_2), ((HB.out.cell (World.block_lt_of_cell? w _ hw149_3)).trans hw149_3), ((HB.out.cell (World.block_lt_of_cell? w _ hw149_4)).trans hw149_4), ((HB.out.cell (World.block_lt_of_cell? w _ hw149_5)).trans hw149_5), ((HB.out.cell (World.block_lt_of_cell? w _ hw151_0)).trans hw151_0), ((HB.out.cell (World.block_lt_of_cell? w _ hw151_1)).trans hw151_1), ((HB.out.cell (World.block_lt_of_cell? w _ hw151_2)).trans hw151_2), ((HB.out.cell (World.block_lt_of_cell? w _ hw151_3)).trans hw151_3), ((HB.out.cell (World.block_lt_of_cell? w _ hw151_4)).trans hw151_4), ((HB.out.cell (World.block_lt_of_cell? w _ hw151_5)).trans hw151_5), ((HB.out.cell (World.block_lt_of_cell? w _ hw153_0)).trans hw153_0), ((HB.out.cell (World.block_lt_of_cell? w _ hw153_1)).trans hw153_1), ((HB.out.cell (World.block_lt_of_cell? w _ hw153_2)).trans hw153_2), ((HB.out.cell (World.block_lt_of_cell? w _ hw153_3)).trans hw153_3), ((HB.out.cell (World.block_lt_of_cell? w _ hw153_4)).trans hw153_4), ((HB.out.cell (World.block_lt_of_cell? w _ hw153_5)).trans hw153_5)⟩ (fun hHeld => ?_)
      clear hK K
      refine norm_ (a' := ?_) ?_ ?_
      rotate_left
      ·show Act.put _ (some 14) _ = _
       simp only [Act.put, List.setIfInBounds_toArray, List.set_cons_zero, List.set_cons_succ, i64_w, i32_w]
       rfl
      refine px 12 (some 15) (tf 13 33) HT_ ?_
      refine px 13 (some 16) (tf 14 33) HT_ ?_
      refine px 14 (some 17) (tf 15 33) HT_ ?_
      refine px 15 (some 18) (tf 16 33) HT_ ?_
      refine px 16 (some 19) (tf 17 33) HT_ ?_
      refine px 17 (some 20) (tf 18 33) HT_ ?_
      refine tx (v := ?_) 18 (some 21) (tf 19 33) HT_ HW_ hHeld ?_ ?_
      rotate_left; (· rintro w' ⟨s0, s1, s2, s3, s4, s5, s6, s7, s8, s9, s10, s11, s12, s13, s14, s15, s16, s17⟩; go_simp; with_reducible rfl)
      refine one_ (i := 19) (N := some 22) (tf 20 33) rfl rfl (one_of HT_.out t6_) t24_ (fun K hK => ?_)
      refine goes_ Try.func64 t6_ rfl #[.int .i64 ((rd_T80 l0 0).f2), .int .i64 0, .int .i64 15] t38_ rfl rfl t2_ ?_
      with_reducible refine (spec_l00In.calls ((rd_T80 l0 0).f2) 0 15 false _ A8.out).mono ?_
      rintro e w' ⟨rfl, ⟨nd, rfl⟩⟩
      refine ⟨_, rfl, ?_⟩
      refine hK.out _ _ ⟨((HB.out.cell (World.block_lt_of_cell? w _ hw149_0)).trans hw149_0), ((HB.out.cell (World.block_lt_of_cell? w _ hw149_1)).trans hw149_1), ((HB.out.cell (World.block_lt_of_cell? w _ hw149_2)).trans hw149_2), ((HB.out.cell (World.block_lt_of_cell? w _ hw149_3)).trans hw149_3), ((HB.out.cell (World.block_lt_of_cell? w _ hw149_4)).trans hw149_4), ((HB.out.cell (World.block_lt_of_cell? w _ hw149_5)).trans hw149_5), ((HB.out.cell (World.block_lt_of_cell? w _ hw151_0)).trans hw151_0), ((HB.out.cell (World.block_lt_of_cell? w _ hw151_1)).trans hw151_1), ((HB.out.cell (World.block_lt_of_cell? w _ hw151_2)).trans hw151_2), ((HB.out.cell (World.block_lt_of_cell? w _ hw151_3)).trans hw151_3), ((HB.out.cell (World.block_lt_of_cell? w _ hw151_4)).trans hw151_4), ((HB.out.cell (World.block_lt_of_cell? w _ hw151_5)).trans hw151_5), ((HB.out.cell (World.block_lt_of_cell? w _ hw153_0)).trans hw153_0), ((HB.out.cell (World.block_lt_of_cell? w _ hw153_1)).trans hw153_1), ((HB.out.cell (World.block_lt_of_cell? w _ hw153_2)).trans hw153_2), ((HB.out.cell (World.block_lt_of_cell? w _ hw153_3)).trans hw153_3), ((HB.out.cell (World.block_lt_of_cell? w _ hw153_4)).trans hw153_4), ((HB.out.cell (World.block_lt_of_cell? w _ hw153_5)).trans hw153_5)⟩ (fun hHeld => ?_)
      clear hK K
      refine norm_ (a' := ?_) ?_ ?_
      rotate_left
      ·show Act.put _ (some 22) _ = _
       simp only [Act.put, List.setIfInBounds_toArray, List.set_cons_zero, List.set_cons_succ, i64_w, i32_w]
       rfl
      refine px 20 (some 23) (tf 21 33) HT_ ?_
      refine px 21 (some 24) (tf 22 33) HT_ ?_
      refine px 22 (some 25) (tf 23 33) HT_ ?_
      refine sx 23 (some 26) (tf 24 33) HT_ ?_
      refine sx 24 (some 27) (tf 25 33) HT_ ?_
      refine sx 25 (some 28) (tf 26 33) HT_ ?_
      refine sx 26 (some 29) (tf 27 33) HT_ ?_
      refine sx 27 (some 30) (tf 28 33) HT_ ?_
      refine sx 28 (some 31) (tf 29 33) HT_ ?_
      refine sx 29 (some 32) (tf 30 33) HT_ ?_
      refine sx 30 (some 33) (tf 31 33) HT_ ?_
      refine sx 31 (some 34) (tf 32 33) HT_ ?_
      refine px 32 (some 35) (tf 33 33) HT_ ?_
      refine done_ (done_of HT_.out t6_) ?_
      try go_wp2
      go_meet
      case rel => exact ⟨_, (true), t5_, H', ⟨by first | omega | exact Nat.le_refl _⟩, ⟨by repeat (first | (with_reducible first | exact HB.out | apply below_alloc | apply pw_below_drewN | apply below_drew1) | exact HB.out)⟩⟩
    ·replace c7 := Bool.eq_false_iff.mpr c7
     subst c7
     have H1 : (spec_l03Ok.j0 k l0 true) = some r := by rw [if_neg (show ¬ (false = true) by decide)] at H; exact H
     clear H
     have H := H1
     clear H1
     have H' := Aside0.mk H
     clear H
     try go_wp2
     have n0_ := Aside0.mk (below_drew1 HB.out)
     clear HB
     have HB := n0_
     clear n0_
     have p149 : 0 ≤ (0 : Int) := t11_
     have q149 : 0 < (l0.length : Int) := of_decide_eq_true t3_
     obtain ⟨ad149, e149, hx149_0, hx149_1, hx149_2, hx149_3, hx149_4, hx149_5⟩ := at_T80 HR0.out 0 p149 q149
     have hw149_5 := hx149_5
     (try rw [show ((0 : Int)).toNat = 0 from rfl] at hw149_5)
     (try rw [show 0 * 6 = 0 from rfl] at hw149_5)
     (try rw [Addr.add_zero'] at hw149_5)
     have hw149_4 := hx149_4
     (try rw [show ((0 : Int)).toNat = 0 from rfl] at hw149_4)
     (try rw [show 0 * 6 = 0 from rfl] at hw149_4)
     (try rw [Addr.add_zero'] at hw149_4)
     have hw149_3 := hx149_3
     (try rw [show ((0 : Int)).toNat = 0 from rfl] at hw149_3)
     (try rw [show 0 * 6 = 0 from rfl] at hw149_3)
     (try rw [Addr.add_zero'] at hw149_3)
     have hw149_2 := hx149_2
     (try rw [show ((0 : Int)).toNat = 0 from rfl] at hw149_2)
     (try rw [show 0 * 6 = 0 from rfl] at hw149_2)
     (try rw [Addr.add_zero'] at hw149_2)
     have hw149_1 := hx149_1
     (try rw [show ((0 : Int)).toNat = 0 from rfl] at hw149_1)
     (try rw [show 0 * 6 = 0 from rfl] at hw149_1)
     (try rw [Addr.add_zero'] at hw149_1)
     have hw149_0 := hx149_0
     (try rw [show ((0 : Int)).toNat = 0 from rfl] at hw149_0)
     (try rw [show 0 * 6 = 0 from rfl] at hw149_0)
     (try rw [Addr.add_zero'] at hw149_0)
     cases e149
     have qi149 : (0 < l0.length) = True := eq_true t11_
     (try rw [show ((0 : Int)).toNat = 0 from rfl] at hx149_0)
     (try rw [show 0 * 6 = 0 from rfl] at hx149_0)
     (try rw [Addr.add_zero'] at hx149_0)
     (try rw [show ((0 : Int)).toNat = 0 from rfl] at hx149_1)
     (try rw [show 0 * 6 = 0 from rfl] at hx149_1)
     (try rw [Addr.add_zero'] at hx149_1)
     (try rw [show ((0 : Int)).toNat = 0 from rfl] at hx149_2)
     (try rw [show 0 * 6 = 0 from rfl] at hx149_2)
     (try rw [Addr.add_zero'] at hx149_2)
     (try rw [show ((0 : Int)).toNat = 0 from rfl] at hx149_3)
     (try rw [show 0 * 6 = 0 from rfl] at hx149_3)
     (try rw [Addr.add_zero'] at hx149_3)
     (try rw [show ((0 : Int)).toNat = 0 from rfl] at hx149_4)
     (try rw [show 0 * 6 = 0 from rfl] at hx149_4)
     (try rw [Addr.add_zero'] at hx149_4)
     (try rw [show ((0 : Int)).toNat = 0 from rfl] at hx149_5)
     (try rw [show 0 * 6 = 0 from rfl] at hx149_5)
     (try rw [Addr.add_zero'] at hx149_5)
     replace hx149_0 := (HB.out.cell (World.block_lt_of_cell? w _ hx149_0)).trans hx149_0
     replace hx149_1 := (HB.out.cell (World.block_lt_of_cell? w _ hx149_1)).trans hx149_1
     replace hx149_2 := (HB.out.cell (World.block_lt_of_cell? w _ hx149_2)).trans hx149_2
     replace hx149_3 := (HB.out.cell (World.block_lt_of_cell? w _ hx149_3)).trans hx149_3
     replace hx149_4 := (HB.out.cell (World.block_lt_of_cell? w _ hx149_4)).trans hx149_4
     replace hx149_5 := (HB.out.cell (World.block_lt_of_cell? w _ hx149_5)).trans hx149_5
     replace p149 := eq_true p149
     replace q149 := eq_true q149
     have p151 : 0 ≤ (0 : Int) := t11_
     have q151 : 0 < (l0.length : Int) := of_decide_eq_true t3_
     obtain ⟨ad151, e151, hx151_0, hx151_1, hx151_2, hx151_3, hx151_4, hx151_5⟩ := at_T80 HR0.out 0 p151 q151
     have hw151_5 := hx151_5
     (try rw [show ((0 : Int)).toNat = 0 from rfl] at hw151_5)
     (try rw [show 0 * 6 = 0 from rfl] at hw151_5)
     (try rw [Addr.add_zero'] at hw151_5)
     have hw151_4 := hx151_4
     (try rw [show ((0 : Int)).toNat = 0 from rfl] at hw151_4)
     (try rw [show 0 * 6 = 0 from rfl] at hw151_4)
     (try rw [Addr.add_zero'] at hw151_4)
     have hw151_3 := hx151_3
     (try rw [show ((0 : Int)).toNat = 0 from rfl] at hw151_3)
     (try rw [show 0 * 6 = 0 from rfl] at hw151_3)
     (try rw [Addr.add_zero'] at hw151_3)
     have hw151_2 := hx151_2
     (try rw [show ((0 : Int)).toNat = 0 from rfl] at hw151_2)
     (try rw [show 0 * 6 = 0 from rfl] at hw151_2)
     (try rw [Addr.add_zero'] at hw151_2)
     have hw151_1 := hx151_1
     (try rw [show ((0 : Int)).toNat = 0 from rfl] at hw151_1)
     (try rw [show 0 * 6 = 0 from rfl] at hw151_1)
     (try rw [Addr.add_zero'] at hw151_1)
     have hw151_0 := hx151_0
     (try rw [show ((0 : Int)).toNat = 0 from rfl] at hw151_0)
     (try rw [show 0 * 6 = 0 from rfl] at hw151_0)
     (try rw [Addr.add_zero'] at hw151_0)
     obtain rfl : ad149 = ad151 := (by injection e151)
     have qi151 : (0 < l0.length) = True := eq_true t11_
     (try rw [show ((0 : Int)).toNat = 0 from rfl] at hx151_0)
     (try rw [show 0 * 6 = 0 from rfl] at hx151_0)
     (try rw [Addr.add_zero'] at hx151_0)
     (try rw [show ((0 : Int)).toNat = 0 from rfl] at hx151_1)
     (try rw [show 0 * 6 = 0 from rfl] at hx151_1)
     (try rw [Addr.add_zero'] at hx151_1)
     (try rw [show ((0 : Int)).toNat = 0 from rfl] at hx151_2)
     (try rw [show 0 * 6 = 0 from rfl] at hx151_2)
     (try rw [Addr.add_zero'] at hx151_2)
     (try rw [show ((0 : Int)).toNat = 0 from rfl] at hx151_3)
     (try rw [show 0 * 6 = 0 from rfl] at hx151_3)
     (try rw [Addr.add_zero'] at hx151_3)
     (try rw [show ((0 : Int)).toNat = 0 from rfl] at hx151_4)
     (try rw [show 0 * 6 = 0 from rfl] at hx151_4)
     (try rw [Addr.add_zero'] at hx151_4)
     (try rw [show ((0 : Int)).toNat = 0 from rfl] at hx151_5)
     (try rw [show 0 * 6 = 0 from rfl] at hx151_5)
     (try rw [Addr.add_zero'] at hx151_5)
     replace hx151_0 := (HB.out.cell (World.block_lt_of_cell? w _ hx151_0)).trans hx151_0
     replace hx151_1 := (HB.out.cell (World.block_lt_of_cell? w _ hx151_1)).trans hx151_1
     replace hx151_2 := (HB.out.cell (World.block_lt_of_cell? w _ hx151_2)).trans hx151_2
     replace hx151_3 := (HB.out.cell (World.block_lt_of_cell? w _ hx151_3)).trans hx151_3
     replace hx151_4 := (HB.out.cell (World.block_lt_of_cell? w _ hx151_4)).trans hx151_4
     replace hx151_5 := (HB.out.cell (World.block_lt_of_cell? w _ hx151_5)).trans hx151_5
     replace p151 := eq_true p151
     replace q151 := eq_true q151
     refine start_ (n := 33) (S := fun w' => w'.cell? ad149 = some (.string ((rd_T80 l0 0).f0)) ∧ w'.cell? ⟨ad149.block, ad149.off + 1, none⟩ = some (.int .i64 ((rd_T80 l0 0).f1)) ∧ w'.cell? ⟨ad149.block, ad149.off + 2, none⟩ = some (.int .i64 ((rd_T80 l0 0).f2)) ∧ w'.cell? ⟨ad149.block, ad149.off + 3, none⟩ = some (.int .i64 ((rd_T80 l0 0).f3)) ∧ w'.cell? ⟨ad149.block, ad149.off + 4, none⟩ = some (.int .i64 ((rd_T80 l0 0).f4)) ∧ w'.cell? ⟨ad149.block, ad149.off + 5, none⟩ = some (.int .i64 ((rd_T80 l0 0).f5)) ∧ w'.cell? ad149 = some (.string ((rd_T80 l0 0).f0)) ∧ w'.cell? ⟨ad149.block, ad149.off + 1, none⟩ = some (.int .i64 ((rd_T80 l0 0).f1)) ∧ w'.cell? ⟨ad149.block, ad149.off + 2, none⟩ = some (.int .i64 ((rd_T80 l0 0).f2)) ∧ w'.cell? ⟨ad149.block, ad149.off + 3, none⟩ = some (.int .i64 ((rd_T80 l0 0).f3)) ∧ w'.cell? ⟨ad149.block, ad149.off + 4, none⟩ = some (.int .i64 ((rd_T80 l0 0).f4)) ∧ w'.cell? ⟨ad149.block, ad149.off + 5, none⟩ = some (.int .i64 ((rd_T80 l0 0).f5))) (ds := []) (tf 0 33) t6_ rfl rfl ⟨((HB.out.cell (World.block_lt_of_cell? w _ hw149_0)).trans hw149_0), ((HB.out.cell (World.block_lt_of_cell? w _ hw149_1)).trans hw149_1), ((HB.out.cell (World.block_lt_of_cell? w _ hw149_2)).trans hw149_2), ((HB.out.cell (World.block_lt_of_cell? w _ hw149_3)).trans hw149_3), ((HB.out.cell (World.block_lt_of_cell? w _ hw149_4)).trans hw149_4), ((HB.out.cell (World.block_lt_of_cell? w _ hw149_5)).trans hw149_5), ((HB.out.cell (World.block_lt_of_cell? w _ hw151_0)).trans hw151_0), ((HB.out.cell (World.block_lt_of_cell? w _ hw151_1)).trans hw151_1), ((HB.out.cell (World.block_lt_of_cell? w _ hw151_2)).trans hw151_2), ((HB.out.cell (World.block_lt_of_cell? w _ hw151_3)).trans hw151_3), ((HB.out.cell (World.block_lt_of_cell? w _ hw151_4)).trans hw151_4), ((HB.out.cell (World.block_lt_of_cell? w _ hw151_5)).trans hw151_5)⟩ (fun hHeld => ?_); refine with_tabW spec_l03Ok.tab1 spec_l03Ok.bits1 (fun HT_ HW_ => ?_)
     generalize w.drew = w12 at HB hx149_0 hx149_1 hx149_2 hx149_3 hx149_4 hx149_5 hx151_0 hx151_1 hx151_2 hx151_3 hx151_4 hx151_5 hHeld ⊢
     refine px 0 (some 3) (tf 1 33) HT_ ?_
     refine px 1 (some 4) (tf 2 33) HT_ ?_
     refine px 2 (some 5) (tf 3 33) HT_ ?_
     refine tx (v := ?_) 3 (some 6) (tf 4 33) HT_ HW_ hHeld ?_ ?_
     rotate_left; (· rintro w' ⟨s0, s1, s2, s3, s4, s5, s6, s7, s8, s9, s10, s11⟩; go_simp; with_reducible rfl)
     refine one_ (i := 4) (N := some 7) (tf 5 33) rfl rfl (one_of HT_.out t6_) t24_ (fun K hK => ?_)
     refine goes_ Try.func77 t6_ rfl #[.string ((rd_T80 l0 0).f0)] t38_ rfl rfl t2_ ?_
     with_reducible refine (spec_l01Name.calls k ((rd_T80 l0 0).f0) true _ A4.out).mono ?_
     rintro e w' ⟨rfl, ⟨nd, rfl⟩⟩
     refine ⟨_, rfl, ?_⟩
     refine hK.out _ _ ⟨((HB.out.cell (World.block_lt_of_cell? w _ hw149_0)).trans hw149_0), ((HB.out.cell (World.block_lt_of_cell? w _ hw149_1)).trans hw149_1), ((HB.out.cell (World.block_lt_of_cell? w _ hw149_2)).trans hw149_2), ((HB.out.cell (World.block_lt_of_cell? w _ hw149_3)).trans hw149_3), ((HB.out.cell (World.block_lt_of_cell? w _ hw149_4)).trans hw149_4), ((HB.out.cell (World.block_lt_of_cell? w _ hw149_5)).trans hw149_5), ((HB.out.cell (World.block_lt_of_cell? w _ hw151_0)).trans hw151_0), ((HB.out.cell (World.block_lt_of_cell? w _ hw151_1)).trans hw151_1), ((HB.out.cell (World.block_lt_of_cell? w _ hw151_2)).trans hw151_2), ((HB.out.cell (World.block_lt_of_cell? w _ hw151_3)).trans hw151_3), ((HB.out.cell (World.block_lt_of_cell? w _ hw151_4)).trans hw151_4), ((HB.out.cell (World.block_lt_of_cell? w _ hw151_5)).trans hw151_5)⟩ (fun hHeld => ?_)
     clear hK K
     refine norm_ (a' := ?_) ?_ ?_
     rotate_left
     ·show Act.put _ (some 7) _ = _
      simp only [Act.put, List.setIfInBounds_toArray, List.set_cons_zero, List.set_cons_succ, i64_w, i32_w]
      rfl
     refine px 5 (some 8) (tf 6 33) HT_ ?_
     refine px 6 (some 9) (tf 7 33) HT_ ?_
     refine px 7 (some 10) (tf 8 33) HT_ ?_
     refine px 8 (some 11) (tf 9 33) HT_ ?_
     refine px 9 (some 12) (tf 10 33) HT_ ?_
     refine tx (v := ?_) 10 (some 13) (tf 11 33) HT_ HW_ hHeld ?_ ?_
     rotate_left; (· rintro w' ⟨s0, s1, s2, s3, s4, s5, s6, s7, s8, s9, s10, s11⟩; go_simp; with_reducible rfl)
     refine one_ (i := 11) (N := some 14) (tf 12 33) rfl rfl (one_of HT_.out t6_) t24_ (fun K hK => ?_)
     refine goes_ Try.func64 t6_ rfl #[.int .i64 ((rd_T80 l0 0).f1), .int .i64 0, .int .i64 15] t38_ rfl rfl t2_ ?_
     with_reducible refine (spec_l00In.calls ((rd_T80 l0 0).f1) 0 15 false _ A6.out).mono ?_
     rintro e w' ⟨rfl, ⟨nd, rfl⟩⟩
     refine ⟨_, rfl, ?_⟩
     refine hK.out _ _ ⟨((HB.out.cell (World.block_lt_of_cell? w _ hw149_0)).trans hw149_0), ((HB.out.cell (World.block_lt_of_cell? w _ hw149_1)).trans hw149_1), ((HB.out.cell (World.block_lt_of_cell? w _ hw149_2)).trans hw149_2), ((HB.out.cell (World.block_lt_of_cell? w _ hw149_3)).trans hw149_3), ((HB.out.cell (World.block_lt_of_cell? w _ hw149_4)).trans hw149_4), ((HB.out.cell (World.block_lt_of_cell? w _ hw149_5)).trans hw149_5), ((HB.out.cell (World.block_lt_of_cell? w _ hw151_0)).trans hw151_0), ((HB.out.cell (World.block_lt_of_cell? w _ hw151_1)).trans hw151_1), ((HB.out.cell (World.block_lt_of_cell? w _ hw151_2)).trans hw151_2), ((HB.out.cell (World.block_lt_of_cell? w _ hw151_3)).trans hw151_3), ((HB.out.cell (World.block_lt_of_cell? w _ hw151_4)).trans hw151_4), ((HB.out.cell (World.block_lt_of_cell? w _ hw151_5)).trans hw151_5)⟩ (fun hHeld => ?_)
     clear hK K
     refine norm_ (a' := ?_) ?_ ?_
     rotate_left
     ·show Act.put _ (some 14) _ = _
      simp only [Act.put, List.setIfInBounds_toArray, List.set_cons_zero, List.set_cons_succ, i64_w, i32_w]
      rfl
     refine px 12 (some 15) (tf 13 33) HT_ ?_
     refine px 13 (some 16) (tf 14 33) HT_ ?_
     refine px 14 (some 17) (tf 15 33) HT_ ?_
     refine sx 15 (some 18) (tf 16 33) HT_ ?_
     refine sx 16 (some 19) (tf 17 33) HT_ ?_
     refine sx 17 (some 20) (tf 18 33) HT_ ?_
     refine sx 18 (some 21) (tf 19 33) HT_ ?_
     refine sx 19 (some 22) (tf 20 33) HT_ ?_
     refine sx 20 (some 23) (tf 21 33) HT_ ?_
     refine px 21 (some 24) (tf 22 33) HT_ ?_
     refine px 22 (some 25) (tf 23 33) HT_ ?_
     refine sx 23 (some 26) (tf 24 33) HT_ ?_
     refine sx 24 (some 27) (tf 25 33) HT_ ?_
     refine sx 25 (some 28) (tf 26 33) HT_ ?_
     refine sx 26 (some 29) (tf 27 33) HT_ ?_
     refine sx 27 (some 30) (tf 28 33) HT_ ?_
     refine sx 28 (some 31) (tf 29 33) HT_ ?_
     refine sx 29 (some 32) (tf 30 33) HT_ ?_
     refine sx 30 (some 33) (tf 31 33) HT_ ?_
     refine sx 31 (some 34) (tf 32 33) HT_ ?_
     refine px 32 (some 35) (tf 33 33) HT_ ?_
     refine done_ (done_of HT_.out t6_) ?_
     try go_wp2
     go_meet
     case rel => exact ⟨_, (true), t5_, H', ⟨by first | omega | exact Nat.le_refl _⟩, ⟨by repeat (first | (with_reducible first | exact HB.out | apply below_alloc | apply pw_below_drewN | apply below_drew1) | exact HB.out)⟩⟩
   ·replace c5 := Bool.eq_false_iff.mpr c5
    subst c5
    have H1 : (spec_l03Ok.j0 k l0 true) = some r := by rw [if_neg (show ¬ (false = true) by decide)] at H; exact H
    clear H
    have H := H1
    clear H1
    have H' := Aside0.mk H
    clear H
    try go_wp2
    have n0_ := Aside0.mk (below_drew1 HB.out)
    clear HB
    have HB := n0_
    clear n0_
    have p149 : 0 ≤ (0 : Int) := t11_
    have q149 : 0 < (l0.length : Int) := of_decide_eq_true t3_
    obtain ⟨ad149, e149, hx149_0, hx149_1, hx149_2, hx149_3, hx149_4, hx149_5⟩ := at_T80 HR0.out 0 p149 q149
    have hw149_5 := hx149_5
    (try rw [show ((0 : Int)).toNat = 0 from rfl] at hw149_5)
    (try rw [show 0 * 6 = 0 from rfl] at hw149_5)
    (try rw [Addr.add_zero'] at hw149_5)
    have hw149_4 := hx149_4
    (try rw [show ((0 : Int)).toNat = 0 from rfl] at hw149_4)
    (try rw [show 0 * 6 = 0 from rfl] at hw149_4)
    (try rw [Addr.add_zero'] at hw149_4)
    have hw149_3 := hx149_3
    (try rw [show ((0 : Int)).toNat = 0 from rfl] at hw149_3)
    (try rw [show 0 * 6 = 0 from rfl] at hw149_3)
    (try rw [Addr.add_zero'] at hw149_3)
    have hw149_2 := hx149_2
    (try rw [show ((0 : Int)).toNat = 0 from rfl] at hw149_2)
    (try rw [show 0 * 6 = 0 from rfl] at hw149_2)
    (try rw [Addr.add_zero'] at hw149_2)
    have hw149_1 := hx149_1
    (try rw [show ((0 : Int)).toNat = 0 from rfl] at hw149_1)
    (try rw [show 0 * 6 = 0 from rfl] at hw149_1)
    (try rw [Addr.add_zero'] at hw149_1)
    have hw149_0 := hx149_0
    (try rw [show ((0 : Int)).toNat = 0 from rfl] at hw149_0)
    (try rw [show 0 * 6 = 0 from rfl] at hw149_0)
    (try rw [Addr.add_zero'] at hw149_0)
    cases e149
    have qi149 : (0 < l0.length) = True := eq_true t11_
    (try rw [show ((0 : Int)).toNat = 0 from rfl] at hx149_0)
    (try rw [show 0 * 6 = 0 from rfl] at hx149_0)
    (try rw [Addr.add_zero'] at hx149_0)
    (try rw [show ((0 : Int)).toNat = 0 from rfl] at hx149_1)
    (try rw [show 0 * 6 = 0 from rfl] at hx149_1)
    (try rw [Addr.add_zero'] at hx149_1)
    (try rw [show ((0 : Int)).toNat = 0 from rfl] at hx149_2)
    (try rw [show 0 * 6 = 0 from rfl] at hx149_2)
    (try rw [Addr.add_zero'] at hx149_2)
    (try rw [show ((0 : Int)).toNat = 0 from rfl] at hx149_3)
    (try rw [show 0 * 6 = 0 from rfl] at hx149_3)
    (try rw [Addr.add_zero'] at hx149_3)
    (try rw [show ((0 : Int)).toNat = 0 from rfl] at hx149_4)
    (try rw [show 0 * 6 = 0 from rfl] at hx149_4)
    (try rw [Addr.add_zero'] at hx149_4)
    (try rw [show ((0 : Int)).toNat = 0 from rfl] at hx149_5)
    (try rw [show 0 * 6 = 0 from rfl] at hx149_5)
    (try rw [Addr.add_zero'] at hx149_5)
    replace hx149_0 := (HB.out.cell (World.block_lt_of_cell? w _ hx149_0)).trans hx149_0
    replace hx149_1 := (HB.out.cell (World.block_lt_of_cell? w _ hx149_1)).trans hx149_1
    replace hx149_2 := (HB.out.cell (World.block_lt_of_cell? w _ hx149_2)).trans hx149_2
    replace hx149_3 := (HB.out.cell (World.block_lt_of_cell? w _ hx149_3)).trans hx149_3
    replace hx149_4 := (HB.out.cell (World.block_lt_of_cell? w _ hx149_4)).trans hx149_4
    replace hx149_5 := (HB.out.cell (World.block_lt_of_cell? w _ hx149_5)).trans hx149_5
    replace p149 := eq_true p149
    replace q149 := eq_true q149
    refine start_ (n := 33) (S := fun w' => w'.cell? ad149 = some (.string ((rd_T80 l0 0).f0)) ∧ w'.cell? ⟨ad149.block, ad149.off + 1, none⟩ = some (.int .i64 ((rd_T80 l0 0).f1)) ∧ w'.cell? ⟨ad149.block, ad149.off + 2, none⟩ = some (.int .i64 ((rd_T80 l0 0).f2)) ∧ w'.cell? ⟨ad149.block, ad149.off + 3, none⟩ = some (.int .i64 ((rd_T80 l0 0).f3)) ∧ w'.cell? ⟨ad149.block, ad149.off + 4, none⟩ = some (.int .i64 ((rd_T80 l0 0).f4)) ∧ w'.cell? ⟨ad149.block, ad149.off + 5, none⟩ = some (.int .i64 ((rd_T80 l0 0).f5))) (ds := []) (tf 0 33) t6_ rfl rfl ⟨((HB.out.cell (World.block_lt_of_cell? w _ hw149_0)).trans hw149_0), ((HB.out.cell (World.block_lt_of_cell? w _ hw149_1)).trans hw149_1), ((HB.out.cell (World.block_lt_of_cell? w _ hw149_2)).trans hw149_2), ((HB.out.cell (World.block_lt_of_cell? w _ hw149_3)).trans hw149_3), ((HB.out.cell (World.block_lt_of_cell? w _ hw149_4)).trans hw149_4), ((HB.out.cell (World.block_lt_of_cell? w _ hw149_5)).trans hw149_5)⟩ (fun hHeld => ?_); refine with_tabW spec_l03Ok.tab1 spec_l03Ok.bits1 (fun HT_ HW_ => ?_)
    generalize w.drew = w13 at HB hx149_0 hx149_1 hx149_2 hx149_3 hx149_4 hx149_5 hHeld ⊢
    refine px 0 (some 3) (tf 1 33) HT_ ?_
    refine px 1 (some 4) (tf 2 33) HT_ ?_
    refine px 2 (some 5) (tf 3 33) HT_ ?_
    refine tx (v := ?_) 3 (some 6) (tf 4 33) HT_ HW_ hHeld ?_ ?_
    rotate_left; (· rintro w' ⟨s0, s1, s2, s3, s4, s5⟩; go_simp; with_reducible rfl)
    refine one_ (i := 4) (N := some 7) (tf 5 33) rfl rfl (one_of HT_.out t6_) t24_ (fun K hK => ?_)
    refine goes_ Try.func77 t6_ rfl #[.string ((rd_T80 l0 0).f0)] t38_ rfl rfl t2_ ?_
    with_reducible refine (spec_l01Name.calls k ((rd_T80 l0 0).f0) false _ A4.out).mono ?_
    rintro e w' ⟨rfl, ⟨nd, rfl⟩⟩
    refine ⟨_, rfl, ?_⟩
    refine hK.out _ _ ⟨((HB.out.cell (World.block_lt_of_cell? w _ hw149_0)).trans hw149_0), ((HB.out.cell (World.block_lt_of_cell? w _ hw149_1)).trans hw149_1), ((HB.out.cell (World.block_lt_of_cell? w _ hw149_2)).trans hw149_2), ((HB.out.cell (World.block_lt_of_cell? w _ hw149_3)).trans hw149_3), ((HB.out.cell (World.block_lt_of_cell? w _ hw149_4)).trans hw149_4), ((HB.out.cell (World.block_lt_of_cell? w _ hw149_5)).trans hw149_5)⟩ (fun hHeld => ?_)
    clear hK K
    refine norm_ (a' := ?_) ?_ ?_
    rotate_left
    ·show Act.put _ (some 7) _ = _
     simp only [Act.put, List.setIfInBounds_toArray, List.set_cons_zero, List.set_cons_succ, i64_w, i32_w]
     rfl
    refine px 5 (some 8) (tf 6 33) HT_ ?_
    refine px 6 (some 9) (tf 7 33) HT_ ?_
    refine sx 7 (some 10) (tf 8 33) HT_ ?_
    refine sx 8 (some 11) (tf 9 33) HT_ ?_
    refine sx 9 (some 12) (tf 10 33) HT_ ?_
    refine sx 10 (some 13) (tf 11 33) HT_ ?_
    refine sx 11 (some 14) (tf 12 33) HT_ ?_
    refine sx 12 (some 15) (tf 13 33) HT_ ?_
    refine px 13 (some 16) (tf 14 33) HT_ ?_
    refine px 14 (some 17) (tf 15 33) HT_ ?_
    refine sx 15 (some 18) (tf 16 33) HT_ ?_
    refine sx 16 (some 19) (tf 17 33) HT_ ?_
    refine sx 17 (some 20) (tf 18 33) HT_ ?_
    refine sx 18 (some 21) (tf 19 33) HT_ ?_
    refine sx 19 (some 22) (tf 20 33) HT_ ?_
    refine sx 20 (some 23) (tf 21 33) HT_ ?_
    refine px 21 (some 24) (tf 22 33) HT_ ?_
    refine px 22 (some 25) (tf 23 33) HT_ ?_
    refine sx 23 (some 26) (tf 24 33) HT_ ?_
    refine sx 24 (some 27) (tf 25 33) HT_ ?_
    refine sx 25 (some 28) (tf 26 33) HT_ ?_
    refine sx 26 (some 29) (tf 27 33) HT_ ?_
    refine sx 27 (some 30) (tf 28 33) HT_ ?_
    refine sx 28 (some 31) (tf 29 33) HT_ ?_
    refine sx 29 (some 32) (tf 30 33) HT_ ?_
    refine sx 30 (some 33) (tf 31 33) HT_ ?_
    refine sx 31 (some 34) (tf 32 33) HT_ ?_
    refine px 32 (some 35) (tf 33 33) HT_ ?_
    refine done_ (done_of HT_.out t6_) ?_
    try go_wp2
    go_meet
    case rel => exact ⟨_, (true), t5_, H', ⟨by first | omega | exact Nat.le_refl _⟩, ⟨by repeat (first | (with_reducible first | exact HB.out | apply below_alloc | apply pw_below_drewN | apply below_drew1) | exact HB.out)⟩⟩
  ·rw [if_neg c3] at H
   exact absurd H t30_
 case rest =>
  clear HC2
  try clear p1
  try clear q1
  try clear hx1
  try clear qi1
  try clear p2
  try clear c3
  try clear c5
  try clear c6
  try clear c7
  try clear hx149_0
  try clear hx149_1
  try clear hx149_2
  try clear hx149_3
  try clear hx149_4
  try clear hx149_5
  try clear hx151_0
  try clear hx151_1
  try clear hx151_2
  try clear hx151_3
  try clear hx151_4
  try clear hx151_5
  try clear p149
  try clear p151
  try clear q149
  try clear q151
  obtain ⟨kq, x35_1, rfl, HA, HJ1, HB⟩ := hcut
  cases kq with
  | zero => exact absurd HA.out (by simp [spec_l03Ok.j0])
  | succ kj1 =>
   have H := HA.out
   clear HA
   simp only [spec_l03Ok.j0] at H
   by_cases c14 : x35_1 = true
   ·subst c14
    have H1 : (some false) = some r := by rw [if_pos rfl] at H; exact H
    clear H
    have H := H1
    clear H1
    obtain rfl := Option.some.inj H
    go_wp2
    go_ret
    exact ⟨by first | rfl | (rw [Int.tdiv_eq_ediv_of_nonneg t11_]; rfl) | (simp [errW_none, errW_some] <;> rfl) | (simp [*, errW_none, errW_some] <;> rfl), by repeat (first | (with_reducible first | exact HB.out | apply below_alloc | apply pw_below_drewN | apply below_drew1) | exact HB.out)⟩
   ·replace c14 := Bool.eq_false_iff.mpr c14
    subst c14
    have H1 : (if 0 < (l0.length : Int) then ((spec_l00In.f ((rd_T80 l0 0).f3) 1 10000).bind fun t158 => (if t158 = true then ((spec_l00In.f ((rd_T80 l0 0).f4) 20 1000).bind fun t160 => (if t160 = true then ((spec_l00In.f ((rd_T80 l0 0).f5) 0 5000).bind fun t162 => (some t162)) else (some false))) else (some false))) else (none)) = some r := by rw [if_neg (show ¬ (false = true) by decide)] at H; exact H
    clear H
    have H := H1
    clear H1
    by_cases c15 : 0 < (l0.length : Int)
    ·rw [if_pos c15] at H
     have c15b0 : decide (0 < (l0.length : Int)) = true := decide_eq_true c15
     have c15b1 : decide (0 < l0.length) = true := decide_eq_true t11_
     clear c15
     replace H := Option.bind_eq_some_iff.mp H
     obtain ⟨t158, A160, H⟩ := H
     replace H : (if t158 = true then ((spec_l00In.f ((rd_T80 l0 0).f4) 20 1000).bind fun t160 => (if t160 = true then ((spec_l00In.f ((rd_T80 l0 0).f5) 0 5000).bind fun t162 => (some t162)) else (some false))) else (some false)) = some r := H
     have A16 := Aside0.mk A160
     clear A160
     by_cases c17 : t158 = true
     ·subst c17
      have H1 : ((spec_l00In.f ((rd_T80 l0 0).f4) 20 1000).bind fun t160 => (if t160 = true then ((spec_l00In.f ((rd_T80 l0 0).f5) 0 5000).bind fun t162 => (some t162)) else (some false))) = some r := by rw [if_pos rfl] at H; exact H
      clear H
      have H := H1
      clear H1
      replace H := Option.bind_eq_some_iff.mp H
      obtain ⟨t160, A180, H⟩ := H
      replace H : (if t160 = true then ((spec_l00In.f ((rd_T80 l0 0).f5) 0 5000).bind fun t162 => (some t162)) else (some false)) = some r := H
      have A18 := Aside0.mk A180
      clear A180
      by_cases c19 : t160 = true
      ·subst c19
       have H1 : ((spec_l00In.f ((rd_T80 l0 0).f5) 0 5000).bind fun t162 => (some t162)) = some r := by rw [if_pos rfl] at H; exact H
       clear H
       have H := H1
       clear H1
       replace H := Option.bind_eq_some_iff.mp H
       obtain ⟨t162, A200, H⟩ := H
       replace H : (some t162) = some r := H
       have A20 := Aside0.mk A200
       clear A200
       obtain rfl := Option.some.inj H
       have p157 : 0 ≤ (0 : Int) := t11_
       have q157 : 0 < (l0.length : Int) := of_decide_eq_true t3_
       obtain ⟨ad157, e157, hx157_0, hx157_1, hx157_2, hx157_3, hx157_4, hx157_5⟩ := at_T80 HR0.out 0 p157 q157
       cases e157
       have qi157 : (0 < l0.length) = True := eq_true t11_
       (try rw [show ((0 : Int)).toNat = 0 from rfl] at hx157_0)
       (try rw [show 0 * 6 = 0 from rfl] at hx157_0)
       (try rw [Addr.add_zero'] at hx157_0)
       (try rw [show ((0 : Int)).toNat = 0 from rfl] at hx157_1)
       (try rw [show 0 * 6 = 0 from rfl] at hx157_1)
       (try rw [Addr.add_zero'] at hx157_1)
       (try rw [show ((0 : Int)).toNat = 0 from rfl] at hx157_2)
       (try rw [show 0 * 6 = 0 from rfl] at hx157_2)
       (try rw [Addr.add_zero'] at hx157_2)
       (try rw [show ((0 : Int)).toNat = 0 from rfl] at hx157_3)
       (try rw [show 0 * 6 = 0 from rfl] at hx157_3)
       (try rw [Addr.add_zero'] at hx157_3)
       (try rw [show ((0 : Int)).toNat = 0 from rfl] at hx157_4)
       (try rw [show 0 * 6 = 0 from rfl] at hx157_4)
       (try rw [Addr.add_zero'] at hx157_4)
       (try rw [show ((0 : Int)).toNat = 0 from rfl] at hx157_5)
       (try rw [show 0 * 6 = 0 from rfl] at hx157_5)
       (try rw [Addr.add_zero'] at hx157_5)
       replace hx157_0 := (HB.out.cell (World.block_lt_of_cell? w _ hx157_0)).trans hx157_0
       replace hx157_1 := (HB.out.cell (World.block_lt_of_cell? w _ hx157_1)).trans hx157_1
       replace hx157_2 := (HB.out.cell (World.block_lt_of_cell? w _ hx157_2)).trans hx157_2
       replace hx157_3 := (HB.out.cell (World.block_lt_of_cell? w _ hx157_3)).trans hx157_3
       replace hx157_4 := (HB.out.cell (World.block_lt_of_cell? w _ hx157_4)).trans hx157_4
       replace hx157_5 := (HB.out.cell (World.block_lt_of_cell? w _ hx157_5)).trans hx157_5
       replace p157 := eq_true p157
       replace q157 := eq_true q157
       go_wp2_with (first | ((with_reducible refine gate_callee (f := 64) rfl ?_); refine goesL_ (some 40) rfl rfl Try.func64 t6_ rfl #[.int .i64 ((rd_T80 l0 0).f3), .int .i64 1, .int .i64 10000] rfl t2_ ?_; (with_reducible refine (spec_l00In.calls ((rd_T80 l0 0).f3) 1 10000 true _ A16.out).mono ?_); rintro e w' ⟨rfl, ⟨nd, rfl⟩⟩; refine ⟨_, rfl, ?_⟩; have p159 : 0 ≤ (0 : Int) := t11_; have q159 : 0 < (l0.length : Int) := of_decide_eq_true t3_; obtain ⟨ad159, e159, hx159_0, hx159_1, hx159_2, hx159_3, hx159_4, hx159_5⟩ := at_T80 HR0.out 0 p159 q159; obtain rfl : ad157 = ad159 := (by injection e159); have qi159 : (0 < l0.length) = True := eq_true t11_; (try rw [show ((0 : Int)).toNat = 0 from rfl] at hx159_0); (try rw [show 0 * 6 = 0 from rfl] at hx159_0); (try rw [Addr.add_zero'] at hx159_0); (try rw [show ((0 : Int)).toNat = 0 from rfl] at hx159_1); (try rw [show 0 * 6 = 0 from rfl] at hx159_1); (try rw [Addr.add_zero'] at hx159_1); (try rw [show ((0 : Int)).toNat = 0 from rfl] at hx159_2); (try rw [show 0 * 6 = 0 from rfl] at hx159_2); (try rw [Addr.add_zero'] at hx159_2); (try rw [show ((0 : Int)).toNat = 0 from rfl] at hx159_3); (try rw [show 0 * 6 = 0 from rfl] at hx159_3); (try rw [Addr.add_zero'] at hx159_3); (try rw [show ((0 : Int)).toNat = 0 from rfl] at hx159_4); (try rw [show 0 * 6 = 0 from rfl] at hx159_4); (try rw [Addr.add_zero'] at hx159_4); (try rw [show ((0 : Int)).toNat = 0 from rfl] at hx159_5); (try rw [show 0 * 6 = 0 from rfl] at hx159_5); (try rw [Addr.add_zero'] at hx159_5); replace hx159_0 := (HB.out.cell (World.block_lt_of_cell? w _ hx159_0)).trans hx159_0; replace hx159_1 := (HB.out.cell (World.block_lt_of_cell? w _ hx159_1)).trans hx159_1; replace hx159_2 := (HB.out.cell (World.block_lt_of_cell? w _ hx159_2)).trans hx159_2; replace hx159_3 := (HB.out.cell (World.block_lt_of_cell? w _ hx159_3)).trans hx159_3; replace hx159_4 := (HB.out.cell (World.block_lt_of_cell? w _ hx159_4)).trans hx159_4; replace hx159_5 := (HB.out.cell (World.block_lt_of_cell? w _ hx159_5)).trans hx159_5; replace p159 := eq_true p159; replace q159 := eq_true q159) | (go_at_call 64; (with_reducible refine (spec_l00In.calls ((rd_T80 l0 0).f4) 20 1000 true _ A18.out).mono ?_); rintro e w' ⟨rfl, ⟨nd, rfl⟩⟩; have p161 : 0 ≤ (0 : Int) := t11_; have q161 : 0 < (l0.length : Int) := of_decide_eq_true t3_; obtain ⟨ad161, e161, hx161_0, hx161_1, hx161_2, hx161_3, hx161_4, hx161_5⟩ := at_T80 HR0.out 0 p161 q161; obtain rfl : ad157 = ad161 := (by injection e161); have qi161 : (0 < l0.length) = True := eq_true t11_; (try rw [show ((0 : Int)).toNat = 0 from rfl] at hx161_0); (try rw [show 0 * 6 = 0 from rfl] at hx161_0); (try rw [Addr.add_zero'] at hx161_0); (try rw [show ((0 : Int)).toNat = 0 from rfl] at hx161_1); (try rw [show 0 * 6 = 0 from rfl] at hx161_1); (try rw [Addr.add_zero'] at hx161_1); (try rw [show ((0 : Int)).toNat = 0 from rfl] at hx161_2); (try rw [show 0 * 6 = 0 from rfl] at hx161_2); (try rw [Addr.add_zero'] at hx161_2); (try rw [show ((0 : Int)).toNat = 0 from rfl] at hx161_3); (try rw [show 0 * 6 = 0 from rfl] at hx161_3); (try rw [Addr.add_zero'] at hx161_3); (try rw [show ((0 : Int)).toNat = 0 from rfl] at hx161_4); (try rw [show 0 * 6 = 0 from rfl] at hx161_4); (try rw [Addr.add_zero'] at hx161_4); (try rw [show ((0 : Int)).toNat = 0 from rfl] at hx161_5); (try rw [show 0 * 6 = 0 from rfl] at hx161_5); (try rw [Addr.add_zero'] at hx161_5); replace hx161_0 := (HB.out.cell (World.block_lt_of_cell? w _ hx161_0)).trans hx161_0; replace hx161_1 := (HB.out.cell (World.block_lt_of_cell? w _ hx161_1)).trans hx161_1; replace hx161_2 := (HB.out.cell (World.block_lt_of_cell? w _ hx161_2)).trans hx161_2; replace hx161_3 := (HB.out.cell (World.block_lt_of_cell? w _ hx161_3)).trans hx161_3; replace hx161_4 := (HB.out.cell (World.block_lt_of_cell? w _ hx161_4)).trans hx161_4; replace hx161_5 := (HB.out.cell (World.block_lt_of_cell? w _ hx161_5)).trans hx161_5; replace p161 := eq_true p161; replace q161 := eq_true q161) | (go_at_call 64; (with_reducible refine (spec_l00In.calls ((rd_T80 l0 0).f5) 0 5000 t162 _ A20.out).mono ?_); rintro e w' ⟨rfl, ⟨nd, rfl⟩⟩))
       go_ret
       exact ⟨by first | rfl | (rw [Int.tdiv_eq_ediv_of_nonneg t11_]; rfl) | (simp [errW_none, errW_some] <;> rfl) | (simp [*, errW_none, errW_some] <;> rfl), by repeat (first | (with_reducible first | exact HB.out | apply below_alloc | apply pw_below_drewN | apply below_drew1) | exact HB.out)⟩
      ·replace c19 := Bool.eq_false_iff.mpr c19
       subst c19
       have H1 : (some false) = some r := by rw [if_neg (show ¬ (false = true) by decide)] at H; exact H
       clear H
       have H := H1
       clear H1
       obtain rfl := Option.some.inj H
       have p157 : 0 ≤ (0 : Int) := t11_
       have q157 : 0 < (l0.length : Int) := of_decide_eq_true t3_
       obtain ⟨ad157, e157, hx157_0, hx157_1, hx157_2, hx157_3, hx157_4, hx157_5⟩ := at_T80 HR0.out 0 p157 q157
       cases e157
       have qi157 : (0 < l0.length) = True := eq_true t11_
       (try rw [show ((0 : Int)).toNat = 0 from rfl] at hx157_0)
       (try rw [show 0 * 6 = 0 from rfl] at hx157_0)
       (try rw [Addr.add_zero'] at hx157_0)
       (try rw [show ((0 : Int)).toNat = 0 from rfl] at hx157_1)
       (try rw [show 0 * 6 = 0 from rfl] at hx157_1)
       (try rw [Addr.add_zero'] at hx157_1)
       (try rw [show ((0 : Int)).toNat = 0 from rfl] at hx157_2)
       (try rw [show 0 * 6 = 0 from rfl] at hx157_2)
       (try rw [Addr.add_zero'] at hx157_2)
       (try rw [show ((0 : Int)).toNat = 0 from rfl] at hx157_3)
       (try rw [show 0 * 6 = 0 from rfl] at hx157_3)
       (try rw [Addr.add_zero'] at hx157_3)
       (try rw [show ((0 : Int)).toNat = 0 from rfl] at hx157_4)
       (try rw [show 0 * 6 = 0 from rfl] at hx157_4)
       (try rw [Addr.add_zero'] at hx157_4)
       (try rw [show ((0 : Int)).toNat = 0 from rfl] at hx157_5)
       (try rw [show 0 * 6 = 0 from rfl] at hx157_5)
       (try rw [Addr.add_zero'] at hx157_5)
       replace hx157_0 := (HB.out.cell (World.block_lt_of_cell? w _ hx157_0)).trans hx157_0
       replace hx157_1 := (HB.out.cell (World.block_lt_of_cell? w _ hx157_1)).trans hx157_1
       replace hx157_2 := (HB.out.cell (World.block_lt_of_cell? w _ hx157_2)).trans hx157_2
       replace hx157_3 := (HB.out.cell (World.block_lt_of_cell? w _ hx157_3)).trans hx157_3
       replace hx157_4 := (HB.out.cell (World.block_lt_of_cell? w _ hx157_4)).trans hx157_4
       replace hx157_5 := (HB.out.cell (World.block_lt_of_cell? w _ hx157_5)).trans hx157_5
       replace p157 := eq_true p157
       replace q157 := eq_true q157
       go_wp2_with (first | ((with_reducible refine gate_callee (f := 64) rfl ?_); refine goesL_ (some 40) rfl rfl Try.func64 t6_ rfl #[.int .i64 ((rd_T80 l0 0).f3), .int .i64 1, .int .i64 10000] rfl t2_ ?_; (with_reducible refine (spec_l00In.calls ((rd_T80 l0 0).f3) 1 10000 true _ A16.out).mono ?_); rintro e w' ⟨rfl, ⟨nd, rfl⟩⟩; refine ⟨_, rfl, ?_⟩; have p159 : 0 ≤ (0 : Int) := t11_; have q159 : 0 < (l0.length : Int) := of_decide_eq_true t3_; obtain ⟨ad159, e159, hx159_0, hx159_1, hx159_2, hx159_3, hx159_4, hx159_5⟩ := at_T80 HR0.out 0 p159 q159; obtain rfl : ad157 = ad159 := (by injection e159); have qi159 : (0 < l0.length) = True := eq_true t11_; (try rw [show ((0 : Int)).toNat = 0 from rfl] at hx159_0); (try rw [show 0 * 6 = 0 from rfl] at hx159_0); (try rw [Addr.add_zero'] at hx159_0); (try rw [show ((0 : Int)).toNat = 0 from rfl] at hx159_1); (try rw [show 0 * 6 = 0 from rfl] at hx159_1); (try rw [Addr.add_zero'] at hx159_1); (try rw [show ((0 : Int)).toNat = 0 from rfl] at hx159_2); (try rw [show 0 * 6 = 0 from rfl] at hx159_2); (try rw [Addr.add_zero'] at hx159_2); (try rw [show ((0 : Int)).toNat = 0 from rfl] at hx159_3); (try rw [show 0 * 6 = 0 from rfl] at hx159_3); (try rw [Addr.add_zero'] at hx159_3); (try rw [show ((0 : Int)).toNat = 0 from rfl] at hx159_4); (try rw [show 0 * 6 = 0 from rfl] at hx159_4); (try rw [Addr.add_zero'] at hx159_4); (try rw [show ((0 : Int)).toNat = 0 from rfl] at hx159_5); (try rw [show 0 * 6 = 0 from rfl] at hx159_5); (try rw [Addr.add_zero'] at hx159_5); replace hx159_0 := (HB.out.cell (World.block_lt_of_cell? w _ hx159_0)).trans hx159_0; replace hx159_1 := (HB.out.cell (World.block_lt_of_cell? w _ hx159_1)).trans hx159_1; replace hx159_2 := (HB.out.cell (World.block_lt_of_cell? w _ hx159_2)).trans hx159_2; replace hx159_3 := (HB.out.cell (World.block_lt_of_cell? w _ hx159_3)).trans hx159_3; replace hx159_4 := (HB.out.cell (World.block_lt_of_cell? w _ hx159_4)).trans hx159_4; replace hx159_5 := (HB.out.cell (World.block_lt_of_cell? w _ hx159_5)).trans hx159_5; replace p159 := eq_true p159; replace q159 := eq_true q159) | (go_at_call 64; (with_reducible refine (spec_l00In.calls ((rd_T80 l0 0).f4) 20 1000 false _ A18.out).mono ?_); rintro e w' ⟨rfl, ⟨nd, rfl⟩⟩))
       go_ret
       exact ⟨by first | rfl | (rw [Int.tdiv_eq_ediv_of_nonneg t11_]; rfl) | (simp [errW_none, errW_some] <;> rfl) | (simp [*, errW_none, errW_some] <;> rfl), by repeat (first | (with_reducible first | exact HB.out | apply below_alloc | apply pw_below_drewN | apply below_drew1) | exact HB.out)⟩
     ·replace c17 := Bool.eq_false_iff.mpr c17
      subst c17
      have H1 : (some false) = some r := by rw [if_neg (show ¬ (false = true) by decide)] at H; exact H
      clear H
      have H := H1
      clear H1
      obtain rfl := Option.some.inj H
      have p157 : 0 ≤ (0 : Int) := t11_
      have q157 : 0 < (l0.length : Int) := of_decide_eq_true t3_
      obtain ⟨ad157, e157, hx157_0, hx157_1, hx157_2, hx157_3, hx157_4, hx157_5⟩ := at_T80 HR0.out 0 p157 q157
      cases e157
      have qi157 : (0 < l0.length) = True := eq_true t11_
      (try rw [show ((0 : Int)).toNat = 0 from rfl] at hx157_0)
      (try rw [show 0 * 6 = 0 from rfl] at hx157_0)
      (try rw [Addr.add_zero'] at hx157_0)
      (try rw [show ((0 : Int)).toNat = 0 from rfl] at hx157_1)
      (try rw [show 0 * 6 = 0 from rfl] at hx157_1)
      (try rw [Addr.add_zero'] at hx157_1)
      (try rw [show ((0 : Int)).toNat = 0 from rfl] at hx157_2)
      (try rw [show 0 * 6 = 0 from rfl] at hx157_2)
      (try rw [Addr.add_zero'] at hx157_2)
      (try rw [show ((0 : Int)).toNat = 0 from rfl] at hx157_3)
      (try rw [show 0 * 6 = 0 from rfl] at hx157_3)
      (try rw [Addr.add_zero'] at hx157_3)
      (try rw [show ((0 : Int)).toNat = 0 from rfl] at hx157_4)
      (try rw [show 0 * 6 = 0 from rfl] at hx157_4)
      (try rw [Addr.add_zero'] at hx157_4)
      (try rw [show ((0 : Int)).toNat = 0 from rfl] at hx157_5)
      (try rw [show 0 * 6 = 0 from rfl] at hx157_5)
      (try rw [Addr.add_zero'] at hx157_5)
      replace hx157_0 := (HB.out.cell (World.block_lt_of_cell? w _ hx157_0)).trans hx157_0
      replace hx157_1 := (HB.out.cell (World.block_lt_of_cell? w _ hx157_1)).trans hx157_1
      replace hx157_2 := (HB.out.cell (World.block_lt_of_cell? w _ hx157_2)).trans hx157_2
      replace hx157_3 := (HB.out.cell (World.block_lt_of_cell? w _ hx157_3)).trans hx157_3
      replace hx157_4 := (HB.out.cell (World.block_lt_of_cell? w _ hx157_4)).trans hx157_4
      replace hx157_5 := (HB.out.cell (World.block_lt_of_cell? w _ hx157_5)).trans hx157_5
      replace p157 := eq_true p157
      replace q157 := eq_true q157
      go_wp2_with (first | ((with_reducible refine gate_callee (f := 64) rfl ?_); refine goesL_ (some 40) rfl rfl Try.func64 t6_ rfl #[.int .i64 ((rd_T80 l0 0).f3), .int .i64 1, .int .i64 10000] rfl t2_ ?_; (with_reducible refine (spec_l00In.calls ((rd_T80 l0 0).f3) 1 10000 false _ A16.out).mono ?_); rintro e w' ⟨rfl, ⟨nd, rfl⟩⟩; refine ⟨_, rfl, ?_⟩))
      go_ret
      exact ⟨by first | rfl | (rw [Int.tdiv_eq_ediv_of_nonneg t11_]; rfl) | (simp [errW_none, errW_some] <;> rfl) | (simp [*, errW_none, errW_some] <;> rfl), by repeat (first | (with_reducible first | exact HB.out | apply below_alloc | apply pw_below_drewN | apply below_drew1) | exact HB.out)⟩
    ·rw [if_neg c15] at H
     exact absurd H t30_

end Go.Proofs.Ytjelfhmgbhidnaa.PFnExactUnservedLoad
