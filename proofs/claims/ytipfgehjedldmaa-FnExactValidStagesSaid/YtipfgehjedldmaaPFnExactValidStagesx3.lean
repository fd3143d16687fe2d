-- written by wip/xprint.py, a program of this session, for this claim; not trusted: Lean checks it.
import Derived.Test.YtipfgehjedldmaaPFnExactValidStagesx0
import Derived.Test.YtipfgehjedldmaaPFnExactValidStagesx1
import Derived.Test.YtipfgehjedldmaaPFnExactValidStagesx2
namespace Go.Proofs.Ytipfgehjedldmaa.PFnExactValidStages
open Go.RowKit Go.Proofs.YtipfgehjedldmaaW.PrintWords Go.Proofs.YtipfgehjedldmaaW.PrintLast Go.Proofs.YtipfgehjedldmaaW.PrintMore
attribute [local go_sem] leq_less_ max2_int min2_int max_two min_two max_three min_three max_four min_four   -- for this text's walks alone
set_option linter.unusedVariables false
set_option linter.unusedSimpArgs false

/-! ### spec_l24Ok: function 28 -/
mutual
def spec_l24Ok.l0 : Nat → List (S54) → Int → Option (Bool)
 | 0, _, _ => none
 | k + 1, x0, x3 => if x3 < (x0.length : Int) then (if 0 ≤ x3 then ((spec_l01Name.f k ((rd_T54 x0 x3).f0)).bind fun t118 => (if t118 = true then ((spec_l00In.f ((rd_T54 x0 x3).f1) 1 1000000).bind fun t119 => (if t119 = true then ((spec_l00In.f ((rd_T54 x0 x3).f2) 0 1000000).bind fun t120 => (if t120 = true then (if (((rd_T54 x0 x3).f3).length : Int) > 8 then (spec_l24Ok.j1 k x0 x3 true) else (if x3 > 0 then (if 0 ≤ (wrap64 (x3 - 1)) then (if (wrap64 (x3 - 1)) < (x0.length : Int) then (spec_l24Ok.j1 k x0 x3 (!(Op.bytesLess (((rd_T54 x0 (wrap64 (x3 - 1))).f0).toList) (((rd_T54 x0 x3).f0).toList)))) else (none)) else (none)) else (spec_l24Ok.j1 k x0 x3 false))) else (spec_l24Ok.j1 k x0 x3 true))) else (spec_l24Ok.j1 k x0 x3 true))) else (spec_l24Ok.j1 k x0 x3 true))) else (none)) else (spec_l24Ok.l2 k x0 (([] : List Int)) 0)
def spec_l24Ok.j1 : Nat → List (S54) → Int → Bool → Option (Bool)
 | 0, _, _, _ => none
 | k + 1, x0, x3, x67 => if 0 ≤ x3 then (if x3 < (x0.length : Int) then (if x67 = true then (some false) else (spec_l24Ok.l1 k x0 x3 0)) else (none)) else (none)
def spec_l24Ok.l1 : Nat → List (S54) → Int → Int → Option (Bool)
 | 0, _, _, _ => none
 | k + 1, x0, x3, x5 => if 0 ≤ x3 then (if x3 < (x0.length : Int) then (if x5 < (((rd_T54 x0 x3).f3).length : Int) then (if 0 ≤ x5 then ((spec_l24Find.f k x0 (rdOf ByteArray.empty ((rd_T54 x0 x3).f3) x5)).bind fun t126 => (if t126 < 0 then (some false) else (if x5 > 0 then (if 0 ≤ (wrap64 (x5 - 1)) then (if (wrap64 (x5 - 1)) < (((rd_T54 x0 x3).f3).length : Int) then (if ((Op.bytesLess ((rdOf ByteArray.empty ((rd_T54 x0 x3).f3) (wrap64 (x5 - 1))).toList) ((rdOf ByteArray.empty ((rd_T54 x0 x3).f3) x5).toList)) = true) then (spec_l24Ok.l1 k x0 x3 (wrap64 (x5 + 1))) else (some false)) else (none)) else (none)) else (spec_l24Ok.l1 k x0 x3 (wrap64 (x5 + 1)))))) else (none)) else (spec_l24Ok.l0 k x0 (wrap64 (x3 + 1)))) else (none)) else (none)
def spec_l24Ok.l2 : Nat → List (S54) → List Int → Int → Option (Bool)
 | 0, _, _, _ => none
 | k + 1, x0, x6, x7 => if x7 < (x0.length : Int) then (spec_l24Ok.l3 k x0 x6 x7 0) else (some ((x6.length : Int) == (x0.length : Int)))
def spec_l24Ok.l3 : Nat → List (S54) → List Int → Int → Int → Option (Bool)
 | 0, _, _, _, _ => none
 | k + 1, x0, x6, x7, x8 => if x8 < (x0.length : Int) then ((spec_l00Has.f k x6 x8).bind fun t132 => (if t132 = true then (spec_l24Ok.l3 k x0 x6 x7 (wrap64 (x8 + 1))) else ((spec_l24Ready.f k x0 x6 x8).bind fun t133 => (if t133 = true then (if x6.length < 17592186044416 then (spec_l24Ok.l3 k x0 (x6 ++ [x8]) x7 (wrap64 (x8 + 1))) else (none)) else (spec_l24Ok.l3 k x0 x6 x7 (wrap64 (x8 + 1))))))) else (spec_l24Ok.l2 k x0 x6 (wrap64 (x7 + 1)))
end
def spec_l24Ok.f (k : Nat) (l0 : List (S54)) : Option (Bool) := if (l0.length : Int) > 8 then (some false) else (spec_l24Ok.l0 k l0 0)
theorem spec_l24Ok.mono_l : ∀ k, (∀ y0 y1, LeO (spec_l24Ok.l0 k y0 y1) (spec_l24Ok.l0 (k + 1) y0 y1)) ∧ (∀ y0 y1 y2, LeO (spec_l24Ok.j1 k y0 y1 y2) (spec_l24Ok.j1 (k + 1) y0 y1 y2)) ∧ (∀ y0 y1 y2, LeO (spec_l24Ok.l1 k y0 y1 y2) (spec_l24Ok.l1 (k + 1) y0 y1 y2)) ∧ (∀ y0 y1 y2, LeO (spec_l24Ok.l2 k y0 y1 y2) (spec_l24Ok.l2 (k + 1) y0 y1 y2)) ∧ (∀ y0 y1 y2 y3, LeO (spec_l24Ok.l3 k y0 y1 y2 y3) (spec_l24Ok.l3 (k + 1) y0 y1 y2 y3))
 | 0 => ⟨fun _ _ r h => by simp [spec_l24Ok.l0] at h, fun _ _ _ r h => by simp [spec_l24Ok.j1] at h, fun _ _ _ r h => by simp [spec_l24Ok.l1] at h, fun _ _ _ r h => by simp [spec_l24Ok.l2] at h, fun _ _ _ _ r h => by simp [spec_l24Ok.l3] at h⟩
 | k + 1 => by
  obtain ⟨ih0, ih1, ih2, ih3, ih4⟩ := spec_l24Ok.mono_l k
  refine ⟨?_, ?_, ?_, ?_, ?_⟩ <;> intros <;> first | unfold spec_l24Ok.l0 | unfold spec_l24Ok.j1 | unfold spec_l24Ok.l1 | unfold spec_l24Ok.l2 | unfold spec_l24Ok.l3
  all_goals
   repeat' first
   | (with_reducible exact ih0 _ _)
   | (with_reducible exact ih1 _ _ _)
   | (with_reducible exact ih2 _ _ _)
   | (with_reducible exact ih3 _ _ _)
   | (with_reducible exact ih4 _ _ _ _)
   | (with_reducible exact spec_l00Has.mono _ _ _)
   | (with_reducible exact spec_l01Name.mono _ _)
   | (with_reducible exact spec_l24Find.mono _ _ _)
   | (with_reducible exact spec_l24Ready.mono _ _ _ _)
   | (with_reducible exact LeO.refl _)
   | (with_reducible exact LeO.none _)
   | (with_reducible refine LeO.ite ?_ ?_)
   | (with_reducible refine LeO.bind ?_ (fun _ => ?_))
   | exact ih0 _ _
   | exact ih1 _ _ _
   | exact ih2 _ _ _
   | exact ih3 _ _ _
   | exact ih4 _ _ _ _
   | exact spec_l00Has.mono _ _ _
   | exact spec_l01Name.mono _ _
   | exact spec_l24Find.mono _ _ _
   | exact spec_l24Ready.mono _ _ _ _
   | exact LeO.none _
   | refine LeO.ite ?_ ?_
   | refine LeO.bind ?_ (fun _ => ?_)
theorem spec_l24Ok.mono : ∀ a0 k, LeO (spec_l24Ok.f k a0) (spec_l24Ok.f (k + 1) a0) := by
 intro a0 k
 obtain ⟨ih0, ih1, ih2, ih3, ih4⟩ := spec_l24Ok.mono_l k
 unfold spec_l24Ok.f
 repeat' first
   | (with_reducible exact ih0 _ _)
   | (with_reducible exact ih1 _ _ _)
   | (with_reducible exact ih2 _ _ _)
   | (with_reducible exact ih3 _ _ _)
   | (with_reducible exact ih4 _ _ _ _)
   | (with_reducible exact spec_l00Has.mono _ _ _)
   | (with_reducible exact spec_l01Name.mono _ _)
   | (with_reducible exact spec_l24Find.mono _ _ _)
   | (with_reducible exact spec_l24Ready.mono _ _ _ _)
   | (with_reducible exact LeO.refl _)
   | (with_reducible exact LeO.none _)
   | (with_reducible refine LeO.ite ?_ ?_)
   | (with_reducible refine LeO.bind ?_ (fun _ => ?_))
   | exact ih0 _ _
   | exact ih1 _ _ _
   | exact ih2 _ _ _
   | exact ih3 _ _ _
   | exact ih4 _ _ _ _
   | exact spec_l00Has.mono _ _ _
   | exact spec_l01Name.mono _ _
   | exact spec_l24Find.mono _ _ _
   | exact spec_l24Ready.mono _ _ _ _
   | exact LeO.none _
   | refine LeO.ite ?_ ?_
   | refine LeO.bind ?_ (fun _ => ?_)
def spec_l24Ok.T7 : Bool × List (List Nat × List Nat) := (true, [([], []), ([0], [0]), ([1], [1]), ([2], [2]), ([3], [3]), ([4], [4]), ([5, 4], [5]), ([6], [6]), ([7, 6], [6, 7]), ([8, 6], [6, 8]), ([9, 6], [6, 9]), ([10, 6, 6], [6, 10]), ([11, 6], [6, 11]), ([6, 12], [6, 12]), ([13, 11], [13]), ([14], [14]), ([15, 14], [14, 15]), ([16, 14], [14, 16]), ([17, 14], [14, 17]), ([18, 14, 14], [14, 18]), ([19, 14], [14, 19]), ([14, 20], [14, 20]), ([21, 19], [21]), ([22], [22]), ([23, 22], [22, 23]), ([24, 22], [22, 24]), ([25, 22], [22, 25]), ([26, 22], [22, 26]), ([27, 22], [22, 27]), ([22, 28], [22, 28]), ([29, 22], [29]), ([30], [30]), ([31, 30], [30, 31]), ([32, 30, 30], [30, 32]), ([33], [33]), ([33], [33]), ([35, 33], [33, 35]), ([34, 36, 33], [33, 34, 36]), ([37, 33], [33, 37]), ([38, 33], [33, 38]), ([33], [33]), ([40, 33], [33, 40]), ([41, 33], [33, 41]), ([42, 33], [33, 42]), ([39, 43, 33], [33, 39, 43]), ([33, 44, 30], [30, 33, 44]), ([30, 45], [30, 45])])
def spec_l24Ok.B7 : List Nat := [0, 1, 3, 7, 15, 31, 63, 127, 255, 511, 1023, 2047, 4095, 8191, 16383, 32767, 65535, 131071, 262143, 524287, 1048575, 2097151, 4194303, 8388607, 16777215, 33554431, 67108863, 134217727, 268435455, 536870911, 1073741823, 2147483647, 4294967295, 8589934591, 17179869183, 17179869183, 51539607551, 137438953471, 274877906943, 549755813887, 17179869183, 1116691496959, 3315714752511, 7713761263615, 17592186044415, 35184372088831, 70368744177663]
theorem spec_l24Ok.tab7 : rtab .any (opsOf Try.f28 7) = spec_l24Ok.T7 := by kernel_rfl
theorem spec_l24Ok.bits7 : waitsOk spec_l24Ok.T7.2 spec_l24Ok.B7 = true := by kernel_rfl
def spec_l24Ok.T12 : Bool × List (List Nat × List Nat) := (true, [([], []), ([], []), ([1], [1]), ([2], [2]), ([3], [3]), ([], []), ([4, 5], [4, 5]), ([6], [6]), ([0, 7], [0, 7]), ([8], [8]), ([9, 8], [9]), ([10], [10]), ([11, 10], [10, 11]), ([12, 10, 10], [10, 12]), ([13], [13]), ([14, 13], [13, 14]), ([15, 13], [13, 15]), ([16, 13], [13, 16]), ([13], [13]), ([18, 13], [13, 18]), ([17, 19, 13], [13, 17, 19]), ([20, 13], [13, 20]), ([13], [13]), ([22, 13], [13, 22]), ([23, 13], [13, 23]), ([24, 13], [13, 24]), ([13], [13]), ([25, 26, 13], [13, 25, 26]), ([27, 13], [13, 27]), ([21, 28, 13], [13, 21, 28]), ([13, 29, 10], [10, 13, 29]), ([10, 30], [10, 30])])
def spec_l24Ok.B12 : List Nat := [0, 0, 2, 6, 14, 0, 62, 126, 255, 511, 1023, 2047, 4095, 8191, 16383, 32767, 65535, 131071, 16383, 278527, 1048575, 2097151, 16383, 4210687, 12599295, 29376511, 16383, 130039807, 264257535, 536870911, 1073741823, 2147483647]
theorem spec_l24Ok.tab12 : rtab .any (opsOf Try.f28 12) = spec_l24Ok.T12 := by kernel_rfl
theorem spec_l24Ok.bits12 : waitsOk spec_l24Ok.T12.2 spec_l24Ok.B12 = true := by kernel_rfl
set_option maxHeartbeats 8000000 in
set_option maxRecDepth 100000 in
theorem spec_l24Ok.calls (k : Nat) (A0 : Option Addr) (c0 : Nat) (l0 : List (S54)) (r : Bool) (w : World) (hr0 : Kd.C k54 w A0 l0.length l0) (hc0 : l0.length ≤ c0) (h : spec_l24Ok.f k l0 = some r) :
  Calls Try.prog 28 #[.slice A0 l0.length c0] w fun e w' => e = .returned (.bool r) ∧ Below w.heap.size w w' := by
 have HR0 := Aside0.mk hr0
 have HC0 := Aside0.mk hc0
 clear hr0 hc0
 have HB := Aside0.mk (Below.refl w.heap.size w)
 have H : (if (l0.length : Int) > 8 then (some false) else (spec_l24Ok.l0 k l0 0)) = some r := h
 clear h
 by_cases c2 : (l0.length : Int) > 8
 ·rw [if_pos c2] at H
  have c2b0 : decide (8 < (l0.length : Int)) = true := decide_eq_true c2
  have c2b1 : decide (8 < l0.length) = true := decide_eq_true t7_
  clear c2
  obtain rfl := Option.some.inj H
  go_enter Try.func28, Try.ntmps28
  go_wp2
  go_ret
  exact ⟨by first | rfl | (rw [Int.tdiv_eq_ediv_of_nonneg t7_]; rfl) | (simp [errW_none, errW_some] <;> rfl) | (simp [*, errW_none, errW_some] <;> rfl), by repeat (first | (with_reducible first | exact HB.out | apply below_alloc | apply pw_below_drewN | apply below_drew1) | exact HB.out)⟩
 ·rw [if_neg c2] at H
  have c2b0 : decide (8 < (l0.length : Int)) = false := decide_eq_false c2
  have c2b1 : decide (8 < l0.length) = false := decide_eq_false t7_
  clear c2
  have H' := Aside0.mk H
  clear H
  go_enter Try.func28, Try.ntmps28
  go_wp2
  go_loopg [3] k (fun kq v3 w' => ∃ (x3_1 : Int), v3 = .int .i64 x3_1 ∧ Aside0 (spec_l24Ok.l0 kq l0 x3_1 = some r) ∧ Aside0 (kq ≤ k) ∧ Aside0 (Below w.heap.size w w'))
  case atStart => exact ⟨(0), t4_, H', ⟨Nat.le_refl _⟩, ⟨by repeat (first | (with_reducible first | exact HB.out | apply below_alloc | apply pw_below_drewN | apply below_drew1) | exact HB.out)⟩⟩
  case round =>
   clear H'
   try clear c2
   try clear c2b0
   try clear c2b1
   try clear p2
   obtain ⟨x3_1, rfl, HA, HK1, HB⟩ := hrel
   cases gk with
   | zero => exact absurd HA.out (by simp [spec_l24Ok.l0])
   | succ k1 =>
    have H := HA.out
    clear HA
    simp only [spec_l24Ok.l0] at H
    by_cases c3 : x3_1 < (l0.length : Int)
    ·rw [if_pos c3] at H
     have c3b0 : decide (x3_1 < (l0.length : Int)) = true := decide_eq_true c3
     clear c3
     by_cases c4 : 0 ≤ x3_1
     ·rw [if_pos c4] at H
      have c4b0 : decide (0 ≤ x3_1) = true := decide_eq_true c4
      clear c4
      have HC5 := Aside0.mk H
      clear H
      have p116 : 0 ≤ (x3_1 : Int) := of_decide_eq_true t3_
      have q116 : x3_1 < (l0.length : Int) := of_decide_eq_true t3_
      obtain ⟨ad116, A116_3, c116_3, e116, hx116_0, hx116_1, hx116_2, hx116_3, hl116_3, hi116_3⟩ := at_T54 HR0.out x3_1 p116 q116
      cases e116
      replace hx116_0 := (HB.out.cell (World.block_lt_of_cell? w _ hx116_0)).trans hx116_0
      replace hx116_1 := (HB.out.cell (World.block_lt_of_cell? w _ hx116_1)).trans hx116_1
      replace hx116_2 := (HB.out.cell (World.block_lt_of_cell? w _ hx116_2)).trans hx116_2
      replace hx116_3 := (HB.out.cell (World.block_lt_of_cell? w _ hx116_3)).trans hx116_3
      have HR116_3 := Aside0.mk hi116_3
      have HC116_3 := Aside0.mk hl116_3
      clear hi116_3 hl116_3
      replace p116 := eq_true p116
      replace q116 := eq_true q116
      go_upto_region 7 with (fail)
      go_cut [67] (fun v67 wc => ∃ (kq : Nat) (x67_4 : Bool), v67 = .bool x67_4 ∧ Aside0 (spec_l24Ok.j1 kq l0 x3_1 x67_4 = some r) ∧ Aside0 (kq ≤ k1) ∧ Aside0 (Below w.heap.size w wc))
      case first =>
       have H := HC5.out
       clear HC5
       replace H := Option.bind_eq_some_iff.mp H
       obtain ⟨t118, A60, H⟩ := H
       replace H : (if t118 = true then ((spec_l00In.f ((rd_T54 l0 x3_1).f1) 1 1000000).bind fun t119 => (if t119 = true then ((spec_l00In.f ((rd_T54 l0 x3_1).f2) 0 1000000).bind fun t120 => (if t120 = true then (if (((rd_T54 l0 x3_1).f3).length : Int) > 8 then (spec_l24Ok.j1 k1 l0 x3_1 true) else (if x3_1 > 0 then (if 0 ≤ (wrap64 (x3_1 - 1)) then (if (wrap64 (x3_1 - 1)) < (l0.length : Int) then (spec_l24Ok.j1 k1 l0 x3_1 (!(Op.bytesLess (((rd_T54 l0 (wrap64 (x3_1 - 1))).f0).toList) (((rd_T54 l0 x3_1).f0).toList)))) else (none)) else (none)) else (spec_l24Ok.j1 k1 l0 x3_1 false))) else (spec_l24Ok.j1 k1 l0 x3_1 true))) else (spec_l24Ok.j1 k1 l0 x3_1 true))) else (spec_l24Ok.j1 k1 l0 x3_1 true)) = some r := H
       have A6 := Aside0.mk A60
       clear A60
       by_cases c7 : t118 = true
       ·subst c7
        have H1 : ((spec_l00In.f ((rd_T54 l0 x3_1).f1) 1 1000000).bind fun t119 => (if t119 = true then ((spec_l00In.f ((rd_T54 l0 x3_1).f2) 0 1000000).bind fun t120 => (if t120 = true then (if (((rd_T54 l0 x3_1).f3).length : Int) > 8 then (spec_l24Ok.j1 k1 l0 x3_1 true) else (if x3_1 > 0 then (if 0 ≤ (wrap64 (x3_1 - 1)) then (if (wrap64 (x3_1 - 1)) < (l0.length : Int) then (spec_l24Ok.j1 k1 l0 x3_1 (!(Op.bytesLess (((rd_T54 l0 (wrap64 (x3_1 - 1))).f0).toList) (((rd_T54 l0 x3_1).f0).toList)))) else (none)) else (none)) else (spec_l24Ok.j1 k1 l0 x3_1 false))) else (spec_l24Ok.j1 k1 l0 x3_1 true))) else (spec_l24Ok.j1 k1 l0 x3_1 true))) = some r := by rw [if_pos rfl] at H; exact H
        clear H
        have H := H1
        clear H1
        replace H := Option.bind_eq_some_iff.mp H
        obtain ⟨t119, A80, H⟩ := H
        replace H : (if t119 = true then ((spec_l00In.f ((rd_T54 l0 x3_1).f2) 0 1000000).bind fun t120 => (if t120 = true then (if (((rd_T54 l0 x3_1).f3).length : Int) > 8 then (spec_l24Ok.j1 k1 l0 x3_1 true) else (if x3_1 > 0 then (if 0 ≤ (wrap64 (x3_1 - 1)) then (if (wrap64 (x3_1 - 1)) < (l0.length : Int) then (spec_l24Ok.j1 k1 l0 x3_1 (!(Op.bytesLess (((rd_T54 l0 (wrap64 (x3_1 - 1))).f0).toList) (((rd_T54 l0 x3_1).f0).toList)))) else (none)) else (none)) else (spec_l24Ok.j1 k1 l0 x3_1 false))) else (spec_l24Ok.j1 k1 l0 x3_1 true))) else (spec_l24Ok.j1 k1 l0 x3_1 true)) = some r := H
        have A8 := Aside0.mk A80
        clear A80
        by_cases c9 : t119 = true
        ·subst c9
         have H1 : ((spec_l00In.f ((rd_T54 l0 x3_1).f2) 0 1000000).bind fun t120 => (if t120 = true then (if (((rd_T54 l0 x3_1).f3).length : Int) > 8 then (spec_l24Ok.j1 k1 l0 x3_1 true) else (if x3_1 > 0 then (if 0 ≤ (wrap64 (x3_1 - 1)) then (if (wrap64 (x3_1 - 1)) < (l0.length : Int) then (spec_l24Ok.j1 k1 l0 x3_1 (!(Op.bytesLess (((rd_T54 l0 (wrap64 (x3_1 - 1))).f0).toList) (((rd_T54 l0 x3_1).f0).toList)))) else (none)) else (none)) else (spec_l24Ok.j1 k1 l0 x3_1 false))) else (spec_l24Ok.j1 k1 l0 x3_1 true))) = some r := by rw [if_pos rfl] at H; exact H
         clear H
         have H := H1
         clear H1
         replace H := Option.bind_eq_some_iff.mp H
         obtain ⟨t120, A100, H⟩ := H
         replace H : (if t120 = true then (if (((rd_T54 l0 x3_1).f3).length : Int) > 8 then (spec_l24Ok.j1 k1 l0 x3_1 true) else (if x3_1 > 0 then (if 0 ≤ (wrap64 (x3_1 - 1)) then (if (wrap64 (x3_1 - 1)) < (l0.length : Int) then (spec_l24Ok.j1 k1 l0 x3_1 (!(Op.bytesLess (((rd_T54 l0 (wrap64 (x3_1 - 1))).f0).toList) (((rd_T54 l0 x3_1).f0).toList)))) else (none)) else (none)) else (spec_l24Ok.j1 k1 l0 x3_1 false))) else (spec_l24Ok.j1 k1 l0 x3_1 true)) = some r := H
         have A10 := Aside0.mk A100
         clear A100
         by_cases c11 : t120 = true
         ·subst c11
          have H1 : (if (((rd_T54 l0 x3_1).f3).length : Int) > 8 then (spec_l24Ok.j1 k1 l0 x3_1 true) else (if x3_1 > 0 then (if 0 ≤ (wrap64 (x3_1 - 1)) then (if (wrap64 (x3_1 - 1)) < (l0.length : Int) then (spec_l24Ok.j1 k1 l0 x3_1 (!(Op.bytesLess (((rd_T54 l0 (wrap64 (x3_1 - 1))).f0).toList) (((rd_T54 l0 x3_1).f0).toList)))) else (none)) else (none)) else (spec_l24Ok.j1 k1 l0 x3_1 false))) = some r := by rw [if_pos rfl] at H; exact H
          clear H
          have H := H1
          clear H1
          by_cases c12 : (((rd_T54 l0 x3_1).f3).length : Int) > 8
          ·rw [if_pos c12] at H
           have c12b0 : decide (8 < (((rd_T54 l0 x3_1).f3).length : Int)) = true := decide_eq_true c12
           have c12b1 : decide (8 < ((rd_T54 l0 x3_1).f3).length) = true := decide_eq_true t7_
           clear c12
           (first | rw [c12b0] | (simp only [i64_w, i32_w]; rw [c12b0]) | skip)
           have H' := Aside0.mk H
           clear H
           try go_wp2
           have n0_ := Aside0.mk (below_drew1 HB.out)
           clear HB
           have HB := n0_
           clear n0_
           have p117 : 0 ≤ (x3_1 : Int) := of_decide_eq_true t3_
           have q117 : x3_1 < (l0.length : Int) := of_decide_eq_true t3_
           obtain ⟨ad117, A117_3, c117_3, e117, hx117_0, hx117_1, hx117_2, hx117_3, hl117_3, hi117_3⟩ := at_T54 HR0.out x3_1 p117 q117
           have hw117_3 := hx117_3
           have hw117_2 := hx117_2
           have hw117_1 := hx117_1
           have hw117_0 := hx117_0
           obtain rfl : ad116 = ad117 := (by injection e117)
           replace hx117_0 := (HB.out.cell (World.block_lt_of_cell? w _ hx117_0)).trans hx117_0
           replace hx117_1 := (HB.out.cell (World.block_lt_of_cell? w _ hx117_1)).trans hx117_1
           replace hx117_2 := (HB.out.cell (World.block_lt_of_cell? w _ hx117_2)).trans hx117_2
           replace hx117_3 := (HB.out.cell (World.block_lt_of_cell? w _ hx117_3)).trans hx117_3
           have HR117_3 := Aside0.mk hi117_3
           have HC117_3 := Aside0.mk hl117_3
           clear hi117_3 hl117_3
           replace p117 := eq_true p117
           replace q117 := eq_true q117
           refine start_ (n := 47) (S := fun w' => w'.cell? (ad116.add ((x3_1).toNat * 4)) = some (.string ((rd_T54 l0 x3_1).f0)) ∧ w'.cell? ⟨(ad116.add ((x3_1).toNat * 4)).block, (ad116.add ((x3_1).toNat * 4)).off + 1, none⟩ = some (.int .i64 ((rd_T54 l0 x3_1).f1)) ∧ w'.cell? ⟨(ad116.add ((x3_1).toNat * 4)).block, (ad116.add ((x3_1).toNat * 4)).off + 2, none⟩ = some (.int .i64 ((rd_T54 l0 x3_1).f2)) ∧ w'.cell? ⟨(ad116.add ((x3_1).toNat * 4)).block, (ad116.add ((x3_1).toNat * 4)).off + 3, none⟩ = some (.slice A117_3 ((rd_T54 l0 x3_1).f3).length c117_3)) (ds := []) (tf 0 47) t6_ rfl rfl ⟨((HB.out.cell (World.block_lt_of_cell? w _ hw117_0)).trans hw117_0), ((HB.out.cell (World.block_lt_of_cell? w _ hw117_1)).trans hw117_1), ((HB.out.cell (World.block_lt_of_cell? w _ hw117_2)).trans hw117_2), ((HB.out.cell (World.block_lt_of_cell? w _ hw117_3)).trans hw117_3)⟩ (fun hHeld => ?_); refine with_tabW spec_l24Ok.tab7 spec_l24Ok.bits7 (fun HT_ HW_ => ?_)
           generalize wr.drew = w13 at HB HR117_3 hx117_0 hx117_1 hx117_2 hx117_3 hHeld ⊢
           refine px 0 (some 21) (tf 1 47) HT_ ?_
           refine px 1 (some 22) (tf 2 47) HT_ ?_
           refine px 2 (some 23) (tf 3 47) HT_ ?_
           refine tx (v := ?_) 3 (some 24) (tf 4 47) HT_ HW_ hHeld ?_ ?_
           rotate_left; (· rintro w' ⟨s0, s1, s2, s3⟩; go_simp; with_reducible rfl)
           refine one_ (i := 4) (N := some 25) (tf 5 47) rfl rfl (one_of HT_.out t6_) t12_ (fun K hK => ?_)
           refine goes_ Try.func58 t6_ rfl #[.string ((rd_T54 l0 x3_1).f0)] (by rfl) rfl rfl t2_ ?_
           with_reducible refine (spec_l01Name.calls k1 ((rd_T54 l0 x3_1).f0) true _ A6.out).mono ?_
           rintro e w' ⟨rfl, ⟨nd, rfl⟩⟩
           refine ⟨_, rfl, ?_⟩
           refine hK.out _ _ ⟨((HB.out.cell (World.block_lt_of_cell? w _ hw117_0)).trans hw117_0), ((HB.out.cell (World.block_lt_of_cell? w _ hw117_1)).trans hw117_1), ((HB.out.cell (World.block_lt_of_cell? w _ hw117_2)).trans hw117_2), ((HB.out.cell (World.block_lt_of_cell? w _ hw117_3)).trans hw117_3)⟩ (fun hHeld => ?_)
           clear hK K
           refine norm_ (a' := ?_) ?_ ?_
           rotate_left
           ·show Act.put _ (some 25) _ = _
            simp only [Act.put, List.setIfInBounds_toArray, List.set_cons_zero, List.set_cons_succ, i64_w, i32_w]
            rfl
           refine px 5 (some 26) (tf 6 47) HT_ ?_
           refine px 6 (some 27) (tf 7 47) HT_ ?_
           refine px 7 (some 28) (tf 8 47) HT_ ?_
           refine px 8 (some 29) (tf 9 47) HT_ ?_
           refine px 9 (some 30) (tf 10 47) HT_ ?_
           refine tx (v := ?_) 10 (some 31) (tf 11 47) HT_ HW_ hHeld ?_ ?_
           rotate_left; (· rintro w' ⟨s0, s1, s2, s3⟩; go_simp; with_reducible rfl)
           refine one_ (i := 11) (N := some 32) (tf 12 47) rfl rfl (one_of HT_.out t6_) t12_ (fun K hK => ?_)
           refine goes_ Try.func37 t6_ rfl #[.int .i64 ((rd_T54 l0 x3_1).f1), .int .i64 1, .int .i64 1000000] (by rfl) rfl rfl t2_ ?_
           with_reducible refine (spec_l00In.calls ((rd_T54 l0 x3_1).f1) 1 1000000 true _ A8.out).mono ?_
           rintro e w' ⟨rfl, ⟨nd, rfl⟩⟩
           refine ⟨_, rfl, ?_⟩
           refine hK.out _ _ ⟨((HB.out.cell (World.block_lt_of_cell? w _ hw117_0)).trans hw117_0), ((HB.out.cell (World.block_lt_of_cell? w _ hw117_1)).trans hw117_1), ((HB.out.cell (World.block_lt_of_cell? w _ hw117_2)).trans hw117_2), ((HB.out.cell (World.block_lt_of_cell? w _ hw117_3)).trans hw117_3)⟩ (fun hHeld => ?_)
           clear hK K
           refine norm_ (a' := ?_) ?_ ?_
           rotate_left
           ·show Act.put _ (some 32) _ = _
            simp only [Act.put, List.setIfInBounds_toArray, List.set_cons_zero, List.set_cons_succ, i64_w, i32_w]
            rfl
           refine px 12 (some 33) (tf 13 47) HT_ ?_
           refine px 13 (some 34) (tf 14 47) HT_ ?_
           refine px 14 (some 35) (tf 15 47) HT_ ?_
           refine px 15 (some 36) (tf 16 47) HT_ ?_
           refine px 16 (some 37) (tf 17 47) HT_ ?_
           refine px 17 (some 38) (tf 18 47) HT_ ?_
           refine tx (v := ?_) 18 (some 39) (tf 19 47) HT_ HW_ hHeld ?_ ?_
           rotate_left; (· rintro w' ⟨s0, s1, s2, s3⟩; go_simp; with_reducible rfl)
           refine one_ (i := 19) (N := some 40) (tf 20 47) rfl rfl (one_of HT_.out t6_) t12_ (fun K hK => ?_)
           refine goes_ Try.func37 t6_ rfl #[.int .i64 ((rd_T54 l0 x3_1).f2), .int .i64 0, .int .i64 1000000] (by rfl) rfl rfl t2_ ?_
           with_reducible refine (spec_l00In.calls ((rd_T54 l0 x3_1).f2) 0 1000000 true _ A10.out).mono ?_
           rintro e w' ⟨rfl, ⟨nd, rfl⟩⟩
           refine ⟨_, rfl, ?_⟩
           refine hK.out _ _ ⟨((HB.out.cell (World.block_lt_of_cell? w _ hw117_0)).trans hw117_0), ((HB.out.cell (World.block_lt_of_cell? w _ hw117_1)).trans hw117_1), ((HB.out.cell (World.block_lt_of_cell? w _ hw117_2)).trans hw117_2), ((HB.out.cell (World.block_lt_of_cell? w _ hw117_3)).trans hw117_3)⟩ (fun hHeld => ?_)
           clear hK K
           refine norm_ (a' := ?_) ?_ ?_
           rotate_left
           ·show Act.put _ (some 40) _ = _
            simp only [Act.put, List.setIfInBounds_toArray, List.set_cons_zero, List.set_cons_succ, i64_w, i32_w]
            rfl
           refine px 20 (some 41) (tf 21 47) HT_ ?_
           refine px 21 (some 42) (tf 22 47) HT_ ?_
           refine px 22 (some 43) (tf 23 47) HT_ ?_
           refine px 23 (some 44) (tf 24 47) HT_ ?_
           refine px 24 (some 45) (tf 25 47) HT_ ?_
           refine px 25 (some 46) (tf 26 47) HT_ ?_
           refine tx (v := ?_) 26 (some 47) (tf 27 47) HT_ HW_ hHeld ?_ ?_
           rotate_left; (· rintro w' ⟨s0, s1, s2, s3⟩; go_simp; with_reducible rfl)
           refine px 27 (some 48) (tf 28 47) HT_ ?_
           refine px 28 (some 49) (tf 29 47) HT_ ?_
           refine px 29 (some 50) (tf 30 47) HT_ ?_
           refine px 30 (some 51) (tf 31 47) HT_ ?_
           refine sx 31 (some 52) (tf 32 47) HT_ ?_
           refine sx 32 (some 53) (tf 33 47) HT_ ?_
           refine sx 33 (some 54) (tf 34 47) HT_ ?_
           refine sx 34 (some 55) (tf 35 47) HT_ ?_
           refine sx 35 (some 56) (tf 36 47) HT_ ?_
           refine sx 36 (some 57) (tf 37 47) HT_ ?_
           refine sx 37 (some 58) (tf 38 47) HT_ ?_
           refine sx 38 (some 59) (tf 39 47) HT_ ?_
           refine sx 39 (some 60) (tf 40 47) HT_ ?_
           refine sx 40 (some 61) (tf 41 47) HT_ ?_
           refine sx 41 (some 62) (tf 42 47) HT_ ?_
           refine sx 42 (some 63) (tf 43 47) HT_ ?_
           refine sx 43 (some 64) (tf 44 47) HT_ ?_
           refine sx 44 (some 65) (tf 45 47) HT_ ?_
           refine sx 45 (some 66) (tf 46 47) HT_ ?_
           refine px 46 (some 67) (tf 47 47) HT_ ?_
           refine done_ (done_of HT_.out t6_) ?_
           try go_wp2
           go_meet
           case rel => exact ⟨_, (true), t4_, H', ⟨by have := HK1.out; first | omega | exact Nat.le_refl _⟩, ⟨by repeat (first | (with_reducible first | exact HB.out | apply below_alloc | apply pw_below_drewN | apply below_drew1) | exact HB.out)⟩⟩
          ·rw [if_neg c12] at H
           have c12b0 : decide (8 < (((rd_T54 l0 x3_1).f3).length : Int)) = false := decide_eq_false c12
           have c12b1 : decide (8 < ((rd_T54 l0 x3_1).f3).length) = false := decide_eq_false t7_
           clear c12
           (first | rw [c12b0] | (simp only [i64_w, i32_w]; rw [c12b0]) | skip)
           by_cases c14 : x3_1 > 0
           ·rw [if_pos c14] at H
            have c14b0 : decide (0 < x3_1) = true := decide_eq_true c14
            clear c14
            obtain ⟨ji15, hji15⟩ : ∃ j_ : Int, (wrap64 (x3_1 - 1)) = j_ := ⟨_, rfl⟩
            replace H : (if 0 ≤ (ji15) then (if (ji15) < (l0.length : Int) then (spec_l24Ok.j1 k1 l0 x3_1 (!(Op.bytesLess (((rd_T54 l0 (ji15)).f0).toList) (((rd_T54 l0 x3_1).f0).toList)))) else (none)) else (none)) = some r := by first | (rw [hji15] at H; exact H) | (simp only [hji15] at H ⊢; exact H)
            (try rw [hji15] at A6)
            (try rw [hji15] at A8)
            (try rw [hji15] at A10)
            have hji15w : (IntKind.i64.wrap (x3_1 - 1)) = ji15 := (i64_w _).trans hji15
            by_cases c16 : 0 ≤ (ji15)
            ·rw [if_pos c16] at H
             have c16b0 : decide (0 ≤ (ji15)) = true := decide_eq_true c16
             clear c16
             by_cases c17 : (ji15) < (l0.length : Int)
             ·rw [if_pos c17] at H
              have c17b0 : decide ((ji15) < (l0.length : Int)) = true := decide_eq_true c17
              clear c17
              have H' := Aside0.mk H
              clear H
              try go_wp2
              have n0_ := Aside0.mk (below_drew1 HB.out)
              clear HB
              have HB := n0_
              clear n0_
              have p117 : 0 ≤ (x3_1 : Int) := of_decide_eq_true t3_
              have q117 : x3_1 < (l0.length : Int) := of_decide_eq_true t3_
              obtain ⟨ad117, A117_3, c117_3, e117, hx117_0, hx117_1, hx117_2, hx117_3, hl117_3, hi117_3⟩ := at_T54 HR0.out x3_1 p117 q117
              have hw117_3 := hx117_3
              have hw117_2 := hx117_2
              have hw117_1 := hx117_1
              have hw117_0 := hx117_0
              obtain rfl : ad116 = ad117 := (by injection e117)
              replace hx117_0 := (HB.out.cell (World.block_lt_of_cell? w _ hx117_0)).trans hx117_0
              replace hx117_1 := (HB.out.cell (World.block_lt_of_cell? w _ hx117_1)).trans hx117_1
              replace hx117_2 := (HB.out.cell (World.block_lt_of_cell? w _ hx117_2)).trans hx117_2
              replace hx117_3 := (HB.out.cell (World.block_lt_of_cell? w _ hx117_3)).trans hx117_3
              have HR117_3 := Aside0.mk hi117_3
              have HC117_3 := Aside0.mk hl117_3
              clear hi117_3 hl117_3
              replace p117 := eq_true p117
              replace q117 := eq_true q117
              have p121 : 0 ≤ ((ji15) : Int) := of_decide_eq_true t3_
              have q121 : (ji15) < (l0.length : Int) := of_decide_eq_true t3_
              obtain ⟨ad121, A121_3, c121_3, e121, hx121_0, hx121_1, hx121_2, hx121_3, hl121_3, hi121_3⟩ := at_T54 HR0.out (ji15) p121 q121
              have hw121_3 := hx121_3
              have hw121_2 := hx121_2
              have hw121_1 := hx121_1
              have hw121_0 := hx121_0
              obtain rfl : ad116 = ad121 := (by injection e121)
              replace hx121_0 := (HB.out.cell (World.block_lt_of_cell? w _ hx121_0)).trans hx121_0
              replace hx121_1 := (HB.out.cell (World.block_lt_of_cell? w _ hx121_1)).trans hx121_1
              replace hx121_2 := (HB.out.cell (World.block_lt_of_cell? w _ hx121_2)).trans hx121_2
              replace hx121_3 := (HB.out.cell (World.block_lt_of_cell? w _ hx121_3)).trans hx121_3
              have HR121_3 := Aside0.mk hi121_3
              have HC121_3 := Aside0.mk hl121_3
              clear hi121_3 hl121_3
              replace p121 := eq_true p121
              replace q121 := eq_true q121
              refine start_ (n := 47) (S := fun w' => w'.cell? (ad116.add ((x3_1).toNat * 4)) = some (.string ((rd_T54 l0 x3_1).f0)) ∧ w'.cell? ⟨(ad116.add ((x3_1).toNat * 4)).block, (ad116.add ((x3_1).toNat * 4)).off + 1, none⟩ = some (.int .i64 ((rd_T54 l0 x3_1).f1)) ∧ w'.cell? ⟨(ad116.add ((x3_1).toNat * 4)).block, (ad116.add ((x3_1).toNat * 4)).off + 2, none⟩ = some (.int .i64 ((rd_T54 l0 x3_1).f2)) ∧ w'.cell? ⟨(ad116.add ((x3_1).toNat * 4)).block, (ad116.add ((x3_1).toNat * 4)).off + 3, none⟩ = some (.slice A117_3 ((rd_T54 l0 x3_1).f3).length c117_3) ∧ w'.cell? (ad116.add (((ji15)).toNat * 4)) = some (.string ((rd_T54 l0 (ji15)).f0)) ∧ w'.cell? ⟨(ad116.add (((ji15)).toNat * 4)).block, (ad116.add (((ji15)).toNat * 4)).off + 1, none⟩ = some (.int .i64 ((rd_T54 l0 (ji15)).f1)) ∧ w'.cell? ⟨(ad116.add (((ji15)).toNat * 4)).block, (ad116.add (((ji15)).toNat * 4)).off + 2, none⟩ = some (.int .i64 ((rd_T54 l0 (ji15)).f2)) ∧ w'.cell? ⟨(ad116.add (((ji15)).toNat * 4)).block, (ad116.add (((ji15)).toNat * 4)).off + 3, none⟩ = some (.slice A121_3 ((rd_T54 l0 (ji15)).f3).length c121_3)) (ds := []) (tf 0 47) t6_ rfl rfl ⟨((HB.out.cell (World.block_lt_of_cell? w _ hw117_0)).trans hw117_0), ((HB.out.cell (World.block_lt_of_cell? w _ hw117_1)).trans hw117_1), ((HB.out.cell (World.block_lt_of_cell? w _ hw117_2)).trans hw117_2), ((HB.out.cell (World.block_lt_of_cell? w _ hw117_3)).trans hw117_3), ((HB.out.cell (World.block_lt_of_cell? w _ hw121_0)).trans hw121_0), ((HB.out.cell (World.block_lt_of_cell? w _ hw121_1)).trans hw121_1), ((HB.out.cell (World.block_lt_of_cell? w _ hw121_2)).trans hw121_2), ((HB.out.cell (World.block_lt_of_cell? w _ hw121_3)).trans hw121_3)⟩ (fun hHeld => ?_); refine with_tabW spec_l24Ok.tab7 spec_l24Ok.bits7 (fun HT_ HW_ => ?_)
              generalize wr.drew = w18 at HB HR117_3 HR121_3 hx117_0 hx117_1 hx117_2 hx117_3 hx121_0 hx121_1 hx121_2 hx121_3 hHeld ⊢
              refine px 0 (some 21) (tf 1 47) HT_ ?_
              refine px 1 (some 22) (tf 2 47) HT_ ?_
              refine px 2 (some 23) (tf 3 47) HT_ ?_
              refine tx (v := ?_) 3 (some 24) (tf 4 47) HT_ HW_ hHeld ?_ ?_
              rotate_left; (· rintro w' ⟨s0, s1, s2, s3, s4, s5, s6, s7⟩; go_simp; with_reducible rfl)
              refine one_ (i := 4) (N := some 25) (tf 5 47) rfl rfl (one_of HT_.out t6_) t12_ (fun K hK => ?_)
              refine goes_ Try.func58 t6_ rfl #[.string ((rd_T54 l0 x3_1).f0)] (by rfl) rfl rfl t2_ ?_
              with_reducible refine (spec_l01Name.calls k1 ((rd_T54 l0 x3_1).f0) true _ A6.out).mono ?_
              rintro e w' ⟨rfl, ⟨nd, rfl⟩⟩
              refine ⟨_, rfl, ?_⟩
              refine hK.out _ _ ⟨((HB.out.cell (World.block_lt_of_cell? w _ hw117_0)).trans hw117_0), ((HB.out.cell (World.block_lt_of_cell? w _ hw117_1)).trans hw117_1), ((HB.out.cell (World.block_lt_of_cell? w _ hw117_2)).trans hw117_2), ((HB.out.cell (World.block_lt_of_cell? w _ hw117_3)).trans hw117_3), ((HB.out.cell (World.block_lt_of_cell? w _ hw121_0)).trans hw121_0), ((HB.out.cell (World.block_lt_of_cell? w _ hw121_1)).trans hw121_1), ((HB.out.cell (World.block_lt_of_cell? w _ hw121_2)).trans hw121_2), ((HB.out.cell (World.block_lt_of_cell? w _ hw121_3)).trans hw121_3)⟩ (fun hHeld => ?_)
              clear hK K
              refine norm_ (a' := ?_) ?_ ?_
              rotate_left
              ·show Act.put _ (some 25) _ = _
               simp only [Act.put, List.setIfInBounds_toArray, List.set_cons_zero, List.set_cons_succ, i64_w, i32_w]
               rfl
              refine px 5 (some 26) (tf 6 47) HT_ ?_
              refine px 6 (some 27) (tf 7 47) HT_ ?_
              refine px 7 (some 28) (tf 8 47) HT_ ?_
              refine px 8 (some 29) (tf 9 47) HT_ ?_
              refine px 9 (some 30) (tf 10 47) HT_ ?_
              refine tx (v := ?_) 10 (some 31) (tf 11 47) HT_ HW_ hHeld ?_ ?_
              rotate_left; (· rintro w' ⟨s0, s1, s2, s3, s4, s5, s6, s7⟩; go_simp; with_reducible rfl)
              refine one_ (i := 11) (N := some 32) (tf 12 47) rfl rfl (one_of HT_.out t6_) t12_ (fun K hK => ?_)
              refine goes_ Try.func37 t6_ rfl #[.int .i64 ((rd_T54 l0 x3_1).f1), .int .i64 1, .int .i64 1000000] (by rfl) rfl rfl t2_ ?_
              with_reducible refine (spec_l00In.calls ((rd_T54 l0 x3_1).f1) 1 1000000 true _ A8.out).mono ?_
              rintro e w' ⟨rfl, ⟨nd, rfl⟩⟩
              refine ⟨_, rfl, ?_⟩
              refine hK.out _ _ ⟨((HB.out.cell (World.block_lt_of_cell? w _ hw117_0)).trans hw117_0), ((HB.out.cell (World.block_lt_of_cell? w _ hw117_1)).trans hw117_1), ((HB.out.cell (World.block_lt_of_cell? w _ hw117_2)).trans hw117_2), ((HB.out.cell (World.block_lt_of_cell? w _ hw117_3)).trans hw117_3), ((HB.out.cell (World.block_lt_of_cell? w _ hw121_0)).trans hw121_0), ((HB.out.cell (World.block_lt_of_cell? w _ hw121_1)).trans hw121_1), ((HB.out.cell (World.block_lt_of_cell? w _ hw121_2)).trans hw121_2), ((HB.out.cell (World.block_lt_of_cell? w _ hw121_3)).trans hw121_3)⟩ (fun hHeld => ?_)
              clear hK K
              refine norm_ (a' := ?_) ?_ ?_
              rotate_left
              ·show Act.put _ (some 32) _ = _
               simp only [Act.put, List.setIfInBounds_toArray, List.set_cons_zero, List.set_cons_succ, i64_w, i32_w]
               rfl
              refine px 12 (some 33) (tf 13 47) HT_ ?_
              refine px 13 (some 34) (tf 14 47) HT_ ?_
              refine px 14 (some 35) (tf 15 47) HT_ ?_
              refine px 15 (some 36) (tf 16 47) HT_ ?_
              refine px 16 (some 37) (tf 17 47) HT_ ?_
              refine px 17 (some 38) (tf 18 47) HT_ ?_
              refine tx (v := ?_) 18 (some 39) (tf 19 47) HT_ HW_ hHeld ?_ ?_
              rotate_left; (· rintro w' ⟨s0, s1, s2, s3, s4, s5, s6, s7⟩; go_simp; with_reducible rfl)
              refine one_ (i := 19) (N := some 40) (tf 20 47) rfl rfl (one_of HT_.out t6_) t12_ (fun K hK => ?_)
              refine goes_ Try.func37 t6_ rfl #[.int .i64 ((rd_T54 l0 x3_1).f2), .int .i64 0, .int .i64 1000000] (by rfl) rfl rfl t2_ ?_
              with_reducible refine (spec_l00In.calls ((rd_T54 l0 x3_1).f2) 0 1000000 true _ A10.out).mono ?_
              rintro e w' ⟨rfl, ⟨nd, rfl⟩⟩
              refine ⟨_, rfl, ?_⟩
              refine hK.out _ _ ⟨((HB.out.cell (World.block_lt_of_cell? w _ hw117_0)).trans hw117_0), ((HB.out.cell (World.block_lt_of_cell? w _ hw117_1)).trans hw117_1), ((HB.out.cell (World.block_lt_of_cell? w _ hw117_2)).trans hw117_2), ((HB.out.cell (World.block_lt_of_cell? w _ hw117_3)).trans hw117_3), ((HB.out.cell (World.block_lt_of_cell? w _ hw121_0)).trans hw121_0), ((HB.out.cell (World.block_lt_of_cell? w _ hw121_1)).trans hw121_1), ((HB.out.cell (World.block_lt_of_cell? w _ hw121_2)).trans hw121_2), ((HB.out.cell (World.block_lt_of_cell? w _ hw121_3)).trans hw121_3)⟩ (fun hHeld => ?_)
              clear hK K
              refine norm_ (a' := ?_) ?_ ?_
              rotate_left
              ·show Act.put _ (some 40) _ = _
               simp only [Act.put, List.setIfInBounds_toArray, List.set_cons_zero, List.set_cons_succ, i64_w, i32_w]
               rfl
              refine px 20 (some 41) (tf 21 47) HT_ ?_
              refine px 21 (some 42) (tf 22 47) HT_ ?_
              refine px 22 (some 43) (tf 23 47) HT_ ?_
              refine px 23 (some 44) (tf 24 47) HT_ ?_
              refine px 24 (some 45) (tf 25 47) HT_ ?_
              refine px 25 (some 46) (tf 26 47) HT_ ?_
              refine tx (v := ?_) 26 (some 47) (tf 27 47) HT_ HW_ hHeld ?_ ?_
              rotate_left; (· rintro w' ⟨s0, s1, s2, s3, s4, s5, s6, s7⟩; go_simp; with_reducible rfl)
              refine px 27 (some 48) (tf 28 47) HT_ ?_
              refine px 28 (some 49) (tf 29 47) HT_ ?_
              refine px 29 (some 50) (tf 30 47) HT_ ?_
              refine px 30 (some 51) (tf 31 47) HT_ ?_
              refine px 31 (some 52) (tf 32 47) HT_ ?_
              refine px 32 (some 53) (tf 33 47) HT_ ?_
              refine px 33 (some 54) (tf 34 47) HT_ ?_
              refine px 34 (some 55) (tf 35 47) HT_ ?_
              refine px 35 (some 56) (tf 36 47) HT_ ?_
              refine px 36 (some 57) (tf 37 47) HT_ ?_
              refine px 37 (some 58) (tf 38 47) HT_ ?_
              refine px 38 (some 59) (tf 39 47) HT_ ?_
              refine px 40 (some 61) (tb 47 1649267441663) HT_ ?_
              refine px 41 (some 62) (tb 47 3848290697215) HT_ ?_
              refine px 42 (some 63) (tb 47 8246337208319) HT_ ?_
              refine tx (v := ?_) 39 (some 60) (tf 43 47) HT_ HW_ hHeld ?_ ?_
              rotate_left; (· rintro w' ⟨s0, s1, s2, s3, s4, s5, s6, s7⟩; go_simp; with_reducible rfl)
              refine tx (v := ?_) 43 (some 64) (tf 44 47) HT_ HW_ hHeld ?_ ?_
              rotate_left; (· rintro w' ⟨s0, s1, s2, s3, s4, s5, s6, s7⟩; go_simp; with_reducible rfl)
              refine px 44 (some 65) (tf 45 47) HT_ ?_
              refine px 45 (some 66) (tf 46 47) HT_ ?_
              refine px 46 (some 67) (tf 47 47) HT_ ?_
              refine done_ (done_of HT_.out t6_) ?_
              try go_wp2
              go_meet
              case rel => exact ⟨_, (!(Op.bytesLess (((rd_T54 l0 (ji15)).f0).toList) (((rd_T54 l0 x3_1).f0).toList))), (by first | rfl | (simp; done) | (simp only [← hji15] <;> (first | rfl | simp)) | (simp [*]; done)), H', ⟨by have := HK1.out; first | omega | exact Nat.le_refl _⟩, ⟨by repeat (first | (with_reducible first | exact HB.out | apply below_alloc | apply pw_below_drewN | apply below_drew1) | exact HB.out)⟩⟩
             ·rw [if_neg c17] at H
              exact absurd H t17_
            ·rw [if_neg c16] at H
             exact absurd H t17_
           ·rw [if_neg c14] at H
            have c14b0 : decide (0 < x3_1) = false := decide_eq_false c14
            clear c14
            have H' := Aside0.mk H
            clear H
            try go_wp2
            have n0_ := Aside0.mk (below_drew1 HB.out)
            clear HB
            have HB := n0_
            clear n0_
            have p117 : 0 ≤ (x3_1 : Int) := of_decide_eq_true t3_
            have q117 : x3_1 < (l0.length : Int) := of_decide_eq_true t3_
            obtain ⟨ad117, A117_3, c117_3, e117, hx117_0, hx117_1, hx117_2, hx117_3, hl117_3, hi117_3⟩ := at_T54 HR0.out x3_1 p117 q117
            have hw117_3 := hx117_3
            have hw117_2 := hx117_2
            have hw117_1 := hx117_1
            have hw117_0 := hx117_0
            obtain rfl : ad116 = ad117 := (by injection e117)
            replace hx117_0 := (HB.out.cell (World.block_lt_of_cell? w _ hx117_0)).trans hx117_0
            replace hx117_1 := (HB.out.cell (World.block_lt_of_cell? w _ hx117_1)).trans hx117_1
            replace hx117_2 := (HB.out.cell (World.block_lt_of_cell? w _ hx117_2)).trans hx117_2
            replace hx117_3 := (HB.out.cell (World.block_lt_of_cell? w _ hx117_3)).trans hx117_3
            have HR117_3 := Aside0.mk hi117_3
            have HC117_3 := Aside0.mk hl117_3
            clear hi117_3 hl117_3
            replace p117 := eq_true p117
            replace q117 := eq_true q117
            refine start_ (n := 47) (S := fun w' => w'.cell? (ad116.add ((x3_1).toNat * 4)) = some (.string ((rd_T54 l0 x3_1).f0)) ∧ w'.cell? ⟨(ad116.add ((x3_1).toNat * 4)).block, (ad116.add ((x3_1).toNat * 4)).off + 1, none⟩ = some (.int .i64 ((rd_T54 l0 x3_1).f1)) ∧ w'.cell? ⟨(ad116.add ((x3_1).toNat * 4)).block, (ad116.add ((x3_1).toNat * 4)).off + 2, none⟩ = some (.int .i64 ((rd_T54 l0 x3_1).f2)) ∧ w'.cell? ⟨(ad116.add ((x3_1).toNat * 4)).block, (ad116.add ((x3_1).toNat * 4)).off + 3, none⟩ = some (.slice A117_3 ((rd_T54 l0 x3_1).f3).length c117_3)) (ds := []) (tf 0 47) t6_ rfl rfl ⟨((HB.out.cell (World.block_lt_of_cell? w _ hw117_0)).trans hw117_0), ((HB.out.cell (World.block_lt_of_cell? w _ hw117_1)).trans hw117_1), ((HB.out.cell (World.block_lt_of_cell? w _ hw117_2)).trans hw117_2), ((HB.out.cell (World.block_lt_of_cell? w _ hw117_3)).trans hw117_3)⟩ (fun hHeld => ?_); refine with_tabW spec_l24Ok.tab7 spec_l24Ok.bits7 (fun HT_ HW_ => ?_)
            generalize wr.drew = w19 at HB HR117_3 hx117_0 hx117_1 hx117_2 hx117_3 hHeld ⊢
            refine px 0 (some 21) (tf 1 47) HT_ ?_
            refine px 1 (some 22) (tf 2 47) HT_ ?_
            refine px 2 (some 23) (tf 3 47) HT_ ?_
            refine tx (v := ?_) 3 (some 24) (tf 4 47) HT_ HW_ hHeld ?_ ?_
            rotate_left; (· rintro w' ⟨s0, s1, s2, s3⟩; go_simp; with_reducible rfl)
            refine one_ (i := 4) (N := some 25) (tf 5 47) rfl rfl (one_of HT_.out t6_) t12_ (fun K hK => ?_)
            refine goes_ Try.func58 t6_ rfl #[.string ((rd_T54 l0 x3_1).f0)] (by rfl) rfl rfl t2_ ?_
            with_reducible refine (spec_l01Name.calls k1 ((rd_T54 l0 x3_1).f0) true _ A6.out).mono ?_
            rintro e w' ⟨rfl, ⟨nd, rfl⟩⟩
            refine ⟨_, rfl, ?_⟩
            refine hK.out _ _ ⟨((HB.out.cell (World.block_lt_of_cell? w _ hw117_0)).trans hw117_0), ((HB.out.cell (World.block_lt_of_cell? w _ hw117_1)).trans hw117_1), ((HB.out.cell (World.block_lt_of_cell? w _ hw117_2)).trans hw117_2), ((HB.out.cell (World.block_lt_of_cell? w _ hw117_3)).trans hw117_3)⟩ (fun hHeld => ?_)
            clear hK K
            refine norm_ (a' := ?_) ?_ ?_
            rotate_left
            ·show Act.put _ (some 25) _ = _
             simp only [Act.put, List.setIfInBounds_toArray, List.set_cons_zero, List.set_cons_succ, i64_w, i32_w]
             rfl
            refine px 5 (some 26) (tf 6 47) HT_ ?_
            refine px 6 (some 27) (tf 7 47) HT_ ?_
            refine px 7 (some 28) (tf 8 47) HT_ ?_
            refine px 8 (some 29) (tf 9 47) HT_ ?_
            refine px 9 (some 30) (tf 10 47) HT_ ?_
            refine tx (v := ?_) 10 (some 31) (tf 11 47) HT_ HW_ hHeld ?_ ?_
            rotate_left; (· rintro w' ⟨s0, s1, s2, s3⟩; go_simp; with_reducible rfl)
            refine one_ (i := 11) (N := some 32) (tf 12 47) rfl rfl (one_of HT_.out t6_) t12_ (fun K hK => ?_)
            refine goes_ Try.func37 t6_ rfl #[.int .i64 ((rd_T54 l0 x3_1).f1), .int .i64 1, .int .i64 1000000] (by rfl) rfl rfl t2_ ?_
            with_reducible refine (spec_l00In.calls ((rd_T54 l0 x3_1).f1) 1 1000000 true _ A8.out).mono ?_
            rintro e w' ⟨rfl, ⟨nd, rfl⟩⟩
            refine ⟨_, rfl, ?_⟩
            refine hK.out _ _ ⟨((HB.out.cell (World.block_lt_of_cell? w _ hw117_0)).trans hw117_0), ((HB.out.cell (World.block_lt_of_cell? w _ hw117_1)).trans hw117_1), ((HB.out.cell (World.block_lt_of_cell? w _ hw117_2)).trans hw117_2), ((HB.out.cell (World.block_lt_of_cell? w _ hw117_3)).trans hw117_3)⟩ (fun hHeld => ?_)
            clear hK K
            refine norm_ (a' := ?_) ?_ ?_
            rotate_left
            ·show Act.put _ (some 32) _ = _
             simp only [Act.put, List.setIfInBounds_toArray, List.set_cons_zero, List.set_cons_succ, i64_w, i32_w]
             rfl
            refine px 12 (some 33) (tf 13 47) HT_ ?_
            refine px 13 (some 34) (tf 14 47) HT_ ?_
            refine px 14 (some 35) (tf 15 47) HT_ ?_
            refine px 15 (some 36) (tf 16 47) HT_ ?_
            refine px 16 (some 37) (tf 17 47) HT_ ?_
            refine px 17 (some 38) (tf 18 47) HT_ ?_
            refine tx (v := ?_) 18 (some 39) (tf 19 47) HT_ HW_ hHeld ?_ ?_
            rotate_left; (· rintro w' ⟨s0, s1, s2, s3⟩; go_simp; with_reducible rfl)
            refine one_ (i := 19) (N := some 40) (tf 20 47) rfl rfl (one_of HT_.out t6_) t12_ (fun K hK => ?_)
            refine goes_ Try.func37 t6_ rfl #[.int .i64 ((rd_T54 l0 x3_1).f2), .int .i64 0, .int .i64 1000000] (by rfl) rfl rfl t2_ ?_
            with_reducible refine (spec_l00In.calls ((rd_T54 l0 x3_1).f2) 0 1000000 true _ A10.out).mono ?_
            rintro e w' ⟨rfl, ⟨nd, rfl⟩⟩
            refine ⟨_, rfl, ?_⟩
            refine hK.out _ _ ⟨((HB.out.cell (World.block_lt_of_cell? w _ hw117_0)).trans hw117_0), ((HB.out.cell (World.block_lt_of_cell? w _ hw117_1)).trans hw117_1), ((HB.out.cell (World.block_lt_of_cell? w _ hw117_2)).trans hw117_2), ((HB.out.cell (World.block_lt_of_cell? w _ hw117_3)).trans hw117_3)⟩ (fun hHeld => ?_)
            clear hK K
            refine norm_ (a' := ?_) ?_ ?_
            rotate_left
            ·show Act.put _ (some 40) _ = _
             simp only [Act.put, List.setIfInBounds_toArray, List.set_cons_zero, List.set_cons_succ, i64_w, i32_w]
             rfl
            refine px 20 (some 41) (tf 21 47) HT_ ?_
            refine px 21 (some 42) (tf 22 47) HT_ ?_
            refine px 22 (some 43) (tf 23 47) HT_ ?_
            refine px 23 (some 44) (tf 24 47) HT_ ?_
            refine px 24 (some 45) (tf 25 47) HT_ ?_
            refine px 25 (some 46) (tf 26 47) HT_ ?_
            refine tx (v := ?_) 26 (some 47) (tf 27 47) HT_ HW_ hHeld ?_ ?_
            rotate_left; (· rintro w' ⟨s0, s1, s2, s3⟩; go_simp; with_reducible rfl)
            refine px 27 (some 48) (tf 28 47) HT_ ?_
            refine px 28 (some 49) (tf 29 47) HT_ ?_
            refine px 29 (some 50) (tf 30 47) HT_ ?_
            refine px 30 (some 51) (tf 31 47) HT_ ?_
            refine px 31 (some 52) (tf 32 47) HT_ ?_
            refine px 32 (some 53) (tf 33 47) HT_ ?_
            refine px 33 (some 54) (tf 34 47) HT_ ?_
            refine sx 34 (some 55) (tf 35 47) HT_ ?_
            refine sx 35 (some 56) (tf 36 47) HT_ ?_
            refine sx 36 (some 57) (tf 37 47) HT_ ?_
            refine sx 37 (some 58) (tf 38 47) HT_ ?_
            refine sx 38 (some 59) (tf 39 47) HT_ ?_
            refine sx 39 (some 60) (tf 40 47) HT_ ?_
            refine sx 40 (some 61) (tf 41 47) HT_ ?_
            refine sx 41 (some 62) (tf 42 47) HT_ ?_
            refine sx 42 (some 63) (tf 43 47) HT_ ?_
            refine sx 43 (some 64) (tf 44 47) HT_ ?_
            refine sx 44 (some 65) (tf 45 47) HT_ ?_
            refine px 45 (some 66) (tf 46 47) HT_ ?_
            refine px 46 (some 67) (tf 47 47) HT_ ?_
            refine done_ (done_of HT_.out t6_) ?_
            try go_wp2
            go_meet
            case rel => exact ⟨_, (false), t4_, H', ⟨by have := HK1.out; first | omega | exact Nat.le_refl _⟩, ⟨by repeat (first | (with_reducible first | exact HB.out | apply below_alloc | apply pw_below_drewN | apply below_drew1) | exact HB.out)⟩⟩
         ·replace c11 := Bool.eq_false_iff.mpr c11
          subst c11
          have H1 : (spec_l24Ok.j1 k1 l0 x3_1 true) = some r := by rw [if_neg (show ¬ (false = true) by decide)] at H; exact H
          clear H
          have H := H1
          clear H1
          have H' := Aside0.mk H
          clear H
          try go_wp2
          have n0_ := Aside0.mk (below_drew1 HB.out)
          clear HB
          have HB := n0_
          clear n0_
          have p117 : 0 ≤ (x3_1 : Int) := of_decide_eq_true t3_
          have q117 : x3_1 < (l0.length : Int) := of_decide_eq_true t3_
          obtain ⟨ad117, A117_3, c117_3, e117, hx117_0, hx117_1, hx117_2, hx117_3, hl117_3, hi117_3⟩ := at_T54 HR0.out x3_1 p117 q117
          have hw117_3 := hx117_3
          have hw117_2 := hx117_2
          have hw117_1 := hx117_1
          have hw117_0 := hx117_0
          obtain rfl : ad116 = ad117 := (by injection e117)
          replace hx117_0 := (HB.out.cell (World.block_lt_of_cell? w _ hx117_0)).trans hx117_0
          replace hx117_1 := (HB.out.cell (World.block_lt_of_cell? w _ hx117_1)).trans hx117_1
          replace hx117_2 := (HB.out.cell (World.block_lt_of_cell? w _ hx117_2)).trans hx117_2
          replace hx117_3 := (HB.out.cell (World.block_lt_of_cell? w _ hx117_3)).trans hx117_3
          have HR117_3 := Aside0.mk hi117_3
          have HC117_3 := Aside0.mk hl117_3
          clear hi117_3 hl117_3
          replace p117 := eq_true p117
          replace q117 := eq_true q117
          refine start_ (n := 47) (S := fun w' => w'.cell? (ad116.add ((x3_1).toNat * 4)) = some (.string ((rd_T54 l0 x3_1).f0)) ∧ w'.cell? ⟨(ad116.add ((x3_1).toNat * 4)).block, (ad116.add ((x3_1).toNat * 4)).off + 1, none⟩ = some (.int .i64 ((rd_T54 l0 x3_1).f1)) ∧ w'.cell? ⟨(ad116.add ((x3_1).toNat * 4)).block, (ad116.add ((x3_1).toNat * 4)).off + 2, none⟩ = some (.int .i64 ((rd_T54 l0 x3_1).f2)) ∧ w'.cell? ⟨(ad116.add ((x3_1).toNat * 4)).block, (ad116.add ((x3_1).toNat * 4)).off + 3, none⟩ = some (.slice A117_3 ((rd_T54 l0 x3_1).f3).length c117_3)) (ds := []) (tf 0 47) t6_ rfl rfl ⟨((HB.out.cell (World.block_lt_of_cell? w _ hw117_0)).trans hw117_0), ((HB.out.cell (World.block_lt_of_cell? w _ hw117_1)).trans hw117_1), ((HB.out.cell (World.block_lt_of_cell? w _ hw117_2)).trans hw117_2), ((HB.out.cell (World.block_lt_of_cell? w _ hw117_3)).trans hw117_3)⟩ (fun hHeld => ?_); refine with_tabW spec_l24Ok.tab7 spec_l24Ok.bits7 (fun HT_ HW_ => ?_)
          generalize wr.drew = w20 at HB HR117_3 hx117_0 hx117_1 hx117_2 hx117_3 hHeld ⊢
          refine px 0 (some 21) (tf 1 47) HT_ ?_
          refine px 1 (some 22) (tf 2 47) HT_ ?_
          refine px 2 (some 23) (tf 3 47) HT_ ?_
          refine tx (v := ?_) 3 (some 24) (tf 4 47) HT_ HW_ hHeld ?_ ?_
          rotate_left; (· rintro w' ⟨s0, s1, s2, s3⟩; go_simp; with_reducible rfl)
          refine one_ (i := 4) (N := some 25) (tf 5 47) rfl rfl (one_of HT_.out t6_) t12_ (fun K hK => ?_)
          refine goes_ Try.func58 t6_ rfl #[.string ((rd_T54 l0 x3_1).f0)] (by rfl) rfl rfl t2_ ?_
          with_reducible refine (spec_l01Name.calls k1 ((rd_T54 l0 x3_1).f0) true _ A6.out).mono ?_
          rintro e w' ⟨rfl, ⟨nd, rfl⟩⟩
          refine ⟨_, rfl, ?_⟩
          refine hK.out _ _ ⟨((HB.out.cell (World.block_lt_of_cell? w _ hw117_0)).trans hw117_0), ((HB.out.cell (World.block_lt_of_cell? w _ hw117_1)).trans hw117_1), ((HB.out.cell (World.block_lt_of_cell? w _ hw117_2)).trans hw117_2), ((HB.out.cell (World.block_lt_of_cell? w _ hw117_3)).trans hw117_3)⟩ (fun hHeld => ?_)
          clear hK K
          refine norm_ (a' := ?_) ?_ ?_
          rotate_left
          ·show Act.put _ (some 25) _ = _
           simp only [Act.put, List.setIfInBounds_toArray, List.set_cons_zero, List.set_cons_succ, i64_w, i32_w]
           rfl
          refine px 5 (some 26) (tf 6 47) HT_ ?_
          refine px 6 (some 27) (tf 7 47) HT_ ?_
          refine px 7 (some 28) (tf 8 47) HT_ ?_
          refine px 8 (some 29) (tf 9 47) HT_ ?_
          refine px 9 (some 30) (tf 10 47) HT_ ?_
          refine tx (v := ?_) 10 (some 31) (tf 11 47) HT_ HW_ hHeld ?_ ?_
          rotate_left; (· rintro w' ⟨s0, s1, s2, s3⟩; go_simp; with_reducible rfl)
          refine one_ (i := 11) (N := some 32) (tf 12 47) rfl rfl (one_of HT_.out t6_) t12_ (fun K hK => ?_)
          refine goes_ Try.func37 t6_ rfl #[.int .i64 ((rd_T54 l0 x3_1).f1), .int .i64 1, .int .i64 1000000] (by rfl) rfl rfl t2_ ?_
          with_reducible refine (spec_l00In.calls ((rd_T54 l0 x3_1).f1) 1 1000000 true _ A8.out).mono ?_
          rintro e w' ⟨rfl, ⟨nd, rfl⟩⟩
          refine ⟨_, rfl, ?_⟩
          refine hK.out _ _ ⟨((HB.out.cell (World.block_lt_of_cell? w _ hw117_0)).trans hw117_0), ((HB.out.cell (World.block_lt_of_cell? w _ hw117_1)).trans hw117_1), ((HB.out.cell (World.block_lt_of_cell? w _ hw117_2)).trans hw117_2), ((HB.out.cell (World.block_lt_of_cell? w _ hw117_3)).trans hw117_3)⟩ (fun hHeld => ?_)
          clear hK K
          refine norm_ (a' := ?_) ?_ ?_
          rotate_left
          ·show Act.put _ (some 32) _ = _
           simp only [Act.put, List.setIfInBounds_toArray, List.set_cons_zero, List.set_cons_succ, i64_w, i32_w]
           rfl
          refine px 12 (some 33) (tf 13 47) HT_ ?_
          refine px 13 (some 34) (tf 14 47) HT_ ?_
          refine px 14 (some 35) (tf 15 47) HT_ ?_
          refine px 15 (some 36) (tf 16 47) HT_ ?_
          refine px 16 (some 37) (tf 17 47) HT_ ?_
          refine px 17 (some 38) (tf 18 47) HT_ ?_
          refine tx (v := ?_) 18 (some 39) (tf 19 47) HT_ HW_ hHeld ?_ ?_
          rotate_left; (· rintro w' ⟨s0, s1, s2, s3⟩; go_simp; with_reducible rfl)
          refine one_ (i := 19) (N := some 40) (tf 20 47) rfl rfl (one_of HT_.out t6_) t12_ (fun K hK => ?_)
          refine goes_ Try.func37 t6_ rfl #[.int .i64 ((rd_T54 l0 x3_1).f2), .int .i64 0, .int .i64 1000000] (by rfl) rfl rfl t2_ ?_
          with_reducible refine (spec_l00In.calls ((rd_T54 l0 x3_1).f2) 0 1000000 false _ A10.out).mono ?_
          rintro e w' ⟨rfl, ⟨nd, rfl⟩⟩
          refine ⟨_, rfl, ?_⟩
          refine hK.out _ _ ⟨((HB.out.cell (World.block_lt_of_cell? w _ hw117_0)).trans hw117_0), ((HB.out.cell (World.block_lt_of_cell? w _ hw117_1)).trans hw117_1), ((HB.out.cell (World.block_lt_of_cell? w _ hw117_2)).trans hw117_2), ((HB.out.cell (World.block_lt_of_cell? w _ hw117_3)).trans hw117_3)⟩ (fun hHeld => ?_)
          clear hK K
          refine norm_ (a' := ?_) ?_ ?_
          rotate_left
          ·show Act.put _ (some 40) _ = _
           simp only [Act.put, List.setIfInBounds_toArray, List.set_cons_zero, List.set_cons_succ, i64_w, i32_w]
           rfl
          refine px 20 (some 41) (tf 21 47) HT_ ?_
          refine px 21 (some 42) (tf 22 47) HT_ ?_
          refine px 22 (some 43) (tf 23 47) HT_ ?_
          refine sx 23 (some 44) (tf 24 47) HT_ ?_
          refine sx 24 (some 45) (tf 25 47) HT_ ?_
          refine sx 25 (some 46) (tf 26 47) HT_ ?_
          refine sx 26 (some 47) (tf 27 47) HT_ ?_
          refine sx 27 (some 48) (tf 28 47) HT_ ?_
          refine sx 28 (some 49) (tf 29 47) HT_ ?_
          refine px 29 (some 50) (tf 30 47) HT_ ?_
          refine px 30 (some 51) (tf 31 47) HT_ ?_
          refine sx 31 (some 52) (tf 32 47) HT_ ?_
          refine sx 32 (some 53) (tf 33 47) HT_ ?_
          refine sx 33 (some 54) (tf 34 47) HT_ ?_
          refine sx 34 (some 55) (tf 35 47) HT_ ?_
          refine sx 35 (some 56) (tf 36 47) HT_ ?_
          refine sx 36 (some 57) (tf 37 47) HT_ ?_
          refine sx 37 (some 58) (tf 38 47) HT_ ?_
          refine sx 38 (some 59) (tf 39 47) HT_ ?_
          refine sx 39 (some 60) (tf 40 47) HT_ ?_
          refine sx 40 (some 61) (tf 41 47) HT_ ?_
          refine sx 41 (some 62) (tf 42 47) HT_ ?_
          refine sx 42 (some 63) (tf 43 47) HT_ ?_
          refine sx 43 (some 64) (tf 44 47) HT_ ?_
          refine sx 44 (some 65) (tf 45 47) HT_ ?_
          refine sx 45 (some 66) (tf 46 47) HT_ ?_
          refine px 46 (some 67) (tf 47 47) HT_ ?_
          refine done_ (done_of HT_.out t6_) ?_
          try go_wp2
          go_meet
          case rel => exact ⟨_, (true), t4_, H', ⟨by have := HK1.out; first | omega | exact Nat.le_refl _⟩, ⟨by repeat (first | (with_reducible first | exact HB.out | apply below_alloc | apply pw_below_drewN | apply below_drew1) | exact HB.out)⟩⟩
        ·replace c9 := Bool.eq_false_iff.mpr c9
         subst c9
         have H1 : (spec_l24Ok.j1 k1 l0 x3_1 true) = some r := by rw [if_neg (show ¬ (false = true) by decide)] at H; exact H
         clear H
         have H := H1
         clear H1
         have H' := Aside0.mk H
         clear H
         try go_wp2
         have n0_ := Aside0.mk (below_drew1 HB.out)
         clear HB
         have HB := n0_
         clear n0_
         have p117 : 0 ≤ (x3_1 : Int) := of_decide_eq_true t3_
         have q117 : x3_1 < (l0.length : Int) := of_decide_eq_true t3_
         obtain ⟨ad117, A117_3, c117_3, e117, hx117_0, hx117_1, hx117_2, hx117_3, hl117_3, hi117_3⟩ := at_T54 HR0.out x3_1 p117 q117
         have hw117_3 := hx117_3
         have hw117_2 := hx117_2
         have hw117_1 := hx117_1
         have hw117_0 := hx117_0
         obtain rfl : ad116 = ad117 := (by injection e117)
         replace hx117_0 := (HB.out.cell (World.block_lt_of_cell? w _ hx117_0)).trans hx117_0
         replace hx117_1 := (HB.out.cell (World.block_lt_of_cell? w _ hx117_1)).trans hx117_1
         replace hx117_2 := (HB.out.cell (World.block_lt_of_cell? w _ hx117_2)).trans hx117_2
         replace hx117_3 := (HB.out.cell (World.block_lt_of_cell? w _ hx117_3)).trans hx117_3
         have HR117_3 := Aside0.mk hi117_3
         have HC117_3 := Aside0.mk hl117_3
         clear hi117_3 hl117_3
         replace p117 := eq_true p117
         replace q117 := eq_true q117
         refine start_ (n := 47) (S := fun w' => w'.cell? (ad116.add ((x3_1).toNat * 4)) = some (.string ((rd_T54 l0 x3_1).f0)) ∧ w'.cell? ⟨(ad116.add ((x3_1).toNat * 4)).block, (ad116.add ((x3_1).toNat * 4)).off + 1, none⟩ = some (.int .i64 ((rd_T54 l0 x3_1).f1)) ∧ w'.cell? ⟨(ad116.add ((x3_1).toNat * 4)).block, (ad116.add ((x3_1).toNat * 4)).off + 2, none⟩ = some (.int .i64 ((rd_T54 l0 x3_1).f2)) ∧ w'.cell? ⟨(ad116.add ((x3_1).toNat * 4)).block, (ad116.add ((x3_1).toNat * 4)).off + 3, none⟩ = some (.slice A117_3 ((rd_T54 l0 x3_1).f3).length c117_3)) (ds := []) (tf 0 47) t6_ rfl rfl ⟨((HB.out.cell (World.block_lt_of_cell? w _ hw117_0)).trans hw117_0), ((HB.out.cell (World.block_lt_of_cell? w _ hw117_1)).trans hw117_1), ((HB.out.cell (World.block_lt_of_cell? w _ hw117_2)).trans hw117_2), ((HB.out.cell (World.block_lt_of_cell? w _ hw117_3)).trans hw117_3)⟩ (fun hHeld => ?_); refine with_tabW spec_l24Ok.tab7 spec_l24Ok.bits7 (fun HT_ HW_ => ?_)
         generalize wr.drew = w21 at HB HR117_3 hx117_0 hx117_1 hx117_2 hx117_3 hHeld ⊢
         refine px 0 (some 21) (tf 1 47) HT_ ?_
         refine px 1 (some 22) (tf 2 47) HT_ ?_
         refine px 2 (some 23) (tf 3 47) HT_ ?_
         refine tx (v := ?_) 3 (some 24) (tf 4 47) HT_ HW_ hHeld ?_ ?_
         rotate_left; (· rintro w' ⟨s0, s1, s2, s3⟩; go_simp; with_reducible rfl)
         refine one_ (i := 4) (N := some 25) (tf 5 47) rfl rfl (one_of HT_.out t6_) t12_ (fun K hK => ?_)
         refine goes_ Try.func58 t6_ rfl #[.string ((rd_T54 l0 x3_1).f0)] (by rfl) rfl rfl t2_ ?_
         with_reducible refine (spec_l01Name.calls k1 ((rd_T54 l0 x3_1).f0) true _ A6.out).mono ?_
         rintro e w' ⟨rfl, ⟨nd, rfl⟩⟩
         refine ⟨_, rfl, ?_⟩
         refine hK.out _ _ ⟨((HB.out.cell (World.block_lt_of_cell? w _ hw117_0)).trans hw117_0), ((HB.out.cell (World.block_lt_of_cell? w _ hw117_1)).trans hw117_1), ((HB.out.cell (World.block_lt_of_cell? w _ hw117_2)).trans hw117_2), ((HB.out.cell (World.block_lt_of_cell? w _ hw117_3)).trans hw117_3)⟩ (fun hHeld => ?_)
         clear hK K
         refine norm_ (a' := ?_) ?_ ?_
         rotate_left
         ·show Act.put _ (some 25) _ = _
          simp only [Act.put, List.setIfInBounds_toArray, List.set_cons_zero, List.set_cons_succ, i64_w, i32_w]
          rfl
         refine px 5 (some 26) (tf 6 47) HT_ ?_
         refine px 6 (some 27) (tf 7 47) HT_ ?_
         refine px 7 (some 28) (tf 8 47) HT_ ?_
         refine px 8 (some 29) (tf 9 47) HT_ ?_
         refine px 9 (some 30) (tf 10 47) HT_ ?_
         refine tx (v := ?_) 10 (some 31) (tf 11 47) HT_ HW_ hHeld ?_ ?_
         rotate_left; (· rintro w' ⟨s0, s1, s2, s3⟩; go_simp; with_reducible rfl)
         refine one_ (i := 11) (N := some 32) (tf 12 47) rfl rfl (one_of HT_.out t6_) t12_ (fun K hK => ?_)
         refine goes_ Try.func37 t6_ rfl #[.int .i64 ((rd_T54 l0 x3_1).f1), .int .i64 1, .int .i64 1000000] (by rfl) rfl rfl t2_ ?_
         with_reducible refine (spec_l00In.calls ((rd_T54 l0 x3_1).f1) 1 1000000 false _ A8.out).mono ?_
         rintro e w' ⟨rfl, ⟨nd, rfl⟩⟩
         refine ⟨_, rfl, ?_⟩
         refine hK.out _ _ ⟨((HB.out.cell (World.block_lt_of_cell? w _ hw117_0)).trans hw117_0), ((HB.out.cell (World.block_lt_of_cell? w _ hw117_1)).trans hw117_1), ((HB.out.cell (World.block_lt_of_cell? w _ hw117_2)).trans hw117_2), ((HB.out.cell (World.block_lt_of_cell? w _ hw117_3)).trans hw117_3)⟩ (fun hHeld => ?_)
         clear hK K
         refine norm_ (a' := ?_) ?_ ?_
         rotate_left
         ·show Act.put _ (some 32) _ = _
          simp only [Act.put, List.setIfInBounds_toArray, List.set_cons_zero, List.set_cons_succ, i64_w, i32_w]
          rfl
         refine px 12 (some 33) (tf 13 47) HT_ ?_
         refine px 13 (some 34) (tf 14 47) HT_ ?_
         refine px 14 (some 35) (tf 15 47) HT_ ?_
         refine sx 15 (some 36) (tf 16 47) HT_ ?_
         refine sx 16 (some 37) (tf 17 47) HT_ ?_
         refine sx 17 (some 38) (tf 18 47) HT_ ?_
         refine sx 18 (some 39) (tf 19 47) HT_ ?_
         refine sx 19 (some 40) (tf 20 47) HT_ ?_
         refine sx 20 (some 41) (tf 21 47) HT_ ?_
         refine px 21 (some 42) (tf 22 47) HT_ ?_
         refine px 22 (some 43) (tf 23 47) HT_ ?_
         refine sx 23 (some 44) (tf 24 47) HT_ ?_
         refine sx 24 (some 45) (tf 25 47) HT_ ?_
         refine sx 25 (some 46) (tf 26 47) HT_ ?_
         refine sx 26 (some 47) (tf 27 47) HT_ ?_
         refine sx 27 (some 48) (tf 28 47) HT_ ?_
         refine sx 28 (some 49) (tf 29 47) HT_ ?_
         refine px 29 (some 50) (tf 30 47) HT_ ?_
         refine px 30 (some 51) (tf 31 47) HT_ ?_
         refine sx 31 (some 52) (tf 32 47) HT_ ?_
         refine sx 32 (some 53) (tf 33 47) HT_ ?_
         refine sx 33 (some 54) (tf 34 47) HT_ ?_
         refine sx 34 (some 55) (tf 35 47) HT_ ?_
         refine sx 35 (some 56) (tf 36 47) HT_ ?_
         refine sx 36 (some 57) (tf 37 47) HT_ ?_
         refine sx 37 (some 58) (tf 38 47) HT_ ?_
         refine sx 38 (some 59) (tf 39 47) HT_ ?_
         refine sx 39 (some 60) (tf 40 47) HT_ ?_
         refine sx 40 (some 61) (tf 41 47) HT_ ?_
         refine sx 41 (some 62) (tf 42 47) HT_ ?_
         refine sx 42 (some 63) (tf 43 47) HT_ ?_
         refine sx 43 (some 64) (tf 44 47) HT_ ?_
         refine sx 44 (some 65) (tf 45 47) HT_ ?_
         refine sx 45 (some 66) (tf 46 47) HT_ ?_
         refine px 46 (some 67) (tf 47 47) HT_ ?_
         refine done_ (done_of HT_.out t6_) ?_
         try go_wp2
         go_meet
         case rel => exact ⟨_, (true), t4_, H', ⟨by have := HK1.out; first | omega | exact Nat.le_refl _⟩, ⟨by repeat (first | (with_reducible first | exact HB.out | apply below_alloc | apply pw_below_drewN | apply below_drew1) | exact HB.out)⟩⟩
       ·replace c7 := Bool.eq_false_iff.mpr c7
        subst c7
        have H1 : (spec_l24Ok.j1 k1 l0 x3_1 true) = some r := by rw [if_neg (show ¬ (false = true) by decide)] at H; exact H
        clear H
        have H := H1
        clear H1
        have H' := Aside0.mk H
        clear H
        try go_wp2
        have n0_ := Aside0.mk (below_drew1 HB.out)
        clear HB
        have HB := n0_
        clear n0_
        have p117 : 0 ≤ (x3_1 : Int) := of_decide_eq_true t3_
        have q117 : x3_1 < (l0.length : Int) := of_decide_eq_true t3_
        obtain ⟨ad117, A117_3, c117_3, e117, hx117_0, hx117_1, hx117_2, hx117_3, hl117_3, hi117_3⟩ := at_T54 HR0.out x3_1 p117 q117
        have hw117_3 := hx117_3
        have hw117_2 := hx117_2
        have hw117_1 := hx117_1
        have hw117_0 := hx117_0
        obtain rfl : ad116 = ad117 := (by injection e117)
        replace hx117_0 := (HB.out.cell (World.block_lt_of_cell? w _ hx117_0)).trans hx117_0
        replace hx117_1 := (HB.out.cell (World.block_lt_of_cell? w _ hx117_1)).trans hx117_1
        replace hx117_2 := (HB.out.cell (World.block_lt_of_cell? w _ hx117_2)).trans hx117_2
        replace hx117_3 := (HB.out.cell (World.block_lt_of_cell? w _ hx117_3)).trans hx117_3
        have HR117_3 := Aside0.mk hi117_3
        have HC117_3 := Aside0.mk hl117_3
        clear hi117_3 hl117_3
        replace p117 := eq_true p117
        replace q117 := eq_true q117
        refine start_ (n := 47) (S := fun w' => w'.cell? (ad116.add ((x3_1).toNat * 4)) = some (.string ((rd_T54 l0 x3_1).f0)) ∧ w'.cell? ⟨(ad116.add ((x3_1).toNat * 4)).block, (ad116.add ((x3_1).toNat * 4)).off + 1, none⟩ = some (.int .i64 ((rd_T54 l0 x3_1).f1)) ∧ w'.cell? ⟨(ad116.add ((x3_1).toNat * 4)).block, (ad116.add ((x3_1).toNat * 4)).off + 2, none⟩ = some (.int .i64 ((rd_T54 l0 x3_1).f2)) ∧ w'.cell? ⟨(ad116.add ((x3_1).toNat * 4)).block, (ad116.add ((x3_1).toNat * 4)).off + 3, none⟩ = some (.slice A117_3 ((rd_T54 l0 x3_1).f3).length c117_3)) (ds := []) (tf 0 47) t6_ rfl rfl ⟨((HB.out.cell (World.block_lt_of_cell? w _ hw117_0)).trans hw117_0), ((HB.out.cell (World.block_lt_of_cell? w _ hw117_1)).trans hw117_1), ((HB.out.cell (World.block_lt_of_cell? w _ hw117_2)).trans hw117_2), ((HB.out.cell (World.block_lt_of_cell? w _ hw117_3)).trans hw117_3)⟩ (fun hHeld => ?_); refine with_tabW spec_l24Ok.tab7 spec_l24Ok.bits7 (fun HT_ HW_ => ?_)
        generalize wr.drew = w22 at HB HR117_3 hx117_0 hx117_1 hx117_2 hx117_3 hHeld ⊢
        refine px 0 (some 21) (tf 1 47) HT_ ?_
        refine px 1 (some 22) (tf 2 47) HT_ ?_
        refine px 2 (some 23) (tf 3 47) HT_ ?_
        refine tx (v := ?_) 3 (some 24) (tf 4 47) HT_ HW_ hHeld ?_ ?_
        rotate_left; (· rintro w' ⟨s0, s1, s2, s3⟩; go_simp; with_reducible rfl)
        refine one_ (i := 4) (N := some 25) (tf 5 47) rfl rfl (one_of HT_.out t6_) t12_ (fun K hK => ?_)
        refine goes_ Try.func58 t6_ rfl #[.string ((rd_T54 l0 x3_1).f0)] (by rfl) rfl rfl t2_ ?_
        with_reducible refine (spec_l01Name.calls k1 ((rd_T54 l0 x3_1).f0) false _ A6.out).mono ?_
        rintro e w' ⟨rfl, ⟨nd, rfl⟩⟩
        refine ⟨_, rfl, ?_⟩
        refine hK.out _ _ ⟨((HB.out.cell (World.block_lt_of_cell? w _ hw117_0)).trans hw117_0), ((HB.out.cell (World.block_lt_of_cell? w _ hw117_1)).trans hw117_1), ((HB.out.cell (World.block_lt_of_cell? w _ hw117_2)).trans hw117_2), ((HB.out.cell (World.block_lt_of_cell? w _ hw117_3)).trans hw117_3)⟩ (fun hHeld => ?_)
        clear hK K
        refine norm_ (a' := ?_) ?_ ?_
        rotate_left
        ·show Act.put _ (some 25) _ = _
         simp only [Act.put, List.setIfInBounds_toArray, List.set_cons_zero, List.set_cons_succ, i64_w, i32_w]
         rfl
        refine px 5 (some 26) (tf 6 47) HT_ ?_
        refine px 6 (some 27) (tf 7 47) HT_ ?_
        refine sx 7 (some 28) (tf 8 47) HT_ ?_
        refine sx 8 (some 29) (tf 9 47) HT_ ?_
        refine sx 9 (some 30) (tf 10 47) HT_ ?_
        refine sx 10 (some 31) (tf 11 47) HT_ ?_
        refine sx 11 (some 32) (tf 12 47) HT_ ?_
        refine sx 12 (some 33) (tf 13 47) HT_ ?_
        refine px 13 (some 34) (tf 14 47) HT_ ?_
        refine px 14 (some 35) (tf 15 47) HT_ ?_
        refine sx 15 (some 36) (tf 16 47) HT_ ?_
        refine sx 16 (some 37) (tf 17 47) HT_ ?_
        refine sx 17 (some 38) (tf 18 47) HT_ ?_
        refine sx 18 (some 39) (tf 19 47) HT_ ?_
        refine sx 19 (some 40) (tf 20 47) HT_ ?_
        refine sx 20 (some 41) (tf 21 47) HT_ ?_
        refine px 21 (some 42) (tf 22 47) HT_ ?_
        refine px 22 (some 43) (tf 23 47) HT_ ?_
        refine sx 23 (some 44) (tf 24 47) HT_ ?_
        refine sx 24 (some 45) (tf 25 47) HT_ ?_
        refine sx 25 (some 46) (tf 26 47) HT_ ?_
        refine sx 26 (some 47) (tf 27 47) HT_ ?_
        refine sx 27 (some 48) (tf 28 47) HT_ ?_
        refine sx 28 (some 49) (tf 29 47) HT_ ?_
        refine px 29 (some 50) (tf 30 47) HT_ ?_
        refine px 30 (some 51) (tf 31 47) HT_ ?_
        refine sx 31 (some 52) (tf 32 47) HT_ ?_
        refine sx 32 (some 53) (tf 33 47) HT_ ?_
        refine sx 33 (some 54) (tf 34 47) HT_ ?_
        refine sx 34 (some 55) (tf 35 47) HT_ ?_
        refine sx 35 (some 56) (tf 36 47) HT_ ?_
        refine sx 36 (some 57) (tf 37 47) HT_ ?_
        refine sx 37 (some 58) (tf 38 47) HT_ ?_
        refine sx 38 (some 59) (tf 39 47) HT_ ?_
        refine sx 39 (some 60) (tf 40 47) HT_ ?_
        refine sx 40 (some 61) (tf 41 47) HT_ ?_
        refine sx 41 (some 62) (tf 42 47) HT_ ?_
        refine sx 42 (some 63) (tf 43 47) HT_ ?_
        refine sx 43 (some 64) (tf 44 47) HT_ ?_
        refine sx 44 (some 65) (tf 45 47) HT_ ?_
        refine sx 45 (some 66) (tf 46 47) HT_ ?_
        refine px 46 (some 67) (tf 47 47) HT_ ?_
        refine done_ (done_of HT_.out t6_) ?_
        try go_wp2
        go_meet
        case rel => exact ⟨_, (true), t4_, H', ⟨by have := HK1.out; first | omega | exact Nat.le_refl _⟩, ⟨by repeat (first | (with_reducible first | exact HB.out | apply below_alloc | apply pw_below_drewN | apply below_drew1) | exact HB.out)⟩⟩
      case rest =>
       clear HC5
       try clear c1
       try clear p1
       try clear q1
       try clear hx1
       try clear p2
       try clear c3
       try clear c5
       try clear c7
       try clear c9
       try clear c11
       try clear p11
       try clear q11
       try clear hx11
       try clear hx117_0
       try clear hx117_1
       try clear hx117_2
       try clear hx117_3
       try clear p117
       try clear q117
       obtain ⟨kq, x67_4, rfl, HA, HJ4, HB⟩ := hcut
       cases kq with
       | zero => exact absurd HA.out (by simp [spec_l24Ok.j1])
       | succ kj4 =>
        have H := HA.out
        clear HA
        simp only [spec_l24Ok.j1] at H
        by_cases c23 : 0 ≤ x3_1
        ·rw [if_pos c23] at H
         have c23b0 : decide (0 ≤ x3_1) = true := decide_eq_true c23
         clear c23
         by_cases c24 : x3_1 < (l0.length : Int)
         ·rw [if_pos c24] at H
          have c24b0 : decide (x3_1 < (l0.length : Int)) = true := decide_eq_true c24
          clear c24
          by_cases c25 : x67_4 = true
          ·subst c25
           have H1 : (some false) = some r := by rw [if_pos rfl] at H; exact H
           clear H
           have H := H1
           clear H1
           obtain rfl := Option.some.inj H
           have p122 : 0 ≤ (x3_1 : Int) := of_decide_eq_true t3_
           have q122 : x3_1 < (l0.length : Int) := of_decide_eq_true t3_
           obtain ⟨ad122, A122_3, c122_3, e122, hx122_0, hx122_1, hx122_2, hx122_3, hl122_3, hi122_3⟩ := at_T54 HR0.out x3_1 p122 q122
           obtain rfl : ad116 = ad122 := (by injection e122)
           replace hx122_0 := (HB.out.cell (World.block_lt_of_cell? w _ hx122_0)).trans hx122_0
           replace hx122_1 := (HB.out.cell (World.block_lt_of_cell? w _ hx122_1)).trans hx122_1
           replace hx122_2 := (HB.out.cell (World.block_lt_of_cell? w _ hx122_2)).trans hx122_2
           replace hx122_3 := (HB.out.cell (World.block_lt_of_cell? w _ hx122_3)).trans hx122_3
           have HR122_3 := Aside0.mk hi122_3
           have HC122_3 := Aside0.mk hl122_3
           clear hi122_3 hl122_3
           replace p122 := eq_true p122
           replace q122 := eq_true q122
           go_wp2
           go_ret
           exact ⟨by first | rfl | (rw [Int.tdiv_eq_ediv_of_nonneg t7_]; rfl) | (simp [errW_none, errW_some] <;> rfl) | (simp [*, errW_none, errW_some] <;> rfl), by repeat (first | (with_reducible first | exact HB.out | apply below_alloc | apply pw_below_drewN | apply below_drew1) | exact HB.out)⟩
          ·replace c25 := Bool.eq_false_iff.mpr c25
           subst c25
           have H1 : (spec_l24Ok.l1 kj4 l0 x3_1 0) = some r := by rw [if_neg (show ¬ (false = true) by decide)] at H; exact H
           clear H
           have H := H1
           clear H1
           have H' := Aside0.mk H
           clear H
           have p122 : 0 ≤ (x3_1 : Int) := of_decide_eq_true t3_
           have q122 : x3_1 < (l0.length : Int) := of_decide_eq_true t3_
           obtain ⟨ad122, A122_3, c122_3, e122, hx122_0, hx122_1, hx122_2, hx122_3, hl122_3, hi122_3⟩ := at_T54 HR0.out x3_1 p122 q122
           obtain rfl : ad116 = ad122 := (by injection e122)
           replace hx122_0 := (HB.out.cell (World.block_lt_of_cell? w _ hx122_0)).trans hx122_0
           replace hx122_1 := (HB.out.cell (World.block_lt_of_cell? w _ hx122_1)).trans hx122_1
           replace hx122_2 := (HB.out.cell (World.block_lt_of_cell? w _ hx122_2)).trans hx122_2
           replace hx122_3 := (HB.out.cell (World.block_lt_of_cell? w _ hx122_3)).trans hx122_3
           have HR122_3 := Aside0.mk hi122_3
           have HC122_3 := Aside0.mk hl122_3
           clear hi122_3 hl122_3
           replace p122 := eq_true p122
           replace q122 := eq_true q122
           go_wp2
           go_loopg [5] kj4 (fun kq v5 w' => ∃ (x5_3 : Int), v5 = .int .i64 x5_3 ∧ Aside0 (spec_l24Ok.l1 kq l0 x3_1 x5_3 = some r) ∧ Aside0 (kq ≤ kj4) ∧ Aside0 (Below w.heap.size w w'))
           case atStart => exact ⟨(0), t4_, H', ⟨Nat.le_refl _⟩, ⟨by repeat (first | (with_reducible first | exact HB.out | apply below_alloc | apply pw_below_drewN | apply below_drew1) | exact HB.out)⟩⟩
           case round =>
            clear H'
            try clear c1
            try clear p1
            try clear q1
            try clear hx1
            try clear c2
            try clear p2
            try clear c3
            try clear c5
            try clear c7
            try clear c9
            try clear c11
            try clear p11
            try clear q11
            try clear hx11
            try clear c12
            try clear p12
            try clear q12
            try clear hx12
            try clear c23
            try clear c23b0
            try clear c24
            try clear c24b0
            try clear c25
            try clear hx117_0
            try clear hx117_1
            try clear hx117_2
            try clear hx117_3
            try clear hx122_0
            try clear hx122_1
            try clear hx122_2
            try clear hx122_3
            try clear p1
            try clear p11
            try clear p117
            try clear p122
            try clear p2
            try clear q1
            try clear q11
            try clear q117
            try clear q122
            obtain ⟨x5_3, rfl, HA, HK3, HB⟩ := hrel
            cases gk with
            | zero => exact absurd HA.out (by simp [spec_l24Ok.l1])
            | succ k3 =>
             have H := HA.out
             clear HA
             simp only [spec_l24Ok.l1] at H
             by_cases c26 : 0 ≤ x3_1
             ·rw [if_pos c26] at H
              have c26b0 : decide (0 ≤ x3_1) = true := decide_eq_true c26
              clear c26
              by_cases c27 : x3_1 < (l0.length : Int)
              ·rw [if_pos c27] at H
               have c27b0 : decide (x3_1 < (l0.length : Int)) = true := decide_eq_true c27
               clear c27
               by_cases c28 : x5_3 < (((rd_T54 l0 x3_1).f3).length : Int)
               ·rw [if_pos c28] at H
                have c28b0 : decide (x5_3 < (((rd_T54 l0 x3_1).f3).length : Int)) = true := decide_eq_true c28
                clear c28
                by_cases c29 : 0 ≤ x5_3
                ·rw [if_pos c29] at H
                 have c29b0 : decide (0 ≤ x5_3) = true := decide_eq_true c29
                 clear c29
                 replace H := Option.bind_eq_some_iff.mp H
                 obtain ⟨t126, A300, H⟩ := H
                 replace H : (if t126 < 0 then (some false) else (if x5_3 > 0 then (if 0 ≤ (wrap64 (x5_3 - 1)) then (if (wrap64 (x5_3 - 1)) < (((rd_T54 l0 x3_1).f3).length : Int) then (if ((Op.bytesLess ((rdOf ByteArray.empty ((rd_T54 l0 x3_1).f3) (wrap64 (x5_3 - 1))).toList) ((rdOf ByteArray.empty ((rd_T54 l0 x3_1).f3) x5_3).toList)) = true) then (spec_l24Ok.l1 k3 l0 x3_1 (wrap64 (x5_3 + 1))) else (some false)) else (none)) else (none)) else (spec_l24Ok.l1 k3 l0 x3_1 (wrap64 (x5_3 + 1))))) = some r := H
                 have A30 := Aside0.mk A300
                 clear A300
                 by_cases c31 : t126 < 0
                 ·rw [if_pos c31] at H
                  have c31b0 : decide (t126 < 0) = true := decide_eq_true c31
                  clear c31
                  obtain rfl := Option.some.inj H
                  have p123 : 0 ≤ (x3_1 : Int) := of_decide_eq_true t3_
                  have q123 : x3_1 < (l0.length : Int) := of_decide_eq_true t3_
                  obtain ⟨ad123, A123_3, c123_3, e123, hx123_0, hx123_1, hx123_2, hx123_3, hl123_3, hi123_3⟩ := at_T54 HR0.out x3_1 p123 q123
                  obtain rfl : ad116 = ad123 := (by injection e123)
                  replace hx123_0 := (HB.out.cell (World.block_lt_of_cell? w _ hx123_0)).trans hx123_0
                  replace hx123_1 := (HB.out.cell (World.block_lt_of_cell? w _ hx123_1)).trans hx123_1
                  replace hx123_2 := (HB.out.cell (World.block_lt_of_cell? w _ hx123_2)).trans hx123_2
                  replace hx123_3 := (HB.out.cell (World.block_lt_of_cell? w _ hx123_3)).trans hx123_3
                  have HR123_3 := Aside0.mk hi123_3
                  have HC123_3 := Aside0.mk hl123_3
                  clear hi123_3 hl123_3
                  replace p123 := eq_true p123
                  replace q123 := eq_true q123
                  try go_wp2
                  have n0_ := Aside0.mk (below_drew1 HB.out)
                  clear HB
                  have HB := n0_
                  clear n0_
                  have p124 : 0 ≤ (x3_1 : Int) := of_decide_eq_true t3_
                  have q124 : x3_1 < (l0.length : Int) := of_decide_eq_true t3_
                  obtain ⟨ad124, A124_3, c124_3, e124, hx124_0, hx124_1, hx124_2, hx124_3, hl124_3, hi124_3⟩ := at_T54 HR0.out x3_1 p124 q124
                  have hw124_3 := hx124_3
                  have hw124_2 := hx124_2
                  have hw124_1 := hx124_1
                  have hw124_0 := hx124_0
                  obtain rfl : ad116 = ad124 := (by injection e124)
                  replace hx124_0 := (HB.out.cell (World.block_lt_of_cell? w _ hx124_0)).trans hx124_0
                  replace hx124_1 := (HB.out.cell (World.block_lt_of_cell? w _ hx124_1)).trans hx124_1
                  replace hx124_2 := (HB.out.cell (World.block_lt_of_cell? w _ hx124_2)).trans hx124_2
                  replace hx124_3 := (HB.out.cell (World.block_lt_of_cell? w _ hx124_3)).trans hx124_3
                  have HR124_3 := Aside0.mk hi124_3
                  have HC124_3 := Aside0.mk hl124_3
                  clear hi124_3 hl124_3
                  replace p124 := eq_true p124
                  replace q124 := eq_true q124
                  have p125 : 0 ≤ (x5_3 : Int) := of_decide_eq_true t3_
                  have q125 : x5_3 < (((rd_T54 l0 x3_1).f3).length : Int) := of_decide_eq_true t3_
                  obtain ⟨ad125, e125, hx125_0⟩ := Kd.at_string HR124_3.out x5_3 p125 q125
                  have hw125_0 := hx125_0
                  cases e125
                  replace hx125_0 := (HB.out.cell (World.block_lt_of_cell? w _ hx125_0)).trans hx125_0
                  replace p125 := eq_true p125
                  replace q125 := eq_true q125
                  refine start_ (n := 32) (S := fun w' => w'.cell? (ad116.add ((x3_1).toNat * 4)) = some (.string ((rd_T54 l0 x3_1).f0)) ∧ w'.cell? ⟨(ad116.add ((x3_1).toNat * 4)).block, (ad116.add ((x3_1).toNat * 4)).off + 1, none⟩ = some (.int .i64 ((rd_T54 l0 x3_1).f1)) ∧ w'.cell? ⟨(ad116.add ((x3_1).toNat * 4)).block, (ad116.add ((x3_1).toNat * 4)).off + 2, none⟩ = some (.int .i64 ((rd_T54 l0 x3_1).f2)) ∧ w'.cell? ⟨(ad116.add ((x3_1).toNat * 4)).block, (ad116.add ((x3_1).toNat * 4)).off + 3, none⟩ = some (.slice (some ad125) ((rd_T54 l0 x3_1).f3).length c124_3) ∧ w'.cell? (ad125.add (x5_3).toNat) = some (.string (rdOf ByteArray.empty ((rd_T54 l0 x3_1).f3) x5_3))) (ds := []) (tf 0 32) t6_ rfl rfl ⟨((HB.out.cell (World.block_lt_of_cell? w _ hw124_0)).trans hw124_0), ((HB.out.cell (World.block_lt_of_cell? w _ hw124_1)).trans hw124_1), ((HB.out.cell (World.block_lt_of_cell? w _ hw124_2)).trans hw124_2), ((HB.out.cell (World.block_lt_of_cell? w _ hw124_3)).trans hw124_3), ((HB.out.cell (World.block_lt_of_cell? w _ hw125_0)).trans hw125_0)⟩ (fun hHeld => ?_); refine with_tabW spec_l24Ok.tab12 spec_l24Ok.bits12 (fun HT_ HW_ => ?_)
                  generalize wr.drew = w32 at HB HR124_3 hx124_0 hx124_1 hx124_2 hx124_3 hx125_0 hHeld ⊢
                  refine px 0 (some 77) (tf 1 32) HT_ ?_
                  refine px 1 (some 78) (tf 2 32) HT_ ?_
                  refine px 2 (some 79) (tf 3 32) HT_ ?_
                  refine px 3 (some 80) (tf 4 32) HT_ ?_
                  refine px 5 (some 82) (tb 32 47) HT_ ?_
                  refine tx (v := ?_) 4 (some 81) (tf 6 32) HT_ HW_ hHeld ?_ ?_
                  rotate_left; (· rintro w' ⟨s0, s1, s2, s3, s4⟩; go_simp; with_reducible rfl)
                  refine px 6 (some 83) (tf 7 32) HT_ ?_
                  refine tx (v := ?_) 7 (some 84) (tf 8 32) HT_ HW_ hHeld ?_ ?_
                  rotate_left; (· rintro w' ⟨s0, s1, s2, s3, s4⟩; go_simp; with_reducible rfl)
                  refine one_ (i := 8) (N := some 85) (tf 9 32) rfl rfl (one_of HT_.out t6_) t12_ (fun K hK => ?_)
                  refine goes_ Try.func59 t6_ rfl #[.slice (some ad116) l0.length c0, .string (rdOf ByteArray.empty ((rd_T54 l0 x3_1).f3) x5_3)] (by rfl) rfl rfl t2_ ?_
                  with_reducible refine (spec_l24Find.calls k3 _ _ l0 (rdOf ByteArray.empty ((rd_T54 l0 x3_1).f3) x5_3) t126 _ ?side1 ?side2 A30.out).mono ?_
                  (case side1 => repeat (first | exact (Kd.C_below HR0.out HB.out) | (with_reducible refine Kd.C_alloc ?_ _) | (with_reducible refine Kd.C_drewN ?_ _) | (with_reducible refine Kd.C_drew ?_)))
                  (case side2 => exact HC0.out)
                  rintro e w' ⟨rfl, ⟨nd, rfl⟩⟩
                  refine ⟨_, rfl, ?_⟩
                  refine hK.out _ _ ⟨((HB.out.cell (World.block_lt_of_cell? w _ hw124_0)).trans hw124_0), ((HB.out.cell (World.block_lt_of_cell? w _ hw124_1)).trans hw124_1), ((HB.out.cell (World.block_lt_of_cell? w _ hw124_2)).trans hw124_2), ((HB.out.cell (World.block_lt_of_cell? w _ hw124_3)).trans hw124_3), ((HB.out.cell (World.block_lt_of_cell? w _ hw125_0)).trans hw125_0)⟩ (fun hHeld => ?_)
                  clear hK K
                  refine norm_ (a' := ?_) ?_ ?_
                  rotate_left
                  ·show Act.put _ (some 85) _ = _
                   simp only [Act.put, List.setIfInBounds_toArray, List.set_cons_zero, List.set_cons_succ, i64_w, i32_w]
                   rfl
                  refine px 9 (some 86) (tf 10 32) HT_ ?_
                  refine px 10 (some 87) (tf 11 32) HT_ ?_
                  refine sx 11 (some 88) (tf 12 32) HT_ ?_
                  refine sx 12 (some 89) (tf 13 32) HT_ ?_
                  refine sx 13 (some 90) (tf 14 32) HT_ ?_
                  refine sx 14 (some 91) (tf 15 32) HT_ ?_
                  refine sx 15 (some 92) (tf 16 32) HT_ ?_
                  refine sx 16 (some 93) (tf 17 32) HT_ ?_
                  refine sx 17 (some 94) (tf 18 32) HT_ ?_
                  refine sx 18 (some 95) (tf 19 32) HT_ ?_
                  refine sx 19 (some 96) (tf 20 32) HT_ ?_
                  refine sx 20 (some 97) (tf 21 32) HT_ ?_
                  refine sx 21 (some 98) (tf 22 32) HT_ ?_
                  refine sx 22 (some 99) (tf 23 32) HT_ ?_
                  refine sx 23 (some 100) (tf 24 32) HT_ ?_
                  refine sx 24 (some 101) (tf 25 32) HT_ ?_
                  refine sx 25 (some 102) (tf 26 32) HT_ ?_
                  refine sx 26 (some 103) (tf 27 32) HT_ ?_
                  refine sx 27 (some 104) (tf 28 32) HT_ ?_
                  refine sx 28 (some 105) (tf 29 32) HT_ ?_
                  refine sx 29 (some 106) (tf 30 32) HT_ ?_
                  refine sx 30 (some 107) (tf 31 32) HT_ ?_
                  refine px 31 (some 108) (tf 32 32) HT_ ?_
                  refine done_ (done_of HT_.out t6_) ?_
                  try go_wp2
                  go_ret
                  exact ⟨by first | rfl | (rw [Int.tdiv_eq_ediv_of_nonneg t7_]; rfl) | (simp [errW_none, errW_some] <;> rfl) | (simp [*, errW_none, errW_some] <;> rfl), by repeat (first | (with_reducible first | exact HB.out | apply below_alloc | apply pw_below_drewN | apply below_drew1) | exact HB.out)⟩
                 ·rw [if_neg c31] at H
                  have c31b0 : decide (t126 < 0) = false := decide_eq_false c31
                  clear c31
                  by_cases c33 : x5_3 > 0
                  ·rw [if_pos c33] at H
                   have c33b0 : decide (0 < x5_3) = true := decide_eq_true c33
                   clear c33
                   obtain ⟨ji34, hji34⟩ : ∃ j_ : Int, (wrap64 (x5_3 - 1)) = j_ := ⟨_, rfl⟩
                   replace H : (if 0 ≤ (ji34) then (if (ji34) < (((rd_T54 l0 x3_1).f3).length : Int) then (if ((Op.bytesLess ((rdOf ByteArray.empty ((rd_T54 l0 x3_1).f3) (ji34)).toList) ((rdOf ByteArray.empty ((rd_T54 l0 x3_1).f3) x5_3).toList)) = true) then (spec_l24Ok.l1 k3 l0 x3_1 (wrap64 (x5_3 + 1))) else (some false)) else (none)) else (none)) = some r := by first | (rw [hji34] at H; exact H) | (simp only [hji34] at H ⊢; exact H)
                   (try rw [hji34] at A30)
                   have hji34w : (IntKind.i64.wrap (x5_3 - 1)) = ji34 := (i64_w _).trans hji34
                   by_cases c35 : 0 ≤ (ji34)
                   ·rw [if_pos c35] at H
                    have c35b0 : decide (0 ≤ (ji34)) = true := decide_eq_true c35
                    clear c35
                    by_cases c36 : (ji34) < (((rd_T54 l0 x3_1).f3).length : Int)
                    ·rw [if_pos c36] at H
                     have c36b0 : decide ((ji34) < (((rd_T54 l0 x3_1).f3).length : Int)) = true := decide_eq_true c36
                     clear c36
                     by_cases c37 : ((Op.bytesLess ((rdOf ByteArray.empty ((rd_T54 l0 x3_1).f3) (ji34)).toList) ((rdOf ByteArray.empty ((rd_T54 l0 x3_1).f3) x5_3).toList)) = true)
                     ·rw [if_pos c37] at H
                      have c37b0 : (Op.bytesLess ((rdOf ByteArray.empty ((rd_T54 l0 x3_1).f3) (ji34)).toList) ((rdOf ByteArray.empty ((rd_T54 l0 x3_1).f3) x5_3).toList)) = true := c37
                      clear c37
                      have H' := Aside0.mk H
                      clear H
                      have p123 : 0 ≤ (x3_1 : Int) := of_decide_eq_true t3_
                      have q123 : x3_1 < (l0.length : Int) := of_decide_eq_true t3_
                      obtain ⟨ad123, A123_3, c123_3, e123, hx123_0, hx123_1, hx123_2, hx123_3, hl123_3, hi123_3⟩ := at_T54 HR0.out x3_1 p123 q123
                      obtain rfl : ad116 = ad123 := (by injection e123)
                      replace hx123_0 := (HB.out.cell (World.block_lt_of_cell? w _ hx123_0)).trans hx123_0
                      replace hx123_1 := (HB.out.cell (World.block_lt_of_cell? w _ hx123_1)).trans hx123_1
                      replace hx123_2 := (HB.out.cell (World.block_lt_of_cell? w _ hx123_2)).trans hx123_2
                      replace hx123_3 := (HB.out.cell (World.block_lt_of_cell? w _ hx123_3)).trans hx123_3
                      have HR123_3 := Aside0.mk hi123_3
                      have HC123_3 := Aside0.mk hl123_3
                      clear hi123_3 hl123_3
                      replace p123 := eq_true p123
                      replace q123 := eq_true q123
                      try go_wp2
                      have n0_ := Aside0.mk (below_drew1 HB.out)
                      clear HB
                      have HB := n0_
                      clear n0_
                      have p124 : 0 ≤ (x3_1 : Int) := of_decide_eq_true t3_
                      have q124 : x3_1 < (l0.length : Int) := of_decide_eq_true t3_
                      obtain ⟨ad124, A124_3, c124_3, e124, hx124_0, hx124_1, hx124_2, hx124_3, hl124_3, hi124_3⟩ := at_T54 HR0.out x3_1 p124 q124
                      have hw124_3 := hx124_3
                      have hw124_2 := hx124_2
                      have hw124_1 := hx124_1
                      have hw124_0 := hx124_0
                      obtain rfl : ad116 = ad124 := (by injection e124)
                      replace hx124_0 := (HB.out.cell (World.block_lt_of_cell? w _ hx124_0)).trans hx124_0
                      replace hx124_1 := (HB.out.cell (World.block_lt_of_cell? w _ hx124_1)).trans hx124_1
                      replace hx124_2 := (HB.out.cell (World.block_lt_of_cell? w _ hx124_2)).trans hx124_2
                      replace hx124_3 := (HB.out.cell (World.block_lt_of_cell? w _ hx124_3)).trans hx124_3
                      have HR124_3 := Aside0.mk hi124_3
                      have HC124_3 := Aside0.mk hl124_3
                      clear hi124_3 hl124_3
                      replace p124 := eq_true p124
                      replace q124 := eq_true q124
                      have p125 : 0 ≤ (x5_3 : Int) := of_decide_eq_true t3_
                      have q125 : x5_3 < (((rd_T54 l0 x3_1).f3).length : Int) := of_decide_eq_true t3_
                      obtain ⟨ad125, e125, hx125_0⟩ := Kd.at_string HR124_3.out x5_3 p125 q125
                      have hw125_0 := hx125_0
                      cases e125
                      replace hx125_0 := (HB.out.cell (World.block_lt_of_cell? w _ hx125_0)).trans hx125_0
                      replace p125 := eq_true p125
                      replace q125 := eq_true q125
                      have p127 : 0 ≤ ((ji34) : Int) := of_decide_eq_true t3_
                      have q127 : (ji34) < (((rd_T54 l0 x3_1).f3).length : Int) := of_decide_eq_true t3_
                      obtain ⟨ad127, e127, hx127_0⟩ := Kd.at_string HR124_3.out (ji34) p127 q127
                      have hw127_0 := hx127_0
                      obtain rfl : ad125 = ad127 := (by injection e127)
                      replace hx127_0 := (HB.out.cell (World.block_lt_of_cell? w _ hx127_0)).trans hx127_0
                      replace p127 := eq_true p127
                      replace q127 := eq_true q127
                      have p128 : 0 ≤ (x5_3 : Int) := of_decide_eq_true t3_
                      have q128 : x5_3 < (((rd_T54 l0 x3_1).f3).length : Int) := of_decide_eq_true t3_
                      obtain ⟨ad128, e128, hx128_0⟩ := Kd.at_string HR124_3.out x5_3 p128 q128
                      have hw128_0 := hx128_0
                      obtain rfl : ad125 = ad128 := (by injection e128)
                      replace hx128_0 := (HB.out.cell (World.block_lt_of_cell? w _ hx128_0)).trans hx128_0
                      replace p128 := eq_true p128
                      replace q128 := eq_true q128
                      refine start_ (n := 32) (S := fun w' => w'.cell? (ad116.add ((x3_1).toNat * 4)) = some (.string ((rd_T54 l0 x3_1).f0)) ∧ w'.cell? ⟨(ad116.add ((x3_1).toNat * 4)).block, (ad116.add ((x3_1).toNat * 4)).off + 1, none⟩ = some (.int .i64 ((rd_T54 l0 x3_1).f1)) ∧ w'.cell? ⟨(ad116.add ((x3_1).toNat * 4)).block, (ad116.add ((x3_1).toNat * 4)).off + 2, none⟩ = some (.int .i64 ((rd_T54 l0 x3_1).f2)) ∧ w'.cell? ⟨(ad116.add ((x3_1).toNat * 4)).block, (ad116.add ((x3_1).toNat * 4)).off + 3, none⟩ = some (.slice (some ad125) ((rd_T54 l0 x3_1).f3).length c124_3) ∧ w'.cell? (ad125.add (x5_3).toNat) = some (.string (rdOf ByteArray.empty ((rd_T54 l0 x3_1).f3) x5_3)) ∧ w'.cell? (ad125.add ((ji34)).toNat) = some (.string (rdOf ByteArray.empty ((rd_T54 l0 x3_1).f3) (ji34))) ∧ w'.cell? (ad125.add (x5_3).toNat) = some (.string (rdOf ByteArray.empty ((rd_T54 l0 x3_1).f3) x5_3))) (ds := []) (tf 0 32) t6_ rfl rfl ⟨((HB.out.cell (World.block_lt_of_cell? w _ hw124_0)).trans hw124_0), ((HB.out.cell (World.block_lt_of_cell? w _ hw124_1)).trans hw124_1), ((HB.out.cell (World.block_lt_of_cell? w _ hw124_2)).trans hw124_2), ((HB.out.cell (World.block_lt_of_cell? w _ hw124_3)).trans hw124_3), ((HB.out.cell (World.block_lt_of_cell? w _ hw125_0)).trans hw125_0), ((HB.out.cell (World.block_lt_of_cell? w _ hw127_0)).trans hw127_0), ((HB.out.cell (World.block_lt_of_cell? w _ hw128_0)).trans hw128_0)⟩ (fun hHeld => ?_); refine with_tabW spec_l24Ok.tab12 spec_l24Ok.bits12 (fun HT_ HW_ => ?_)
                      generalize wr.drew = w38 at HB HR124_3 hx124_0 hx124_1 hx124_2 hx124_3 hx125_0 hx127_0 hx128_0 hHeld ⊢
                      refine px 0 (some 77) (tf 1 32) HT_ ?_
                      refine px 1 (some 78) (tf 2 32) HT_ ?_
                      refine px 2 (some 79) (tf 3 32) HT_ ?_
                      refine px 3 (some 80) (tf 4 32) HT_ ?_
                      refine px 5 (some 82) (tb 32 47) HT_ ?_
                      refine tx (v := ?_) 4 (some 81) (tf 6 32) HT_ HW_ hHeld ?_ ?_
                      rotate_left; (· rintro w' ⟨s0, s1, s2, s3, s4, s5, s6⟩; go_simp; with_reducible rfl)
                      refine px 6 (some 83) (tf 7 32) HT_ ?_
                      refine tx (v := ?_) 7 (some 84) (tf 8 32) HT_ HW_ hHeld ?_ ?_
                      rotate_left; (· rintro w' ⟨s0, s1, s2, s3, s4, s5, s6⟩; go_simp; with_reducible rfl)
                      refine one_ (i := 8) (N := some 85) (tf 9 32) rfl rfl (one_of HT_.out t6_) t12_ (fun K hK => ?_)
                      refine goes_ Try.func59 t6_ rfl #[.slice (some ad116) l0.length c0, .string (rdOf ByteArray.empty ((rd_T54 l0 x3_1).f3) x5_3)] (by rfl) rfl rfl t2_ ?_
                      with_reducible refine (spec_l24Find.calls k3 _ _ l0 (rdOf ByteArray.empty ((rd_T54 l0 x3_1).f3) x5_3) t126 _ ?side1 ?side2 A30.out).mono ?_
                      (case side1 => repeat (first | exact (Kd.C_below HR0.out HB.out) | (with_reducible refine Kd.C_alloc ?_ _) | (with_reducible refine Kd.C_drewN ?_ _) | (with_reducible refine Kd.C_drew ?_)))
                      (case side2 => exact HC0.out)
                      rintro e w' ⟨rfl, ⟨nd, rfl⟩⟩
                      refine ⟨_, rfl, ?_⟩
                      refine hK.out _ _ ⟨((HB.out.cell (World.block_lt_of_cell? w _ hw124_0)).trans hw124_0), ((HB.out.cell (World.block_lt_of_cell? w _ hw124_1)).trans hw124_1), ((HB.out.cell (World.block_lt_of_cell? w _ hw124_2)).trans hw124_2), ((HB.out.cell (World.block_lt_of_cell? w _ hw124_3)).trans hw124_3), ((HB.out.cell (World.block_lt_of_cell? w _ hw125_0)).trans hw125_0), ((HB.out.cell (World.block_lt_of_cell? w _ hw127_0)).trans hw127_0), ((HB.out.cell (World.block_lt_of_cell? w _ hw128_0)).trans hw128_0)⟩ (fun hHeld => ?_)
                      clear hK K
                      refine norm_ (a' := ?_) ?_ ?_
                      rotate_left
                      ·show Act.put _ (some 85) _ = _
                       simp only [Act.put, List.setIfInBounds_toArray, List.set_cons_zero, List.set_cons_succ, i64_w, i32_w]
                       rfl
                      refine px 9 (some 86) (tf 10 32) HT_ ?_
                      refine px 10 (some 87) (tf 11 32) HT_ ?_
                      refine px 11 (some 88) (tf 12 32) HT_ ?_
                      refine px 12 (some 89) (tf 13 32) HT_ ?_
                      refine px 13 (some 90) (tf 14 32) HT_ ?_
                      refine px 14 (some 91) (tf 15 32) HT_ ?_
                      refine px 15 (some 92) (tf 16 32) HT_ ?_
                      refine px 16 (some 93) (tf 17 32) HT_ ?_
                      refine px 18 (some 95) (tb 32 393215) HT_ ?_
                      refine px 19 (some 96) (tb 32 917503) HT_ ?_
                      refine px 22 (some 99) (tb 32 5111807) HT_ ?_
                      refine px 23 (some 100) (tb 32 13500415) HT_ ?_
                      refine px 24 (some 101) (tb 32 30277631) HT_ ?_
                      refine px 26 (some 103) (tb 32 97386495) HT_ ?_
                      refine tx (v := ?_) 17 (some 94) (tb 32 97517567) HT_ HW_ hHeld ?_ ?_
                      rotate_left; (· rintro w' ⟨s0, s1, s2, s3, s4, s5, s6⟩; go_simp; with_reducible rfl)
                      refine px 20 (some 97) (tb 32 98566143) HT_ ?_
                      refine tx (v := ?_) 21 (some 98) (tb 32 100663295) HT_ HW_ hHeld ?_ ?_
                      rotate_left; (· rintro w' ⟨s0, s1, s2, s3, s4, s5, s6⟩; go_simp; with_reducible rfl)
                      refine tx (v := ?_) 25 (some 102) (tf 27 32) HT_ HW_ hHeld ?_ ?_
                      rotate_left; (· rintro w' ⟨s0, s1, s2, s3, s4, s5, s6⟩; go_simp; with_reducible rfl)
                      refine px 27 (some 104) (tf 28 32) HT_ ?_
                      refine tx (v := ?_) 28 (some 105) (tf 29 32) HT_ HW_ hHeld ?_ ?_
                      rotate_left; (· rintro w' ⟨s0, s1, s2, s3, s4, s5, s6⟩; go_simp; with_reducible rfl)
                      refine px 29 (some 106) (tf 30 32) HT_ ?_
                      refine px 30 (some 107) (tf 31 32) HT_ ?_
                      refine px 31 (some 108) (tf 32 32) HT_ ?_
                      refine done_ (done_of HT_.out t6_) ?_
                      try go_wp2
                      go_roundg k3
                      case measure => have := HK1.out; have := HJ4.out; have := HK3.out; omega
                      case rel => exact ⟨(wrap64 (x5_3 + 1)), t4_, H', ⟨by have := HK1.out; have := HJ4.out; have := HK3.out; omega⟩, ⟨by repeat (first | (with_reducible first | exact HB.out | apply below_alloc | apply pw_below_drewN | apply below_drew1) | exact HB.out)⟩⟩
                     ·rw [if_neg c37] at H
                      have c37b0 : (Op.bytesLess ((rdOf ByteArray.empty ((rd_T54 l0 x3_1).f3) (ji34)).toList) ((rdOf ByteArray.empty ((rd_T54 l0 x3_1).f3) x5_3).toList)) = false := by simpa using c37
                      clear c37
                      obtain rfl := Option.some.inj H
                      have p123 : 0 ≤ (x3_1 : Int) := of_decide_eq_true t3_
                      have q123 : x3_1 < (l0.length : Int) := of_decide_eq_true t3_
                      obtain ⟨ad123, A123_3, c123_3, e123, hx123_0, hx123_1, hx123_2, hx123_3, hl123_3, hi123_3⟩ := at_T54 HR0.out x3_1 p123 q123
                      obtain rfl : ad116 = ad123 := (by injection e123)
                      replace hx123_0 := (HB.out.cell (World.block_lt_of_cell? w _ hx123_0)).trans hx123_0
                      replace hx123_1 := (HB.out.cell (World.block_lt_of_cell? w _ hx123_1)).trans hx123_1
                      replace hx123_2 := (HB.out.cell (World.block_lt_of_cell? w _ hx123_2)).trans hx123_2
                      replace hx123_3 := (HB.out.cell (World.block_lt_of_cell? w _ hx123_3)).trans hx123_3
                      have HR123_3 := Aside0.mk hi123_3
                      have HC123_3 := Aside0.mk hl123_3
                      clear hi123_3 hl123_3
                      replace p123 := eq_true p123
                      replace q123 := eq_true q123
                      try go_wp2
                      have n0_ := Aside0.mk (below_drew1 HB.out)
                      clear HB
                      have HB := n0_
                      clear n0_
                      have p124 : 0 ≤ (x3_1 : Int) := of_decide_eq_true t3_
                      have q124 : x3_1 < (l0.length : Int) := of_decide_eq_true t3_
                      obtain ⟨ad124, A124_3, c124_3, e124, hx124_0, hx124_1, hx124_2, hx124_3, hl124_3, hi124_3⟩ := at_T54 HR0.out x3_1 p124 q124
                      have hw124_3 := hx124_3
                      have hw124_2 := hx124_2
                      have hw124_1 := hx124_1
                      have hw124_0 := hx124_0
                      obtain rfl : ad116 = ad124 := (by injection e124)
                      replace hx124_0 := (HB.out.cell (World.block_lt_of_cell? w _ hx124_0)).trans hx124_0
                      replace hx124_1 := (HB.out.cell (World.block_lt_of_cell? w _ hx124_1)).trans hx124_1
                      replace hx124_2 := (HB.out.cell (World.block_lt_of_cell? w _ hx124_2)).trans hx124_2
                      replace hx124_3 := (HB.out.cell (World.block_lt_of_cell? w _ hx124_3)).trans hx124_3
                      have HR124_3 := Aside0.mk hi124_3
                      have HC124_3 := Aside0.mk hl124_3
                      clear hi124_3 hl124_3
                      replace p124 := eq_true p124
                      replace q124 := eq_true q124
                      have p125 : 0 ≤ (x5_3 : Int) := of_decide_eq_true t3_
                      have q125 : x5_3 < (((rd_T54 l0 x3_1).f3).length : Int) := of_decide_eq_true t3_
                      obtain ⟨ad125, e125, hx125_0⟩ := Kd.at_string HR124_3.out x5_3 p125 q125
                      have hw125_0 := hx125_0
                      cases e125
                      replace hx125_0 := (HB.out.cell (World.block_lt_of_cell? w _ hx125_0)).trans hx125_0
                      replace p125 := eq_true p125
                      replace q125 := eq_true q125
                      have p127 : 0 ≤ ((ji34) : Int) := of_decide_eq_true t3_
                      have q127 : (ji34) < (((rd_T54 l0 x3_1).f3).length : Int) := of_decide_eq_true t3_
                      obtain ⟨ad127, e127, hx127_0⟩ := Kd.at_string HR124_3.out (ji34) p127 q127
                      have hw127_0 := hx127_0
                      obtain rfl : ad125 = ad127 := (by injection e127)
                      replace hx127_0 := (HB.out.cell (World.block_lt_of_cell? w _ hx127_0)).trans hx127_0
                      replace p127 := eq_true p127
                      replace q127 := eq_true q127
                      have p128 : 0 ≤ (x5_3 : Int) := of_decide_eq_true t3_
                      have q128 : x5_3 < (((rd_T54 l0 x3_1).f3).length : Int) := of_decide_eq_true t3_
                      obtain ⟨ad128, e128, hx128_0⟩ := Kd.at_string HR124_3.out x5_3 p128 q128
                      have hw128_0 := hx128_0
                      obtain rfl : ad125 = ad128 := (by injection e128)
                      replace hx128_0 := (HB.out.cell (World.block_lt_of_cell? w _ hx128_0)).trans hx128_0
                      replace p128 := eq_true p128
                      replace q128 := eq_true q128
                      refine start_ (n := 32) (S := fun w' => w'.cell? (ad116.add ((x3_1).toNat * 4)) = some (.string ((rd_T54 l0 x3_1).f0)) ∧ w'.cell? ⟨(ad116.add ((x3_1).toNat * 4)).block, (ad116.add ((x3_1).toNat * 4)).off + 1, none⟩ = some (.int .i64 ((rd_T54 l0 x3_1).f1)) ∧ w'.cell? ⟨(ad116.add ((x3_1).toNat * 4)).block, (ad116.add ((x3_1).toNat * 4)).off + 2, none⟩ = some (.int .i64 ((rd_T54 l0 x3_1).f2)) ∧ w'.cell? ⟨(ad116.add ((x3_1).toNat * 4)).block, (ad116.add ((x3_1).toNat * 4)).off + 3, none⟩ = some (.slice (some ad125) ((rd_T54 l0 x3_1).f3).length c124_3) ∧ w'.cell? (ad125.add (x5_3).toNat) = some (.string (rdOf ByteArray.empty ((rd_T54 l0 x3_1).f3) x5_3)) ∧ w'.cell? (ad125.add ((ji34)).toNat) = some (.string (rdOf ByteArray.empty ((rd_T54 l0 x3_1).f3) (ji34))) ∧ w'.cell? (ad125.add (x5_3).toNat) = some (.string (rdOf ByteArray.empty ((rd_T54 l0 x3_1).f3) x5_3))) (ds := []) (tf 0 32) t6_ rfl rfl ⟨((HB.out.cell (World.block_lt_of_cell? w _ hw124_0)).trans hw124_0), ((HB.out.cell (World.block_lt_of_cell? w _ hw124_1)).trans hw124_1), ((HB.out.cell (World.block_lt_of_cell? w _ hw124_2)).trans hw124_2), ((HB.out.cell (World.block_lt_of_cell? w _ hw124_3)).trans hw124_3), ((HB.out.cell (World.block_lt_of_cell? w _ hw125_0)).trans hw125_0), ((HB.out.cell (World.block_lt_of_cell? w _ hw127_0)).trans hw127_0), ((HB.out.cell (World.block_lt_of_cell? w _ hw128_0)).trans hw128_0)⟩ (fun hHeld => ?_); refine with_tabW spec_l24Ok.tab12 spec_l24Ok.bits12 (fun HT_ HW_ => ?_)
                      generalize wr.drew = w39 at HB HR124_3 hx124_0 hx124_1 hx124_2 hx124_3 hx125_0 hx127_0 hx128_0 hHeld ⊢
                      refine px 0 (some 77) (tf 1 32) HT_ ?_
                      refine px 1 (some 78) (tf 2 32) HT_ ?_
                      refine px 2 (some 79) (tf 3 32) HT_ ?_
                      refine px 3 (some 80) (tf 4 32) HT_ ?_
                      refine px 5 (some 82) (tb 32 47) HT_ ?_
                      refine tx (v := ?_) 4 (some 81) (tf 6 32) HT_ HW_ hHeld ?_ ?_
                      rotate_left; (· rintro w' ⟨s0, s1, s2, s3, s4, s5, s6⟩; go_simp; with_reducible rfl)
                      refine px 6 (some 83) (tf 7 32) HT_ ?_
                      refine tx (v := ?_) 7 (some 84) (tf 8 32) HT_ HW_ hHeld ?_ ?_
                      rotate_left; (· rintro w' ⟨s0, s1, s2, s3, s4, s5, s6⟩; go_simp; with_reducible rfl)
                      refine one_ (i := 8) (N := some 85) (tf 9 32) rfl rfl (one_of HT_.out t6_) t12_ (fun K hK => ?_)
                      refine goes_ Try.func59 t6_ rfl #[.slice (some ad116) l0.length c0, .string (rdOf ByteArray.empty ((rd_T54 l0 x3_1).f3) x5_3)] (by rfl) rfl rfl t2_ ?_
                      with_reducible refine (spec_l24Find.calls k3 _ _ l0 (rdOf ByteArray.empty ((rd_T54 l0 x3_1).f3) x5_3) t126 _ ?side1 ?side2 A30.out).mono ?_
                      (case side1 => repeat (first | exact (Kd.C_below HR0.out HB.out) | (with_reducible refine Kd.C_alloc ?_ _) | (with_reducible refine Kd.C_drewN ?_ _) | (with_reducible refine Kd.C_drew ?_)))
                      (case side2 => exact HC0.out)
                      rintro e w' ⟨rfl, ⟨nd, rfl⟩⟩
                      refine ⟨_, rfl, ?_⟩
                      refine hK.out _ _ ⟨((HB.out.cell (World.block_lt_of_cell? w _ hw124_0)).trans hw124_0), ((HB.out.cell (World.block_lt_of_cell? w _ hw124_1)).trans hw124_1), ((HB.out.cell (World.block_lt_of_cell? w _ hw124_2)).trans hw124_2), ((HB.out.cell (World.block_lt_of_cell? w _ hw124_3)).trans hw124_3), ((HB.out.cell (World.block_lt_of_cell? w _ hw125_0)).trans hw125_0), ((HB.out.cell (World.block_lt_of_cell? w _ hw127_0)).trans hw127_0), ((HB.out.cell (World.block_lt_of_cell? w _ hw128_0)).trans hw128_0)⟩ (fun hHeld => ?_)
                      clear hK K
                      refine norm_ (a' := ?_) ?_ ?_
                      rotate_left
                      ·show Act.put _ (some 85) _ = _
                       simp only [Act.put, List.setIfInBounds_toArray, List.set_cons_zero, List.set_cons_succ, i64_w, i32_w]
                       rfl
                      refine px 9 (some 86) (tf 10 32) HT_ ?_
                      refine px 10 (some 87) (tf 11 32) HT_ ?_
                      refine px 11 (some 88) (tf 12 32) HT_ ?_
                      refine px 12 (some 89) (tf 13 32) HT_ ?_
                      refine px 13 (some 90) (tf 14 32) HT_ ?_
                      refine px 14 (some 91) (tf 15 32) HT_ ?_
                      refine px 15 (some 92) (tf 16 32) HT_ ?_
                      refine px 16 (some 93) (tf 17 32) HT_ ?_
                      refine px 18 (some 95) (tb 32 393215) HT_ ?_
                      refine px 19 (some 96) (tb 32 917503) HT_ ?_
                      refine px 22 (some 99) (tb 32 5111807) HT_ ?_
                      refine px 23 (some 100) (tb 32 13500415) HT_ ?_
                      refine px 24 (some 101) (tb 32 30277631) HT_ ?_
                      refine px 26 (some 103) (tb 32 97386495) HT_ ?_
                      refine tx (v := ?_) 17 (some 94) (tb 32 97517567) HT_ HW_ hHeld ?_ ?_
                      rotate_left; (· rintro w' ⟨s0, s1, s2, s3, s4, s5, s6⟩; go_simp; with_reducible rfl)
                      refine px 20 (some 97) (tb 32 98566143) HT_ ?_
                      refine tx (v := ?_) 21 (some 98) (tb 32 100663295) HT_ HW_ hHeld ?_ ?_
                      rotate_left; (· rintro w' ⟨s0, s1, s2, s3, s4, s5, s6⟩; go_simp; with_reducible rfl)
                      refine tx (v := ?_) 25 (some 102) (tf 27 32) HT_ HW_ hHeld ?_ ?_
                      rotate_left; (· rintro w' ⟨s0, s1, s2, s3, s4, s5, s6⟩; go_simp; with_reducible rfl)
                      refine px 27 (some 104) (tf 28 32) HT_ ?_
                      refine tx (v := ?_) 28 (some 105) (tf 29 32) HT_ HW_ hHeld ?_ ?_
                      rotate_left; (· rintro w' ⟨s0, s1, s2, s3, s4, s5, s6⟩; go_simp; with_reducible rfl)
                      refine px 29 (some 106) (tf 30 32) HT_ ?_
                      refine px 30 (some 107) (tf 31 32) HT_ ?_
                      refine px 31 (some 108) (tf 32 32) HT_ ?_
                      refine done_ (done_of HT_.out t6_) ?_
                      try go_wp2
                      go_ret
                      exact ⟨by first | rfl | (rw [Int.tdiv_eq_ediv_of_nonneg t7_]; rfl) | (simp [errW_none, errW_some] <;> rfl) | (simp only [← hji34]; first | rfl | (simp [errW_none, errW_some] <;> rfl)) | (simp [*, errW_none, errW_some] <;> rfl), by repeat (first | (with_reducible first | exact HB.out | apply below_alloc | apply pw_below_drewN | apply below_drew1) | exact HB.out)⟩
                    ·rw [if_neg c36] at H
                     exact absurd H t17_
                   ·rw [if_neg c35] at H
                    exact absurd H t17_
                  ·rw [if_neg c33] at H
                   have c33b0 : decide (0 < x5_3) = false := decide_eq_false c33
                   clear c33
                   have H' := Aside0.mk H
                   clear H
                   have p123 : 0 ≤ (x3_1 : Int) := of_decide_eq_true t3_
                   have q123 : x3_1 < (l0.length : Int) := of_decide_eq_true t3_
                   obtain ⟨ad123, A123_3, c123_3, e123, hx123_0, hx123_1, hx123_2, hx123_3, hl123_3, hi123_3⟩ := at_T54 HR0.out x3_1 p123 q123
                   obtain rfl : ad116 = ad123 := (by injection e123)
                   replace hx123_0 := (HB.out.cell (World.block_lt_of_cell? w _ hx123_0)).trans hx123_0
                   replace hx123_1 := (HB.out.cell (World.block_lt_of_cell? w _ hx123_1)).trans hx123_1
                   replace hx123_2 := (HB.out.cell (World.block_lt_of_cell? w _ hx123_2)).trans hx123_2
                   replace hx123_3 := (HB.out.cell (World.block_lt_of_cell? w _ hx123_3)).trans hx123_3
                   have HR123_3 := Aside0.mk hi123_3
                   have HC123_3 := Aside0.mk hl123_3
                   clear hi123_3 hl123_3
                   replace p123 := eq_true p123
                   replace q123 := eq_true q123
                   try go_wp2
                   have n0_ := Aside0.mk (below_drew1 HB.out)
                   clear HB
                   have HB := n0_
                   clear n0_
                   have p124 : 0 ≤ (x3_1 : Int) := of_decide_eq_true t3_
                   have q124 : x3_1 < (l0.length : Int) := of_decide_eq_true t3_
                   obtain ⟨ad124, A124_3, c124_3, e124, hx124_0, hx124_1, hx124_2, hx124_3, hl124_3, hi124_3⟩ := at_T54 HR0.out x3_1 p124 q124
                   have hw124_3 := hx124_3
                   have hw124_2 := hx124_2
                   have hw124_1 := hx124_1
                   have hw124_0 := hx124_0
                   obtain rfl : ad116 = ad124 := (by injection e124)
                   replace hx124_0 := (HB.out.cell (World.block_lt_of_cell? w _ hx124_0)).trans hx124_0
                   replace hx124_1 := (HB.out.cell (World.block_lt_of_cell? w _ hx124_1)).trans hx124_1
                   replace hx124_2 := (HB.out.cell (World.block_lt_of_cell? w _ hx124_2)).trans hx124_2
                   replace hx124_3 := (HB.out.cell (World.block_lt_of_cell? w _ hx124_3)).trans hx124_3
                   have HR124_3 := Aside0.mk hi124_3
                   have HC124_3 := Aside0.mk hl124_3
                   clear hi124_3 hl124_3
                   replace p124 := eq_true p124
                   replace q124 := eq_true q124
                   have p125 : 0 ≤ (x5_3 : Int) := of_decide_eq_true t3_
                   have q125 : x5_3 < (((rd_T54 l0 x3_1).f3).length : Int) := of_decide_eq_true t3_
                   obtain ⟨ad125, e125, hx125_0⟩ := Kd.at_string HR124_3.out x5_3 p125 q125
                   have hw125_0 := hx125_0
                   cases e125
                   replace hx125_0 := (HB.out.cell (World.block_lt_of_cell? w _ hx125_0)).trans hx125_0
                   replace p125 := eq_true p125
                   replace q125 := eq_true q125
                   refine start_ (n := 32) (S := fun w' => w'.cell? (ad116.add ((x3_1).toNat * 4)) = some (.string ((rd_T54 l0 x3_1).f0)) ∧ w'.cell? ⟨(ad116.add ((x3_1).toNat * 4)).block, (ad116.add ((x3_1).toNat * 4)).off + 1, none⟩ = some (.int .i64 ((rd_T54 l0 x3_1).f1)) ∧ w'.cell? ⟨(ad116.add ((x3_1).toNat * 4)).block, (ad116.add ((x3_1).toNat * 4)).off + 2, none⟩ = some (.int .i64 ((rd_T54 l0 x3_1).f2)) ∧ w'.cell? ⟨(ad116.add ((x3_1).toNat * 4)).block, (ad116.add ((x3_1).toNat * 4)).off + 3, none⟩ = some (.slice (some ad125) ((rd_T54 l0 x3_1).f3).length c124_3) ∧ w'.cell? (ad125.add (x5_3).toNat) = some (.string (rdOf ByteArray.empty ((rd_T54 l0 x3_1).f3) x5_3))) (ds := []) (tf 0 32) t6_ rfl rfl ⟨((HB.out.cell (World.block_lt_of_cell? w _ hw124_0)).trans hw124_0), ((HB.out.cell (World.block_lt_of_cell? w _ hw124_1)).trans hw124_1), ((HB.out.cell (World.block_lt_of_cell? w _ hw124_2)).trans hw124_2), ((HB.out.cell (World.block_lt_of_cell? w _ hw124_3)).trans hw124_3), ((HB.out.cell (World.block_lt_of_cell? w _ hw125_0)).trans hw125_0)⟩ (fun hHeld => ?_); refine with_tabW spec_l24Ok.tab12 spec_l24Ok.bits12 (fun HT_ HW_ => ?_)
                   generalize wr.drew = w40 at HB HR124_3 hx124_0 hx124_1 hx124_2 hx124_3 hx125_0 hHeld ⊢
                   refine px 0 (some 77) (tf 1 32) HT_ ?_
                   refine px 1 (some 78) (tf 2 32) HT_ ?_
                   refine px 2 (some 79) (tf 3 32) HT_ ?_
                   refine px 3 (some 80) (tf 4 32) HT_ ?_
                   refine px 5 (some 82) (tb 32 47) HT_ ?_
                   refine tx (v := ?_) 4 (some 81) (tf 6 32) HT_ HW_ hHeld ?_ ?_
                   rotate_left; (· rintro w' ⟨s0, s1, s2, s3, s4⟩; go_simp; with_reducible rfl)
                   refine px 6 (some 83) (tf 7 32) HT_ ?_
                   refine tx (v := ?_) 7 (some 84) (tf 8 32) HT_ HW_ hHeld ?_ ?_
                   rotate_left; (· rintro w' ⟨s0, s1, s2, s3, s4⟩; go_simp; with_reducible rfl)
                   refine one_ (i := 8) (N := some 85) (tf 9 32) rfl rfl (one_of HT_.out t6_) t12_ (fun K hK => ?_)
                   refine goes_ Try.func59 t6_ rfl #[.slice (some ad116) l0.length c0, .string (rdOf ByteArray.empty ((rd_T54 l0 x3_1).f3) x5_3)] (by rfl) rfl rfl t2_ ?_
                   with_reducible refine (spec_l24Find.calls k3 _ _ l0 (rdOf ByteArray.empty ((rd_T54 l0 x3_1).f3) x5_3) t126 _ ?side1 ?side2 A30.out).mono ?_
                   (case side1 => repeat (first | exact (Kd.C_below HR0.out HB.out) | (with_reducible refine Kd.C_alloc ?_ _) | (with_reducible refine Kd.C_drewN ?_ _) | (with_reducible refine Kd.C_drew ?_)))
                   (case side2 => exact HC0.out)
                   rintro e w' ⟨rfl, ⟨nd, rfl⟩⟩
                   refine ⟨_, rfl, ?_⟩
                   refine hK.out _ _ ⟨((HB.out.cell (World.block_lt_of_cell? w _ hw124_0)).trans hw124_0), ((HB.out.cell (World.block_lt_of_cell? w _ hw124_1)).trans hw124_1), ((HB.out.cell (World.block_lt_of_cell? w _ hw124_2)).trans hw124_2), ((HB.out.cell (World.block_lt_of_cell? w _ hw124_3)).trans hw124_3), ((HB.out.cell (World.block_lt_of_cell? w _ hw125_0)).trans hw125_0)⟩ (fun hHeld => ?_)
                   clear hK K
                   refine norm_ (a' := ?_) ?_ ?_
                   rotate_left
                   ·show Act.put _ (some 85) _ = _
                    simp only [Act.put, List.setIfInBounds_toArray, List.set_cons_zero, List.set_cons_succ, i64_w, i32_w]
                    rfl
                   refine px 9 (some 86) (tf 10 32) HT_ ?_
                   refine px 10 (some 87) (tf 11 32) HT_ ?_
                   refine px 11 (some 88) (tf 12 32) HT_ ?_
                   refine px 12 (some 89) (tf 13 32) HT_ ?_
                   refine px 13 (some 90) (tf 14 32) HT_ ?_
                   refine sx 14 (some 91) (tf 15 32) HT_ ?_
                   refine sx 15 (some 92) (tf 16 32) HT_ ?_
                   refine sx 16 (some 93) (tf 17 32) HT_ ?_
                   refine sx 17 (some 94) (tf 18 32) HT_ ?_
                   refine sx 18 (some 95) (tf 19 32) HT_ ?_
                   refine sx 19 (some 96) (tf 20 32) HT_ ?_
                   refine sx 20 (some 97) (tf 21 32) HT_ ?_
                   refine sx 21 (some 98) (tf 22 32) HT_ ?_
                   refine sx 22 (some 99) (tf 23 32) HT_ ?_
                   refine sx 23 (some 100) (tf 24 32) HT_ ?_
                   refine sx 24 (some 101) (tf 25 32) HT_ ?_
                   refine sx 25 (some 102) (tf 26 32) HT_ ?_
                   refine sx 26 (some 103) (tf 27 32) HT_ ?_
                   refine sx 27 (some 104) (tf 28 32) HT_ ?_
                   refine sx 28 (some 105) (tf 29 32) HT_ ?_
                   refine sx 29 (some 106) (tf 30 32) HT_ ?_
                   refine px 30 (some 107) (tf 31 32) HT_ ?_
                   refine px 31 (some 108) (tf 32 32) HT_ ?_
                   refine done_ (done_of HT_.out t6_) ?_
                   try go_wp2
                   go_roundg k3
                   case measure => have := HK1.out; have := HJ4.out; have := HK3.out; omega
                   case rel => exact ⟨(wrap64 (x5_3 + 1)), t4_, H', ⟨by have := HK1.out; have := HJ4.out; have := HK3.out; omega⟩, ⟨by repeat (first | (with_reducible first | exact HB.out | apply below_alloc | apply pw_below_drewN | apply below_drew1) | exact HB.out)⟩⟩
                ·rw [if_neg c29] at H
                 exact absurd H t17_
               ·rw [if_neg c28] at H
                have c28b0 : decide (x5_3 < (((rd_T54 l0 x3_1).f3).length : Int)) = false := decide_eq_false c28
                clear c28
                have H' := Aside0.mk H
                clear H
                have p123 : 0 ≤ (x3_1 : Int) := of_decide_eq_true t3_
                have q123 : x3_1 < (l0.length : Int) := of_decide_eq_true t3_
                obtain ⟨ad123, A123_3, c123_3, e123, hx123_0, hx123_1, hx123_2, hx123_3, hl123_3, hi123_3⟩ := at_T54 HR0.out x3_1 p123 q123
                obtain rfl : ad116 = ad123 := (by injection e123)
                replace hx123_0 := (HB.out.cell (World.block_lt_of_cell? w _ hx123_0)).trans hx123_0
                replace hx123_1 := (HB.out.cell (World.block_lt_of_cell? w _ hx123_1)).trans hx123_1
                replace hx123_2 := (HB.out.cell (World.block_lt_of_cell? w _ hx123_2)).trans hx123_2
                replace hx123_3 := (HB.out.cell (World.block_lt_of_cell? w _ hx123_3)).trans hx123_3
                have HR123_3 := Aside0.mk hi123_3
                have HC123_3 := Aside0.mk hl123_3
                clear hi123_3 hl123_3
                replace p123 := eq_true p123
                replace q123 := eq_true q123
                go_wp2
                go_roundg k3
                case measure => have := HK1.out; have := HJ4.out; have := HK3.out; omega
                case rel => exact ⟨(wrap64 (x3_1 + 1)), t4_, H', ⟨by have := HK1.out; have := HJ4.out; have := HK3.out; omega⟩, ⟨by repeat (first | (with_reducible first | exact HB.out | apply below_alloc | apply pw_below_drewN | apply below_drew1) | exact HB.out)⟩⟩
              ·rw [if_neg c27] at H
               exact absurd H t17_
             ·rw [if_neg c26] at H
              exact absurd H t17_
         ·rw [if_neg c24] at H
          exact absurd H t17_
        ·rw [if_neg c23] at H
         exact absurd H t17_
     ·rw [if_neg c4] at H
      exact absurd H t17_
    ·rw [if_neg c3] at H
     have c3b0 : decide (x3_1 < (l0.length : Int)) = false := decide_eq_false c3
     clear c3
     obtain ⟨y129, hy129⟩ : ∃ y_ : List Int, y_ = (([] : List Int)) := ⟨_, rfl⟩
     replace H : (spec_l24Ok.l2 k1 l0 y129 0) = some r := by first | (rw [hy129]; with_reducible exact H) | (have H2_ := (Option.bind_some _ _).symm.trans H; rw [hy129]; with_reducible exact H2_) | (have H2_ := (Option.bind_some _ _).symm.trans H; with_reducible exact H2_) | with_reducible exact H | (rw [hy129]; exact H) | exact H
     have Ny129 := Aside0.mk hy129
     clear hy129
     have H' := Aside0.mk H
     clear H
     go_wp2_with (first | ((with_reducible refine gate_dst (N := 109) rfl ?_); (try (refine gate_guard (by rfl) ?_; dsimp only)); refine Kd.R_lit (Kd.int .i64) _ 2 ?hg (N := 109) ?hd (xs := ([] : List Int)) (inner := []) (ok := fun _ => True) (okp := fun _ => True) ?hr ?hp (fun _ hk => hk) trivial (Below.refl _ _) (Nat.le_refl _) t17_ ?_; (case hd => rfl); (case hg => rfl); (case hr => first | (go_simp; done) | (go_simp; rfl)); (case hp => exact (Reps.none _ _)); intro v130 w41 ho42 hb hg_ hnew_; clear hg_ hnew_; (first | rw [← Ny129.out] at ho42 | (simp only [Int.reduceToNat] at ho42; rw [← Ny129.out] at ho42)); have n0_ := Aside0.mk (Kd.R_lower ho42 (below_size t1_)); have n1_ := Aside0.mk (below_step t1_ hb); clear HB; have HO131 := n0_; have HB := n1_; clear n0_ n1_; clear hb ho42))
     go_loopg [6, 7] k1 (fun kq v6 v7 w' => ∃ (x6_2 : List Int) (x7_2 : Int), v7 = .int .i64 x7_2 ∧ Aside0 (spec_l24Ok.l2 kq l0 x6_2 x7_2 = some r) ∧ Aside0 (kq ≤ k1) ∧ Aside0 (Kd.R (Kd.int .i64) 2 w' w.heap.size (fun _ => True) v6 x6_2) ∧ Aside0 (Below w.heap.size w w'))
     case atStart => exact ⟨(y129), (0), t4_, H', ⟨Nat.le_refl _⟩, ⟨by (with_reducible repeat (first | apply Kd.R_alloc | apply Kd.R_drewN | apply Kd.R_drew)); exact HO131.out⟩, ⟨by repeat (first | (with_reducible first | exact HB.out | apply below_alloc | apply pw_below_drewN | apply below_drew1) | exact HB.out)⟩⟩
     case round =>
      clear H'
      try clear c1
      try clear p1
      try clear q1
      try clear hx1
      try clear c2
      try clear p2
      try clear c3
      try clear c3b0
      try clear c4
      try clear c5
      try clear p6
      try clear c12
      try clear p12
      try clear q12
      try clear hx12
      try clear c23
      try clear c24
      try clear c26
      try clear c27
      try clear c28
      try clear c28b0
      try clear c29
      try clear c33
      try clear c33b0
      try clear c35
      try clear c36
      try clear hx123_0
      try clear hx123_1
      try clear hx123_2
      try clear hx123_3
      try clear hx124_0
      try clear hx124_1
      try clear hx124_2
      try clear hx124_3
      try clear hx125_0
      try clear hx127_0
      try clear hx128_0
      try clear p123
      try clear p124
      try clear p125
      try clear p127
      try clear p128
      try clear q123
      try clear q124
      try clear q125
      try clear q127
      try clear q128
      obtain ⟨x6_2, x7_2, rfl, HA, HK2, HO_6, HB⟩ := hrel
      cases gk with
      | zero => exact absurd HA.out (by simp [spec_l24Ok.l2])
      | succ k2 =>
       have H := HA.out
       clear HA
       simp only [spec_l24Ok.l2] at H
       by_cases c43 : x7_2 < (l0.length : Int)
       ·rw [if_pos c43] at H
        have c43b0 : decide (x7_2 < (l0.length : Int)) = true := decide_eq_true c43
        clear c43
        have H' := Aside0.mk H
        clear H
        go_wp2
        go_loopg [6, 8] k2 (fun kq v6 v8 w' => ∃ (x6_3 : List Int) (x8_3 : Int), v8 = .int .i64 x8_3 ∧ Aside0 (spec_l24Ok.l3 kq l0 x6_3 x7_2 x8_3 = some r) ∧ Aside0 (kq ≤ k2) ∧ Aside0 (Kd.R (Kd.int .i64) 2 w' w.heap.size (fun _ => True) v6 x6_3) ∧ Aside0 (Below w.heap.size w w'))
        case atStart => exact ⟨(x6_2), (0), t4_, H', ⟨Nat.le_refl _⟩, ⟨by (with_reducible repeat (first | apply Kd.R_alloc | apply Kd.R_drewN | apply Kd.R_drew)); exact HO_6.out⟩, ⟨by repeat (first | (with_reducible first | exact HB.out | apply below_alloc | apply pw_below_drewN | apply below_drew1) | exact HB.out)⟩⟩
        case round =>
         clear H'
         try clear c1
         try clear p1
         try clear q1
         try clear hx1
         try clear c2
         try clear p2
         try clear c3
         try clear c3b0
         try clear c4
         try clear c5
         try clear p6
         try clear c12
         try clear p12
         try clear q12
         try clear hx12
         try clear c23
         try clear c24
         try clear c26
         try clear c27
         try clear c28
         try clear c28b0
         try clear c29
         try clear c33
         try clear c33b0
         try clear c35
         try clear c36
         try clear c43
         try clear c43b0
         try clear hx123_0
         try clear hx123_1
         try clear hx123_2
         try clear hx123_3
         try clear hx124_0
         try clear hx124_1
         try clear hx124_2
         try clear hx124_3
         try clear hx125_0
         try clear hx127_0
         try clear hx128_0
         try clear p1
         try clear p12
         try clear p123
         try clear p124
         try clear p125
         try clear p127
         try clear p128
         try clear p2
         try clear p6
         try clear q1
         try clear q12
         try clear q123
         try clear q124
         try clear q125
         try clear q127
         try clear q128
         obtain ⟨x6_3, x8_3, rfl, HA, HK3, HO_6, HB⟩ := hrel
         cases gk with
         | zero => exact absurd HA.out (by simp [spec_l24Ok.l3])
         | succ k3 =>
          have H := HA.out
          clear HA
          simp only [spec_l24Ok.l3] at H
          by_cases c44 : x8_3 < (l0.length : Int)
          ·rw [if_pos c44] at H
           have c44b0 : decide (x8_3 < (l0.length : Int)) = true := decide_eq_true c44
           clear c44
           replace H := Option.bind_eq_some_iff.mp H
           obtain ⟨t132, A450, H⟩ := H
           replace H : (if t132 = true then (spec_l24Ok.l3 k3 l0 x6_3 x7_2 (wrap64 (x8_3 + 1))) else ((spec_l24Ready.f k3 l0 x6_3 x8_3).bind fun t133 => (if t133 = true then (if x6_3.length < 17592186044416 then (spec_l24Ok.l3 k3 l0 (x6_3 ++ [x8_3]) x7_2 (wrap64 (x8_3 + 1))) else (none)) else (spec_l24Ok.l3 k3 l0 x6_3 x7_2 (wrap64 (x8_3 + 1)))))) = some r := H
           have A45 := Aside0.mk A450
           clear A450
           by_cases c46 : t132 = true
           ·subst c46
            have H1 : (spec_l24Ok.l3 k3 l0 x6_3 x7_2 (wrap64 (x8_3 + 1))) = some r := by rw [if_pos rfl] at H; exact H
            clear H
            have H := H1
            clear H1
            have H' := Aside0.mk H
            clear H
            obtain ⟨Ao47, co47, eo47⟩ := Kd.R_slice HO_6.out
            subst eo47
            go_wp2_with (first | ((with_reducible refine gate_callee (f := 60) rfl ?_); refine goesL_ (some 124) rfl rfl Try.func60 t6_ rfl #[.slice Ao47 x6_3.length co47, .int .i64 x8_3] rfl t2_ ?_; (with_reducible refine (spec_l00Has.calls k3 _ _ x6_3 x8_3 true _ ?side1 ?side2 A45.out).mono ?_); (case side1 => repeat (first | exact (Kd.R_reads' HO_6.out).2.2 | (with_reducible refine Kd.C_alloc ?_ _) | (with_reducible refine Kd.C_drewN ?_ _) | (with_reducible refine Kd.C_drew ?_))); (case side2 => exact (Kd.R_reads' HO_6.out).2.1); rintro e w' ⟨rfl, ⟨nd, rfl⟩⟩; refine ⟨_, rfl, ?_⟩))
            go_roundg k3
            case measure => have := HK1.out; have := HK2.out; have := HK3.out; omega
            case rel => exact ⟨(x6_3), (wrap64 (x8_3 + 1)), t4_, H', ⟨by have := HK1.out; have := HK2.out; have := HK3.out; omega⟩, ⟨by (with_reducible repeat (first | apply Kd.R_alloc | apply Kd.R_drewN | apply Kd.R_drew)); exact HO_6.out⟩, ⟨by repeat (first | (with_reducible first | exact HB.out | apply below_alloc | apply pw_below_drewN | apply below_drew1) | exact HB.out)⟩⟩
           ·replace c46 := Bool.eq_false_iff.mpr c46
            subst c46
            have H1 : ((spec_l24Ready.f k3 l0 x6_3 x8_3).bind fun t133 => (if t133 = true then (if x6_3.length < 17592186044416 then (spec_l24Ok.l3 k3 l0 (x6_3 ++ [x8_3]) x7_2 (wrap64 (x8_3 + 1))) else (none)) else (spec_l24Ok.l3 k3 l0 x6_3 x7_2 (wrap64 (x8_3 + 1))))) = some r := by rw [if_neg (show ¬ (false = true) by decide)] at H; exact H
            clear H
            have H := H1
            clear H1
            replace H := Option.bind_eq_some_iff.mp H
            obtain ⟨t133, A480, H⟩ := H
            replace H : (if t133 = true then (if x6_3.length < 17592186044416 then (spec_l24Ok.l3 k3 l0 (x6_3 ++ [x8_3]) x7_2 (wrap64 (x8_3 + 1))) else (none)) else (spec_l24Ok.l3 k3 l0 x6_3 x7_2 (wrap64 (x8_3 + 1)))) = some r := H
            have A48 := Aside0.mk A480
            clear A480
            by_cases c49 : t133 = true
            ·subst c49
             have H1 : (if x6_3.length < 17592186044416 then (spec_l24Ok.l3 k3 l0 (x6_3 ++ [x8_3]) x7_2 (wrap64 (x8_3 + 1))) else (none)) = some r := by rw [if_pos rfl] at H; exact H
             clear H
             have H := H1
             clear H1
             by_cases c50 : x6_3.length < 17592186044416
             ·rw [if_pos c50] at H
              have LMc50 := Aside0.mk c50
              clear c50
              obtain ⟨y134, hy134⟩ : ∃ y_ : List Int, y_ = (x6_3 ++ [x8_3]) := ⟨_, rfl⟩
              replace H : (spec_l24Ok.l3 k3 l0 y134 x7_2 (wrap64 (x8_3 + 1))) = some r := by first | (rw [hy134]; with_reducible exact H) | (have H2_ := (Option.bind_some _ _).symm.trans H; rw [hy134]; with_reducible exact H2_) | (have H2_ := (Option.bind_some _ _).symm.trans H; with_reducible exact H2_) | with_reducible exact H | (rw [hy134]; exact H) | exact H
              have Ny134 := Aside0.mk hy134
              clear hy134
              have H' := Aside0.mk H
              clear H
              obtain ⟨Ao51, co51, eo51⟩ := Kd.R_slice HO_6.out
              subst eo51
              go_wp2_with (first | ((with_reducible refine gate_callee (f := 60) rfl ?_); refine goesL_ (some 124) rfl rfl Try.func60 t6_ rfl #[.slice Ao51 x6_3.length co51, .int .i64 x8_3] rfl t2_ ?_; (with_reducible refine (spec_l00Has.calls k3 _ _ x6_3 x8_3 false _ ?side1 ?side2 A45.out).mono ?_); (case side1 => repeat (first | exact (Kd.R_reads' HO_6.out).2.2 | (with_reducible refine Kd.C_alloc ?_ _) | (with_reducible refine Kd.C_drewN ?_ _) | (with_reducible refine Kd.C_drew ?_))); (case side2 => exact (Kd.R_reads' HO_6.out).2.1); rintro e w' ⟨rfl, ⟨nd, rfl⟩⟩; refine ⟨_, rfl, ?_⟩) | (go_at_call 61; (with_reducible refine (spec_l24Ready.calls k3 _ _ l0 _ _ x6_3 x8_3 true _ ?side1 ?side2 ?side3 ?side4 A48.out).mono ?_); (case side1 => repeat (first | exact (Kd.C_below HR0.out t1_) | (with_reducible refine Kd.C_alloc ?_ _) | (with_reducible refine Kd.C_drewN ?_ _) | (with_reducible refine Kd.C_drew ?_))); (case side2 => exact HC0.out); (case side3 => repeat (first | exact (Kd.R_reads' HO_6.out).2.2 | (with_reducible refine Kd.C_alloc ?_ _) | (with_reducible refine Kd.C_drewN ?_ _) | (with_reducible refine Kd.C_drew ?_))); (case side4 => exact (Kd.R_reads' HO_6.out).2.1); rintro e w' ⟨rfl, ⟨nd, rfl⟩⟩) | ((with_reducible refine gate_builtin (b := .append) (xs := #[.tmp 132, .tmp 134]) rfl ?_); (try (refine gate_guard (by rfl) ?_; dsimp only)); at_builtin; refine Kd.R_append (Kd.int .i64) (w0 := w) w.heap.size rfl (.tmp 132) (.tmp 134) 29 2 (.int .i64 0) 8 rfl Try.underlying29 info2 rfl t12_ t7_ (.slice Ao51 x6_3.length co51) x6_3 x8_3 [.int .i64 x8_3] (fun _ => True) (fun _ => False) rfl rfl ?aP (fun _ hk => hk.elim) ?aF ?aO ?aB ?aS ?aL ?_; (case aP => exact rfl); (case aB => exact t1_); (case aF => exact (fun _ _ => trivial)); (case aO => exact (q1_ HO_6.out)); (case aS => exact (below_size t1_)); (case aL => have := LMc50.out; omega); intro v135 w52 ho hb hg hat; rw [← Ny134.out] at ho; have n0_ := Aside0.mk (hb); have n1_ := Aside0.mk (ho); clear HB; clear HO_6; have HB := n0_; have HO136 := n1_; clear n0_ n1_; clear ho hb hg hat))
              go_roundg k3
              case measure => have := HK1.out; have := HK2.out; have := HK3.out; omega
              case rel => exact ⟨(y134), (wrap64 (x8_3 + 1)), t4_, H', ⟨by have := HK1.out; have := HK2.out; have := HK3.out; omega⟩, ⟨by (with_reducible repeat (first | apply Kd.R_alloc | apply Kd.R_drewN | apply Kd.R_drew)); exact HO136.out⟩, ⟨by repeat (first | (with_reducible first | exact HB.out | apply below_alloc | apply pw_below_drewN | apply below_drew1) | exact HB.out)⟩⟩
             ·rw [if_neg c50] at H
              exact absurd H t17_
            ·replace c49 := Bool.eq_false_iff.mpr c49
             subst c49
             have H1 : (spec_l24Ok.l3 k3 l0 x6_3 x7_2 (wrap64 (x8_3 + 1))) = some r := by rw [if_neg (show ¬ (false = true) by decide)] at H; exact H
             clear H
             have H := H1
             clear H1
             have H' := Aside0.mk H
             clear H
             obtain ⟨Ao53, co53, eo53⟩ := Kd.R_slice HO_6.out
             subst eo53
             go_wp2_with (first | ((with_reducible refine gate_callee (f := 60) rfl ?_); refine goesL_ (some 124) rfl rfl Try.func60 t6_ rfl #[.slice Ao53 x6_3.length co53, .int .i64 x8_3] rfl t2_ ?_; (with_reducible refine (spec_l00Has.calls k3 _ _ x6_3 x8_3 false _ ?side1 ?side2 A45.out).mono ?_); (case side1 => repeat (first | exact (Kd.R_reads' HO_6.out).2.2 | (with_reducible refine Kd.C_alloc ?_ _) | (with_reducible refine Kd.C_drewN ?_ _) | (with_reducible refine Kd.C_drew ?_))); (case side2 => exact (Kd.R_reads' HO_6.out).2.1); rintro e w' ⟨rfl, ⟨nd, rfl⟩⟩; refine ⟨_, rfl, ?_⟩) | (go_at_call 61; (with_reducible refine (spec_l24Ready.calls k3 _ _ l0 _ _ x6_3 x8_3 false _ ?side1 ?side2 ?side3 ?side4 A48.out).mono ?_); (case side1 => repeat (first | exact (Kd.C_below HR0.out t1_) | (with_reducible refine Kd.C_alloc ?_ _) | (with_reducible refine Kd.C_drewN ?_ _) | (with_reducible refine Kd.C_drew ?_))); (case side2 => exact HC0.out); (case side3 => repeat (first | exact (Kd.R_reads' HO_6.out).2.2 | (with_reducible refine Kd.C_alloc ?_ _) | (with_reducible refine Kd.C_drewN ?_ _) | (with_reducible refine Kd.C_drew ?_))); (case side4 => exact (Kd.R_reads' HO_6.out).2.1); rintro e w' ⟨rfl, ⟨nd, rfl⟩⟩))
             go_roundg k3
             case measure => have := HK1.out; have := HK2.out; have := HK3.out; omega
             case rel => exact ⟨(x6_3), (wrap64 (x8_3 + 1)), t4_, H', ⟨by have := HK1.out; have := HK2.out; have := HK3.out; omega⟩, ⟨by (with_reducible repeat (first | apply Kd.R_alloc | apply Kd.R_drewN | apply Kd.R_drew)); exact HO_6.out⟩, ⟨by repeat (first | (with_reducible first | exact HB.out | apply below_alloc | apply pw_below_drewN | apply below_drew1) | exact HB.out)⟩⟩
          ·rw [if_neg c44] at H
           have c44b0 : decide (x8_3 < (l0.length : Int)) = false := decide_eq_false c44
           clear c44
           have H' := Aside0.mk H
           clear H
           go_wp2
           go_roundg k3
           case measure => have := HK1.out; have := HK2.out; have := HK3.out; omega
           case rel => exact ⟨(x6_3), (wrap64 (x7_2 + 1)), t4_, H', ⟨by have := HK1.out; have := HK2.out; have := HK3.out; omega⟩, ⟨by (with_reducible repeat (first | apply Kd.R_alloc | apply Kd.R_drewN | apply Kd.R_drew)); exact HO_6.out⟩, ⟨by repeat (first | (with_reducible first | exact HB.out | apply below_alloc | apply pw_below_drewN | apply below_drew1) | exact HB.out)⟩⟩
       ·rw [if_neg c43] at H
        have c43b0 : decide (x7_2 < (l0.length : Int)) = false := decide_eq_false c43
        clear c43
        obtain rfl := Option.some.inj H
        obtain ⟨Ao54, co54, eo54⟩ := Kd.R_slice HO_6.out
        subst eo54
        go_wp2
        go_ret
        exact ⟨by first | rfl | (rw [Int.tdiv_eq_ediv_of_nonneg t7_]; rfl) | (simp [errW_none, errW_some] <;> rfl) | (simp [*, errW_none, errW_some] <;> rfl), by repeat (first | (with_reducible first | exact HB.out | apply below_alloc | apply pw_below_drewN | apply below_drew1) | exact HB.out)⟩

end Go.Proofs.Ytipfgehjedldmaa.PFnExactValidStages
