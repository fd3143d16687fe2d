-- written by wip/xprint.py, a program of this session, for this claim; not trusted: Lean checks it.
import Derived.Test.YtpdgicpgjmibgaaPFnExactCountChargingsx0
import Derived.Test.YtpdgicpgjmibgaaPFnExactCountChargingsx4
namespace Go.Proofs.Ytpdgicpgjmibgaa.PFnExactCountChargings
open Go.RowKit Go.Proofs.YtpdgicpgjmibgaaW.PrintWords Go.Proofs.YtpdgicpgjmibgaaW.PrintLast Go.Proofs.YtpdgicpgjmibgaaW.PrintMore
attribute [local go_sem] max2_int min2_int max_two min_two max_three min_three max_four min_four   -- for this text's walks alone
set_option linter.unusedVariables false
set_option linter.unusedSimpArgs false

/-! ### impl_charging_counts: function 46 -/
mutual
def impl_charging_counts.l0 : Nat → List (List Int) → Int → Int → Int → Int → Int → List Int → List Int → Int → Option ((List (List Int)))
 | 0, _, _, _, _, _, _, _, _, _ => none
 | k + 1, x3, x31, x32, x173000, x173001, x173002, x173003, x173004, x173005 => if x32 < x31 then (if 0 ≤ (x173003.length : Int) then (if (x173003.length : Int) < (x3.length : Int) then (if 0 ≤ x32 then (if x32 < ((rd_L2 x3 (x173003.length : Int)).length : Int) then (impl_charging_counts.l0 k (x3.set ((x173003.length : Int) : Int).toNat ((rd_L2 x3 (x173003.length : Int)).set (x32 : Int).toNat 1)) x31 (wrap64 (x32 + 1)) x173000 x173001 x173002 x173003 x173004 x173005) else (none)) else (none)) else (none)) else (none)) else (impl_charging_counts.l1 k x3 (wrap64 ((x173003.length : Int) - 1)) x173000 x173001 x173002 x173003 x173004 x173005)
def impl_charging_counts.l1 : Nat → List (List Int) → Int → Int → Int → Int → List Int → List Int → Int → Option ((List (List Int)))
 | 0, _, _, _, _, _, _, _, _ => none
 | k + 1, x3, x5, x173000, x173001, x173002, x173003, x173004, x173005 => if x5 ≥ 0 then (if 0 ≤ (wrap64 (x173000 + 1)) then (if (wrap64 (x173000 + 1) : Int).toNat ≤ 35184372088832 then (if 0 ≤ x5 then (if x5 < (x3.length : Int) then ((some (x3.set (x5 : Int).toNat (List.replicate (wrap64 (x173000 + 1) : Int).toNat 0) : List (List Int))).bind fun y188 => (impl_charging_counts.l2 k y188 x5 ((rd_L2 y188 x5).length : Int) 0 x173000 x173001 x173002 x173003 x173004 x173005)) else (none)) else (none)) else (none)) else (none)) else (some x3)
def impl_charging_counts.l2 : Nat → List (List Int) → Int → Int → Int → Int → Int → Int → List Int → List Int → Int → Option ((List (List Int)))
 | 0, _, _, _, _, _, _, _, _, _, _ => none
 | k + 1, x3, x5, x64, x65, x173000, x173001, x173002, x173003, x173004, x173005 => if x65 < x64 then (impl_charging_counts.l3 k x3 x5 x65 (wrap64 (-x173001)) x64 x65 x173000 x173001 x173002 x173003 x173004 x173005) else (impl_charging_counts.l1 k x3 (wrap64 (x5 - 1)) x173000 x173001 x173002 x173003 x173004 x173005)
def impl_charging_counts.l3 : Nat → List (List Int) → Int → Int → Int → Int → Int → Int → Int → Int → List Int → List Int → Int → Option ((List (List Int)))
 | 0, _, _, _, _, _, _, _, _, _, _, _, _ => none
 | k + 1, x3, x5, x6, x7, x64, x65, x173000, x173001, x173002, x173003, x173004, x173005 => if x7 ≤ x173001 then ((impl_charging_after.f x173000 x173001 x173002 x173003 x173004 x173005 x5 x6 x7).bind fun bt190 => (if bt190.2 = true then (if 0 ≤ x5 then (if x5 < (x3.length : Int) then (if 0 ≤ x6 then (if x6 < ((rd_L2 x3 x5).length : Int) then (if 0 ≤ (wrap64 (x5 + 1)) then (if (wrap64 (x5 + 1)) < (x3.length : Int) then (if 0 ≤ bt190.1 then (if bt190.1 < ((rd_L2 x3 (wrap64 (x5 + 1))).length : Int) then (impl_charging_counts.l3 k (x3.set (x5 : Int).toNat ((rd_L2 x3 x5).set (x6 : Int).toNat (mn (wrap64 ((rd (rd_L2 x3 x5) x6) + (rd (rd_L2 x3 (wrap64 (x5 + 1))) bt190.1))) 20001))) x5 x6 (wrap64 (x7 + 1)) x64 x65 x173000 x173001 x173002 x173003 x173004 x173005) else (none)) else (none)) else (none)) else (none)) else (none)) else (none)) else (none)) else (none)) else (impl_charging_counts.l3 k x3 x5 x6 (wrap64 (x7 + 1)) x64 x65 x173000 x173001 x173002 x173003 x173004 x173005))) else (impl_charging_counts.l2 k x3 x5 x64 (wrap64 (x65 + 1)) x173000 x173001 x173002 x173003 x173004 x173005)
end
def impl_charging_counts.f (k : Nat) (a0_0 : Int) (a0_1 : Int) (a0_2 : Int) (l0_3 : List Int) (l0_4 : List Int) (a0_5 : Int) : Option ((List (List Int))) := if 0 ≤ (wrap64 ((l0_3.length : Int) + 1)) then (if (wrap64 ((l0_3.length : Int) + 1) : Int).toNat ≤ 11728124029610 then ((some (List.replicate (wrap64 ((l0_3.length : Int) + 1) : Int).toNat [] : List (List Int))).bind fun y173 => (if 0 ≤ (wrap64 (a0_0 + 1)) then (if (wrap64 (a0_0 + 1) : Int).toNat ≤ 35184372088832 then ((some (List.replicate (wrap64 (a0_0 + 1) : Int).toNat 0 : List Int)).bind fun y176 => (if 0 ≤ (l0_3.length : Int) then (if (l0_3.length : Int) < (y173.length : Int) then (impl_charging_counts.l0 k (y173.set ((l0_3.length : Int) : Int).toNat y176) (y176.length : Int) 0 a0_0 a0_1 a0_2 l0_3 l0_4 a0_5) else (none)) else (none))) else (none)) else (none))) else (none)) else (none)
theorem impl_charging_counts.mono_l : ∀ k, (∀ y0 y1 y2 y3 y4 y5 y6 y7 y8, LeO (impl_charging_counts.l0 k y0 y1 y2 y3 y4 y5 y6 y7 y8) (impl_charging_counts.l0 (k + 1) y0 y1 y2 y3 y4 y5 y6 y7 y8)) ∧ (∀ y0 y1 y2 y3 y4 y5 y6 y7, LeO (impl_charging_counts.l1 k y0 y1 y2 y3 y4 y5 y6 y7) (impl_charging_counts.l1 (k + 1) y0 y1 y2 y3 y4 y5 y6 y7)) ∧ (∀ y0 y1 y2 y3 y4 y5 y6 y7 y8 y9, LeO (impl_charging_counts.l2 k y0 y1 y2 y3 y4 y5 y6 y7 y8 y9) (impl_charging_counts.l2 (k + 1) y0 y1 y2 y3 y4 y5 y6 y7 y8 y9)) ∧ (∀ y0 y1 y2 y3 y4 y5 y6 y7 y8 y9 y10 y11, LeO (impl_charging_counts.l3 k y0 y1 y2 y3 y4 y5 y6 y7 y8 y9 y10 y11) (impl_charging_counts.l3 (k + 1) y0 y1 y2 y3 y4 y5 y6 y7 y8 y9 y10 y11))
 | 0 => ⟨fun _ _ _ _ _ _ _ _ _ r h => by simp [impl_charging_counts.l0] at h, fun _ _ _ _ _ _ _ _ r h => by simp [impl_charging_counts.l1] at h, fun _ _ _ _ _ _ _ _ _ _ r h => by simp [impl_charging_counts.l2] at h, fun _ _ _ _ _ _ _ _ _ _ _ _ r h => by simp [impl_charging_counts.l3] at h⟩
 | k + 1 => by
  obtain ⟨ih0, ih1, ih2, ih3⟩ := impl_charging_counts.mono_l k
  refine ⟨?_, ?_, ?_, ?_⟩
  ·intro y0 y1 y2 y3 y4 y5 y6 y7 y8
   unfold impl_charging_counts.l0
   repeat' first
   | (with_reducible exact ih0 _ _ _ _ _ _ _ _ _)
   | (with_reducible exact ih1 _ _ _ _ _ _ _ _)
   | (with_reducible exact ih2 _ _ _ _ _ _ _ _ _ _)
   | (with_reducible exact ih3 _ _ _ _ _ _ _ _ _ _ _ _)
   | (with_reducible exact LeO.refl _)
   | (with_reducible exact LeO.none _)
   | (with_reducible refine LeO.ite ?_ ?_)
   | (with_reducible refine LeO.bind ?_ (fun _ => ?_))
   | exact ih0 _ _ _ _ _ _ _ _ _
   | exact ih1 _ _ _ _ _ _ _ _
   | exact ih2 _ _ _ _ _ _ _ _ _ _
   | exact ih3 _ _ _ _ _ _ _ _ _ _ _ _
   | exact LeO.none _
   | refine LeO.ite ?_ ?_
   | refine LeO.bind ?_ (fun _ => ?_)
  ·intro y0 y1 y2 y3 y4 y5 y6 y7
   unfold impl_charging_counts.l1
   repeat' first
   | (with_reducible exact ih0 _ _ _ _ _ _ _ _ _)
   | (with_reducible exact ih1 _ _ _ _ _ _ _ _)
   | (with_reducible exact ih2 _ _ _ _ _ _ _ _ _ _)
   | (with_reducible exact ih3 _ _ _ _ _ _ _ _ _ _ _ _)
   | (with_reducible exact LeO.refl _)
   | (with_reducible exact LeO.none _)
   | (with_reducible refine LeO.ite ?_ ?_)
   | (with_reducible refine LeO.bind ?_ (fun _ => ?_))
   | exact ih0 _ _ _ _ _ _ _ _ _
   | exact ih1 _ _ _ _ _ _ _ _
   | exact ih2 _ _ _ _ _ _ _ _ _ _
   | exact ih3 _ _ _ _ _ _ _ _ _ _ _ _
   | exact LeO.none _
   | refine LeO.ite ?_ ?_
   | refine LeO.bind ?_ (fun _ => ?_)
  ·intro y0 y1 y2 y3 y4 y5 y6 y7 y8 y9
   unfold impl_charging_counts.l2
   repeat' first
   | (with_reducible exact ih0 _ _ _ _ _ _ _ _ _)
   | (with_reducible exact ih1 _ _ _ _ _ _ _ _)
   | (with_reducible exact ih2 _ _ _ _ _ _ _ _ _ _)
   | (with_reducible exact ih3 _ _ _ _ _ _ _ _ _ _ _ _)
   | (with_reducible exact LeO.refl _)
   | (with_reducible exact LeO.none _)
   | (with_reducible refine LeO.ite ?_ ?_)
   | (with_reducible refine LeO.bind ?_ (fun _ => ?_))
   | exact ih0 _ _ _ _ _ _ _ _ _
   | exact ih1 _ _ _ _ _ _ _ _
   | exact ih2 _ _ _ _ _ _ _ _ _ _
   | exact ih3 _ _ _ _ _ _ _ _ _ _ _ _
   | exact LeO.none _
   | refine LeO.ite ?_ ?_
   | refine LeO.bind ?_ (fun _ => ?_)
  ·intro y0 y1 y2 y3 y4 y5 y6 y7 y8 y9 y10 y11
   unfold impl_charging_counts.l3
   repeat' first
   | (with_reducible exact ih0 _ _ _ _ _ _ _ _ _)
   | (with_reducible exact ih1 _ _ _ _ _ _ _ _)
   | (with_reducible exact ih2 _ _ _ _ _ _ _ _ _ _)
   | (with_reducible exact ih3 _ _ _ _ _ _ _ _ _ _ _ _)
   | (with_reducible exact LeO.refl _)
   | (with_reducible exact LeO.none _)
   | (with_reducible refine LeO.ite ?_ ?_)
   | (with_reducible refine LeO.bind ?_ (fun _ => ?_))
   | exact ih0 _ _ _ _ _ _ _ _ _
   | exact ih1 _ _ _ _ _ _ _ _
   | exact ih2 _ _ _ _ _ _ _ _ _ _
   | exact ih3 _ _ _ _ _ _ _ _ _ _ _ _
   | exact LeO.none _
   | refine LeO.ite ?_ ?_
   | refine LeO.bind ?_ (fun _ => ?_)
theorem impl_charging_counts.mono : ∀ a0 a1 a2 a3 a4 a5 k, LeO (impl_charging_counts.f k a0 a1 a2 a3 a4 a5) (impl_charging_counts.f (k + 1) a0 a1 a2 a3 a4 a5) := by
 intro a0 a1 a2 a3 a4 a5 k
 obtain ⟨ih0, ih1, ih2, ih3⟩ := impl_charging_counts.mono_l k
 unfold impl_charging_counts.f
 repeat' first
   | (with_reducible exact ih0 _ _ _ _ _ _ _ _ _)
   | (with_reducible exact ih1 _ _ _ _ _ _ _ _)
   | (with_reducible exact ih2 _ _ _ _ _ _ _ _ _ _)
   | (with_reducible exact ih3 _ _ _ _ _ _ _ _ _ _ _ _)
   | (with_reducible exact LeO.refl _)
   | (with_reducible exact LeO.none _)
   | (with_reducible refine LeO.ite ?_ ?_)
   | (with_reducible refine LeO.bind ?_ (fun _ => ?_))
   | exact ih0 _ _ _ _ _ _ _ _ _
   | exact ih1 _ _ _ _ _ _ _ _
   | exact ih2 _ _ _ _ _ _ _ _ _ _
   | exact ih3 _ _ _ _ _ _ _ _ _ _ _ _
   | exact LeO.none _
   | refine LeO.ite ?_ ?_
   | refine LeO.bind ?_ (fun _ => ?_)
def impl_charging_counts.T2 : Bool × List (List Nat × List Nat) := (true, [([], []), ([], []), ([1], [1]), ([2], [2]), ([], []), ([4], [4]), ([5], [5]), ([6], [6]), ([7, 7], [7]), ([0, 3, 0, 1, 2, 3, 4, 5, 6, 7, 8], [0, 3]), ([9, 8, 0, 1, 2, 3, 4, 5, 6, 7, 8], [8, 9])])
def impl_charging_counts.B2 : List Nat := [0, 0, 2, 6, 0, 16, 48, 112, 240, 511, 1023]
theorem impl_charging_counts.tab2 : rtab .any (opsOf Try.f46 2) = impl_charging_counts.T2 := by kernel_rfl
theorem impl_charging_counts.bits2 : waitsOk impl_charging_counts.T2.2 impl_charging_counts.B2 = true := by kernel_rfl
def impl_charging_counts.T20 : Bool × List (List Nat × List Nat) := (true, [([], []), ([], []), ([0, 1], [0, 1]), ([2], [2]), ([], []), ([], []), ([], []), ([5, 6], [5, 6]), ([7], [7]), ([], []), ([8, 9], [8, 9]), ([10], [10]), ([], []), ([], []), ([13], [13]), ([12, 14], [12, 14]), ([15], [15]), ([], []), ([16, 17], [16, 17]), ([18], [18]), ([11, 19], [11, 19]), ([20], [20]), ([3, 4, 0, 1, 2, 3, 4, 5, 6, 7, 8, 9, 10, 11, 12, 13, 14, 15, 16, 17, 18, 19, 20, 21], [3, 4]), ([22, 21, 0, 1, 2, 3, 4, 5, 6, 7, 8, 9, 10, 11, 12, 13, 14, 15, 16, 17, 18, 19, 20, 21], [21, 22])])
def impl_charging_counts.B20 : List Nat := [0, 0, 3, 7, 0, 0, 0, 96, 224, 0, 992, 2016, 0, 0, 8192, 28672, 61440, 0, 258048, 520192, 1048544, 2097120, 4194303, 8388607]
theorem impl_charging_counts.tab20 : rtab .any (opsOf Try.f46 20) = impl_charging_counts.T20 := by kernel_rfl
theorem impl_charging_counts.bits20 : waitsOk impl_charging_counts.T20.2 impl_charging_counts.B20 = true := by kernel_rfl
set_option maxHeartbeats 8000000 in
set_option maxRecDepth 100000 in
theorem impl_charging_counts.calls (k : Nat) (a0_0 : Int) (a0_1 : Int) (a0_2 : Int) (A0_3 : Option Addr) (c0_3 : Nat) (l0_3 : List Int) (A0_4 : Option Addr) (c0_4 : Nat) (l0_4 : List Int) (a0_5 : Int) (r : List (List Int)) (w : World) (hr0_3 : Kd.C (Kd.int .i64) w A0_3 l0_3.length l0_3) (hc0_3 : l0_3.length ≤ c0_3) (hr0_4 : Kd.C (Kd.int .i64) w A0_4 l0_4.length l0_4) (hc0_4 : l0_4.length ≤ c0_4) (h : impl_charging_counts.f k a0_0 a0_1 a0_2 l0_3 l0_4 a0_5 = some r) :
  Calls Try.prog 46 #[.agg #[.int .i64 a0_0, .int .i64 a0_1, .int .i64 a0_2, .slice A0_3 l0_3.length c0_3, .slice A0_4 l0_4.length c0_4, .int .i64 a0_5]] w fun e w' => ∃ v0_ : Value, e = .returned (v0_) ∧ Kd.S (Kd.slice 2 (Kd.int .i64)) 24 w' w.heap.size (fun _ => True) v0_ r ∧ Below w.heap.size w w' := by
 have hu55 := Try.underlying55
 have HR0_3 := Aside0.mk hr0_3
 have HC0_3 := Aside0.mk hc0_3
 clear hr0_3 hc0_3
 have HR0_4 := Aside0.mk hr0_4
 have HC0_4 := Aside0.mk hc0_4
 clear hr0_4 hc0_4
 have HB := Aside0.mk (Below.refl w.heap.size w)
 have H : (if 0 ≤ (wrap64 ((l0_3.length : Int) + 1)) then (if (wrap64 ((l0_3.length : Int) + 1) : Int).toNat ≤ 11728124029610 then ((some (List.replicate (wrap64 ((l0_3.length : Int) + 1) : Int).toNat [] : List (List Int))).bind fun y173 => (if 0 ≤ (wrap64 (a0_0 + 1)) then (if (wrap64 (a0_0 + 1) : Int).toNat ≤ 35184372088832 then ((some (List.replicate (wrap64 (a0_0 + 1) : Int).toNat 0 : List Int)).bind fun y176 => (if 0 ≤ (l0_3.length : Int) then (if (l0_3.length : Int) < (y173.length : Int) then (impl_charging_counts.l0 k (y173.set ((l0_3.length : Int) : Int).toNat y176) (y176.length : Int) 0 a0_0 a0_1 a0_2 l0_3 l0_4 a0_5) else (none)) else (none))) else (none)) else (none))) else (none)) else (none)) = some r := h
 clear h
 obtain ⟨ji2, hji2⟩ : ∃ j_ : Int, (wrap64 ((l0_3.length : Int) + 1)) = j_ := ⟨_, rfl⟩
 replace H : (if 0 ≤ (ji2) then (if (ji2 : Int).toNat ≤ 11728124029610 then ((some (List.replicate (ji2 : Int).toNat [] : List (List Int))).bind fun y173 => (if 0 ≤ (wrap64 (a0_0 + 1)) then (if (wrap64 (a0_0 + 1) : Int).toNat ≤ 35184372088832 then ((some (List.replicate (wrap64 (a0_0 + 1) : Int).toNat 0 : List Int)).bind fun y176 => (if 0 ≤ (l0_3.length : Int) then (if (l0_3.length : Int) < (y173.length : Int) then (impl_charging_counts.l0 k (y173.set ((l0_3.length : Int) : Int).toNat y176) (y176.length : Int) 0 a0_0 a0_1 a0_2 l0_3 l0_4 a0_5) else (none)) else (none))) else (none)) else (none))) else (none)) else (none)) = some r := by first | (rw [hji2] at H; exact H) | (simp only [hji2] at H ⊢; exact H)
 have hji2w : (IntKind.i64.wrap ((l0_3.length : Int) + 1)) = ji2 := (i64_w _).trans hji2
 by_cases c3 : 0 ≤ (ji2)
 ·rw [if_pos c3] at H
  have c3b0 := eq_true c3
  have c3b1 : decide (0 ≤ (ji2)) = true := decide_eq_true c3
  clear c3
  by_cases c4 : (ji2 : Int).toNat ≤ 11728124029610
  ·rw [if_pos c4] at H
   have c4b0 := eq_true c4
   have c4b1 : decide ((ji2 : Int).toNat ≤ 11728124029610) = true := decide_eq_true c4
   clear c4
   obtain ⟨y173, hy173⟩ : ∃ y_ : List (List Int), y_ = (List.replicate (ji2 : Int).toNat []) := ⟨_, rfl⟩
   replace H : (if 0 ≤ (wrap64 (a0_0 + 1)) then (if (wrap64 (a0_0 + 1) : Int).toNat ≤ 35184372088832 then ((some (List.replicate (wrap64 (a0_0 + 1) : Int).toNat 0 : List Int)).bind fun y176 => (if 0 ≤ (l0_3.length : Int) then (if (l0_3.length : Int) < (y173.length : Int) then (impl_charging_counts.l0 k (y173.set ((l0_3.length : Int) : Int).toNat y176) (y176.length : Int) 0 a0_0 a0_1 a0_2 l0_3 l0_4 a0_5) else (none)) else (none))) else (none)) else (none)) = some r := by first | (rw [hy173]; with_reducible exact H) | (have H2_ := (Option.bind_some _ _).symm.trans H; rw [hy173]; with_reducible exact H2_) | (have H2_ := (Option.bind_some _ _).symm.trans H; with_reducible exact H2_) | with_reducible exact H | (rw [hy173]; exact H) | exact H
   have Ny173 := Aside0.mk hy173
   clear hy173
   obtain ⟨ji5, hji5⟩ : ∃ j_ : Int, (wrap64 (a0_0 + 1)) = j_ := ⟨_, rfl⟩
   replace H : (if 0 ≤ (ji5) then (if (ji5 : Int).toNat ≤ 35184372088832 then ((some (List.replicate (ji5 : Int).toNat 0 : List Int)).bind fun y176 => (if 0 ≤ (l0_3.length : Int) then (if (l0_3.length : Int) < (y173.length : Int) then (impl_charging_counts.l0 k (y173.set ((l0_3.length : Int) : Int).toNat y176) (y176.length : Int) 0 a0_0 a0_1 a0_2 l0_3 l0_4 a0_5) else (none)) else (none))) else (none)) else (none)) = some r := by first | (rw [hji5] at H; exact H) | (simp only [hji5] at H ⊢; exact H)
   have hji5w : (IntKind.i64.wrap (a0_0 + 1)) = ji5 := (i64_w _).trans hji5
   by_cases c6 : 0 ≤ (ji5)
   ·rw [if_pos c6] at H
    have c6b0 := eq_true c6
    have c6b1 : decide (0 ≤ (ji5)) = true := decide_eq_true c6
    clear c6
    by_cases c7 : (ji5 : Int).toNat ≤ 35184372088832
    ·rw [if_pos c7] at H
     have c7b0 := eq_true c7
     have c7b1 : decide ((ji5 : Int).toNat ≤ 35184372088832) = true := decide_eq_true c7
     clear c7
     obtain ⟨y176, hy176⟩ : ∃ y_ : List Int, y_ = (List.replicate (ji5 : Int).toNat 0) := ⟨_, rfl⟩
     replace H : (if 0 ≤ (l0_3.length : Int) then (if (l0_3.length : Int) < (y173.length : Int) then (impl_charging_counts.l0 k (y173.set ((l0_3.length : Int) : Int).toNat y176) (y176.length : Int) 0 a0_0 a0_1 a0_2 l0_3 l0_4 a0_5) else (none)) else (none)) = some r := by first | (rw [hy176]; with_reducible exact H) | (have H2_ := (Option.bind_some _ _).symm.trans H; rw [hy176]; with_reducible exact H2_) | (have H2_ := (Option.bind_some _ _).symm.trans H; with_reducible exact H2_) | with_reducible exact H | (rw [hy176]; exact H) | exact H
     have Ny176 := Aside0.mk hy176
     clear hy176
     by_cases c8 : 0 ≤ (l0_3.length : Int)
     ·rw [if_pos c8] at H
      have c8b0 : decide (0 ≤ (l0_3.length : Int)) = true := decide_eq_true c8
      have c8b1 : decide (0 ≤ l0_3.length) = true := decide_eq_true (by omega)
      clear c8
      by_cases c9 : (l0_3.length : Int) < (y173.length : Int)
      ·rw [if_pos c9] at H
       have c9b0 : decide ((l0_3.length : Int) < (y173.length : Int)) = true := decide_eq_true c9
       have c9b1 : decide (l0_3.length < y173.length) = true := decide_eq_true (Int.ofNat_lt.mp c9)
       clear c9
       obtain ⟨y179, hy179⟩ : ∃ y_ : List (List Int), y_ = (y173.set ((l0_3.length : Int) : Int).toNat y176) := ⟨_, rfl⟩
       replace H : (impl_charging_counts.l0 k y179 (y176.length : Int) 0 a0_0 a0_1 a0_2 l0_3 l0_4 a0_5) = some r := by first | (rw [hy179]; with_reducible exact H) | (have H2_ := (Option.bind_some _ _).symm.trans H; rw [hy179]; with_reducible exact H2_) | (have H2_ := (Option.bind_some _ _).symm.trans H; with_reducible exact H2_) | with_reducible exact H | (rw [hy179]; exact H) | exact H
       have Ny179 := Aside0.mk hy179
       clear hy179
       have H' := Aside0.mk H
       clear H
       go_enter Try.func46, Try.ntmps46
       try go_wp2_with (first | ((with_reducible refine gate_dst (N := 1) rfl ?_); refine box_event ?hg (N := 1) ?hd (cs := #[.int .i64 a0_0, .int .i64 a0_1, .int .i64 a0_2, .slice A0_3 l0_3.length c0_3, .slice A0_4 l0_4.length c0_4, .int .i64 a0_5]) (t := 55) ?hr ?_; (case hd => rfl); (case hg => rfl); (case hr => first | (go_simp; done) | (go_simp; rfl)); intro gb172 hg w12 hbox hb; have n0_ := Aside0.mk (below_step (by repeat (first | (with_reducible first | exact HB.out | apply below_alloc | apply pw_below_drewN | apply below_drew1) | exact HB.out)) hb); have n1_ := Aside0.mk (hbox); have n2_ := Aside0.mk ((by rw [hg]; exact (below_size (by repeat (first | (with_reducible first | exact HB.out | apply below_alloc | apply pw_below_drewN | apply below_drew1) | exact HB.out))) : w.heap.size ≤ gb172)); have n3_ := Aside0.mk ((by rw [hg]; exact (below_size (by repeat (first | (with_reducible first | exact HB.out | apply below_alloc | apply pw_below_drewN | apply below_drew1) | exact HB.out))) : w.heap.size ≤ gb172)); clear HB; have HB := n0_; have BK172 := n1_; have GW172 := n2_; have GE172 := n3_; clear n0_ n1_ n2_ n3_; clear hb hbox hg; have hcz13_0 : w12.cell? ⟨gb172, 0, none⟩ = some (.int .i64 a0_0) := (blk_cell BK172.out 0).trans rfl; have hcz13_1 : w12.cell? ⟨gb172, 1, none⟩ = some (.int .i64 a0_1) := (blk_cell BK172.out 1).trans rfl; have hcz13_2 : w12.cell? ⟨gb172, 2, none⟩ = some (.int .i64 a0_2) := (blk_cell BK172.out 2).trans rfl; have hcz13_3 : w12.cell? ⟨gb172, 3, none⟩ = some (.slice A0_3 l0_3.length c0_3) := (blk_cell BK172.out 3).trans rfl; have hcz13_4 : w12.cell? ⟨gb172, 4, none⟩ = some (.slice A0_4 l0_4.length c0_4) := (blk_cell BK172.out 4).trans rfl; have hcz13_5 : w12.cell? ⟨gb172, 5, none⟩ = some (.int .i64 a0_5) := (blk_cell BK172.out 5).trans rfl; have hfz13_0 := blk_frozen BK172.out 0; have hfz13_1 := blk_frozen BK172.out 1; have hfz13_2 := blk_frozen BK172.out 2; have hfz13_3 := blk_frozen BK172.out 3; have hfz13_4 := blk_frozen BK172.out 4; have hfz13_5 := blk_frozen BK172.out 5) | ((with_reducible refine gate_dst (N := 14) rfl ?_); refine Kd.S_make (Kd.slice 2 (Kd.int .i64)) _ 24 rfl (N := 14) rfl 63 _ _ rfl ji2 rfl rfl Try.underlying63 (.slice none 0 0) 24 info24 rfl (by decide) (by omega) [] (ok := fun _ => True) (okp := fun _ => True) ⟨_, rfl, Kd.R_nil _ _ _ _ _⟩ (fun _ hk => hk) trivial (of_decide_eq_true (by first | (with_reducible assumption) | assumption)) (Nat.le_trans (Nat.mul_le_mul_right _ (of_decide_eq_true (by first | (with_reducible assumption) | assumption) : ji2.toNat ≤ 11728124029610)) (by omega)) (Below.refl _ _) (Nat.le_refl _) ?_; intro v174 w14 ho15 hb hg_ hnew_; clear hg_ hnew_; (first | rw [← Ny173.out] at ho15 | (simp only [Int.reduceToNat] at ho15; rw [← Ny173.out] at ho15)); have n0_ := Aside0.mk (Kd.S_lower ho15 (below_size (by repeat (first | (with_reducible first | exact HB.out | apply below_alloc | apply pw_below_drewN | apply below_drew1 | refine below_set ?_ GE172.out) | exact HB.out)))); have n1_ := Aside0.mk (blk_below (g := gb172) (o := .cells #[.int .i64 a0_0, .int .i64 a0_1, .int .i64 a0_2, .slice A0_3 l0_3.length c0_3, .slice A0_4 l0_4.length c0_4, .int .i64 a0_5] 55 (0, 0)) (by (with_reducible repeat (first | refine blk_drewN ?_ _ | refine blk_drew ?_ | refine blk_alloc ?_ _)); exact BK172.out) hb); have n2_ := Aside0.mk (below_step (by repeat (first | (with_reducible first | exact HB.out | apply below_alloc | apply pw_below_drewN | apply below_drew1 | refine below_set ?_ GE172.out) | exact HB.out)) hb); clear BK172; clear HB; have HO175 := n0_; have BK172 := n1_; have HB := n2_; clear n0_ n1_ n2_; clear hb ho15))
       have n0_ := Aside0.mk (Kd.S_drew HO175.out)
       have n1_ := Aside0.mk (blk_drew BK172.out)
       have n2_ := Aside0.mk (below_drew1 HB.out)
       clear HO175
       clear BK172
       clear HB
       have HO175 := n0_
       have BK172 := n1_
       have HB := n2_
       clear n0_ n1_ n2_
       refine start_ (n := 11) (S := fun w' => w'.cell? ⟨gb172, 0, none⟩ = some (.int .i64 a0_0) ∧ w'.cell? ⟨gb172, 1, none⟩ = some (.int .i64 a0_1) ∧ w'.cell? ⟨gb172, 2, none⟩ = some (.int .i64 a0_2) ∧ w'.cell? ⟨gb172, 3, none⟩ = some (.slice A0_3 l0_3.length c0_3) ∧ w'.cell? ⟨gb172, 4, none⟩ = some (.slice A0_4 l0_4.length c0_4) ∧ w'.cell? ⟨gb172, 5, none⟩ = some (.int .i64 a0_5)) (ds := [10]) (tf 0 11) (by kernel_rfl) rfl rfl ⟨(blk_cell BK172.out 0).trans rfl, (blk_cell BK172.out 1).trans rfl, (blk_cell BK172.out 2).trans rfl, (blk_cell BK172.out 3).trans rfl, (blk_cell BK172.out 4).trans rfl, (blk_cell BK172.out 5).trans rfl⟩ (fun hHeld => ?_); refine with_tabW impl_charging_counts.tab2 impl_charging_counts.bits2 (fun HT_ HW_ => ?_)
       generalize w14.drew = w16 at HO175 BK172 HB hHeld ⊢
       refine px 0 (some 15) (tf 1 11) HT_ ?_
       refine px 1 (some 16) (tf 2 11) HT_ ?_
       refine px 4 (some 19) (tb 11 19) HT_ ?_
       refine px 5 (some 20) (tb 11 51) HT_ ?_
       refine tx (v := ?_) 2 (some 17) (tb 11 55) HT_ HW_ hHeld ?_ ?_
       rotate_left; (· rintro w' ⟨s0, s1, s2, s3, s4, s5⟩; go_simp; with_reducible rfl)
       refine px 3 (some 18) (tf 6 11) HT_ ?_
       refine tx (v := ?_) 6 (some 21) (tf 7 11) HT_ HW_ hHeld ?_ ?_
       rotate_left; (· rintro w' ⟨s0, s1, s2, s3, s4, s5⟩; go_simp; with_reducible rfl)
       refine px 7 (some 22) (tf 8 11) HT_ ?_
       refine one_ (i := 8) (N := some 23) (tf 9 11) rfl rfl (one_of HT_.out (by kernel_rfl)) (by decide) (fun K hK => ?_)
       refine Kd.R_make_step (Kd.int .i64) _ 2 (by rfl) (N := 23) rfl 24 _ _ rfl ji5 rfl rfl Try.underlying24 (.int .i64 0) 8 info2 rfl (by decide) (by omega) 0 (ok := fun _ => True) (okp := fun _ => True) rfl (fun _ hk => hk) trivial (of_decide_eq_true (by first | (with_reducible assumption) | assumption)) (Nat.le_trans (Nat.mul_le_mul_right _ (of_decide_eq_true (by first | (with_reducible assumption) | assumption) : ji5.toNat ≤ 35184372088832)) (by omega)) (Below.refl _ _) (Nat.le_refl _) ?_
       intro v177 w17 ho18 hb hg_ hnew_
       clear hg_ hnew_
       (first | rw [← Ny176.out] at ho18 | (simp only [Int.reduceToNat] at ho18; rw [← Ny176.out] at ho18))
       have n0_ := Aside0.mk (Kd.S_elder' (by (with_reducible repeat (first | apply Kd.S_alloc | apply Kd.S_drewN | apply Kd.S_drew)); exact HO175.out) (Kd.R_base ho18) hb)
       have n1_ := Aside0.mk (Kd.R_lower ho18 (below_size (by repeat (first | (with_reducible first | exact HB.out | apply below_alloc | apply pw_below_drewN | apply below_drew1 | refine below_set ?_ GE172.out) | exact HB.out))))
       have n2_ := Aside0.mk (blk_below (g := gb172) (o := .cells #[.int .i64 a0_0, .int .i64 a0_1, .int .i64 a0_2, .slice A0_3 l0_3.length c0_3, .slice A0_4 l0_4.length c0_4, .int .i64 a0_5] 55 (0, 0)) (by (with_reducible repeat (first | refine blk_drewN ?_ _ | refine blk_drew ?_ | refine blk_alloc ?_ _)); exact BK172.out) hb)
       have n3_ := Aside0.mk (below_step (by repeat (first | (with_reducible first | exact HB.out | apply below_alloc | apply pw_below_drewN | apply below_drew1 | refine below_set ?_ GE172.out) | exact HB.out)) hb)
       clear HO175
       clear BK172
       clear HB
       have HO175 := n0_
       have HO178 := n1_
       have BK172 := n2_
       have HB := n3_
       clear n0_ n1_ n2_ n3_
       clear hb ho18
       have p10 : 0 ≤ ((l0_3.length : Int) : Int) := of_decide_eq_true (by first | (with_reducible assumption) | assumption)
       have q10 : ((l0_3.length : Int) : Int) < ((y173.length : Int) : Int) := of_decide_eq_true (by first | (with_reducible assumption) | assumption)
       obtain ⟨go10, co10, eo10, gb10, gl10, cl10, HG10⟩ := Kd.S_form HO175.out (by omega)
       (first | cases eo10 | (injection eo10 with ea_ en_ ec_; (first | subst ea_ | (injection ea_ with ea_; subst ea_)); subst ec_; clear en_))
       have GB10 := Aside0.mk gb10
       have GG10 := Aside0.mk HG10
       clear gb10 gl10 HG10
       obtain ⟨_, ce10, hcl10, hM10, hcc10, hfr10, _, _⟩ := Kd.S_elem HO175.out [] ((l0_3.length : Int) : Int) p10 q10
       obtain ⟨ve10_0, rfl, ge10_0⟩ := hM10
       have hx10_0 := hcc10 0 _ rfl
       have hf10_0 := hfr10 0
       (try simp only [show ((Kd.slice 2 (Kd.int .i64))).sz = 1 from rfl, Nat.mul_one, Nat.add_zero] at hx10_0)
       (try simp only [show ((Kd.slice 2 (Kd.int .i64))).sz = 1 from rfl, Nat.mul_one, Nat.add_zero] at hf10_0)
       (try simp only [Go.IntWalk.toNatUp] at hx10_0 hf10_0)
       (clear hcl10 hcc10 hfr10; try clear hM10)
       replace p10 := eq_true p10
       replace q10 := eq_true q10
       obtain ⟨Ao20, co20, eo20⟩ := Kd.R_slice HO178.out
       (first | subst eo20 | (injection eo20 with f1_ f2_ f3_; have f4_ := f1_.symm; have f5_ := f3_.symm; clear f1_ f2_ f3_; subst f4_; subst f5_))
       have n_ := Aside0.mk (Kd.S_mono (ok' := (fun k_ => some k_ ≠ (.slice Ao20 y176.length co20 : Value).ownBlock)) HO175.out (fun k_ hk => hk.2))
       clear HO175
       have HO175 := n_
       clear n_
       have HX19 := Aside0.mk (show Kd.S (Kd.slice 2 (Kd.int .i64)) 24 w17 w.heap.size (fun k_ => ((fun _ => True)) k_ ∧ ¬ ((fun k_ => some k_ = (.slice Ao20 y176.length co20 : Value).ownBlock)) k_) (.slice (some ⟨go10, 0, none⟩) y173.length co10) y173 from (by (with_reducible repeat (first | apply Kd.S_alloc | apply Kd.S_drewN | apply Kd.S_drew)); exact Kd.S_mono HO175.out (fun k_ hk => ⟨trivial, fun e_ => hk e_⟩)))
       obtain ⟨oki19, ce19, hcl19, hM19, hcc19, hfr19, hoki19, hH19⟩ := Kd.S_elem HX19.out [] ((l0_3.length : Int) : Int) (of_decide_eq_true (by first | (with_reducible assumption) | assumption)) (by have h_ : ((l0_3.length : Int) : Int) < ((y173.length : Int) : Int) := of_decide_eq_true (by first | (with_reducible assumption) | assumption); first | exact h_ | (have e_ := (Kd.S_reads' HO175.out).1; omega) | simpa using h_)
       obtain ⟨ve19_0, rfl, ge19_0⟩ := hM19
       have HP19 := (Kd.S_seg hH19 (of_decide_eq_true (by first | (with_reducible assumption) | assumption)) (by have h_ : ((l0_3.length : Int) : Int) < ((y173.length : Int) : Int) := of_decide_eq_true (by first | (with_reducible assumption) | assumption); first | exact h_ | (have e_ := (Kd.S_reads' HO175.out).1; omega) | simpa using h_) (seg := [.slice Ao20 y176.length co20]) (j := 0) (show 1 ≤ 1 from by decide) (x' := y176) (Kd.M_row (Kd.R_mono (Kd.R_tight rfl (Kd.R_mono (ok' := fun k_ => ((fun _ => True)) k_ ∧ k_ ≠ go10) (Kd.R_apart' (HO178.out) (Kd.S_typed HO175.out) (by decide)) (fun k_ hk => ⟨trivial, fun e_ => (hk.2) (by rw [e_]; rfl)⟩))) (fun _ h_ => Or.inr (h_)))) (fun _ hk => hk) (fun k_ hk_ => ((Kd.R_mono (ok' := fun k_ => ((fun _ => True)) k_ ∧ k_ ≠ go10) (Kd.R_apart' (HO178.out) (Kd.S_typed HO175.out) (by decide)) (fun k_ hk => ⟨trivial, fun e_ => (hk.2) (by rw [e_]; rfl)⟩))).1 k_ hk_.symm)).1
       (try simp only [show ((Kd.slice 2 (Kd.int .i64))).sz = 1 from rfl, Nat.mul_one, Nat.add_zero] at HP19)
       rw [← Ny179.out] at HP19
       have HQ19 := Aside0.mk HP19
       (clear hcl19 hcc19 hfr19 HP19; try clear hM19)
       refine hK.out _ _ ⟨(blk_cell BK172.out 0).trans rfl, (blk_cell BK172.out 1).trans rfl, (blk_cell BK172.out 2).trans rfl, (blk_cell BK172.out 3).trans rfl, (blk_cell BK172.out 4).trans rfl, (blk_cell BK172.out 5).trans rfl⟩ (fun hHeld => ?_)
       clear hK K
       refine norm_ (a' := ?_) ?_ ?_
       rotate_left
       ·show Act.put _ (some 23) _ = _
        simp only [Act.put, List.setIfInBounds_toArray, List.set_cons_zero, List.set_cons_succ, i64_w, i32_w]
        rfl
       refine px 9 (some 24) (tf 10 11) HT_ ?_
       refine last_ (i := 10) (N := none) (tf 11 11) rfl rfl (one_of HT_.out (by kernel_rfl)) (by decide) (fun K hK => ?_)
       refine skip_ (w1 := ?_) (by rfl) rfl ?_ ?_
       rotate_left
       ·go_simp
        rfl
       refine hK.out _ _ ?_
       clear hK K
       refine done_ (done_of HT_.out (by kernel_rfl)) ?_
       have hnr21 : gb172 ≠ go10 := (by have h_ := Kd.S_ne HO175.out BK172.out (by decide); intro e_; exact h_ (by rw [e_]; rfl))
       have hns21 := Ne.symm hnr21
       have hcz22_0 : w17.cell? ⟨gb172, 0, none⟩ = some (.int .i64 a0_0) := (blk_cell BK172.out 0).trans rfl
       have hcz22_1 : w17.cell? ⟨gb172, 1, none⟩ = some (.int .i64 a0_1) := (blk_cell BK172.out 1).trans rfl
       have hcz22_2 : w17.cell? ⟨gb172, 2, none⟩ = some (.int .i64 a0_2) := (blk_cell BK172.out 2).trans rfl
       have hcz22_3 : w17.cell? ⟨gb172, 3, none⟩ = some (.slice A0_3 l0_3.length c0_3) := (blk_cell BK172.out 3).trans rfl
       have hcz22_4 : w17.cell? ⟨gb172, 4, none⟩ = some (.slice A0_4 l0_4.length c0_4) := (blk_cell BK172.out 4).trans rfl
       have hcz22_5 : w17.cell? ⟨gb172, 5, none⟩ = some (.int .i64 a0_5) := (blk_cell BK172.out 5).trans rfl
       have hfz22_0 := blk_frozen BK172.out 0
       have hfz22_1 := blk_frozen BK172.out 1
       have hfz22_2 := blk_frozen BK172.out 2
       have hfz22_3 := blk_frozen BK172.out 3
       have hfz22_4 := blk_frozen BK172.out 4
       have hfz22_5 := blk_frozen BK172.out 5
       have p11 : 0 ≤ ((l0_3.length : Int) : Int) := of_decide_eq_true (by first | (with_reducible assumption) | assumption)
       have q11 : ((l0_3.length : Int) : Int) < ((y173.length : Int) : Int) := of_decide_eq_true (by first | (with_reducible assumption) | assumption)
       replace p11 := eq_true p11
       replace q11 := eq_true q11
       try go_wp2
       go_loopg [32] k (fun kq v32 w' => ∃ (x3_1 : List (List Int)) (x32_1 : Int), v32 = .int .i64 x32_1 ∧ Aside0 (impl_charging_counts.l0 kq x3_1 (y176.length : Int) x32_1 a0_0 a0_1 a0_2 l0_3 l0_4 a0_5 = some r) ∧ Aside0 (kq ≤ k) ∧ Aside0 (Kd.S (Kd.slice 2 (Kd.int .i64)) 24 w' w.heap.size (fun _ => True) (.slice (some ⟨go10, 0, none⟩) y173.length co10) x3_1) ∧ Aside0 (w'.heap[gb172]? = some (.cells #[.int .i64 a0_0, .int .i64 a0_1, .int .i64 a0_2, (.slice A0_3 l0_3.length c0_3), (.slice A0_4 l0_4.length c0_4), .int .i64 a0_5] 55 (0, 0))) ∧ Aside0 (Below w.heap.size w w'))
       case atStart => exact ⟨(y179), (0), (by first | rfl | (simp; done) | (simp [*]; done)), H', ⟨Nat.le_refl _⟩, ⟨by (with_reducible repeat (first | apply Kd.S_alloc | apply Kd.S_drewN | apply Kd.S_drew)); exact HQ19.out⟩, ⟨by (with_reducible repeat (first | refine blk_drewN ?_ _ | refine blk_drew ?_ | refine blk_alloc ?_ _)); refine blk_far ?_ (by have h_ := Kd.S_ne HO175.out BK172.out (by decide); intro e_; exact h_ (by rw [e_]; rfl)) _; (with_reducible repeat (first | refine blk_drewN ?_ _ | refine blk_drew ?_ | refine blk_alloc ?_ _)); exact BK172.out⟩, ⟨by repeat (first | (with_reducible first | exact HB.out | apply below_alloc | apply pw_below_drewN | apply below_drew1 | refine below_set ?_ GB10.out | refine below_set ?_ GE172.out) | exact HB.out)⟩⟩
       case round =>
        clear H'
        try clear c1
        try clear p1
        try clear q1
        try clear hx1
        try clear hf1
        try clear p2
        try clear c3
        try clear c3b0
        try clear c3b1
        try clear c4
        try clear c4b0
        try clear c4b1
        try clear c6
        try clear c6b0
        try clear c6b1
        try clear p6
        try clear c7
        try clear c7b0
        try clear c7b1
        try clear c8
        try clear c8b0
        try clear c8b1
        try clear c9
        try clear c9b0
        try clear c9b1
        try clear c10
        try clear p10
        try clear q10
        try clear hx10
        try clear hf10
        try clear p11
        try clear q11
        try clear c19
        try clear hcz13_0
        try clear hcz13_1
        try clear hcz13_2
        try clear hcz13_3
        try clear hcz13_4
        try clear hcz13_5
        try clear hcz22_0
        try clear hcz22_1
        try clear hcz22_2
        try clear hcz22_3
        try clear hcz22_4
        try clear hcz22_5
        try clear hfz13_0
        try clear hfz13_1
        try clear hfz13_2
        try clear hfz13_3
        try clear hfz13_4
        try clear hfz13_5
        try clear hfz22_0
        try clear hfz22_1
        try clear hfz22_2
        try clear hfz22_3
        try clear hfz22_4
        try clear hfz22_5
        try clear hx10_0
        try clear p10
        try clear p11
        try clear q10
        try clear q11
        obtain ⟨x3_1, x32_1, rfl, HA, HK1, HO_3, BK172, HB⟩ := hrel
        have hl3_1 := (Kd.S_reads' HO_3.out).1
        rw [hl3_1] at HO_3
        (try simp only [hl3_1])
        (try simp only [hl3_1] at BK172)
        cases gk with
        | zero => exact absurd HA.out (by simp [impl_charging_counts.l0])
        | succ k1 =>
         have H := HA.out
         clear HA
         simp only [impl_charging_counts.l0] at H
         by_cases c23 : x32_1 < (y176.length : Int)
         ·rw [if_pos c23] at H
          have c23b0 : decide (x32_1 < (y176.length : Int)) = true := decide_eq_true c23
          clear c23
          by_cases c24 : 0 ≤ (l0_3.length : Int)
          ·rw [if_pos c24] at H
           have c24b0 : decide (0 ≤ (l0_3.length : Int)) = true := decide_eq_true c24
           have c24b1 : decide (0 ≤ l0_3.length) = true := decide_eq_true (by omega)
           clear c24
           by_cases c25 : (l0_3.length : Int) < (x3_1.length : Int)
           ·rw [if_pos c25] at H
            have c25b0 : decide ((l0_3.length : Int) < (x3_1.length : Int)) = true := decide_eq_true c25
            have c25b1 : decide (l0_3.length < x3_1.length) = true := decide_eq_true (Int.ofNat_lt.mp c25)
            clear c25
            by_cases c26 : 0 ≤ x32_1
            ·rw [if_pos c26] at H
             have c26b0 : decide (0 ≤ x32_1) = true := decide_eq_true c26
             clear c26
             by_cases c27 : x32_1 < ((rd_L2 x3_1 (l0_3.length : Int)).length : Int)
             ·rw [if_pos c27] at H
              have c27b0 : decide (x32_1 < ((rd_L2 x3_1 (l0_3.length : Int)).length : Int)) = true := decide_eq_true c27
              clear c27
              obtain ⟨y182, hy182⟩ : ∃ y_ : List Int, y_ = ((rd_L2 x3_1 (l0_3.length : Int)).set (x32_1 : Int).toNat 1) := ⟨_, rfl⟩
              replace H : (impl_charging_counts.l0 k1 (x3_1.set ((l0_3.length : Int) : Int).toNat y182) (y176.length : Int) (wrap64 (x32_1 + 1)) a0_0 a0_1 a0_2 l0_3 l0_4 a0_5) = some r := by first | (rw [hy182]; with_reducible exact H) | (have H2_ := (Option.bind_some _ _).symm.trans H; rw [hy182]; with_reducible exact H2_) | (have H2_ := (Option.bind_some _ _).symm.trans H; with_reducible exact H2_) | with_reducible exact H | (rw [hy182]; exact H) | exact H
              have Ny182 := Aside0.mk hy182
              clear hy182
              obtain ⟨y184, hy184⟩ : ∃ y_ : List (List Int), y_ = (x3_1.set ((l0_3.length : Int) : Int).toNat y182) := ⟨_, rfl⟩
              replace H : (impl_charging_counts.l0 k1 y184 (y176.length : Int) (wrap64 (x32_1 + 1)) a0_0 a0_1 a0_2 l0_3 l0_4 a0_5) = some r := by first | (rw [hy184]; with_reducible exact H) | (have H2_ := (Option.bind_some _ _).symm.trans H; rw [hy184]; with_reducible exact H2_) | (have H2_ := (Option.bind_some _ _).symm.trans H; with_reducible exact H2_) | with_reducible exact H | (rw [hy184]; exact H) | exact H
              have Ny184 := Aside0.mk hy184
              clear hy184
              have H' := Aside0.mk H
              clear H
              have hcz29_0 : wr.cell? ⟨gb172, 0, none⟩ = some (.int .i64 a0_0) := (blk_cell BK172.out 0).trans rfl
              have hcz29_1 : wr.cell? ⟨gb172, 1, none⟩ = some (.int .i64 a0_1) := (blk_cell BK172.out 1).trans rfl
              have hcz29_2 : wr.cell? ⟨gb172, 2, none⟩ = some (.int .i64 a0_2) := (blk_cell BK172.out 2).trans rfl
              have hcz29_3 : wr.cell? ⟨gb172, 3, none⟩ = some (.slice A0_3 l0_3.length c0_3) := (blk_cell BK172.out 3).trans rfl
              have hcz29_4 : wr.cell? ⟨gb172, 4, none⟩ = some (.slice A0_4 l0_4.length c0_4) := (blk_cell BK172.out 4).trans rfl
              have hcz29_5 : wr.cell? ⟨gb172, 5, none⟩ = some (.int .i64 a0_5) := (blk_cell BK172.out 5).trans rfl
              have hfz29_0 := blk_frozen BK172.out 0
              have hfz29_1 := blk_frozen BK172.out 1
              have hfz29_2 := blk_frozen BK172.out 2
              have hfz29_3 := blk_frozen BK172.out 3
              have hfz29_4 := blk_frozen BK172.out 4
              have hfz29_5 := blk_frozen BK172.out 5
              have p181 : 0 ≤ ((l0_3.length : Int) : Int) := of_decide_eq_true (by first | (with_reducible assumption) | assumption)
              have q181 : (l0_3.length : Int) < (x3_1.length : Int) := of_decide_eq_true (by first | (with_reducible assumption) | assumption)
              obtain ⟨ad181, A181_0, c181_0, e181, hx181_0, hl181_0, hi181_0⟩ := at_L2 (Kd.S_reads' HO_3.out).2.2 (l0_3.length : Int) p181 q181
              obtain rfl : (⟨go10, 0, none⟩ : Addr) = ad181 := (by injection e181)
              obtain ⟨ce181, hce181, hMe181, hcc181⟩ := Kd.S_get HO_3.out [] (l0_3.length : Int) p181 (by first | exact q181 | exact of_decide_eq_true (by first | (with_reducible assumption) | assumption) | (have e_ := (Kd.S_reads' HO_3.out).1; omega))
              obtain ⟨ve181_0, rfl, ge181_0⟩ := hMe181
              have hv181_0 := hcc181 0 _ rfl
              rw [Nat.add_zero, show ((Kd.slice 2 (Kd.int .i64))).sz = 1 from rfl, Nat.mul_one] at hv181_0
              replace hv181_0 := Option.some.inj (hv181_0.symm.trans hx181_0)
              rw [hv181_0] at ge181_0
              have HL181_0 := Aside0.mk (show Kd.R (Kd.int .i64) 2 _ _ _ _ (rd_L2 x3_1 (l0_3.length : Int)) from ge181_0)
              clear hv181_0 ge181_0
              have HX181_0 := Aside0.mk hx181_0
              clear hcc181 hce181
              (first | simp only [add_plain] at hx181_0 | simp only [add_at] at hx181_0 | simp only [Addr.add, Nat.zero_add] at hx181_0 | skip)
              have HR181_0 := Aside0.mk hi181_0
              have HC181_0 := Aside0.mk hl181_0
              clear hi181_0 hl181_0
              (try simp only [Go.IntWalk.toNatUp] at hx181_0)
              (try simp only [hl3_1] at p181)
              (try simp only [hl3_1] at q181)
              (try simp only [hl3_1] at hx181_0)
              replace p181 := eq_true p181
              replace q181 := eq_true q181
              have p28 : 0 ≤ (x32_1 : Int) := of_decide_eq_true (by first | (with_reducible assumption) | assumption)
              have q28 : (x32_1 : Int) < (((rd_L2 x3_1 (l0_3.length : Int)).length : Int) : Int) := of_decide_eq_true (by first | (with_reducible assumption) | assumption)
              obtain ⟨go28, co28, eo28, gb28, gl28, cl28, HG28⟩ := Kd.R_form HL181_0.out (by omega)
              (first | cases eo28 | (injection eo28 with ea_ en_ ec_; (first | subst ea_ | (injection ea_ with ea_; subst ea_)); subst ec_; clear en_))
              have GB28 := Aside0.mk gb28
              have GG28 := Aside0.mk HG28
              clear gb28 gl28 HG28
              obtain ⟨hx28_0, hf28_0⟩ := Kd.R_celln 0 HL181_0.out (x32_1 : Int) p28 q28
              replace p28 := eq_true p28
              replace q28 := eq_true q28
              have hq30 : ((l0_3.length : Int) : Int) < (x3_1.length : Int) := (by have h_ : ((l0_3.length : Int) : Int) < ((x3_1.length : Int) : Int) := of_decide_eq_true (by first | (with_reducible assumption) | assumption); first | exact h_ | (have e_ := (Kd.S_reads' HO_3.out).1; omega) | simpa only [List.length_set, List.length_set] using h_)
              obtain ⟨oki30, ce30, hcl30, hM30, hcc30, hok30, hbk30⟩ := Kd.S_borrow HO_3.out [] ((l0_3.length : Int) : Int) (of_decide_eq_true (by first | (with_reducible assumption) | assumption)) hq30
              obtain ⟨ve30_0, rfl, ge30_0⟩ := hM30
              have hv30 := hcc30 0 _ rfl
              rw [Nat.add_zero, show ((Kd.slice 2 (Kd.int .i64))).sz = 1 from rfl, Nat.mul_one] at hv30
              replace hv30 := Option.some.inj (hv30.symm.trans HX181_0.out)
              subst hv30
              clear hcc30 hcl30
              replace ge30_0 := (show Kd.R (Kd.int .i64) 2 _ _ _ _ (rd_L2 x3_1 (l0_3.length : Int)) from ge30_0)
              have HP30 := Kd.R_putg ge30_0 (x32_1 : Int) 1
              go_wp2_with (first | ((with_reducible refine gate_store (t := 2) (p := 42) rfl ?_); refine store_event (t := 2) (p := 42) (v := ?vo_w31) (w1 := (wr.setCell ⟨go28, (x32_1 : Int).toNat, none⟩ (.int .i64 1))) ?hg ?ho ?hn ?hr ?_; (case ho => rfl); (case hg => rfl); (case hn => rfl); (case hr => first | (go_simp; done) | (go_simp; rfl)); intro w31 hw; have hg : wr.grownBy w31 (some go28) := (by rw [hw]; exact HP30.2); have hz_ : Kd.R (Kd.int .i64) 2 w31 w.heap.size oki30 (.slice (some ⟨go28, 0, none⟩) (rd_L2 x3_1 (l0_3.length : Int)).length c181_0) y182 := (by rw [hw, Ny182.out]; exact HP30.1); have hp_ : Kd.S (Kd.slice 2 (Kd.int .i64)) 24 w31 w.heap.size (fun _ => True) (.slice (some ⟨go10, 0, none⟩) x3_1.length co10) y184 := (by rw [Ny184.out]; exact hbk30 hg (fun k_ e_ => by injection e_ with e_; subst e_; exact ge30_0.1 _ rfl) (Kd.M_row hz_)); have hm_ := Kd.R_mono hz_ hok30; clear HP30 hbk30; have n0_ := Aside0.mk (hp_); have n1_ := Aside0.mk (blk_grown (g := gb172) (o := .cells #[.int .i64 a0_0, .int .i64 a0_1, .int .i64 a0_2, .slice A0_3 l0_3.length c0_3, .slice A0_4 l0_4.length c0_4, .int .i64 a0_5] 55 (0, 0)) (by (with_reducible repeat (first | refine blk_drewN ?_ _ | refine blk_drew ?_ | refine blk_alloc ?_ _)); exact BK172.out) hg (Kd.R_ne HL181_0.out BK172.out (by decide))); have n2_ := Aside0.mk ((by rw [hw]; exact below_set (HB.out) GB28.out : Below w.heap.size w w31)); have n3_ := Aside0.mk (hm_); have n4_ := Aside0.mk ((Kd.R_reads' hm_).2.1); clear HO_3; clear BK172; clear HB; clear HL181_0; have HO_3 := n0_; have BK172 := n1_; have HB := n2_; have HL200 := n3_; have HC183 := n4_; clear n0_ n1_ n2_ n3_ n4_; clear hg hw hp_ hz_ hm_ hok30))
              (try simp only [← hl3_1])
              go_roundg k1
              case measure => have := HK1.out; omega
              case rel => exact ⟨(y184), (wrap64 (x32_1 + 1)), (by first | rfl | (simp; done) | (simp [*]; done)), H', ⟨by have := HK1.out; omega⟩, ⟨by (try simp only [hl3_1]); (with_reducible repeat (first | apply Kd.S_alloc | apply Kd.S_drewN | apply Kd.S_drew)); exact HO_3.out⟩, ⟨by (try simp only [hl3_1]); (with_reducible repeat (first | refine blk_drewN ?_ _ | refine blk_drew ?_ | refine blk_alloc ?_ _)); exact BK172.out⟩, ⟨by repeat (first | (with_reducible first | exact HB.out | apply below_alloc | apply pw_below_drewN | apply below_drew1 | refine below_set ?_ GE172.out) | exact HB.out)⟩⟩
             ·rw [if_neg c27] at H
              exact absurd H (by simp)
            ·rw [if_neg c26] at H
             exact absurd H (by simp)
           ·rw [if_neg c25] at H
            exact absurd H (by simp)
          ·rw [if_neg c24] at H
           exact absurd H (by simp)
         ·rw [if_neg c23] at H
          have c23b0 : decide (x32_1 < (y176.length : Int)) = false := decide_eq_false c23
          clear c23
          have H' := Aside0.mk H
          clear H
          have hcz32_0 : wr.cell? ⟨gb172, 0, none⟩ = some (.int .i64 a0_0) := (blk_cell BK172.out 0).trans rfl
          have hcz32_1 : wr.cell? ⟨gb172, 1, none⟩ = some (.int .i64 a0_1) := (blk_cell BK172.out 1).trans rfl
          have hcz32_2 : wr.cell? ⟨gb172, 2, none⟩ = some (.int .i64 a0_2) := (blk_cell BK172.out 2).trans rfl
          have hcz32_3 : wr.cell? ⟨gb172, 3, none⟩ = some (.slice A0_3 l0_3.length c0_3) := (blk_cell BK172.out 3).trans rfl
          have hcz32_4 : wr.cell? ⟨gb172, 4, none⟩ = some (.slice A0_4 l0_4.length c0_4) := (blk_cell BK172.out 4).trans rfl
          have hcz32_5 : wr.cell? ⟨gb172, 5, none⟩ = some (.int .i64 a0_5) := (blk_cell BK172.out 5).trans rfl
          have hfz32_0 := blk_frozen BK172.out 0
          have hfz32_1 := blk_frozen BK172.out 1
          have hfz32_2 := blk_frozen BK172.out 2
          have hfz32_3 := blk_frozen BK172.out 3
          have hfz32_4 := blk_frozen BK172.out 4
          have hfz32_5 := blk_frozen BK172.out 5
          go_wp2
          go_loopg [5] k1 (fun kq v5 w' => ∃ (x3_2 : List (List Int)) (x5_2 : Int), v5 = .int .i64 x5_2 ∧ Aside0 (impl_charging_counts.l1 kq x3_2 x5_2 a0_0 a0_1 a0_2 l0_3 l0_4 a0_5 = some r) ∧ Aside0 (kq ≤ k1) ∧ Aside0 (Kd.S (Kd.slice 2 (Kd.int .i64)) 24 w' w.heap.size (fun _ => True) (.slice (some ⟨go10, 0, none⟩) x3_1.length co10) x3_2) ∧ Aside0 (w'.heap[gb172]? = some (.cells #[.int .i64 a0_0, .int .i64 a0_1, .int .i64 a0_2, (.slice A0_3 l0_3.length c0_3), (.slice A0_4 l0_4.length c0_4), .int .i64 a0_5] 55 (0, 0))) ∧ Aside0 (Below w.heap.size w w'))
          case atStart => exact ⟨(x3_1), (wrap64 ((l0_3.length : Int) - 1)), (by first | rfl | (simp; done) | (simp [*]; done)), H', ⟨Nat.le_refl _⟩, ⟨by (try simp only [hl3_1]); (with_reducible repeat (first | apply Kd.S_alloc | apply Kd.S_drewN | apply Kd.S_drew)); exact HO_3.out⟩, ⟨by (try simp only [hl3_1]); (with_reducible repeat (first | refine blk_drewN ?_ _ | refine blk_drew ?_ | refine blk_alloc ?_ _)); exact BK172.out⟩, ⟨by repeat (first | (with_reducible first | exact HB.out | apply below_alloc | apply pw_below_drewN | apply below_drew1 | refine below_set ?_ GE172.out) | exact HB.out)⟩⟩
          case round =>
           clear H'
           try clear c1
           try clear p1
           try clear q1
           try clear hx1
           try clear hf1
           try clear c2
           try clear p2
           try clear q2
           try clear hx2
           try clear hf2
           try clear c3
           try clear c3b0
           try clear c3b1
           try clear q3
           try clear c4
           try clear c4b0
           try clear c4b1
           try clear c6
           try clear c6b0
           try clear c6b1
           try clear p6
           try clear c7
           try clear c7b0
           try clear c7b1
           try clear c8
           try clear c8b0
           try clear c8b1
           try clear c9
           try clear c9b0
           try clear c9b1
           try clear c10
           try clear p10
           try clear q10
           try clear hx10
           try clear hf10
           try clear p11
           try clear q11
           try clear c18
           try clear p18
           try clear q18
           try clear hx18
           try clear c19
           try clear c23
           try clear c23b0
           try clear c24
           try clear c24b0
           try clear c24b1
           try clear c25
           try clear c25b0
           try clear c25b1
           try clear c26
           try clear c26b0
           try clear c27
           try clear c27b0
           try clear p28
           try clear q28
           try clear hx28
           try clear hf28
           try clear c30
           try clear q30
           try clear hcz13_0
           try clear hcz13_1
           try clear hcz13_2
           try clear hcz13_3
           try clear hcz13_4
           try clear hcz13_5
           try clear hcz22_0
           try clear hcz22_1
           try clear hcz22_2
           try clear hcz22_3
           try clear hcz22_4
           try clear hcz22_5
           try clear hcz29_0
           try clear hcz29_1
           try clear hcz29_2
           try clear hcz29_3
           try clear hcz29_4
           try clear hcz29_5
           try clear hcz32_0
           try clear hcz32_1
           try clear hcz32_2
           try clear hcz32_3
           try clear hcz32_4
           try clear hcz32_5
           try clear hfz13_0
           try clear hfz13_1
           try clear hfz13_2
           try clear hfz13_3
           try clear hfz13_4
           try clear hfz13_5
           try clear hfz22_0
           try clear hfz22_1
           try clear hfz22_2
           try clear hfz22_3
           try clear hfz22_4
           try clear hfz22_5
           try clear hfz29_0
           try clear hfz29_1
           try clear hfz29_2
           try clear hfz29_3
           try clear hfz29_4
           try clear hfz29_5
           try clear hfz32_0
           try clear hfz32_1
           try clear hfz32_2
           try clear hfz32_3
           try clear hfz32_4
           try clear hfz32_5
           try clear hx10_0
           try clear hx181_0
           try clear hx28_0
           try clear p1
           try clear p10
           try clear p11
           try clear p181
           try clear p2
           try clear p28
           try clear p6
           try clear q1
           try clear q10
           try clear q11
           try clear q181
           try clear q28
           obtain ⟨x3_2, x5_2, rfl, HA, HK2, HO_3, BK172, HB⟩ := hrel
           have hl3_2 := (Kd.S_reads' HO_3.out).1
           rw [hl3_2] at HO_3
           (try simp only [hl3_2])
           (try simp only [hl3_2] at BK172)
           cases gk with
           | zero => exact absurd HA.out (by simp [impl_charging_counts.l1])
           | succ k2 =>
            have H := HA.out
            clear HA
            simp only [impl_charging_counts.l1] at H
            by_cases c33 : x5_2 ≥ 0
            ·rw [if_pos c33] at H
             have c33b0 : decide (0 ≤ x5_2) = true := decide_eq_true c33
             clear c33
             obtain ⟨ji34, hji34⟩ : ∃ j_ : Int, (wrap64 (a0_0 + 1)) = j_ := ⟨_, rfl⟩
             replace H : (if 0 ≤ (ji34) then (if (ji34 : Int).toNat ≤ 35184372088832 then (if 0 ≤ x5_2 then (if x5_2 < (x3_2.length : Int) then ((some (x3_2.set (x5_2 : Int).toNat (List.replicate (ji34 : Int).toNat 0) : List (List Int))).bind fun y188 => (impl_charging_counts.l2 k2 y188 x5_2 ((rd_L2 y188 x5_2).length : Int) 0 a0_0 a0_1 a0_2 l0_3 l0_4 a0_5)) else (none)) else (none)) else (none)) else (none)) = some r := by first | (rw [hji34] at H; exact H) | (simp only [hji34] at H ⊢; exact H)
             have hji34w : (IntKind.i64.wrap (a0_0 + 1)) = ji34 := (i64_w _).trans hji34
             (try clear hji5w)
             by_cases c35 : 0 ≤ (ji34)
             ·rw [if_pos c35] at H
              have c35b0 := eq_true c35
              have c35b1 : decide (0 ≤ (ji34)) = true := decide_eq_true c35
              clear c35
              by_cases c36 : (ji34 : Int).toNat ≤ 35184372088832
              ·rw [if_pos c36] at H
               have c36b0 := eq_true c36
               have c36b1 : decide ((ji34 : Int).toNat ≤ 35184372088832) = true := decide_eq_true c36
               clear c36
               obtain ⟨y185, hy185⟩ : ∃ y_ : List Int, y_ = (List.replicate (ji34 : Int).toNat 0) := ⟨_, rfl⟩
               replace H : (if 0 ≤ x5_2 then (if x5_2 < (x3_2.length : Int) then ((some (x3_2.set (x5_2 : Int).toNat y185 : List (List Int))).bind fun y188 => (impl_charging_counts.l2 k2 y188 x5_2 ((rd_L2 y188 x5_2).length : Int) 0 a0_0 a0_1 a0_2 l0_3 l0_4 a0_5)) else (none)) else (none)) = some r := by first | (rw [hy185]; with_reducible exact H) | (have H2_ := (Option.bind_some _ _).symm.trans H; rw [hy185]; with_reducible exact H2_) | (have H2_ := (Option.bind_some _ _).symm.trans H; with_reducible exact H2_) | with_reducible exact H | (rw [hy185]; exact H) | exact H
               have Ny185 := Aside0.mk hy185
               clear hy185
               by_cases c37 : 0 ≤ x5_2
               ·rw [if_pos c37] at H
                have c37b0 : decide (0 ≤ x5_2) = true := decide_eq_true c37
                clear c37
                by_cases c38 : x5_2 < (x3_2.length : Int)
                ·rw [if_pos c38] at H
                 have c38b0 : decide (x5_2 < (x3_2.length : Int)) = true := decide_eq_true c38
                 clear c38
                 obtain ⟨y188, hy188⟩ : ∃ y_ : List (List Int), y_ = (x3_2.set (x5_2 : Int).toNat y185) := ⟨_, rfl⟩
                 replace H : (impl_charging_counts.l2 k2 y188 x5_2 ((rd_L2 y188 x5_2).length : Int) 0 a0_0 a0_1 a0_2 l0_3 l0_4 a0_5) = some r := by first | (rw [hy188]; with_reducible exact H) | (have H2_ := (Option.bind_some _ _).symm.trans H; rw [hy188]; with_reducible exact H2_) | (have H2_ := (Option.bind_some _ _).symm.trans H; with_reducible exact H2_) | with_reducible exact H | (rw [hy188]; exact H) | exact H
                 have Ny188 := Aside0.mk hy188
                 clear hy188
                 have H' := Aside0.mk H
                 clear H
                 have hcz40_0 : wr.cell? ⟨gb172, 0, none⟩ = some (.int .i64 a0_0) := (blk_cell BK172.out 0).trans rfl
                 have hcz40_1 : wr.cell? ⟨gb172, 1, none⟩ = some (.int .i64 a0_1) := (blk_cell BK172.out 1).trans rfl
                 have hcz40_2 : wr.cell? ⟨gb172, 2, none⟩ = some (.int .i64 a0_2) := (blk_cell BK172.out 2).trans rfl
                 have hcz40_3 : wr.cell? ⟨gb172, 3, none⟩ = some (.slice A0_3 l0_3.length c0_3) := (blk_cell BK172.out 3).trans rfl
                 have hcz40_4 : wr.cell? ⟨gb172, 4, none⟩ = some (.slice A0_4 l0_4.length c0_4) := (blk_cell BK172.out 4).trans rfl
                 have hcz40_5 : wr.cell? ⟨gb172, 5, none⟩ = some (.int .i64 a0_5) := (blk_cell BK172.out 5).trans rfl
                 have hfz40_0 := blk_frozen BK172.out 0
                 have hfz40_1 := blk_frozen BK172.out 1
                 have hfz40_2 := blk_frozen BK172.out 2
                 have hfz40_3 := blk_frozen BK172.out 3
                 have hfz40_4 := blk_frozen BK172.out 4
                 have hfz40_5 := blk_frozen BK172.out 5
                 go_wp2_with (first | ((with_reducible refine gate_dst (N := 58) rfl ?_); refine Kd.R_make (Kd.int .i64) _ 2 rfl (N := 58) rfl 24 _ _ rfl ji34 rfl rfl Try.underlying24 (.int .i64 0) 8 info2 rfl (by decide) (by omega) 0 (ok := fun _ => True) (okp := fun _ => True) rfl (fun _ hk => hk) trivial (of_decide_eq_true (by first | (with_reducible assumption) | assumption)) (Nat.le_trans (Nat.mul_le_mul_right _ (of_decide_eq_true (by first | (with_reducible assumption) | assumption) : ji34.toNat ≤ 35184372088832)) (by omega)) (Below.refl _ _) (Nat.le_refl _) ?_; intro v186 w41 ho42 hb hg_ hnew_; clear hg_ hnew_; (first | rw [← Ny185.out] at ho42 | (simp only [Int.reduceToNat] at ho42; rw [← Ny185.out] at ho42)); have n0_ := Aside0.mk (Kd.S_elder' (by (with_reducible repeat (first | apply Kd.S_alloc | apply Kd.S_drewN | apply Kd.S_drew)); exact HO_3.out) (Kd.R_base ho42) hb); have n1_ := Aside0.mk (Kd.R_lower ho42 (below_size (by repeat (first | (with_reducible first | exact HB.out | apply below_alloc | apply pw_below_drewN | apply below_drew1 | refine below_set ?_ GE172.out) | exact HB.out)))); have n2_ := Aside0.mk (blk_below (g := gb172) (o := .cells #[.int .i64 a0_0, .int .i64 a0_1, .int .i64 a0_2, .slice A0_3 l0_3.length c0_3, .slice A0_4 l0_4.length c0_4, .int .i64 a0_5] 55 (0, 0)) (by (with_reducible repeat (first | refine blk_drewN ?_ _ | refine blk_drew ?_ | refine blk_alloc ?_ _)); exact BK172.out) hb); have n3_ := Aside0.mk (below_step (by repeat (first | (with_reducible first | exact HB.out | apply below_alloc | apply pw_below_drewN | apply below_drew1 | refine below_set ?_ GE172.out) | exact HB.out)) hb); clear HO_3; clear BK172; clear HB; have HO_3 := n0_; have HO187 := n1_; have BK172 := n2_; have HB := n3_; clear n0_ n1_ n2_ n3_; clear hb ho42; have p39 : 0 ≤ (x5_2 : Int) := of_decide_eq_true (by first | (with_reducible assumption) | assumption); have q39 : (x5_2 : Int) < ((x3_2.length : Int) : Int) := of_decide_eq_true (by first | (with_reducible assumption) | assumption); obtain ⟨_, ce39, hcl39, hM39, hcc39, hfr39, _, _⟩ := Kd.S_elem HO_3.out [] (x5_2 : Int) p39 q39; obtain ⟨ve39_0, rfl, ge39_0⟩ := hM39; have hx39_0 := hcc39 0 _ rfl; have hf39_0 := hfr39 0; (try simp only [show ((Kd.slice 2 (Kd.int .i64))).sz = 1 from rfl, Nat.mul_one, Nat.add_zero] at hx39_0); (try simp only [show ((Kd.slice 2 (Kd.int .i64))).sz = 1 from rfl, Nat.mul_one, Nat.add_zero] at hf39_0); (clear hcl39 hcc39 hfr39; try clear hM39); replace p39 := eq_true p39; replace q39 := eq_true q39; obtain ⟨Ao43, co43, eo43⟩ := Kd.R_slice HO187.out; subst eo43; have n_ := Aside0.mk (Kd.S_mono (ok' := (fun k_ => some k_ ≠ (.slice Ao43 y185.length co43 : Value).ownBlock)) HO_3.out (fun k_ hk => hk.2)); clear HO_3; have HO_3 := n_; clear n_; have HX44 := Aside0.mk (show Kd.S (Kd.slice 2 (Kd.int .i64)) 24 w41 w.heap.size (fun k_ => ((fun _ => True)) k_ ∧ ¬ ((fun k_ => some k_ = (.slice Ao43 y185.length co43 : Value).ownBlock)) k_) (.slice (some ⟨go10, 0, none⟩) x3_2.length co10) x3_2 from (by (with_reducible repeat (first | apply Kd.S_alloc | apply Kd.S_drewN | apply Kd.S_drew)); exact Kd.S_mono HO_3.out (fun k_ hk => ⟨trivial, fun e_ => hk e_⟩))); obtain ⟨oki44, ce44, hcl44, hM44, hcc44, hfr44, hoki44, hH44⟩ := Kd.S_elem HX44.out [] (x5_2 : Int) (of_decide_eq_true (by first | (with_reducible assumption) | assumption)) (by have h_ : (x5_2 : Int) < ((x3_2.length : Int) : Int) := of_decide_eq_true (by first | (with_reducible assumption) | assumption); first | exact h_ | (have e_ := (Kd.S_reads' HO_3.out).1; omega) | simpa using h_); obtain ⟨ve44_0, rfl, ge44_0⟩ := hM44; have HP44 := Kd.S_seg hH44 (of_decide_eq_true (by first | (with_reducible assumption) | assumption)) (by have h_ : (x5_2 : Int) < ((x3_2.length : Int) : Int) := of_decide_eq_true (by first | (with_reducible assumption) | assumption); first | exact h_ | (have e_ := (Kd.S_reads' HO_3.out).1; omega) | simpa using h_) (seg := [.slice Ao43 y185.length co43]) (j := 0) (show 1 ≤ 1 from by decide) (x' := y185) (Kd.M_row (Kd.R_mono (Kd.R_tight rfl (Kd.R_mono (ok' := fun k_ => ((fun _ => True)) k_ ∧ k_ ≠ go10) (Kd.R_apart' (HO187.out) (Kd.S_typed HO_3.out) (by decide)) (fun k_ hk => ⟨trivial, fun e_ => (hk.2) (by rw [e_]; rfl)⟩))) (fun _ h_ => Or.inr (h_)))) (fun _ hk => hk) (fun k_ hk_ => ((Kd.R_mono (ok' := fun k_ => ((fun _ => True)) k_ ∧ k_ ≠ go10) (Kd.R_apart' (HO187.out) (Kd.S_typed HO_3.out) (by decide)) (fun k_ hk => ⟨trivial, fun e_ => (hk.2) (by rw [e_]; rfl)⟩))).1 k_ hk_.symm); have hx44_0 := hcc44 0 _ rfl; (try simp only [show ((Kd.slice 2 (Kd.int .i64))).sz = 1 from rfl, Nat.mul_one, Nat.add_zero] at hx44_0); have hf44_0 := hfr44 0; (try simp only [show ((Kd.slice 2 (Kd.int .i64))).sz = 1 from rfl, Nat.mul_one, Nat.add_zero] at hf44_0); (clear hcl44 hcc44 hfr44 hoki44 hH44; try clear hM44); (try simp only [show ((Kd.slice 2 (Kd.int .i64))).sz = 1 from rfl, Nat.mul_one, Nat.add_zero] at HP44)) | ((with_reducible refine gate_store (t := 24) (p := 59) rfl ?_); refine store_event (t := 24) (p := 59) (v := ?vo_w45) (w1 := (w41.setCell ⟨go10, (x5_2 : Int).toNat, none⟩ (.slice Ao43 y185.length co43))) ?hg ?ho ?hn ?hr ?_; (case ho => rfl); (case hg => rfl); (case hn => rfl); (case hr => first | (go_simp; done) | (go_simp; rfl)); intro w45 hw; have hg : w41.grownBy w45 (some go10) := (by rw [hw]; exact HP44.2); have hp_ : Kd.S (Kd.slice 2 (Kd.int .i64)) 24 w45 w.heap.size (fun _ => True) (.slice (some ⟨go10, 0, none⟩) x3_2.length co10) y188 := (by rw [hw, Ny188.out]; exact HP44.1); clear HP44; have n0_ := Aside0.mk (hp_); have n1_ := Aside0.mk (blk_grown (g := gb172) (o := .cells #[.int .i64 a0_0, .int .i64 a0_1, .int .i64 a0_2, .slice A0_3 l0_3.length c0_3, .slice A0_4 l0_4.length c0_4, .int .i64 a0_5] 55 (0, 0)) (by (with_reducible repeat (first | refine blk_drewN ?_ _ | refine blk_drew ?_ | refine blk_alloc ?_ _)); exact BK172.out) hg (Kd.S_ne HO_3.out BK172.out (by decide))); have n2_ := Aside0.mk ((by rw [hw]; exact below_set (HB.out) GB10.out : Below w.heap.size w w45)); clear HO_3; clear BK172; clear HB; clear HO187; have HO_3 := n0_; have BK172 := n1_; have HB := n2_; clear n0_ n1_ n2_; clear hg hw hp_; have p189 : 0 ≤ (x5_2 : Int) := of_decide_eq_true (by first | (with_reducible assumption) | assumption); have q189 : x5_2 < (y188.length : Int) := (by have h_ : (x5_2 : Int) < ((x3_2.length : Int) : Int) := of_decide_eq_true (by first | (with_reducible assumption) | assumption); first | (have e_ := (Kd.S_reads' HO_3.out).1; omega) | simpa only [Ny188.out, List.length_set] using h_); have ql189 : ((x5_2 : Int) < ((x3_2.length : Int) : Int)) = True := eq_true (of_decide_eq_true (by first | (with_reducible assumption) | assumption)); obtain ⟨ad189, A189_0, c189_0, e189, hx189_0, hl189_0, hi189_0⟩ := at_L2 (Kd.S_reads' HO_3.out).2.2 x5_2 p189 q189; obtain rfl : (⟨go10, 0, none⟩ : Addr) = ad189 := (by injection e189); obtain ⟨ce189, hce189, hMe189, hcc189⟩ := Kd.S_get HO_3.out [] x5_2 p189 (by first | exact q189 | exact of_decide_eq_true (by first | (with_reducible assumption) | assumption) | (have e_ := (Kd.S_reads' HO_3.out).1; omega)); obtain ⟨ve189_0, rfl, ge189_0⟩ := hMe189; have hv189_0 := hcc189 0 _ rfl; rw [Nat.add_zero, show ((Kd.slice 2 (Kd.int .i64))).sz = 1 from rfl, Nat.mul_one] at hv189_0; replace hv189_0 := Option.some.inj (hv189_0.symm.trans hx189_0); rw [hv189_0] at ge189_0; have HL189_0 := Aside0.mk (show Kd.R (Kd.int .i64) 2 _ _ _ _ (rd_L2 y188 x5_2) from ge189_0); clear hv189_0 ge189_0; have HX189_0 := Aside0.mk hx189_0; clear hcc189 hce189; (first | simp only [add_plain] at hx189_0 | simp only [add_at] at hx189_0 | simp only [Addr.add, Nat.zero_add] at hx189_0 | skip); have HR189_0 := Aside0.mk hi189_0; have HC189_0 := Aside0.mk hl189_0; clear hi189_0 hl189_0; replace p189 := eq_true p189; replace q189 := eq_true q189))
                 go_loopg [65] k2 (fun kq v65 w' => ∃ (x3_3 : List (List Int)) (x65_3 : Int), v65 = .int .i64 x65_3 ∧ Aside0 (impl_charging_counts.l2 kq x3_3 x5_2 ((rd_L2 y188 x5_2).length : Int) x65_3 a0_0 a0_1 a0_2 l0_3 l0_4 a0_5 = some r) ∧ Aside0 (kq ≤ k2) ∧ Aside0 (Kd.S (Kd.slice 2 (Kd.int .i64)) 24 w' w.heap.size (fun _ => True) (.slice (some ⟨go10, 0, none⟩) x3_2.length co10) x3_3) ∧ Aside0 (w'.heap[gb172]? = some (.cells #[.int .i64 a0_0, .int .i64 a0_1, .int .i64 a0_2, (.slice A0_3 l0_3.length c0_3), (.slice A0_4 l0_4.length c0_4), .int .i64 a0_5] 55 (0, 0))) ∧ Aside0 (Below w.heap.size w w'))
                 case atStart => exact ⟨(y188), (0), (by first | rfl | (simp; done) | (simp [*]; done)), H', ⟨Nat.le_refl _⟩, ⟨by (try simp only [hl3_1]); (try simp only [hl3_2]); (with_reducible repeat (first | apply Kd.S_alloc | apply Kd.S_drewN | apply Kd.S_drew)); exact HO_3.out⟩, ⟨by (try simp only [hl3_1]); (try simp only [hl3_2]); (with_reducible repeat (first | refine blk_drewN ?_ _ | refine blk_drew ?_ | refine blk_alloc ?_ _)); exact BK172.out⟩, ⟨by repeat (first | (with_reducible first | exact HB.out | apply below_alloc | apply pw_below_drewN | apply below_drew1 | refine below_set ?_ GE172.out) | exact HB.out)⟩⟩
                 case round =>
                  clear H'
                  try clear c1
                  try clear p1
                  try clear q1
                  try clear hx1
                  try clear hf1
                  try clear c2
                  try clear p2
                  try clear q2
                  try clear hx2
                  try clear hf2
                  try clear c3
                  try clear c3b0
                  try clear c3b1
                  try clear p3
                  try clear q3
                  try clear hx3
                  try clear hf3
                  try clear c4
                  try clear c4b0
                  try clear c4b1
                  try clear hx4
                  try clear hf4
                  try clear c6
                  try clear c6b0
                  try clear c6b1
                  try clear p6
                  try clear c7
                  try clear c7b0
                  try clear c7b1
                  try clear c8
                  try clear c8b0
                  try clear c8b1
                  try clear c9
                  try clear c9b0
                  try clear c9b1
                  try clear c10
                  try clear p10
                  try clear q10
                  try clear hx10
                  try clear hf10
                  try clear p11
                  try clear q11
                  try clear c18
                  try clear p18
                  try clear q18
                  try clear hx18
                  try clear c19
                  try clear c23
                  try clear c23b0
                  try clear c24
                  try clear c24b0
                  try clear c24b1
                  try clear c25
                  try clear c25b0
                  try clear c25b1
                  try clear c26
                  try clear c26b0
                  try clear c27
                  try clear c27b0
                  try clear p28
                  try clear q28
                  try clear hx28
                  try clear hf28
                  try clear c30
                  try clear q30
                  try clear c33
                  try clear c33b0
                  try clear c35
                  try clear c35b0
                  try clear c35b1
                  try clear c36
                  try clear c36b0
                  try clear c36b1
                  try clear c37
                  try clear c37b0
                  try clear c38
                  try clear c38b0
                  try clear c39
                  try clear p39
                  try clear q39
                  try clear hx39
                  try clear hf39
                  try clear c44
                  try clear hx44
                  try clear hf44
                  try clear hcz13_0
                  try clear hcz13_1
                  try clear hcz13_2
                  try clear hcz13_3
                  try clear hcz13_4
                  try clear hcz13_5
                  try clear hcz22_0
                  try clear hcz22_1
                  try clear hcz22_2
                  try clear hcz22_3
                  try clear hcz22_4
                  try clear hcz22_5
                  try clear hcz29_0
                  try clear hcz29_1
                  try clear hcz29_2
                  try clear hcz29_3
                  try clear hcz29_4
                  try clear hcz29_5
                  try clear hcz32_0
                  try clear hcz32_1
                  try clear hcz32_2
                  try clear hcz32_3
                  try clear hcz32_4
                  try clear hcz32_5
                  try clear hcz40_0
                  try clear hcz40_1
                  try clear hcz40_2
                  try clear hcz40_3
                  try clear hcz40_4
                  try clear hcz40_5
                  try clear hfz13_0
                  try clear hfz13_1
                  try clear hfz13_2
                  try clear hfz13_3
                  try clear hfz13_4
                  try clear hfz13_5
                  try clear hfz22_0
                  try clear hfz22_1
                  try clear hfz22_2
                  try clear hfz22_3
                  try clear hfz22_4
                  try clear hfz22_5
                  try clear hfz29_0
                  try clear hfz29_1
                  try clear hfz29_2
                  try clear hfz29_3
                  try clear hfz29_4
                  try clear hfz29_5
                  try clear hfz32_0
                  try clear hfz32_1
                  try clear hfz32_2
                  try clear hfz32_3
                  try clear hfz32_4
                  try clear hfz32_5
                  try clear hfz40_0
                  try clear hfz40_1
                  try clear hfz40_2
                  try clear hfz40_3
                  try clear hfz40_4
                  try clear hfz40_5
                  try clear hx10_0
                  try clear hx181_0
                  try clear hx189_0
                  try clear hx28_0
                  try clear hx39_0
                  try clear hx44_0
                  try clear p1
                  try clear p10
                  try clear p11
                  try clear p18
                  try clear p181
                  try clear p189
                  try clear p2
                  try clear p28
                  try clear p39
                  try clear p6
                  try clear q1
                  try clear q10
                  try clear q11
                  try clear q18
                  try clear q181
                  try clear q189
                  try clear q2
                  try clear q28
                  try clear q3
                  try clear q30
                  try clear q39
                  obtain ⟨x3_3, x65_3, rfl, HA, HK3, HO_3, BK172, HB⟩ := hrel
                  have hl3_3 := (Kd.S_reads' HO_3.out).1
                  rw [hl3_3] at HO_3
                  (try simp only [hl3_3])
                  (try simp only [hl3_3] at BK172)
                  cases gk with
                  | zero => exact absurd HA.out (by simp [impl_charging_counts.l2])
                  | succ k3 =>
                   have H := HA.out
                   clear HA
                   simp only [impl_charging_counts.l2] at H
                   by_cases c46 : x65_3 < ((rd_L2 y188 x5_2).length : Int)
                   ·rw [if_pos c46] at H
                    have c46b0 : decide (x65_3 < ((rd_L2 y188 x5_2).length : Int)) = true := decide_eq_true c46
                    clear c46
                    have H' := Aside0.mk H
                    clear H
                    have hcz47_0 : wr.cell? ⟨gb172, 0, none⟩ = some (.int .i64 a0_0) := (blk_cell BK172.out 0).trans rfl
                    have hcz47_1 : wr.cell? ⟨gb172, 1, none⟩ = some (.int .i64 a0_1) := (blk_cell BK172.out 1).trans rfl
                    have hcz47_2 : wr.cell? ⟨gb172, 2, none⟩ = some (.int .i64 a0_2) := (blk_cell BK172.out 2).trans rfl
                    have hcz47_3 : wr.cell? ⟨gb172, 3, none⟩ = some (.slice A0_3 l0_3.length c0_3) := (blk_cell BK172.out 3).trans rfl
                    have hcz47_4 : wr.cell? ⟨gb172, 4, none⟩ = some (.slice A0_4 l0_4.length c0_4) := (blk_cell BK172.out 4).trans rfl
                    have hcz47_5 : wr.cell? ⟨gb172, 5, none⟩ = some (.int .i64 a0_5) := (blk_cell BK172.out 5).trans rfl
                    have hfz47_0 := blk_frozen BK172.out 0
                    have hfz47_1 := blk_frozen BK172.out 1
                    have hfz47_2 := blk_frozen BK172.out 2
                    have hfz47_3 := blk_frozen BK172.out 3
                    have hfz47_4 := blk_frozen BK172.out 4
                    have hfz47_5 := blk_frozen BK172.out 5
                    go_wp2
                    go_loopg [7] k3 (fun kq v7 w' => ∃ (x3_4 : List (List Int)) (x7_4 : Int), v7 = .int .i64 x7_4 ∧ Aside0 (impl_charging_counts.l3 kq x3_4 x5_2 x65_3 x7_4 ((rd_L2 y188 x5_2).length : Int) x65_3 a0_0 a0_1 a0_2 l0_3 l0_4 a0_5 = some r) ∧ Aside0 (kq ≤ k3) ∧ Aside0 (Kd.S (Kd.slice 2 (Kd.int .i64)) 24 w' w.heap.size (fun _ => True) (.slice (some ⟨go10, 0, none⟩) x3_3.length co10) x3_4) ∧ Aside0 (w'.heap[gb172]? = some (.cells #[.int .i64 a0_0, .int .i64 a0_1, .int .i64 a0_2, (.slice A0_3 l0_3.length c0_3), (.slice A0_4 l0_4.length c0_4), .int .i64 a0_5] 55 (0, 0))) ∧ Aside0 (Below w.heap.size w w'))
                    case atStart => exact ⟨(x3_3), (wrap64 (-a0_1)), (by first | rfl | (simp; done) | (simp [*]; done)), H', ⟨Nat.le_refl _⟩, ⟨by (try simp only [hl3_1]); (try simp only [hl3_2]); (try simp only [hl3_3]); (with_reducible repeat (first | apply Kd.S_alloc | apply Kd.S_drewN | apply Kd.S_drew)); exact HO_3.out⟩, ⟨by (try simp only [hl3_1]); (try simp only [hl3_2]); (try simp only [hl3_3]); (with_reducible repeat (first | refine blk_drewN ?_ _ | refine blk_drew ?_ | refine blk_alloc ?_ _)); exact BK172.out⟩, ⟨by repeat (first | (with_reducible first | exact HB.out | apply below_alloc | apply pw_below_drewN | apply below_drew1 | refine below_set ?_ GE172.out) | exact HB.out)⟩⟩
                    case round =>
                     clear H'
                     try clear c1
                     try clear p1
                     try clear q1
                     try clear hx1
                     try clear hf1
                     try clear c2
                     try clear p2
                     try clear q2
                     try clear hx2
                     try clear hf2
                     try clear c3
                     try clear c3b0
                     try clear c3b1
                     try clear p3
                     try clear q3
                     try clear hx3
                     try clear hf3
                     try clear c4
                     try clear c4b0
                     try clear c4b1
                     try clear hx4
                     try clear hf4
                     try clear c6
                     try clear c6b0
                     try clear c6b1
                     try clear p6
                     try clear c7
                     try clear c7b0
                     try clear c7b1
                     try clear c8
                     try clear c8b0
                     try clear c8b1
                     try clear c9
                     try clear c9b0
                     try clear c9b1
                     try clear c10
                     try clear p10
                     try clear q10
                     try clear hx10
                     try clear hf10
                     try clear p11
                     try clear q11
                     try clear c18
                     try clear p18
                     try clear q18
                     try clear hx18
                     try clear c19
                     try clear c23
                     try clear c23b0
                     try clear c24
                     try clear c24b0
                     try clear c24b1
                     try clear c25
                     try clear c25b0
                     try clear c25b1
                     try clear c26
                     try clear c26b0
                     try clear c27
                     try clear c27b0
                     try clear p28
                     try clear q28
                     try clear hx28
                     try clear hf28
                     try clear c30
                     try clear q30
                     try clear c33
                     try clear c33b0
                     try clear c35
                     try clear c35b0
                     try clear c35b1
                     try clear c36
                     try clear c36b0
                     try clear c36b1
                     try clear c37
                     try clear c37b0
                     try clear c38
                     try clear c38b0
                     try clear c39
                     try clear p39
                     try clear q39
                     try clear hx39
                     try clear hf39
                     try clear c44
                     try clear hx44
                     try clear hf44
                     try clear c46
                     try clear c46b0
                     try clear hcz13_0
                     try clear hcz13_1
                     try clear hcz13_2
                     try clear hcz13_3
                     try clear hcz13_4
                     try clear hcz13_5
                     try clear hcz22_0
                     try clear hcz22_1
                     try clear hcz22_2
                     try clear hcz22_3
                     try clear hcz22_4
                     try clear hcz22_5
                     try clear hcz29_0
                     try clear hcz29_1
                     try clear hcz29_2
                     try clear hcz29_3
                     try clear hcz29_4
                     try clear hcz29_5
                     try clear hcz32_0
                     try clear hcz32_1
                     try clear hcz32_2
                     try clear hcz32_3
                     try clear hcz32_4
                     try clear hcz32_5
                     try clear hcz40_0
                     try clear hcz40_1
                     try clear hcz40_2
                     try clear hcz40_3
                     try clear hcz40_4
                     try clear hcz40_5
                     try clear hcz47_0
                     try clear hcz47_1
                     try clear hcz47_2
                     try clear hcz47_3
                     try clear hcz47_4
                     try clear hcz47_5
                     try clear hfz13_0
                     try clear hfz13_1
                     try clear hfz13_2
                     try clear hfz13_3
                     try clear hfz13_4
                     try clear hfz13_5
                     try clear hfz22_0
                     try clear hfz22_1
                     try clear hfz22_2
                     try clear hfz22_3
                     try clear hfz22_4
                     try clear hfz22_5
                     try clear hfz29_0
                     try clear hfz29_1
                     try clear hfz29_2
                     try clear hfz29_3
                     try clear hfz29_4
                     try clear hfz29_5
                     try clear hfz32_0
                     try clear hfz32_1
                     try clear hfz32_2
                     try clear hfz32_3
                     try clear hfz32_4
                     try clear hfz32_5
                     try clear hfz40_0
                     try clear hfz40_1
                     try clear hfz40_2
                     try clear hfz40_3
                     try clear hfz40_4
                     try clear hfz40_5
                     try clear hfz47_0
                     try clear hfz47_1
                     try clear hfz47_2
                     try clear hfz47_3
                     try clear hfz47_4
                     try clear hfz47_5
                     try clear hx10_0
                     try clear hx181_0
                     try clear hx189_0
                     try clear hx28_0
                     try clear hx39_0
                     try clear hx44_0
                     try clear p1
                     try clear p10
                     try clear p11
                     try clear p18
                     try clear p181
                     try clear p189
                     try clear p2
                     try clear p28
                     try clear p3
                     try clear p39
                     try clear p6
                     try clear q1
                     try clear q10
                     try clear q11
                     try clear q18
                     try clear q181
                     try clear q189
                     try clear q2
                     try clear q28
                     try clear q3
                     try clear q30
                     try clear q39
                     obtain ⟨x3_4, x7_4, rfl, HA, HK4, HO_3, BK172, HB⟩ := hrel
                     have hl3_4 := (Kd.S_reads' HO_3.out).1
                     rw [hl3_4] at HO_3
                     (try simp only [hl3_4])
                     (try simp only [hl3_4] at BK172)
                     cases gk with
                     | zero => exact absurd HA.out (by simp [impl_charging_counts.l3])
                     | succ k4 =>
                      have H := HA.out
                      clear HA
                      simp only [impl_charging_counts.l3] at H
                      by_cases c48 : x7_4 ≤ a0_1
                      ·rw [if_pos c48] at H
                       have c48b0 : decide (x7_4 ≤ a0_1) = true := decide_eq_true c48
                       clear c48
                       replace H := Option.bind_eq_some_iff.mp H
                       obtain ⟨⟨t190, t191⟩, A490, H⟩ := H
                       replace H : (if t191 = true then (if 0 ≤ x5_2 then (if x5_2 < (x3_4.length : Int) then (if 0 ≤ x65_3 then (if x65_3 < ((rd_L2 x3_4 x5_2).length : Int) then (if 0 ≤ (wrap64 (x5_2 + 1)) then (if (wrap64 (x5_2 + 1)) < (x3_4.length : Int) then (if 0 ≤ t190 then (if t190 < ((rd_L2 x3_4 (wrap64 (x5_2 + 1))).length : Int) then (impl_charging_counts.l3 k4 (x3_4.set (x5_2 : Int).toNat ((rd_L2 x3_4 x5_2).set (x65_3 : Int).toNat (mn (wrap64 ((rd (rd_L2 x3_4 x5_2) x65_3) + (rd (rd_L2 x3_4 (wrap64 (x5_2 + 1))) t190))) 20001))) x5_2 x65_3 (wrap64 (x7_4 + 1)) ((rd_L2 y188 x5_2).length : Int) x65_3 a0_0 a0_1 a0_2 l0_3 l0_4 a0_5) else (none)) else (none)) else (none)) else (none)) else (none)) else (none)) else (none)) else (none)) else (impl_charging_counts.l3 k4 x3_4 x5_2 x65_3 (wrap64 (x7_4 + 1)) ((rd_L2 y188 x5_2).length : Int) x65_3 a0_0 a0_1 a0_2 l0_3 l0_4 a0_5)) = some r := H
                       have A49 := Aside0.mk A490
                       clear A490
                       by_cases c50 : t191 = true
                       ·subst c50
                        have H1 : (if 0 ≤ x5_2 then (if x5_2 < (x3_4.length : Int) then (if 0 ≤ x65_3 then (if x65_3 < ((rd_L2 x3_4 x5_2).length : Int) then (if 0 ≤ (wrap64 (x5_2 + 1)) then (if (wrap64 (x5_2 + 1)) < (x3_4.length : Int) then (if 0 ≤ t190 then (if t190 < ((rd_L2 x3_4 (wrap64 (x5_2 + 1))).length : Int) then (impl_charging_counts.l3 k4 (x3_4.set (x5_2 : Int).toNat ((rd_L2 x3_4 x5_2).set (x65_3 : Int).toNat (mn (wrap64 ((rd (rd_L2 x3_4 x5_2) x65_3) + (rd (rd_L2 x3_4 (wrap64 (x5_2 + 1))) t190))) 20001))) x5_2 x65_3 (wrap64 (x7_4 + 1)) ((rd_L2 y188 x5_2).length : Int) x65_3 a0_0 a0_1 a0_2 l0_3 l0_4 a0_5) else (none)) else (none)) else (none)) else (none)) else (none)) else (none)) else (none)) else (none)) = some r := by rw [if_pos rfl] at H; exact H
                        clear H
                        have H := H1
                        clear H1
                        by_cases c51 : 0 ≤ x5_2
                        ·rw [if_pos c51] at H
                         have c51b0 : decide (0 ≤ x5_2) = true := decide_eq_true c51
                         clear c51
                         by_cases c52 : x5_2 < (x3_4.length : Int)
                         ·rw [if_pos c52] at H
                          have c52b0 : decide (x5_2 < (x3_4.length : Int)) = true := decide_eq_true c52
                          clear c52
                          by_cases c53 : 0 ≤ x65_3
                          ·rw [if_pos c53] at H
                           have c53b0 : decide (0 ≤ x65_3) = true := decide_eq_true c53
                           clear c53
                           by_cases c54 : x65_3 < ((rd_L2 x3_4 x5_2).length : Int)
                           ·rw [if_pos c54] at H
                            have c54b0 : decide (x65_3 < ((rd_L2 x3_4 x5_2).length : Int)) = true := decide_eq_true c54
                            clear c54
                            obtain ⟨ji55, hji55⟩ : ∃ j_ : Int, (wrap64 (x5_2 + 1)) = j_ := ⟨_, rfl⟩
                            replace H : (if 0 ≤ (ji55) then (if (ji55) < (x3_4.length : Int) then (if 0 ≤ t190 then (if t190 < ((rd_L2 x3_4 (ji55)).length : Int) then (impl_charging_counts.l3 k4 (x3_4.set (x5_2 : Int).toNat ((rd_L2 x3_4 x5_2).set (x65_3 : Int).toNat (mn (wrap64 ((rd (rd_L2 x3_4 x5_2) x65_3) + (rd (rd_L2 x3_4 (ji55)) t190))) 20001))) x5_2 x65_3 (wrap64 (x7_4 + 1)) ((rd_L2 y188 x5_2).length : Int) x65_3 a0_0 a0_1 a0_2 l0_3 l0_4 a0_5) else (none)) else (none)) else (none)) else (none)) = some r := by first | (rw [hji55] at H; exact H) | (simp only [hji55] at H ⊢; exact H)
                            (try rw [hji55] at A49)
                            have hji55w : (IntKind.i64.wrap (x5_2 + 1)) = ji55 := (i64_w _).trans hji55
                            by_cases c56 : 0 ≤ (ji55)
                            ·rw [if_pos c56] at H
                             have c56b0 : decide (0 ≤ (ji55)) = true := decide_eq_true c56
                             clear c56
                             by_cases c57 : (ji55) < (x3_4.length : Int)
                             ·rw [if_pos c57] at H
                              have c57b0 : decide ((ji55) < (x3_4.length : Int)) = true := decide_eq_true c57
                              clear c57
                              by_cases c58 : 0 ≤ t190
                              ·rw [if_pos c58] at H
                               have c58b0 : decide (0 ≤ t190) = true := decide_eq_true c58
                               clear c58
                               by_cases c59 : t190 < ((rd_L2 x3_4 (ji55)).length : Int)
                               ·rw [if_pos c59] at H
                                have c59b0 : decide (t190 < ((rd_L2 x3_4 (ji55)).length : Int)) = true := decide_eq_true c59
                                clear c59
                                obtain ⟨ji60, hji60⟩ : ∃ j_ : Int, (mn (wrap64 ((rd (rd_L2 x3_4 x5_2) x65_3) + (rd (rd_L2 x3_4 (ji55)) t190))) 20001) = j_ := ⟨_, rfl⟩
                                replace H : (impl_charging_counts.l3 k4 (x3_4.set (x5_2 : Int).toNat ((rd_L2 x3_4 x5_2).set (x65_3 : Int).toNat (ji60))) x5_2 x65_3 (wrap64 (x7_4 + 1)) ((rd_L2 y188 x5_2).length : Int) x65_3 a0_0 a0_1 a0_2 l0_3 l0_4 a0_5) = some r := by first | (rw [hji60] at H; exact H) | (simp only [hji60] at H ⊢; exact H)
                                (try rw [hji60] at A49)
                                have hji60_ : (if 20001 < (wrap64 ((rd (rd_L2 x3_4 x5_2) x65_3) + (rd (rd_L2 x3_4 (ji55)) t190))) then 20001 else (wrap64 ((rd (rd_L2 x3_4 x5_2) x65_3) + (rd (rd_L2 x3_4 (ji55)) t190)))) = ji60 := hji60
                                obtain ⟨y197, hy197⟩ : ∃ y_ : List Int, y_ = ((rd_L2 x3_4 x5_2).set (x65_3 : Int).toNat (ji60)) := ⟨_, rfl⟩
                                replace H : (impl_charging_counts.l3 k4 (x3_4.set (x5_2 : Int).toNat y197) x5_2 x65_3 (wrap64 (x7_4 + 1)) ((rd_L2 y188 x5_2).length : Int) x65_3 a0_0 a0_1 a0_2 l0_3 l0_4 a0_5) = some r := by first | (rw [hy197]; with_reducible exact H) | (have H2_ := (Option.bind_some _ _).symm.trans H; rw [hy197]; with_reducible exact H2_) | (have H2_ := (Option.bind_some _ _).symm.trans H; with_reducible exact H2_) | with_reducible exact H | (rw [hy197]; exact H) | exact H
                                have Ny197 := Aside0.mk hy197
                                clear hy197
                                obtain ⟨y199, hy199⟩ : ∃ y_ : List (List Int), y_ = (x3_4.set (x5_2 : Int).toNat y197) := ⟨_, rfl⟩
                                replace H : (impl_charging_counts.l3 k4 y199 x5_2 x65_3 (wrap64 (x7_4 + 1)) ((rd_L2 y188 x5_2).length : Int) x65_3 a0_0 a0_1 a0_2 l0_3 l0_4 a0_5) = some r := by first | (rw [hy199]; with_reducible exact H) | (have H2_ := (Option.bind_some _ _).symm.trans H; rw [hy199]; with_reducible exact H2_) | (have H2_ := (Option.bind_some _ _).symm.trans H; with_reducible exact H2_) | with_reducible exact H | (rw [hy199]; exact H) | exact H
                                have Ny199 := Aside0.mk hy199
                                clear hy199
                                have H' := Aside0.mk H
                                clear H
                                have hcz62_0 : wr.cell? ⟨gb172, 0, none⟩ = some (.int .i64 a0_0) := (blk_cell BK172.out 0).trans rfl
                                have hcz62_1 : wr.cell? ⟨gb172, 1, none⟩ = some (.int .i64 a0_1) := (blk_cell BK172.out 1).trans rfl
                                have hcz62_2 : wr.cell? ⟨gb172, 2, none⟩ = some (.int .i64 a0_2) := (blk_cell BK172.out 2).trans rfl
                                have hcz62_3 : wr.cell? ⟨gb172, 3, none⟩ = some (.slice A0_3 l0_3.length c0_3) := (blk_cell BK172.out 3).trans rfl
                                have hcz62_4 : wr.cell? ⟨gb172, 4, none⟩ = some (.slice A0_4 l0_4.length c0_4) := (blk_cell BK172.out 4).trans rfl
                                have hcz62_5 : wr.cell? ⟨gb172, 5, none⟩ = some (.int .i64 a0_5) := (blk_cell BK172.out 5).trans rfl
                                have hfz62_0 := blk_frozen BK172.out 0
                                have hfz62_1 := blk_frozen BK172.out 1
                                have hfz62_2 := blk_frozen BK172.out 2
                                have hfz62_3 := blk_frozen BK172.out 3
                                have hfz62_4 := blk_frozen BK172.out 4
                                have hfz62_5 := blk_frozen BK172.out 5
                                try go_wp2_with (first | ((with_reducible refine gate_callee (f := 39) rfl ?_); refine goesL_ (some 84) rfl rfl Try.func39 (by kernel_rfl) rfl #[.agg #[.int .i64 a0_0, .int .i64 a0_1, .int .i64 a0_2, .slice A0_3 l0_3.length c0_3, .slice A0_4 l0_4.length c0_4, .int .i64 a0_5], .int .i64 x5_2, .int .i64 x65_3, .int .i64 x7_4] rfl (by (try simp only [List.map_toArray, List.map_cons, List.map_nil]); first | done | rfl | (simp only [List.length_drop, List.length_take]; rfl)) ?_; (with_reducible refine (impl_charging_after.calls a0_0 a0_1 a0_2 _ _ l0_3 _ _ l0_4 a0_5 x5_2 x65_3 x7_4 t190 true _ ?side1 ?side2 ?side3 ?side4 A49.out).mono ?_); (case side1 => repeat (first | exact (Kd.C_below HR0_3.out HB.out) | (with_reducible refine Kd.C_alloc ?_ _) | (with_reducible refine Kd.C_drewN ?_ _) | (with_reducible refine Kd.C_drew ?_))); (case side2 => exact HC0_3.out); (case side3 => repeat (first | exact (Kd.C_below HR0_4.out HB.out) | (with_reducible refine Kd.C_alloc ?_ _) | (with_reducible refine Kd.C_drewN ?_ _) | (with_reducible refine Kd.C_drew ?_))); (case side4 => exact HC0_4.out); rintro e w63 ⟨rfl, hb⟩; refine ⟨_, rfl, ?_⟩; have n0_ := Aside0.mk (Kd.S_below (by (with_reducible repeat (first | apply Kd.S_alloc | apply Kd.S_drewN | apply Kd.S_drew)); exact HO_3.out) hb); have n1_ := Aside0.mk (blk_below (g := gb172) (o := .cells #[.int .i64 a0_0, .int .i64 a0_1, .int .i64 a0_2, .slice A0_3 l0_3.length c0_3, .slice A0_4 l0_4.length c0_4, .int .i64 a0_5] 55 (0, 0)) (by (with_reducible repeat (first | refine blk_drewN ?_ _ | refine blk_drew ?_ | refine blk_alloc ?_ _)); exact BK172.out) hb); have n2_ := Aside0.mk (below_step (by repeat (first | (with_reducible first | exact HB.out | apply below_alloc | apply pw_below_drewN | apply below_drew1 | refine below_set ?_ GE172.out) | exact HB.out)) hb); clear HO_3; clear BK172; clear HB; have HO_3 := n0_; have BK172 := n1_; have HB := n2_; clear n0_ n1_ n2_; (try clear hb); (try clear hb2); (try clear hk); (try clear hi)))
                                have n0_ := Aside0.mk (Kd.S_drew HO_3.out)
                                have n1_ := Aside0.mk (blk_drew BK172.out)
                                have n2_ := Aside0.mk (below_drew1 HB.out)
                                clear HO_3
                                clear BK172
                                clear HB
                                have HO_3 := n0_
                                have BK172 := n1_
                                have HB := n2_
                                clear n0_ n1_ n2_
                                have p192 : 0 ≤ (x5_2 : Int) := of_decide_eq_true (by first | (with_reducible assumption) | assumption)
                                have q192 : x5_2 < (x3_4.length : Int) := of_decide_eq_true (by first | (with_reducible assumption) | assumption)
                                obtain ⟨ad192, A192_0, c192_0, e192, hx192_0, hl192_0, hi192_0⟩ := at_L2 (Kd.S_reads' HO_3.out).2.2 x5_2 p192 q192
                                obtain rfl : (⟨go10, 0, none⟩ : Addr) = ad192 := (by injection e192)
                                obtain ⟨ce192, hce192, hMe192, hcc192⟩ := Kd.S_get HO_3.out [] x5_2 p192 (by first | exact q192 | exact of_decide_eq_true (by first | (with_reducible assumption) | assumption) | (have e_ := (Kd.S_reads' HO_3.out).1; omega))
                                obtain ⟨ve192_0, rfl, ge192_0⟩ := hMe192
                                have hv192_0 := hcc192 0 _ rfl
                                rw [Nat.add_zero, show ((Kd.slice 2 (Kd.int .i64))).sz = 1 from rfl, Nat.mul_one] at hv192_0
                                replace hv192_0 := Option.some.inj (hv192_0.symm.trans hx192_0)
                                rw [hv192_0] at ge192_0
                                have HL192_0 := Aside0.mk (show Kd.R (Kd.int .i64) 2 _ _ _ _ (rd_L2 x3_4 x5_2) from ge192_0)
                                clear hv192_0 ge192_0
                                have HX192_0 := Aside0.mk hx192_0
                                clear hcc192 hce192
                                (first | simp only [add_plain] at hx192_0 | simp only [add_at] at hx192_0 | simp only [Addr.add, Nat.zero_add] at hx192_0 | skip)
                                have HR192_0 := Aside0.mk hi192_0
                                have HC192_0 := Aside0.mk hl192_0
                                clear hi192_0 hl192_0
                                replace p192 := eq_true p192
                                replace q192 := eq_true q192
                                have p193 : 0 ≤ (x5_2 : Int) := of_decide_eq_true (by first | (with_reducible assumption) | assumption)
                                have q193 : x5_2 < (x3_4.length : Int) := of_decide_eq_true (by first | (with_reducible assumption) | assumption)
                                obtain ⟨ad193, A193_0, c193_0, e193, hx193_0, hl193_0, hi193_0⟩ := at_L2 (Kd.S_reads' HO_3.out).2.2 x5_2 p193 q193
                                obtain rfl : (⟨go10, 0, none⟩ : Addr) = ad193 := (by injection e193)
                                obtain ⟨ce193, hce193, hMe193, hcc193⟩ := Kd.S_get HO_3.out [] x5_2 p193 (by first | exact q193 | exact of_decide_eq_true (by first | (with_reducible assumption) | assumption) | (have e_ := (Kd.S_reads' HO_3.out).1; omega))
                                obtain ⟨ve193_0, rfl, ge193_0⟩ := hMe193
                                have hv193_0 := hcc193 0 _ rfl
                                rw [Nat.add_zero, show ((Kd.slice 2 (Kd.int .i64))).sz = 1 from rfl, Nat.mul_one] at hv193_0
                                replace hv193_0 := Option.some.inj (hv193_0.symm.trans hx193_0)
                                rw [hv193_0] at ge193_0
                                have HL193_0 := Aside0.mk (show Kd.R (Kd.int .i64) 2 _ _ _ _ (rd_L2 x3_4 x5_2) from ge193_0)
                                clear hv193_0 ge193_0
                                have HX193_0 := Aside0.mk hx193_0
                                clear hcc193 hce193
                                (first | simp only [add_plain] at hx193_0 | simp only [add_at] at hx193_0 | simp only [Addr.add, Nat.zero_add] at hx193_0 | skip)
                                have HR193_0 := Aside0.mk hi193_0
                                have HC193_0 := Aside0.mk hl193_0
                                clear hi193_0 hl193_0
                                replace p193 := eq_true p193
                                replace q193 := eq_true q193
                                have ea_ := Option.some.inj (hx192_0.symm.trans hx193_0)
                                injection ea_ with ea_ en_ ec_
                                subst ea_
                                subst ec_
                                clear en_
                                have p194 : 0 ≤ (x65_3 : Int) := of_decide_eq_true (by first | (with_reducible assumption) | assumption)
                                have q194 : x65_3 < ((rd_L2 x3_4 x5_2).length : Int) := of_decide_eq_true (by first | (with_reducible assumption) | assumption)
                                obtain ⟨ad194, e194, hx194_0⟩ := Kd.at_int (by repeat (first | (with_reducible exact HR193_0.out) | (with_reducible refine Kd.C_alloc ?_ _) | (with_reducible refine Kd.C_drewN ?_ _) | (with_reducible refine Kd.C_drew ?_) | exact HR193_0.out)) x65_3 p194 q194
                                cases e194
                                replace p194 := eq_true p194
                                replace q194 := eq_true q194
                                have p195 : 0 ≤ ((ji55) : Int) := of_decide_eq_true (by first | (with_reducible assumption) | assumption)
                                have q195 : (ji55) < (x3_4.length : Int) := of_decide_eq_true (by first | (with_reducible assumption) | assumption)
                                obtain ⟨ad195, A195_0, c195_0, e195, hx195_0, hl195_0, hi195_0⟩ := at_L2 (Kd.S_reads' HO_3.out).2.2 (ji55) p195 q195
                                obtain rfl : (⟨go10, 0, none⟩ : Addr) = ad195 := (by injection e195)
                                obtain ⟨ce195, hce195, hMe195, hcc195⟩ := Kd.S_get HO_3.out [] (ji55) p195 (by first | exact q195 | exact of_decide_eq_true (by first | (with_reducible assumption) | assumption) | (have e_ := (Kd.S_reads' HO_3.out).1; omega))
                                obtain ⟨ve195_0, rfl, ge195_0⟩ := hMe195
                                have hv195_0 := hcc195 0 _ rfl
                                rw [Nat.add_zero, show ((Kd.slice 2 (Kd.int .i64))).sz = 1 from rfl, Nat.mul_one] at hv195_0
                                replace hv195_0 := Option.some.inj (hv195_0.symm.trans hx195_0)
                                rw [hv195_0] at ge195_0
                                have HL195_0 := Aside0.mk (show Kd.R (Kd.int .i64) 2 _ _ _ _ (rd_L2 x3_4 (ji55)) from ge195_0)
                                clear hv195_0 ge195_0
                                have HX195_0 := Aside0.mk hx195_0
                                clear hcc195 hce195
                                (first | simp only [add_plain] at hx195_0 | simp only [add_at] at hx195_0 | simp only [Addr.add, Nat.zero_add] at hx195_0 | skip)
                                have HR195_0 := Aside0.mk hi195_0
                                have HC195_0 := Aside0.mk hl195_0
                                clear hi195_0 hl195_0
                                replace p195 := eq_true p195
                                replace q195 := eq_true q195
                                have p196 : 0 ≤ (t190 : Int) := of_decide_eq_true (by first | (with_reducible assumption) | assumption)
                                have q196 : t190 < ((rd_L2 x3_4 (ji55)).length : Int) := of_decide_eq_true (by first | (with_reducible assumption) | assumption)
                                obtain ⟨ad196, e196, hx196_0⟩ := Kd.at_int (by repeat (first | (with_reducible exact HR195_0.out) | (with_reducible refine Kd.C_alloc ?_ _) | (with_reducible refine Kd.C_drewN ?_ _) | (with_reducible refine Kd.C_drew ?_) | exact HR195_0.out)) t190 p196 q196
                                cases e196
                                replace p196 := eq_true p196
                                replace q196 := eq_true q196
                                have p61 : 0 ≤ (x65_3 : Int) := of_decide_eq_true (by first | (with_reducible assumption) | assumption)
                                have q61 : (x65_3 : Int) < (((rd_L2 x3_4 x5_2).length : Int) : Int) := of_decide_eq_true (by first | (with_reducible assumption) | assumption)
                                obtain ⟨go61, co61, eo61, gb61, gl61, cl61, HG61⟩ := Kd.R_form HL192_0.out (by omega)
                                (first | cases eo61 | (injection eo61 with ea_ en_ ec_; (first | subst ea_ | (injection ea_ with ea_; subst ea_)); subst ec_; clear en_))
                                have GB61 := Aside0.mk gb61
                                have GG61 := Aside0.mk HG61
                                clear gb61 gl61 HG61
                                (first | simp only [add_plain] at hx194_0 | skip)
                                obtain ⟨hx61_0, hf61_0⟩ := Kd.R_celln 0 HL192_0.out (x65_3 : Int) p61 q61
                                replace p61 := eq_true p61
                                replace q61 := eq_true q61
                                have hq65 : (x5_2 : Int) < (x3_4.length : Int) := (by have h_ : (x5_2 : Int) < ((x3_4.length : Int) : Int) := of_decide_eq_true (by first | (with_reducible assumption) | assumption); first | exact h_ | (have e_ := (Kd.S_reads' HO_3.out).1; omega) | simpa only [List.length_set, List.length_set] using h_)
                                obtain ⟨oki65, ce65, hcl65, hM65, hcc65, hok65, hbk65⟩ := Kd.S_borrow HO_3.out [] (x5_2 : Int) (of_decide_eq_true (by first | (with_reducible assumption) | assumption)) hq65
                                obtain ⟨ve65_0, rfl, ge65_0⟩ := hM65
                                have hv65 := hcc65 0 _ rfl
                                rw [Nat.add_zero, show ((Kd.slice 2 (Kd.int .i64))).sz = 1 from rfl, Nat.mul_one] at hv65
                                replace hv65 := Option.some.inj (hv65.symm.trans HX192_0.out)
                                subst hv65
                                clear hcc65 hcl65
                                replace ge65_0 := (show Kd.R (Kd.int .i64) 2 _ _ _ _ (rd_L2 x3_4 x5_2) from ge65_0)
                                have HP65 := Kd.R_putg ge65_0 (x65_3 : Int) ji60
                                rw [← Ny197.out] at HP65
                                have HS65 := hbk65 HP65.2 (fun k_ e_ => by injection e_ with e_; subst e_; exact ge65_0.1 _ rfl) (x' := y197) (Kd.M_row HP65.1)
                                rw [← Ny199.out] at HS65
                                have HQ65 := Aside0.mk HS65
                                clear HP65 HS65 hbk65 hok65
                                refine start_ (n := 24) (S := fun w' => w'.cell? ⟨go10, (x5_2).toNat, none⟩ = some (.slice (some ⟨go61, 0, none⟩) (rd_L2 x3_4 x5_2).length c192_0) ∧ w'.cell? ⟨go10, (x5_2).toNat, none⟩ = some (.slice (some ⟨go61, 0, none⟩) (rd_L2 x3_4 x5_2).length c192_0) ∧ w'.cell? ⟨go61, (x65_3).toNat, none⟩ = some (.int .i64 (rd (rd_L2 x3_4 x5_2) x65_3)) ∧ w'.cell? ⟨go10, ((ji55)).toNat, none⟩ = some (.slice (some ad196) (rd_L2 x3_4 (ji55)).length c195_0) ∧ w'.cell? (ad196.add (t190).toNat) = some (.int .i64 (rd (rd_L2 x3_4 (ji55)) t190))) (ds := [23]) (tf 0 24) (by kernel_rfl) rfl rfl ⟨hx192_0, hx193_0, hx194_0, hx195_0, hx196_0⟩ (fun hHeld => ?_); refine with_tabW impl_charging_counts.tab20 impl_charging_counts.bits20 (fun HT_ HW_ => ?_)
                                generalize w63.drew = w64 at HO_3 BK172 HB GG61 HL192_0 HL193_0 HL195_0 HQ65 HR192_0 HR193_0 HR195_0 HX192_0 HX193_0 HX195_0 hf61_0 hx192_0 hx193_0 hx194_0 hx195_0 hx196_0 hx61_0 hHeld ⊢
                                refine px 0 (some 88) (tf 1 24) HT_ ?_
                                refine px 1 (some 89) (tf 2 24) HT_ ?_
                                refine px 2 (some 90) (tf 3 24) HT_ ?_
                                refine px 4 (some 92) (tb 24 23) HT_ ?_
                                refine px 5 (some 93) (tb 24 55) HT_ ?_
                                refine px 6 (some 94) (tb 24 119) HT_ ?_
                                refine px 7 (some 95) (tb 24 247) HT_ ?_
                                refine px 9 (some 97) (tb 24 759) HT_ ?_
                                refine px 12 (some 100) (tb 24 4855) HT_ ?_
                                refine px 13 (some 101) (tb 24 13047) HT_ ?_
                                refine px 14 (some 102) (tb 24 29431) HT_ ?_
                                refine px 15 (some 103) (tb 24 62199) HT_ ?_
                                refine px 17 (some 105) (tb 24 193271) HT_ ?_
                                refine tx (v := ?_) 3 (some 91) (tb 24 193279) HT_ HW_ hHeld ?_ ?_
                                rotate_left; (· rintro w' ⟨s0, s1, s2, s3, s4⟩; go_simp; with_reducible rfl)
                                refine tx (v := ?_) 8 (some 96) (tb 24 193535) HT_ HW_ hHeld ?_ ?_
                                rotate_left; (· rintro w' ⟨s0, s1, s2, s3, s4⟩; go_simp; with_reducible rfl)
                                refine px 10 (some 98) (tb 24 194559) HT_ ?_
                                refine tx (v := ?_) 11 (some 99) (tb 24 196607) HT_ HW_ hHeld ?_ ?_
                                rotate_left; (· rintro w' ⟨s0, s1, s2, s3, s4⟩; go_simp; with_reducible rfl)
                                refine tx (v := ?_) 16 (some 104) (tf 18 24) HT_ HW_ hHeld ?_ ?_
                                rotate_left; (· rintro w' ⟨s0, s1, s2, s3, s4⟩; go_simp; with_reducible rfl)
                                refine px 18 (some 106) (tf 19 24) HT_ ?_
                                refine tx (v := ?_) 19 (some 107) (tf 20 24) HT_ HW_ hHeld ?_ ?_
                                rotate_left; (· rintro w' ⟨s0, s1, s2, s3, s4⟩; go_simp; with_reducible rfl)
                                refine px 20 (some 108) (tf 21 24) HT_ ?_
                                refine px 21 (some 109) (tf 22 24) HT_ ?_
                                refine px 22 (some 110) (tf 23 24) HT_ ?_
                                refine last_ (i := 23) (N := none) (tf 24 24) rfl rfl (one_of HT_.out (by kernel_rfl)) (by decide) (fun K hK => ?_)
                                refine skip_ (w1 := ?_) (by rfl) rfl ?_ ?_
                                rotate_left
                                ·go_simp
                                 rfl
                                refine hK.out _ _ ?_
                                clear hK K
                                refine done_ (done_of HT_.out (by kernel_rfl)) ?_
                                try go_wp2
                                (try simp only [← hl3_4])
                                go_roundg k4
                                case measure => have := HK1.out; have := HK2.out; have := HK3.out; have := HK4.out; omega
                                case rel => exact ⟨(y199), (wrap64 (x7_4 + 1)), (by first | rfl | (simp; done) | (simp [*]; done)), H', ⟨by have := HK1.out; have := HK2.out; have := HK3.out; have := HK4.out; omega⟩, ⟨by (try simp only [hl3_1]); (try simp only [hl3_2]); (try simp only [hl3_3]); (try simp only [hl3_4]); (with_reducible repeat (first | apply Kd.S_alloc | apply Kd.S_drewN | apply Kd.S_drew)); exact HQ65.out⟩, ⟨by (try simp only [hl3_1]); (try simp only [hl3_2]); (try simp only [hl3_3]); (try simp only [hl3_4]); (with_reducible repeat (first | refine blk_drewN ?_ _ | refine blk_drew ?_ | refine blk_alloc ?_ _)); refine blk_far ?_ (by have h_ := Kd.R_ne HL192_0.out BK172.out (by decide); intro e_; exact h_ (by rw [e_]; rfl)) _; (with_reducible repeat (first | refine blk_drewN ?_ _ | refine blk_drew ?_ | refine blk_alloc ?_ _)); exact BK172.out⟩, ⟨by repeat (first | (with_reducible first | exact HB.out | apply below_alloc | apply pw_below_drewN | apply below_drew1 | refine below_set ?_ GB61.out | refine below_set ?_ GE172.out) | exact HB.out)⟩⟩
                               ·rw [if_neg c59] at H
                                exact absurd H (by simp)
                              ·rw [if_neg c58] at H
                               exact absurd H (by simp)
                             ·rw [if_neg c57] at H
                              exact absurd H (by simp)
                            ·rw [if_neg c56] at H
                             exact absurd H (by simp)
                           ·rw [if_neg c54] at H
                            exact absurd H (by simp)
                          ·rw [if_neg c53] at H
                           exact absurd H (by simp)
                         ·rw [if_neg c52] at H
                          exact absurd H (by simp)
                        ·rw [if_neg c51] at H
                         exact absurd H (by simp)
                       ·replace c50 := Bool.eq_false_iff.mpr c50
                        subst c50
                        have H1 : (impl_charging_counts.l3 k4 x3_4 x5_2 x65_3 (wrap64 (x7_4 + 1)) ((rd_L2 y188 x5_2).length : Int) x65_3 a0_0 a0_1 a0_2 l0_3 l0_4 a0_5) = some r := by rw [if_neg (show ¬ (false = true) by decide)] at H; exact H
                        clear H
                        have H := H1
                        clear H1
                        have H' := Aside0.mk H
                        clear H
                        have hcz67_0 : wr.cell? ⟨gb172, 0, none⟩ = some (.int .i64 a0_0) := (blk_cell BK172.out 0).trans rfl
                        have hcz67_1 : wr.cell? ⟨gb172, 1, none⟩ = some (.int .i64 a0_1) := (blk_cell BK172.out 1).trans rfl
                        have hcz67_2 : wr.cell? ⟨gb172, 2, none⟩ = some (.int .i64 a0_2) := (blk_cell BK172.out 2).trans rfl
                        have hcz67_3 : wr.cell? ⟨gb172, 3, none⟩ = some (.slice A0_3 l0_3.length c0_3) := (blk_cell BK172.out 3).trans rfl
                        have hcz67_4 : wr.cell? ⟨gb172, 4, none⟩ = some (.slice A0_4 l0_4.length c0_4) := (blk_cell BK172.out 4).trans rfl
                        have hcz67_5 : wr.cell? ⟨gb172, 5, none⟩ = some (.int .i64 a0_5) := (blk_cell BK172.out 5).trans rfl
                        have hfz67_0 := blk_frozen BK172.out 0
                        have hfz67_1 := blk_frozen BK172.out 1
                        have hfz67_2 := blk_frozen BK172.out 2
                        have hfz67_3 := blk_frozen BK172.out 3
                        have hfz67_4 := blk_frozen BK172.out 4
                        have hfz67_5 := blk_frozen BK172.out 5
                        go_wp2_with (first | ((with_reducible refine gate_callee (f := 39) rfl ?_); refine goesL_ (some 84) rfl rfl Try.func39 (by kernel_rfl) rfl #[.agg #[.int .i64 a0_0, .int .i64 a0_1, .int .i64 a0_2, .slice A0_3 l0_3.length c0_3, .slice A0_4 l0_4.length c0_4, .int .i64 a0_5], .int .i64 x5_2, .int .i64 x65_3, .int .i64 x7_4] rfl (by (try simp only [List.map_toArray, List.map_cons, List.map_nil]); first | done | rfl | (simp only [List.length_drop, List.length_take]; rfl)) ?_; (with_reducible refine (impl_charging_after.calls a0_0 a0_1 a0_2 _ _ l0_3 _ _ l0_4 a0_5 x5_2 x65_3 x7_4 t190 false _ ?side1 ?side2 ?side3 ?side4 A49.out).mono ?_); (case side1 => repeat (first | exact (Kd.C_below HR0_3.out HB.out) | (with_reducible refine Kd.C_alloc ?_ _) | (with_reducible refine Kd.C_drewN ?_ _) | (with_reducible refine Kd.C_drew ?_))); (case side2 => exact HC0_3.out); (case side3 => repeat (first | exact (Kd.C_below HR0_4.out HB.out) | (with_reducible refine Kd.C_alloc ?_ _) | (with_reducible refine Kd.C_drewN ?_ _) | (with_reducible refine Kd.C_drew ?_))); (case side4 => exact HC0_4.out); rintro e w68 ⟨rfl, hb⟩; refine ⟨_, rfl, ?_⟩; have n0_ := Aside0.mk (Kd.S_below (by (with_reducible repeat (first | apply Kd.S_alloc | apply Kd.S_drewN | apply Kd.S_drew)); exact HO_3.out) hb); have n1_ := Aside0.mk (blk_below (g := gb172) (o := .cells #[.int .i64 a0_0, .int .i64 a0_1, .int .i64 a0_2, .slice A0_3 l0_3.length c0_3, .slice A0_4 l0_4.length c0_4, .int .i64 a0_5] 55 (0, 0)) (by (with_reducible repeat (first | refine blk_drewN ?_ _ | refine blk_drew ?_ | refine blk_alloc ?_ _)); exact BK172.out) hb); have n2_ := Aside0.mk (below_step (by repeat (first | (with_reducible first | exact HB.out | apply below_alloc | apply pw_below_drewN | apply below_drew1 | refine below_set ?_ GE172.out) | exact HB.out)) hb); clear HO_3; clear BK172; clear HB; have HO_3 := n0_; have BK172 := n1_; have HB := n2_; clear n0_ n1_ n2_; (try clear hb); (try clear hb2); (try clear hk); (try clear hi)))
                        (try simp only [← hl3_4])
                        go_roundg k4
                        case measure => have := HK1.out; have := HK2.out; have := HK3.out; have := HK4.out; omega
                        case rel => exact ⟨(x3_4), (wrap64 (x7_4 + 1)), (by first | rfl | (simp; done) | (simp [*]; done)), H', ⟨by have := HK1.out; have := HK2.out; have := HK3.out; have := HK4.out; omega⟩, ⟨by (try simp only [hl3_1]); (try simp only [hl3_2]); (try simp only [hl3_3]); (try simp only [hl3_4]); (with_reducible repeat (first | apply Kd.S_alloc | apply Kd.S_drewN | apply Kd.S_drew)); exact HO_3.out⟩, ⟨by (try simp only [hl3_1]); (try simp only [hl3_2]); (try simp only [hl3_3]); (try simp only [hl3_4]); (with_reducible repeat (first | refine blk_drewN ?_ _ | refine blk_drew ?_ | refine blk_alloc ?_ _)); exact BK172.out⟩, ⟨by repeat (first | (with_reducible first | exact HB.out | apply below_alloc | apply pw_below_drewN | apply below_drew1 | refine below_set ?_ GE172.out) | exact HB.out)⟩⟩
                      ·rw [if_neg c48] at H
                       have c48b0 : decide (x7_4 ≤ a0_1) = false := decide_eq_false c48
                       clear c48
                       have H' := Aside0.mk H
                       clear H
                       have hcz69_0 : wr.cell? ⟨gb172, 0, none⟩ = some (.int .i64 a0_0) := (blk_cell BK172.out 0).trans rfl
                       have hcz69_1 : wr.cell? ⟨gb172, 1, none⟩ = some (.int .i64 a0_1) := (blk_cell BK172.out 1).trans rfl
                       have hcz69_2 : wr.cell? ⟨gb172, 2, none⟩ = some (.int .i64 a0_2) := (blk_cell BK172.out 2).trans rfl
                       have hcz69_3 : wr.cell? ⟨gb172, 3, none⟩ = some (.slice A0_3 l0_3.length c0_3) := (blk_cell BK172.out 3).trans rfl
                       have hcz69_4 : wr.cell? ⟨gb172, 4, none⟩ = some (.slice A0_4 l0_4.length c0_4) := (blk_cell BK172.out 4).trans rfl
                       have hcz69_5 : wr.cell? ⟨gb172, 5, none⟩ = some (.int .i64 a0_5) := (blk_cell BK172.out 5).trans rfl
                       have hfz69_0 := blk_frozen BK172.out 0
                       have hfz69_1 := blk_frozen BK172.out 1
                       have hfz69_2 := blk_frozen BK172.out 2
                       have hfz69_3 := blk_frozen BK172.out 3
                       have hfz69_4 := blk_frozen BK172.out 4
                       have hfz69_5 := blk_frozen BK172.out 5
                       go_wp2
                       (try simp only [← hl3_3, ← hl3_4])
                       go_roundg k4
                       case measure => have := HK1.out; have := HK2.out; have := HK3.out; have := HK4.out; omega
                       case rel => exact ⟨(x3_4), (wrap64 (x65_3 + 1)), (by first | rfl | (simp; done) | (simp [*]; done)), H', ⟨by have := HK1.out; have := HK2.out; have := HK3.out; have := HK4.out; omega⟩, ⟨by (try simp only [hl3_1]); (try simp only [hl3_2]); (try simp only [hl3_3]); (try simp only [hl3_4]); (with_reducible repeat (first | apply Kd.S_alloc | apply Kd.S_drewN | apply Kd.S_drew)); exact HO_3.out⟩, ⟨by (try simp only [hl3_1]); (try simp only [hl3_2]); (try simp only [hl3_3]); (try simp only [hl3_4]); (with_reducible repeat (first | refine blk_drewN ?_ _ | refine blk_drew ?_ | refine blk_alloc ?_ _)); exact BK172.out⟩, ⟨by repeat (first | (with_reducible first | exact HB.out | apply below_alloc | apply pw_below_drewN | apply below_drew1 | refine below_set ?_ GE172.out) | exact HB.out)⟩⟩
                   ·rw [if_neg c46] at H
                    have c46b0 : decide (x65_3 < ((rd_L2 y188 x5_2).length : Int)) = false := decide_eq_false c46
                    clear c46
                    have H' := Aside0.mk H
                    clear H
                    go_wp2
                    (try simp only [← hl3_2, ← hl3_3])
                    go_roundg k3
                    case measure => have := HK1.out; have := HK2.out; have := HK3.out; omega
                    case rel => exact ⟨(x3_3), (wrap64 (x5_2 - 1)), (by first | rfl | (simp; done) | (simp [*]; done)), H', ⟨by have := HK1.out; have := HK2.out; have := HK3.out; omega⟩, ⟨by (try simp only [hl3_1]); (try simp only [hl3_2]); (try simp only [hl3_3]); (with_reducible repeat (first | apply Kd.S_alloc | apply Kd.S_drewN | apply Kd.S_drew)); exact HO_3.out⟩, ⟨by (try simp only [hl3_1]); (try simp only [hl3_2]); (try simp only [hl3_3]); (with_reducible repeat (first | refine blk_drewN ?_ _ | refine blk_drew ?_ | refine blk_alloc ?_ _)); exact BK172.out⟩, ⟨by repeat (first | (with_reducible first | exact HB.out | apply below_alloc | apply pw_below_drewN | apply below_drew1 | refine below_set ?_ GE172.out) | exact HB.out)⟩⟩
                ·rw [if_neg c38] at H
                 exact absurd H (by simp)
               ·rw [if_neg c37] at H
                exact absurd H (by simp)
              ·rw [if_neg c36] at H
               exact absurd H (by simp)
             ·rw [if_neg c35] at H
              exact absurd H (by simp)
            ·rw [if_neg c33] at H
             have c33b0 : decide (0 ≤ x5_2) = false := decide_eq_false c33
             clear c33
             obtain rfl := Option.some.inj H
             go_wp2
             go_ret
             exact ⟨_, by first | rfl | (simp [errW_none, errW_some] <;> rfl) | (simp only [← hji2, ← hji5]; first | rfl | (simp [errW_none, errW_some] <;> rfl)) | (simp [*, errW_none, errW_some] <;> rfl), by (with_reducible repeat (first | apply Kd.S_alloc | apply Kd.S_drewN | apply Kd.S_drew)); exact HO_3.out, by repeat (first | (with_reducible first | exact HB.out | apply below_alloc | apply pw_below_drewN | apply below_drew1 | refine below_set ?_ GE172.out) | exact HB.out)⟩
      ·rw [if_neg c9] at H
       exact absurd H (by simp)
     ·rw [if_neg c8] at H
      exact absurd H (by simp)
    ·rw [if_neg c7] at H
     exact absurd H (by simp)
   ·rw [if_neg c6] at H
    exact absurd H (by simp)
  ·rw [if_neg c4] at H
   exact absurd H (by simp)
 ·rw [if_neg c3] at H
  exact absurd H (by simp)

end Go.Proofs.Ytpdgicpgjmibgaa.PFnExactCountChargings
