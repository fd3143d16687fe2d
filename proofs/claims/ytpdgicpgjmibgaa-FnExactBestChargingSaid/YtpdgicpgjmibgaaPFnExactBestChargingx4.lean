-- written by wip/xprint.py, a program of this session, for this claim; not trusted: Lean checks it.
import Derived.Test.YtpdgicpgjmibgaaPFnExactBestChargingx0
import Derived.Test.YtpdgicpgjmibgaaPFnExactBestChargingx1
import Derived.Test.YtpdgicpgjmibgaaPFnExactBestChargingx2
import Derived.Test.YtpdgicpgjmibgaaPFnExactBestChargingx3
namespace Go.Proofs.Ytpdgicpgjmibgaa.PFnExactBestCharging
open Go.RowKit Go.Proofs.YtpdgicpgjmibgaaW.PrintWords Go.Proofs.YtpdgicpgjmibgaaW.PrintLast Go.Proofs.YtpdgicpgjmibgaaW.PrintMore
attribute [local go_sem] max2_int min2_int max_two min_two max_three min_three max_four min_four   -- for this text's walks alone
set_option linter.unusedVariables false
set_option linter.unusedSimpArgs false

/-! ### spec_BestCharging: function 25 -/
mutual
def spec_BestCharging.j0 : Nat → Int → List Int → List Int → Int → Int → Bool → Int → Int → Int → Option (List Int × Int × Int)
 | 0, _, _, _, _, _, _, _, _, _ => none
 | k + 1, x1, x2, x3, x4, x13, x38, x167000, x167001, x167002 => if x38 = true then (spec_BestCharging.j1 k x1 x2 x3 x4 2 x167000 x167001 x167002) else (spec_BestCharging.j1 k x1 x2 x3 x4 x13 x167000 x167001 x167002)
def spec_BestCharging.j1 : Nat → Int → List Int → List Int → Int → Int → Int → Int → Int → Option (List Int × Int × Int)
 | 0, _, _, _, _, _, _, _, _ => none
 | k + 1, x1, x2, x3, x4, x13, x167000, x167001, x167002 => if x13 = 0 then ((spec_l14Table.f k [(⟨x167000, x167001, x167002⟩ : S26)] x2 x3 x4).bind fun t169 => (if 0 < (t169.length : Int) then (if 0 ≤ x1 then (if x1 < ((rd_L2 t169 0).length : Int) then (if (rd (rd_L2 t169 0) x1) < 0 then (some (([] : List Int), 0, 3)) else (spec_BestCharging.l0 k x1 x2 x3 x4 t169 (([] : List Int)) x1 0 x167000 x167001 x167002)) else (none)) else (none)) else (none))) else (some (([] : List Int), 0, x13))
def spec_BestCharging.l0 : Nat → Int → List Int → List Int → Int → List (List Int) → List Int → Int → Int → Int → Int → Int → Option (List Int × Int × Int)
 | 0, _, _, _, _, _, _, _, _, _, _, _ => none
 | k + 1, x1, x2, x3, x4, x14, x15, x16, x17, x167000, x167001, x167002 => if x17 < (x2.length : Int) then (spec_BestCharging.l1 k x1 x2 x3 x4 x14 x15 x16 x17 (wrap64 (-x167001)) x167000 x167001 x167002) else (if 0 < (x14.length : Int) then (if 0 ≤ x1 then (if x1 < ((rd_L2 x14 0).length : Int) then (some (x15, rd (rd_L2 x14 0) x1, 0)) else (none)) else (none)) else (none))
def spec_BestCharging.l1 : Nat → Int → List Int → List Int → Int → List (List Int) → List Int → Int → Int → Int → Int → Int → Int → Option (List Int × Int × Int)
 | 0, _, _, _, _, _, _, _, _, _, _, _, _ => none
 | k + 1, x1, x2, x3, x4, x14, x15, x16, x17, x18, x167000, x167001, x167002 => if x18 ≤ x167001 then ((spec_l14After.f [(⟨x167000, x167001, x167002⟩ : S26)] x16 x18).bind fun bt179 => (if bt179.2 = true then (if 0 ≤ x17 then (if x17 < (x2.length : Int) then ((spec_l00In.f (wrap64 ((rd x2 x17) + x18)) 0 x4).bind fun t182 => (if t182 = true then (if 0 ≤ (wrap64 (x17 + 1)) then (if (wrap64 (x17 + 1)) < (x14.length : Int) then (if 0 ≤ bt179.1 then (if bt179.1 < ((rd_L2 x14 (wrap64 (x17 + 1))).length : Int) then (if (rd (rd_L2 x14 (wrap64 (x17 + 1))) bt179.1) ≥ 0 then (if x17 < (x3.length : Int) then (if x17 < (x14.length : Int) then (if 0 ≤ x16 then (if x16 < ((rd_L2 x14 x17).length : Int) then (spec_BestCharging.j4 k x1 x2 x3 x4 x14 x15 x16 x17 x18 bt179.1 ((wrap64 ((rd (rd_L2 x14 (wrap64 (x17 + 1))) bt179.1) + (wrap64 ((wrap64 ((rd x2 x17) + x18)) * (rd x3 x17))))) == (rd (rd_L2 x14 x17) x16)) x167000 x167001 x167002) else (none)) else (none)) else (none)) else (none)) else (spec_BestCharging.j4 k x1 x2 x3 x4 x14 x15 x16 x17 x18 bt179.1 false x167000 x167001 x167002)) else (none)) else (none)) else (none)) else (none)) else (spec_BestCharging.j4 k x1 x2 x3 x4 x14 x15 x16 x17 x18 bt179.1 false x167000 x167001 x167002))) else (none)) else (none)) else (spec_BestCharging.j4 k x1 x2 x3 x4 x14 x15 x16 x17 x18 bt179.1 false x167000 x167001 x167002))) else (spec_BestCharging.l0 k x1 x2 x3 x4 x14 x15 x16 (wrap64 (x17 + 1)) x167000 x167001 x167002)
def spec_BestCharging.j4 : Nat → Int → List Int → List Int → Int → List (List Int) → List Int → Int → Int → Int → Int → Bool → Int → Int → Int → Option (List Int × Int × Int)
 | 0, _, _, _, _, _, _, _, _, _, _, _, _, _, _ => none
 | k + 1, x1, x2, x3, x4, x14, x15, x16, x17, x18, x19, x127, x167000, x167001, x167002 => if x127 = true then (if x15.length < 17592186044416 then (spec_BestCharging.l0 k x1 x2 x3 x4 x14 (x15 ++ [x18]) x19 (wrap64 (x17 + 1)) x167000 x167001 x167002) else (none)) else (spec_BestCharging.l1 k x1 x2 x3 x4 x14 x15 x16 x17 (wrap64 (x18 + 1)) x167000 x167001 x167002)
end
def spec_BestCharging.f (k : Nat) (a0_0 : Int) (a0_1 : Int) (a0_2 : Int) (a1 : Int) (l2 : List Int) (l3 : List Int) (a4 : Int) : Option (List Int × Int × Int) := (spec_l14Ask.f k [(⟨a0_0, a0_1, a0_2⟩ : S26)] a1 l2 a4).bind fun t167 => (if t167 = 0 then ((spec_l14Hours.f k l3).bind fun t168 => (if t168 = true then (spec_BestCharging.j0 k a1 l2 l3 a4 t167 ((l3.length : Int) != (l2.length : Int)) a0_0 a0_1 a0_2) else (spec_BestCharging.j0 k a1 l2 l3 a4 t167 true a0_0 a0_1 a0_2))) else (spec_BestCharging.j0 k a1 l2 l3 a4 t167 false a0_0 a0_1 a0_2))
theorem spec_BestCharging.mono_l : ∀ k, (∀ y0 y1 y2 y3 y4 y5 y6 y7 y8, LeO (spec_BestCharging.j0 k y0 y1 y2 y3 y4 y5 y6 y7 y8) (spec_BestCharging.j0 (k + 1) y0 y1 y2 y3 y4 y5 y6 y7 y8)) ∧ (∀ y0 y1 y2 y3 y4 y5 y6 y7, LeO (spec_BestCharging.j1 k y0 y1 y2 y3 y4 y5 y6 y7) (spec_BestCharging.j1 (k + 1) y0 y1 y2 y3 y4 y5 y6 y7)) ∧ (∀ y0 y1 y2 y3 y4 y5 y6 y7 y8 y9 y10, LeO (spec_BestCharging.l0 k y0 y1 y2 y3 y4 y5 y6 y7 y8 y9 y10) (spec_BestCharging.l0 (k + 1) y0 y1 y2 y3 y4 y5 y6 y7 y8 y9 y10)) ∧ (∀ y0 y1 y2 y3 y4 y5 y6 y7 y8 y9 y10 y11, LeO (spec_BestCharging.l1 k y0 y1 y2 y3 y4 y5 y6 y7 y8 y9 y10 y11) (spec_BestCharging.l1 (k + 1) y0 y1 y2 y3 y4 y5 y6 y7 y8 y9 y10 y11)) ∧ (∀ y0 y1 y2 y3 y4 y5 y6 y7 y8 y9 y10 y11 y12 y13, LeO (spec_BestCharging.j4 k y0 y1 y2 y3 y4 y5 y6 y7 y8 y9 y10 y11 y12 y13) (spec_BestCharging.j4 (k + 1) y0 y1 y2 y3 y4 y5 y6 y7 y8 y9 y10 y11 y12 y13))
 | 0 => ⟨fun _ _ _ _ _ _ _ _ _ r h => by simp [spec_BestCharging.j0] at h, fun _ _ _ _ _ _ _ _ r h => by simp [spec_BestCharging.j1] at h, fun _ _ _ _ _ _ _ _ _ _ _ r h => by simp [spec_BestCharging.l0] at h, fun _ _ _ _ _ _ _ _ _ _ _ _ r h => by simp [spec_BestCharging.l1] at h, fun _ _ _ _ _ _ _ _ _ _ _ _ _ _ r h => by simp [spec_BestCharging.j4] at h⟩
 | k + 1 => by
  obtain ⟨ih0, ih1, ih2, ih3, ih4⟩ := spec_BestCharging.mono_l k
  refine ⟨?_, ?_, ?_, ?_, ?_⟩
  ·intro y0 y1 y2 y3 y4 y5 y6 y7 y8
   unfold spec_BestCharging.j0
   repeat' first
   | (with_reducible exact ih0 _ _ _ _ _ _ _ _ _)
   | (with_reducible exact ih1 _ _ _ _ _ _ _ _)
   | (with_reducible exact ih2 _ _ _ _ _ _ _ _ _ _ _)
   | (with_reducible exact ih3 _ _ _ _ _ _ _ _ _ _ _ _)
   | (with_reducible exact ih4 _ _ _ _ _ _ _ _ _ _ _ _ _ _)
   | (with_reducible exact spec_l14Ask.mono _ _ _ _ _)
   | (with_reducible exact spec_l14Hours.mono _ _)
   | (with_reducible exact spec_l14Table.mono _ _ _ _ _)
   | (with_reducible exact LeO.refl _)
   | (with_reducible exact LeO.none _)
   | (with_reducible refine LeO.ite ?_ ?_)
   | (with_reducible refine LeO.bind ?_ (fun _ => ?_))
   | exact ih0 _ _ _ _ _ _ _ _ _
   | exact ih1 _ _ _ _ _ _ _ _
   | exact ih2 _ _ _ _ _ _ _ _ _ _ _
   | exact ih3 _ _ _ _ _ _ _ _ _ _ _ _
   | exact ih4 _ _ _ _ _ _ _ _ _ _ _ _ _ _
   | exact spec_l14Ask.mono _ _ _ _ _
   | exact spec_l14Hours.mono _ _
   | exact spec_l14Table.mono _ _ _ _ _
   | exact LeO.none _
   | refine LeO.ite ?_ ?_
   | refine LeO.bind ?_ (fun _ => ?_)
  ·intro y0 y1 y2 y3 y4 y5 y6 y7
   unfold spec_BestCharging.j1
   repeat' first
   | (with_reducible exact ih0 _ _ _ _ _ _ _ _ _)
   | (with_reducible exact ih1 _ _ _ _ _ _ _ _)
   | (with_reducible exact ih2 _ _ _ _ _ _ _ _ _ _ _)
   | (with_reducible exact ih3 _ _ _ _ _ _ _ _ _ _ _ _)
   | (with_reducible exact ih4 _ _ _ _ _ _ _ _ _ _ _ _ _ _)
   | (with_reducible exact spec_l14Ask.mono _ _ _ _ _)
   | (with_reducible exact spec_l14Hours.mono _ _)
   | (with_reducible exact spec_l14Table.mono _ _ _ _ _)
   | (with_reducible exact LeO.refl _)
   | (with_reducible exact LeO.none _)
   | (with_reducible refine LeO.ite ?_ ?_)
   | (with_reducible refine LeO.bind ?_ (fun _ => ?_))
   | exact ih0 _ _ _ _ _ _ _ _ _
   | exact ih1 _ _ _ _ _ _ _ _
   | exact ih2 _ _ _ _ _ _ _ _ _ _ _
   | exact ih3 _ _ _ _ _ _ _ _ _ _ _ _
   | exact ih4 _ _ _ _ _ _ _ _ _ _ _ _ _ _
   | exact spec_l14Ask.mono _ _ _ _ _
   | exact spec_l14Hours.mono _ _
   | exact spec_l14Table.mono _ _ _ _ _
   | exact LeO.none _
   | refine LeO.ite ?_ ?_
   | refine LeO.bind ?_ (fun _ => ?_)
  ·intro y0 y1 y2 y3 y4 y5 y6 y7 y8 y9 y10
   unfold spec_BestCharging.l0
   repeat' first
   | (with_reducible exact ih0 _ _ _ _ _ _ _ _ _)
   | (with_reducible exact ih1 _ _ _ _ _ _ _ _)
   | (with_reducible exact ih2 _ _ _ _ _ _ _ _ _ _ _)
   | (with_reducible exact ih3 _ _ _ _ _ _ _ _ _ _ _ _)
   | (with_reducible exact ih4 _ _ _ _ _ _ _ _ _ _ _ _ _ _)
   | (with_reducible exact spec_l14Ask.mono _ _ _ _ _)
   | (with_reducible exact spec_l14Hours.mono _ _)
   | (with_reducible exact spec_l14Table.mono _ _ _ _ _)
   | (with_reducible exact LeO.refl _)
   | (with_reducible exact LeO.none _)
   | (with_reducible refine LeO.ite ?_ ?_)
   | (with_reducible refine LeO.bind ?_ (fun _ => ?_))
   | exact ih0 _ _ _ _ _ _ _ _ _
   | exact ih1 _ _ _ _ _ _ _ _
   | exact ih2 _ _ _ _ _ _ _ _ _ _ _
   | exact ih3 _ _ _ _ _ _ _ _ _ _ _ _
   | exact ih4 _ _ _ _ _ _ _ _ _ _ _ _ _ _
   | exact spec_l14Ask.mono _ _ _ _ _
   | exact spec_l14Hours.mono _ _
   | exact spec_l14Table.mono _ _ _ _ _
   | exact LeO.none _
   | refine LeO.ite ?_ ?_
   | refine LeO.bind ?_ (fun _ => ?_)
  ·intro y0 y1 y2 y3 y4 y5 y6 y7 y8 y9 y10 y11
   unfold spec_BestCharging.l1
   repeat' first
   | (with_reducible exact ih0 _ _ _ _ _ _ _ _ _)
   | (with_reducible exact ih1 _ _ _ _ _ _ _ _)
   | (with_reducible exact ih2 _ _ _ _ _ _ _ _ _ _ _)
   | (with_reducible exact ih3 _ _ _ _ _ _ _ _ _ _ _ _)
   | (with_reducible exact ih4 _ _ _ _ _ _ _ _ _ _ _ _ _ _)
   | (with_reducible exact spec_l14Ask.mono _ _ _ _ _)
   | (with_reducible exact spec_l14Hours.mono _ _)
   | (with_reducible exact spec_l14Table.mono _ _ _ _ _)
   | (with_reducible exact LeO.refl _)
   | (with_reducible exact LeO.none _)
   | (with_reducible refine LeO.ite ?_ ?_)
   | (with_reducible refine LeO.bind ?_ (fun _ => ?_))
   | exact ih0 _ _ _ _ _ _ _ _ _
   | exact ih1 _ _ _ _ _ _ _ _
   | exact ih2 _ _ _ _ _ _ _ _ _ _ _
   | exact ih3 _ _ _ _ _ _ _ _ _ _ _ _
   | exact ih4 _ _ _ _ _ _ _ _ _ _ _ _ _ _
   | exact spec_l14Ask.mono _ _ _ _ _
   | exact spec_l14Hours.mono _ _
   | exact spec_l14Table.mono _ _ _ _ _
   | exact LeO.none _
   | refine LeO.ite ?_ ?_
   | refine LeO.bind ?_ (fun _ => ?_)
  ·intro y0 y1 y2 y3 y4 y5 y6 y7 y8 y9 y10 y11 y12 y13
   unfold spec_BestCharging.j4
   repeat' first
   | (with_reducible exact ih0 _ _ _ _ _ _ _ _ _)
   | (with_reducible exact ih1 _ _ _ _ _ _ _ _)
   | (with_reducible exact ih2 _ _ _ _ _ _ _ _ _ _ _)
   | (with_reducible exact ih3 _ _ _ _ _ _ _ _ _ _ _ _)
   | (with_reducible exact ih4 _ _ _ _ _ _ _ _ _ _ _ _ _ _)
   | (with_reducible exact spec_l14Ask.mono _ _ _ _ _)
   | (with_reducible exact spec_l14Hours.mono _ _)
   | (with_reducible exact spec_l14Table.mono _ _ _ _ _)
   | (with_reducible exact LeO.refl _)
   | (with_reducible exact LeO.none _)
   | (with_reducible refine LeO.ite ?_ ?_)
   | (with_reducible refine LeO.bind ?_ (fun _ => ?_))
   | exact ih0 _ _ _ _ _ _ _ _ _
   | exact ih1 _ _ _ _ _ _ _ _
   | exact ih2 _ _ _ _ _ _ _ _ _ _ _
   | exact ih3 _ _ _ _ _ _ _ _ _ _ _ _
   | exact ih4 _ _ _ _ _ _ _ _ _ _ _ _ _ _
   | exact spec_l14Ask.mono _ _ _ _ _
   | exact spec_l14Hours.mono _ _
   | exact spec_l14Table.mono _ _ _ _ _
   | exact LeO.none _
   | refine LeO.ite ?_ ?_
   | refine LeO.bind ?_ (fun _ => ?_)
theorem spec_BestCharging.mono : ∀ a0 a1 a2 a3 a4 a5 a6 k, LeO (spec_BestCharging.f k a0 a1 a2 a3 a4 a5 a6) (spec_BestCharging.f (k + 1) a0 a1 a2 a3 a4 a5 a6) := by
 intro a0 a1 a2 a3 a4 a5 a6 k
 obtain ⟨ih0, ih1, ih2, ih3, ih4⟩ := spec_BestCharging.mono_l k
 unfold spec_BestCharging.f
 repeat' first
   | (with_reducible exact ih0 _ _ _ _ _ _ _ _ _)
   | (with_reducible exact ih1 _ _ _ _ _ _ _ _)
   | (with_reducible exact ih2 _ _ _ _ _ _ _ _ _ _ _)
   | (with_reducible exact ih3 _ _ _ _ _ _ _ _ _ _ _ _)
   | (with_reducible exact ih4 _ _ _ _ _ _ _ _ _ _ _ _ _ _)
   | (with_reducible exact spec_l14Ask.mono _ _ _ _ _)
   | (with_reducible exact spec_l14Hours.mono _ _)
   | (with_reducible exact spec_l14Table.mono _ _ _ _ _)
   | (with_reducible exact LeO.refl _)
   | (with_reducible exact LeO.none _)
   | (with_reducible refine LeO.ite ?_ ?_)
   | (with_reducible refine LeO.bind ?_ (fun _ => ?_))
   | exact ih0 _ _ _ _ _ _ _ _ _
   | exact ih1 _ _ _ _ _ _ _ _
   | exact ih2 _ _ _ _ _ _ _ _ _ _ _
   | exact ih3 _ _ _ _ _ _ _ _ _ _ _ _
   | exact ih4 _ _ _ _ _ _ _ _ _ _ _ _ _ _
   | exact spec_l14Ask.mono _ _ _ _ _
   | exact spec_l14Hours.mono _ _
   | exact spec_l14Table.mono _ _ _ _ _
   | exact LeO.none _
   | refine LeO.ite ?_ ?_
   | refine LeO.bind ?_ (fun _ => ?_)
def spec_BestCharging.T18 : Bool × List (List Nat × List Nat) := (true, [([], []), ([0], [0]), ([1], [1]), ([1], [1]), ([2, 3, 1], [1, 2, 3]), ([4, 1], [1, 4]), ([1], [1]), ([5, 6, 1], [1, 5, 6]), ([1], [1]), ([7, 8, 1, 1], [1, 7, 8]), ([1, 9], [1, 9]), ([10, 9], [10]), ([11], [11]), ([11], [11]), ([13, 11], [11, 13]), ([12, 14, 11], [11, 12, 14]), ([15, 11], [11, 15]), ([11], [11]), ([16, 17, 11], [11, 16, 17]), ([18, 11], [11, 18]), ([19, 11], [11, 19]), ([11, 20], [11, 20]), ([21, 11], [21]), ([22], [22]), ([22], [22]), ([24, 22], [22, 24]), ([23, 25, 22], [22, 23, 25]), ([26, 22], [22, 26]), ([22], [22]), ([27, 28, 22], [22, 27, 28]), ([29, 22], [22, 29]), ([22], [22]), ([22], [22]), ([31, 32, 22], [22, 31, 32]), ([33, 22], [22, 33]), ([22], [22]), ([34, 35, 22], [22, 34, 35]), ([22], [22]), ([22], [22]), ([37, 38, 22], [22, 37, 38]), ([39, 22], [22, 39]), ([36, 40, 22], [22, 36, 40]), ([30, 41, 22], [22, 30, 41]), ([22], [22]), ([22], [22]), ([43, 44, 22], [22, 43, 44]), ([45, 22], [22, 45]), ([22], [22]), ([46, 47, 22], [22, 46, 47]), ([48, 22], [22, 48]), ([42, 49, 22], [22, 42, 49]), ([22, 50], [22, 50])])
def spec_BestCharging.B18 : List Nat := [0, 1, 3, 3, 15, 31, 3, 127, 3, 511, 1023, 2047, 4095, 4095, 12287, 32767, 65535, 4095, 262143, 524287, 1048575, 2097151, 4194303, 8388607, 8388607, 25165823, 67108863, 134217727, 8388607, 536870911, 1073741823, 8388607, 8388607, 6450839551, 15040774143, 8388607, 66580381695, 8388607, 8388607, 412325249023, 962081062911, 2196884160511, 4398046511103, 8388607, 8388607, 26388287455231, 61572659544063, 8388607, 272678892077055, 554153868787711, 1125899906842623, 2251799813685247]
theorem spec_BestCharging.tab18 : rtab .any (opsOf Try.f25 18) = spec_BestCharging.T18 := by kernel_rfl
theorem spec_BestCharging.bits18 : waitsOk spec_BestCharging.T18.2 spec_BestCharging.B18 = true := by kernel_rfl
def spec_BestCharging.T21 : Bool × List (List Nat × List Nat) := (true, [([], []), ([], []), ([1], [1]), ([2], [2]), ([], []), ([3, 4], [3, 4]), ([5], [5]), ([0, 0], [0]), ([6, 7, 0, 1, 2, 3, 4, 5, 6, 7], [6]), ([8, 0, 1, 2, 3, 4, 5, 6, 7, 8], [])])
def spec_BestCharging.B21 : List Nat := [0, 0, 2, 6, 0, 30, 62, 1, 255, 511]
theorem spec_BestCharging.tab21 : rtab .any (opsOf Try.f25 21) = spec_BestCharging.T21 := by kernel_rfl
theorem spec_BestCharging.bits21 : waitsOk spec_BestCharging.T21.2 spec_BestCharging.B21 = true := by kernel_rfl
set_option maxHeartbeats 8000000 in
set_option maxRecDepth 100000 in
theorem spec_BestCharging.calls (k : Nat) (a0_0 : Int) (a0_1 : Int) (a0_2 : Int) (a1 : Int) (A2 : Option Addr) (c2 : Nat) (l2 : List Int) (A3 : Option Addr) (c3 : Nat) (l3 : List Int) (a4 : Int) (r1 : List Int) (r2 : Int) (r3 : Int) (w : World) (hr2 : Kd.C (Kd.int .i64) w A2 l2.length l2) (hc2 : l2.length ≤ c2) (hr3 : Kd.C (Kd.int .i64) w A3 l3.length l3) (hc3 : l3.length ≤ c3) (h : spec_BestCharging.f k a0_0 a0_1 a0_2 a1 l2 l3 a4 = some (r1, r2, r3)) :
  Calls Try.prog 25 #[.agg #[.int .i64 a0_0, .int .i64 a0_1, .int .i64 a0_2], .int .i64 a1, .slice A2 l2.length c2, .slice A3 l3.length c3, .int .i64 a4] w fun e w' => ∃ v0_ : Value, e = .returned (.tuple #[v0_, .int .i64 r2, .int .i64 r3]) ∧ Kd.R (Kd.int .i64) 2 w' w.heap.size (fun _ => True) v0_ r1 ∧ Below w.heap.size w w' := by
 have hu26 := Try.underlying26
 have HR2 := Aside0.mk hr2
 have HC2 := Aside0.mk hc2
 clear hr2 hc2
 have HR3 := Aside0.mk hr3
 have HC3 := Aside0.mk hc3
 clear hr3 hc3
 have HB := Aside0.mk (Below.refl w.heap.size w)
 have H : ((spec_l14Ask.f k [(⟨a0_0, a0_1, a0_2⟩ : S26)] a1 l2 a4).bind fun t167 => (if t167 = 0 then ((spec_l14Hours.f k l3).bind fun t168 => (if t168 = true then (spec_BestCharging.j0 k a1 l2 l3 a4 t167 ((l3.length : Int) != (l2.length : Int)) a0_0 a0_1 a0_2) else (spec_BestCharging.j0 k a1 l2 l3 a4 t167 true a0_0 a0_1 a0_2))) else (spec_BestCharging.j0 k a1 l2 l3 a4 t167 false a0_0 a0_1 a0_2))) = some (r1, r2, r3) := h
 clear h
 replace H := Option.bind_eq_some_iff.mp H
 obtain ⟨t167, A60, H⟩ := H
 replace H : (if t167 = 0 then ((spec_l14Hours.f k l3).bind fun t168 => (if t168 = true then (spec_BestCharging.j0 k a1 l2 l3 a4 t167 ((l3.length : Int) != (l2.length : Int)) a0_0 a0_1 a0_2) else (spec_BestCharging.j0 k a1 l2 l3 a4 t167 true a0_0 a0_1 a0_2))) else (spec_BestCharging.j0 k a1 l2 l3 a4 t167 false a0_0 a0_1 a0_2)) = some (r1, r2, r3) := H
 have A6 := Aside0.mk A60
 clear A60
 have HC7 := Aside0.mk H
 clear H
 go_enter Try.func25, Try.ntmps25
 go_upto_region 2 with (first | ((with_reducible refine gate_dst (N := 5) rfl ?_); (try (refine gate_guard (by rfl) ?_; dsimp only)); refine box_event ?hg (N := 5) ?hd (cs := #[.int .i64 a0_0, .int .i64 a0_1, .int .i64 a0_2]) (t := 26) ?hr ?_; (case hd => rfl); (case hg => rfl); (case hr => first | (go_simp; done) | (go_simp; rfl)); intro gb166 hg w8 hbox hb; have n0_ := Aside0.mk (below_step (by repeat (first | (with_reducible first | exact HB.out | apply below_alloc | apply pw_below_drewN | apply below_drew1) | exact HB.out)) hb); have n1_ := Aside0.mk (hbox); have n2_ := Aside0.mk ((by rw [hg]; exact (below_size (by repeat (first | (with_reducible first | exact HB.out | apply below_alloc | apply pw_below_drewN | apply below_drew1) | exact HB.out))) : w.heap.size ≤ gb166)); have n3_ := Aside0.mk ((by rw [hg]; exact (below_size (by repeat (first | (with_reducible first | exact HB.out | apply below_alloc | apply pw_below_drewN | apply below_drew1) | exact HB.out))) : w.heap.size ≤ gb166)); clear HB; have HB := n0_; have BK166 := n1_; have GW166 := n2_; have GE166 := n3_; clear n0_ n1_ n2_ n3_; clear hb hbox hg) | ((with_reducible refine gate_callee (f := 43) rfl ?_); refine goesL_ (some 24) rfl rfl Try.func43 (by kernel_rfl) rfl #[.pointer (some ⟨gb166, 0, none⟩), .int .i64 a1, .slice A2 l2.length c2, .int .i64 a4] rfl (by (try simp only [List.map_toArray, List.map_cons, List.map_nil]); first | done | rfl | (simp only [List.length_drop, List.length_take]; rfl)) ?_; (with_reducible refine (spec_l14Ask.calls k _ 1 [(⟨a0_0, a0_1, a0_2⟩ : S26)] a1 _ _ l2 a4 t167 _ ?side1 ?side2 ?side3 ?side4 A6.out).mono ?_); (case side1 => exact Kd.C_one (k26_mk _ (⟨a0_0, a0_1, a0_2⟩ : S26) ) (cells_blk (cs := #[.int .i64 a0_0, .int .i64 a0_1, .int .i64 a0_2]) (t := 26) (by (with_reducible repeat (first | refine blk_drewN ?_ _ | refine blk_drew ?_ | refine blk_alloc ?_ _)); exact BK166.out))); (case side2 => exact Nat.le_refl _); (case side3 => repeat (first | exact (Kd.C_below HR2.out HB.out) | (with_reducible refine Kd.C_alloc ?_ _) | (with_reducible refine Kd.C_drewN ?_ _) | (with_reducible refine Kd.C_drew ?_))); (case side4 => exact HC2.out); rintro e w' ⟨rfl, ⟨nd, rfl⟩⟩; refine ⟨_, rfl, ?_⟩; (try (rw [drewN_self w8]; generalize hq_ : World.drewN w8 _ = w8; have n0_ : Aside0 (w8.heap[gb166]? = some (.cells #[.int .i64 a0_0, .int .i64 a0_1, .int .i64 a0_2] 26 (0, 0))) := ⟨by rw [← hq_]; exact (by (with_reducible repeat (first | refine blk_drewN ?_ _ | refine blk_drew ?_ | refine blk_alloc ?_ _)); exact BK166.out)⟩; have n1_ : Aside0 (Below w.heap.size w w8) := ⟨by rw [← hq_]; exact (by repeat (first | (with_reducible first | exact HB.out | apply below_alloc | apply pw_below_drewN | apply below_drew1 | refine below_set ?_ GE166.out) | exact HB.out))⟩; clear BK166 HB hq_; have BK166 := n0_; have HB := n1_; clear n0_ n1_))))
 (try simp only [Act.put, List.setIfInBounds_toArray, List.set_cons_zero, List.set_cons_succ])
 go_cut [38] (fun v38 wc => ∃ (kq : Nat) (x38_6 : Bool), v38 = .bool x38_6 ∧ Aside0 (spec_BestCharging.j0 kq a1 l2 l3 a4 t167 x38_6 a0_0 a0_1 a0_2 = some (r1, r2, r3)) ∧ Aside0 (kq ≤ k) ∧ Aside0 (wc.heap[gb166]? = some (.cells #[.int .i64 a0_0, .int .i64 a0_1, .int .i64 a0_2] 26 (0, 0))) ∧ Aside0 (Below w.heap.size w wc))
 case first =>
  have H := HC7.out
  clear HC7
  by_cases c9 : t167 = 0
  ·rw [if_pos c9] at H
   have c9b0 : (t167 == 0) = true := beq_iff_eq.mpr c9
   have c9b1 : (t167 != 0) = false := bne_eq_false_iff_eq.mpr c9
   clear c9
   (first | rw [c9b0] | (simp only [i64_w, i32_w]; rw [c9b0]) | skip)
   replace H := Option.bind_eq_some_iff.mp H
   obtain ⟨t168, A100, H⟩ := H
   replace H : (if t168 = true then (spec_BestCharging.j0 k a1 l2 l3 a4 t167 ((l3.length : Int) != (l2.length : Int)) a0_0 a0_1 a0_2) else (spec_BestCharging.j0 k a1 l2 l3 a4 t167 true a0_0 a0_1 a0_2)) = some (r1, r2, r3) := H
   have A10 := Aside0.mk A100
   clear A100
   by_cases c11 : t168 = true
   ·subst c11
    have H1 : (spec_BestCharging.j0 k a1 l2 l3 a4 t167 ((l3.length : Int) != (l2.length : Int)) a0_0 a0_1 a0_2) = some (r1, r2, r3) := by rw [if_pos rfl] at H; exact H
    clear H
    have H := H1
    clear H1
    have H' := Aside0.mk H
    clear H
    go_wp2_with (first | (go_at_call 34; (with_reducible refine (spec_l14Hours.calls k _ _ l3 true _ ?side1 ?side2 A10.out).mono ?_); (case side1 => repeat (first | exact (Kd.C_below HR3.out HB.out) | (with_reducible refine Kd.C_alloc ?_ _) | (with_reducible refine Kd.C_drewN ?_ _) | (with_reducible refine Kd.C_drew ?_))); (case side2 => exact HC3.out); rintro e w' ⟨rfl, ⟨nd, rfl⟩⟩; (try (rw [drewN_self w8]; generalize hq_ : World.drewN w8 _ = w8; have n0_ : Aside0 (w8.heap[gb166]? = some (.cells #[.int .i64 a0_0, .int .i64 a0_1, .int .i64 a0_2] 26 (0, 0))) := ⟨by rw [← hq_]; exact (by (with_reducible repeat (first | refine blk_drewN ?_ _ | refine blk_drew ?_ | refine blk_alloc ?_ _)); exact BK166.out)⟩; have n1_ : Aside0 (Below w.heap.size w w8) := ⟨by rw [← hq_]; exact (by repeat (first | (with_reducible first | exact HB.out | apply below_alloc | apply pw_below_drewN | apply below_drew1 | refine below_set ?_ GE166.out) | exact HB.out))⟩; clear BK166 HB hq_; have BK166 := n0_; have HB := n1_; clear n0_ n1_))))
    go_meet
    case rel => exact ⟨_, (((l3.length : Int) != (l2.length : Int))), (by first | rfl | (simp; done) | (simp [*]; done)), H', ⟨by first | omega | exact Nat.le_refl _⟩, ⟨by (with_reducible repeat (first | refine blk_drewN ?_ _ | refine blk_drew ?_ | refine blk_alloc ?_ _)); exact BK166.out⟩, ⟨by repeat (first | (with_reducible first | exact HB.out | apply below_alloc | apply pw_below_drewN | apply below_drew1 | refine below_set ?_ GE166.out) | exact HB.out)⟩⟩
   ·replace c11 := Bool.eq_false_iff.mpr c11
    subst c11
    have H1 : (spec_BestCharging.j0 k a1 l2 l3 a4 t167 true a0_0 a0_1 a0_2) = some (r1, r2, r3) := by rw [if_neg (show ¬ (false = true) by decide)] at H; exact H
    clear H
    have H := H1
    clear H1
    have H' := Aside0.mk H
    clear H
    go_wp2_with (first | (go_at_call 34; (with_reducible refine (spec_l14Hours.calls k _ _ l3 false _ ?side1 ?side2 A10.out).mono ?_); (case side1 => repeat (first | exact (Kd.C_below HR3.out HB.out) | (with_reducible refine Kd.C_alloc ?_ _) | (with_reducible refine Kd.C_drewN ?_ _) | (with_reducible refine Kd.C_drew ?_))); (case side2 => exact HC3.out); rintro e w' ⟨rfl, ⟨nd, rfl⟩⟩; (try (rw [drewN_self w8]; generalize hq_ : World.drewN w8 _ = w8; have n0_ : Aside0 (w8.heap[gb166]? = some (.cells #[.int .i64 a0_0, .int .i64 a0_1, .int .i64 a0_2] 26 (0, 0))) := ⟨by rw [← hq_]; exact (by (with_reducible repeat (first | refine blk_drewN ?_ _ | refine blk_drew ?_ | refine blk_alloc ?_ _)); exact BK166.out)⟩; have n1_ : Aside0 (Below w.heap.size w w8) := ⟨by rw [← hq_]; exact (by repeat (first | (with_reducible first | exact HB.out | apply below_alloc | apply pw_below_drewN | apply below_drew1 | refine below_set ?_ GE166.out) | exact HB.out))⟩; clear BK166 HB hq_; have BK166 := n0_; have HB := n1_; clear n0_ n1_))))
    go_meet
    case rel => exact ⟨_, (true), (by first | rfl | (simp; done) | (simp [*]; done)), H', ⟨by first | omega | exact Nat.le_refl _⟩, ⟨by (with_reducible repeat (first | refine blk_drewN ?_ _ | refine blk_drew ?_ | refine blk_alloc ?_ _)); exact BK166.out⟩, ⟨by repeat (first | (with_reducible first | exact HB.out | apply below_alloc | apply pw_below_drewN | apply below_drew1 | refine below_set ?_ GE166.out) | exact HB.out)⟩⟩
  ·rw [if_neg c9] at H
   have c9b0 : (t167 == 0) = false := beq_eq_false_iff_ne.mpr c9
   have c9b1 : (t167 != 0) = true := bne_iff_ne.mpr c9
   (first | rw [c9b0] | (simp only [i64_w, i32_w]; rw [c9b0]) | skip)
   have H' := Aside0.mk H
   clear H
   go_wp2
   go_meet
   case rel => exact ⟨_, (false), (by first | rfl | (simp; done) | (simp [*]; done)), H', ⟨by first | omega | exact Nat.le_refl _⟩, ⟨by (with_reducible repeat (first | refine blk_drewN ?_ _ | refine blk_drew ?_ | refine blk_alloc ?_ _)); exact BK166.out⟩, ⟨by repeat (first | (with_reducible first | exact HB.out | apply below_alloc | apply pw_below_drewN | apply below_drew1 | refine below_set ?_ GE166.out) | exact HB.out)⟩⟩
 case rest =>
  clear HC7
  try clear c1
  try clear c2
  try clear p2
  try clear c3
  try clear c4
  try clear c9
  try clear c9b0
  try clear c9b1
  try clear c11
  obtain ⟨kq, x38_6, rfl, HA, HJ6, BK166, HB⟩ := hcut
  cases kq with
  | zero => exact absurd HA.out (by simp [spec_BestCharging.j0])
  | succ kj6 =>
   have H := HA.out
   clear HA
   simp only [spec_BestCharging.j0] at H
   have HC12 := Aside0.mk H
   clear H
   go_upto_if 38 with (fail)
   go_cut [13] (fun v13 wc => ∃ (kq : Nat) (x13_11 : Int), v13 = .int .i64 x13_11 ∧ Aside0 (spec_BestCharging.j1 kq a1 l2 l3 a4 x13_11 a0_0 a0_1 a0_2 = some (r1, r2, r3)) ∧ Aside0 (kq ≤ kj6) ∧ Aside0 (wc.heap[gb166]? = some (.cells #[.int .i64 a0_0, .int .i64 a0_1, .int .i64 a0_2] 26 (0, 0))) ∧ Aside0 (Below w.heap.size w wc))
   case first =>
    have H := HC12.out
    clear HC12
    by_cases c13 : x38_6 = true
    ·subst c13
     have H1 : (spec_BestCharging.j1 kj6 a1 l2 l3 a4 2 a0_0 a0_1 a0_2) = some (r1, r2, r3) := by rw [if_pos rfl] at H; exact H
     clear H
     have H := H1
     clear H1
     have H' := Aside0.mk H
     clear H
     go_wp2
     go_meet
     case rel => exact ⟨_, (2), (by first | rfl | (simp; done) | (simp [*]; done)), H', ⟨by have := HJ6.out; first | omega | exact Nat.le_refl _⟩, ⟨by (with_reducible repeat (first | refine blk_drewN ?_ _ | refine blk_drew ?_ | refine blk_alloc ?_ _)); exact BK166.out⟩, ⟨by repeat (first | (with_reducible first | exact HB.out | apply below_alloc | apply pw_below_drewN | apply below_drew1 | refine below_set ?_ GE166.out) | exact HB.out)⟩⟩
    ·replace c13 := Bool.eq_false_iff.mpr c13
     subst c13
     have H1 : (spec_BestCharging.j1 kj6 a1 l2 l3 a4 t167 a0_0 a0_1 a0_2) = some (r1, r2, r3) := by rw [if_neg (show ¬ (false = true) by decide)] at H; exact H
     clear H
     have H := H1
     clear H1
     have H' := Aside0.mk H
     clear H
     go_wp2
     go_meet
     case rel => exact ⟨_, (t167), (by first | rfl | (simp; done) | (simp [*]; done)), H', ⟨by have := HJ6.out; first | omega | exact Nat.le_refl _⟩, ⟨by (with_reducible repeat (first | refine blk_drewN ?_ _ | refine blk_drew ?_ | refine blk_alloc ?_ _)); exact BK166.out⟩, ⟨by repeat (first | (with_reducible first | exact HB.out | apply below_alloc | apply pw_below_drewN | apply below_drew1 | refine below_set ?_ GE166.out) | exact HB.out)⟩⟩
   case rest =>
    clear HC12
    try clear c1
    try clear c2
    try clear p2
    try clear c3
    try clear c4
    try clear c9
    try clear c9b0
    try clear c9b1
    try clear c11
    try clear c13
    try clear p2
    obtain ⟨kq, x13_11, rfl, HA, HJ11, BK166, HB⟩ := hcut
    cases kq with
    | zero => exact absurd HA.out (by simp [spec_BestCharging.j1])
    | succ kj11 =>
     have H := HA.out
     clear HA
     simp only [spec_BestCharging.j1] at H
     by_cases c14 : x13_11 = 0
     ·rw [if_pos c14] at H
      have c14b0 : (x13_11 == 0) = true := beq_iff_eq.mpr c14
      have c14b1 : (x13_11 != 0) = false := bne_eq_false_iff_eq.mpr c14
      clear c14
      replace H := Option.bind_eq_some_iff.mp H
      obtain ⟨t169, A150, H⟩ := H
      replace H : (if 0 < (t169.length : Int) then (if 0 ≤ a1 then (if a1 < ((rd_L2 t169 0).length : Int) then (if (rd (rd_L2 t169 0) a1) < 0 then (some (([] : List Int), 0, 3)) else (spec_BestCharging.l0 kj11 a1 l2 l3 a4 t169 (([] : List Int)) a1 0 a0_0 a0_1 a0_2)) else (none)) else (none)) else (none)) = some (r1, r2, r3) := H
      have A15 := Aside0.mk A150
      clear A150
      by_cases c16 : 0 < (t169.length : Int)
      ·rw [if_pos c16] at H
       have c16b0 : decide (0 < (t169.length : Int)) = true := decide_eq_true c16
       have c16b1 : decide (0 < t169.length) = true := decide_eq_true (by omega)
       clear c16
       by_cases c17 : 0 ≤ a1
       ·rw [if_pos c17] at H
        have c17b0 : decide (0 ≤ a1) = true := decide_eq_true c17
        clear c17
        by_cases c18 : a1 < ((rd_L2 t169 0).length : Int)
        ·rw [if_pos c18] at H
         have c18b0 : decide (a1 < ((rd_L2 t169 0).length : Int)) = true := decide_eq_true c18
         clear c18
         by_cases c19 : (rd (rd_L2 t169 0) a1) < 0
         ·rw [if_pos c19] at H
          have c19b0 : decide ((rd (rd_L2 t169 0) a1) < 0) = true := decide_eq_true c19
          clear c19
          simp only [Option.some.injEq, Prod.mk.injEq] at H
          obtain ⟨rfl, rfl, rfl⟩ := H
          go_wp2_with (first | ((with_reducible refine gate_callee (f := 52) rfl ?_); refine goesL_ (some 45) rfl rfl Try.func52 (by kernel_rfl) rfl #[.pointer (some ⟨gb166, 0, none⟩), .slice A2 l2.length c2, .slice A3 l3.length c3, .int .i64 a4] rfl (by (try simp only [List.map_toArray, List.map_cons, List.map_nil]); first | done | rfl | (simp only [List.length_drop, List.length_take]; rfl)) ?_; (with_reducible refine (spec_l14Table.calls kj11 _ 1 [(⟨a0_0, a0_1, a0_2⟩ : S26)] _ _ l2 _ _ l3 a4 t169 _ ?side1 ?side2 ?side3 ?side4 ?side5 ?side6 A15.out).mono ?_); (case side1 => exact Kd.C_one (k26_mk _ (⟨a0_0, a0_1, a0_2⟩ : S26) ) (cells_blk (cs := #[.int .i64 a0_0, .int .i64 a0_1, .int .i64 a0_2]) (t := 26) (by (with_reducible repeat (first | refine blk_drewN ?_ _ | refine blk_drew ?_ | refine blk_alloc ?_ _)); exact BK166.out))); (case side2 => exact Nat.le_refl _); (case side3 => repeat (first | exact (Kd.C_below HR2.out HB.out) | (with_reducible refine Kd.C_alloc ?_ _) | (with_reducible refine Kd.C_drewN ?_ _) | (with_reducible refine Kd.C_drew ?_))); (case side4 => exact HC2.out); (case side5 => repeat (first | exact (Kd.C_below HR3.out HB.out) | (with_reducible refine Kd.C_alloc ?_ _) | (with_reducible refine Kd.C_drewN ?_ _) | (with_reducible refine Kd.C_drew ?_))); (case side6 => exact HC3.out); rintro e w20 ⟨v170, rfl, ho0, hb⟩; refine ⟨_, rfl, ?_⟩; have n0_ := Aside0.mk (Kd.N_lower (Kd.N_mono (ok' := fun k_ => k_ ≠ gb166) ho0 (fun k_ hk_ => (Kd.freshB (g := gb166) (o := .cells #[.int .i64 a0_0, .int .i64 a0_1, .int .i64 a0_2] 26 (0, 0)) (by (with_reducible repeat (first | refine blk_drewN ?_ _ | refine blk_drew ?_ | refine blk_alloc ?_ _)); exact BK166.out) k_ hk_))) (below_size (by repeat (first | (with_reducible first | exact HB.out | apply below_alloc | apply pw_below_drewN | apply below_drew1 | refine below_set ?_ GE166.out) | exact HB.out)))); have n1_ := Aside0.mk (blk_below (g := gb166) (o := .cells #[.int .i64 a0_0, .int .i64 a0_1, .int .i64 a0_2] 26 (0, 0)) (by (with_reducible repeat (first | refine blk_drewN ?_ _ | refine blk_drew ?_ | refine blk_alloc ?_ _)); exact BK166.out) hb); have n2_ := Aside0.mk (below_step (by repeat (first | (with_reducible first | exact HB.out | apply below_alloc | apply pw_below_drewN | apply below_drew1 | refine below_set ?_ GE166.out) | exact HB.out)) hb); clear BK166; clear HB; have HO171 := n0_; have BK166 := n1_; have HB := n2_; clear n0_ n1_ n2_; (try clear hb); (try clear hb2); (try clear hk); (try clear hi); (try clear ho0); obtain ⟨Ao21, co21, eo21⟩ := Kd.N_slice HO171.out; subst eo21; have p172 : 0 ≤ (0 : Int) := (by omega); have q172 : 0 < (t169.length : Int) := of_decide_eq_true (by first | (with_reducible assumption) | assumption); obtain ⟨ad172, A172_0, c172_0, e172, hx172_0, hl172_0, hi172_0⟩ := at_L2 (Kd.N_reads' HO171.out).2.2 0 p172 q172; cases e172; obtain ⟨ce172, hce172, hMe172, hcc172⟩ := Kd.N_get HO171.out [] 0 p172 (by first | exact q172 | exact of_decide_eq_true (by first | (with_reducible assumption) | assumption) | (have e_ := (Kd.N_reads' HO171.out).1; omega)); obtain ⟨ua172_0, uc172_0, rfl, ul172_0, ge172_0⟩ := Kd.FK_slice_open hMe172; have hv172_0 := hcc172 0 _ rfl; rw [Nat.add_zero, show ((Kd.slice 2 (Kd.int .i64))).sz = 1 from rfl, Nat.mul_one] at hv172_0; replace hv172_0 := Option.some.inj (hv172_0.symm.trans hx172_0); injection hv172_0 with hva_ hvn_ hvc_; rw [hva_] at ge172_0; rw [hvc_] at ul172_0; have HL172_0 := Aside0.mk (show Kd.V (Kd.int .i64) 2 _ w.heap.size _ _ (rd_L2 t169 0) from Kd.V_mk ul172_0 ge172_0); clear hva_ hvn_ hvc_ ge172_0 ul172_0; clear hcc172 hce172; have qi172 : (0 < t169.length) = True := eq_true (by omega); (try rw [show ((0 : Int)).toNat = 0 from rfl] at hx172_0); (try rw [Addr.add_zero'] at hx172_0); have HR172_0 := Aside0.mk hi172_0; have HC172_0 := Aside0.mk hl172_0; clear hi172_0 hl172_0; replace p172 := eq_true p172; replace q172 := eq_true q172; have p173 : 0 ≤ (a1 : Int) := of_decide_eq_true (by first | (with_reducible assumption) | assumption); have q173 : a1 < ((rd_L2 t169 0).length : Int) := of_decide_eq_true (by first | (with_reducible assumption) | assumption); obtain ⟨ad173, e173, hx173_0⟩ := Kd.at_int (by repeat (first | (with_reducible exact HR172_0.out) | (with_reducible refine Kd.C_alloc ?_ _) | (with_reducible refine Kd.C_drewN ?_ _) | (with_reducible refine Kd.C_drew ?_) | exact HR172_0.out)) a1 p173 q173; cases e173; replace p173 := eq_true p173; replace q173 := eq_true q173))
          go_ret3
          exact ⟨_, by first | rfl | (simp [errW_none, errW_some] <;> rfl) | (simp [*, errW_none, errW_some] <;> rfl), by first | exact Kd.R_nil _ _ _ _ _ | exact Kd.N_nil _ _ _ _ _ | exact Kd.V_nil _ _ _ _ _ | exact Kd.Q_nil _ _ _ _ _ | exact Kd.S_nil _ _ _ _ _, by repeat (first | (with_reducible first | exact HB.out | apply below_alloc | apply pw_below_drewN | apply below_drew1 | refine below_set ?_ GE166.out) | exact HB.out)⟩
         ·rw [if_neg c19] at H
          have c19b0 : decide ((rd (rd_L2 t169 0) a1) < 0) = false := decide_eq_false c19
          clear c19
          obtain ⟨y174, hy174⟩ : ∃ y_ : List Int, y_ = (([] : List Int)) := ⟨_, rfl⟩
          replace H : (spec_BestCharging.l0 kj11 a1 l2 l3 a4 t169 y174 a1 0 a0_0 a0_1 a0_2) = some (r1, r2, r3) := by first | (rw [hy174]; with_reducible exact H) | (have H2_ := (Option.bind_some _ _).symm.trans H; rw [hy174]; with_reducible exact H2_) | (have H2_ := (Option.bind_some _ _).symm.trans H; with_reducible exact H2_) | with_reducible exact H | (rw [hy174]; exact H) | exact H
          have Ny174 := Aside0.mk hy174
          clear hy174
          have H' := Aside0.mk H
          clear H
          go_wp2_with (first | ((with_reducible refine gate_callee (f := 52) rfl ?_); refine goesL_ (some 45) rfl rfl Try.func52 (by kernel_rfl) rfl #[.pointer (some ⟨gb166, 0, none⟩), .slice A2 l2.length c2, .slice A3 l3.length c3, .int .i64 a4] rfl (by (try simp only [List.map_toArray, List.map_cons, List.map_nil]); first | done | rfl | (simp only [List.length_drop, List.length_take]; rfl)) ?_; (with_reducible refine (spec_l14Table.calls kj11 _ 1 [(⟨a0_0, a0_1, a0_2⟩ : S26)] _ _ l2 _ _ l3 a4 t169 _ ?side1 ?side2 ?side3 ?side4 ?side5 ?side6 A15.out).mono ?_); (case side1 => exact Kd.C_one (k26_mk _ (⟨a0_0, a0_1, a0_2⟩ : S26) ) (cells_blk (cs := #[.int .i64 a0_0, .int .i64 a0_1, .int .i64 a0_2]) (t := 26) (by (with_reducible repeat (first | refine blk_drewN ?_ _ | refine blk_drew ?_ | refine blk_alloc ?_ _)); exact BK166.out))); (case side2 => exact Nat.le_refl _); (case side3 => repeat (first | exact (Kd.C_below HR2.out HB.out) | (with_reducible refine Kd.C_alloc ?_ _) | (with_reducible refine Kd.C_drewN ?_ _) | (with_reducible refine Kd.C_drew ?_))); (case side4 => exact HC2.out); (case side5 => repeat (first | exact (Kd.C_below HR3.out HB.out) | (with_reducible refine Kd.C_alloc ?_ _) | (with_reducible refine Kd.C_drewN ?_ _) | (with_reducible refine Kd.C_drew ?_))); (case side6 => exact HC3.out); rintro e w22 ⟨v170, rfl, ho0, hb⟩; refine ⟨_, rfl, ?_⟩; have n0_ := Aside0.mk (Kd.N_lower (Kd.N_mono (ok' := fun k_ => k_ ≠ gb166) ho0 (fun k_ hk_ => (Kd.freshB (g := gb166) (o := .cells #[.int .i64 a0_0, .int .i64 a0_1, .int .i64 a0_2] 26 (0, 0)) (by (with_reducible repeat (first | refine blk_drewN ?_ _ | refine blk_drew ?_ | refine blk_alloc ?_ _)); exact BK166.out) k_ hk_))) (below_size (by repeat (first | (with_reducible first | exact HB.out | apply below_alloc | apply pw_below_drewN | apply below_drew1 | refine below_set ?_ GE166.out) | exact HB.out)))); have n1_ := Aside0.mk (blk_below (g := gb166) (o := .cells #[.int .i64 a0_0, .int .i64 a0_1, .int .i64 a0_2] 26 (0, 0)) (by (with_reducible repeat (first | refine blk_drewN ?_ _ | refine blk_drew ?_ | refine blk_alloc ?_ _)); exact BK166.out) hb); have n2_ := Aside0.mk (below_step (by repeat (first | (with_reducible first | exact HB.out | apply below_alloc | apply pw_below_drewN | apply below_drew1 | refine below_set ?_ GE166.out) | exact HB.out)) hb); clear BK166; clear HB; have HO171 := n0_; have BK166 := n1_; have HB := n2_; clear n0_ n1_ n2_; (try clear hb); (try clear hb2); (try clear hk); (try clear hi); (try clear ho0); obtain ⟨Ao23, co23, eo23⟩ := Kd.N_slice HO171.out; subst eo23; have p172 : 0 ≤ (0 : Int) := (by omega); have q172 : 0 < (t169.length : Int) := of_decide_eq_true (by first | (with_reducible assumption) | assumption); obtain ⟨ad172, A172_0, c172_0, e172, hx172_0, hl172_0, hi172_0⟩ := at_L2 (Kd.N_reads' HO171.out).2.2 0 p172 q172; cases e172; obtain ⟨ce172, hce172, hMe172, hcc172⟩ := Kd.N_get HO171.out [] 0 p172 (by first | exact q172 | exact of_decide_eq_true (by first | (with_reducible assumption) | assumption) | (have e_ := (Kd.N_reads' HO171.out).1; omega)); obtain ⟨ua172_0, uc172_0, rfl, ul172_0, ge172_0⟩ := Kd.FK_slice_open hMe172; have hv172_0 := hcc172 0 _ rfl; rw [Nat.add_zero, show ((Kd.slice 2 (Kd.int .i64))).sz = 1 from rfl, Nat.mul_one] at hv172_0; replace hv172_0 := Option.some.inj (hv172_0.symm.trans hx172_0); injection hv172_0 with hva_ hvn_ hvc_; rw [hva_] at ge172_0; rw [hvc_] at ul172_0; have HL172_0 := Aside0.mk (show Kd.V (Kd.int .i64) 2 _ w.heap.size _ _ (rd_L2 t169 0) from Kd.V_mk ul172_0 ge172_0); clear hva_ hvn_ hvc_ ge172_0 ul172_0; clear hcc172 hce172; have qi172 : (0 < t169.length) = True := eq_true (by omega); (try rw [show ((0 : Int)).toNat = 0 from rfl] at hx172_0); (try rw [Addr.add_zero'] at hx172_0); have HR172_0 := Aside0.mk hi172_0; have HC172_0 := Aside0.mk hl172_0; clear hi172_0 hl172_0; replace p172 := eq_true p172; replace q172 := eq_true q172; have p173 : 0 ≤ (a1 : Int) := of_decide_eq_true (by first | (with_reducible assumption) | assumption); have q173 : a1 < ((rd_L2 t169 0).length : Int) := of_decide_eq_true (by first | (with_reducible assumption) | assumption); obtain ⟨ad173, e173, hx173_0⟩ := Kd.at_int (by repeat (first | (with_reducible exact HR172_0.out) | (with_reducible refine Kd.C_alloc ?_ _) | (with_reducible refine Kd.C_drewN ?_ _) | (with_reducible refine Kd.C_drew ?_) | exact HR172_0.out)) a1 p173 q173; cases e173; replace p173 := eq_true p173; replace q173 := eq_true q173) | ((with_reducible refine gate_dst (N := 53) rfl ?_); (try (refine gate_guard (by rfl) ?_; dsimp only)); refine Kd.R_lit (Kd.int .i64) _ 2 ?hg (N := 53) ?hd (xs := ([] : List Int)) (inner := []) (ok := fun _ => True) (okp := fun _ => True) ?hr ?hp (fun _ hk => hk) trivial (Below.refl _ _) (Nat.le_refl _) (by simp) ?_; (case hd => rfl); (case hg => rfl); (case hr => first | (go_simp; done) | (go_simp; rfl)); (case hp => exact (Reps.none _ _)); intro v175 w24 ho25 hb hg_ hnew_; clear hg_ hnew_; (first | rw [← Ny174.out] at ho25 | (simp only [Int.reduceToNat] at ho25; rw [← Ny174.out] at ho25)); have n0_ := Aside0.mk (Kd.N_elder' (by (with_reducible repeat (first | apply Kd.N_alloc | apply Kd.N_drewN | apply Kd.N_drew)); exact HO171.out) (Kd.R_base ho25) hb); have n1_ := Aside0.mk (Kd.V_elder' (by (with_reducible repeat (first | apply Kd.V_alloc | apply Kd.V_drewN | apply Kd.V_drew)); exact HL172_0.out) (Kd.R_base ho25) hb); have n2_ := Aside0.mk (Kd.R_lower ho25 (below_size (by repeat (first | (with_reducible first | exact HB.out | apply below_alloc | apply pw_below_drewN | apply below_drew1 | refine below_set ?_ GE166.out) | exact HB.out)))); have n3_ := Aside0.mk (blk_below (g := gb166) (o := .cells #[.int .i64 a0_0, .int .i64 a0_1, .int .i64 a0_2] 26 (0, 0)) (by (with_reducible repeat (first | refine blk_drewN ?_ _ | refine blk_drew ?_ | refine blk_alloc ?_ _)); exact BK166.out) hb); have n4_ := Aside0.mk (Kd.C_below (by repeat (first | (with_reducible exact HR172_0.out) | (with_reducible refine Kd.C_alloc ?_ _) | (with_reducible refine Kd.C_drewN ?_ _) | (with_reducible refine Kd.C_drew ?_) | exact HR172_0.out)) hb); have n5_ := Aside0.mk (below_step (by repeat (first | (with_reducible first | exact HB.out | apply below_alloc | apply pw_below_drewN | apply below_drew1 | refine below_set ?_ GE166.out) | exact HB.out)) hb); clear HO171; clear HL172_0; clear BK166; clear HR172_0; clear HB; have HO171 := n0_; have HL172_0 := n1_; have HO176 := n2_; have BK166 := n3_; have HR172_0 := n4_; have HB := n5_; clear n0_ n1_ n2_ n3_ n4_ n5_; clear hb ho25))
          go_loopg [15, 16, 17] kj11 (fun kq v15 v16 v17 w' => ∃ (x15_3 : List Int) (x16_3 : Int) (x17_3 : Int), v16 = .int .i64 x16_3 ∧ v17 = .int .i64 x17_3 ∧ Aside0 (spec_BestCharging.l0 kq a1 l2 l3 a4 t169 x15_3 x16_3 x17_3 a0_0 a0_1 a0_2 = some (r1, r2, r3)) ∧ Aside0 (kq ≤ kj11) ∧ Aside0 (Kd.N (Kd.slice 2 (Kd.int .i64)) 24 w' w.heap.size (fun k_ => some k_ ≠ (v15 : Value).ownBlock ∧ k_ ≠ gb166) (.slice (some ad172) t169.length co23) t169) ∧ Aside0 (Kd.R (Kd.int .i64) 2 w' w.heap.size (fun _ => True) v15 x15_3) ∧ Aside0 (w'.heap[gb166]? = some (.cells #[.int .i64 a0_0, .int .i64 a0_1, .int .i64 a0_2] 26 (0, 0))) ∧ Aside0 (Below w.heap.size w w'))
          case atStart => exact ⟨(y174), (a1), (0), (by first | rfl | (simp; done) | (simp [*]; done)), (by first | rfl | (simp; done) | (simp [*]; done)), H', ⟨Nat.le_refl _⟩, ⟨by (with_reducible repeat (first | apply Kd.N_alloc | apply Kd.N_drewN | apply Kd.N_drew)); exact Kd.N_mono HO171.out (fun _ hk => ⟨hk.2, hk.1⟩)⟩, ⟨by (with_reducible repeat (first | apply Kd.R_alloc | apply Kd.R_drewN | apply Kd.R_drew)); exact HO176.out⟩, ⟨by (with_reducible repeat (first | refine blk_drewN ?_ _ | refine blk_drew ?_ | refine blk_alloc ?_ _)); exact BK166.out⟩, ⟨by repeat (first | (with_reducible first | exact HB.out | apply below_alloc | apply pw_below_drewN | apply below_drew1 | refine below_set ?_ GE166.out) | exact HB.out)⟩⟩
          case round =>
           clear H'
           try clear c1
           try clear p1
           try clear q1
           try clear hx1
           try clear qi1
           try clear c2
           try clear p2
           try clear c3
           try clear c4
           try clear c5
           try clear c9
           try clear c9b0
           try clear c9b1
           try clear c11
           try clear c13
           try clear c14
           try clear c14b0
           try clear c14b1
           try clear c16
           try clear c16b0
           try clear c16b1
           try clear c17
           try clear c17b0
           try clear p17
           try clear q17
           try clear hx17
           try clear qi17
           try clear c18
           try clear c18b0
           try clear c19
           try clear c19b0
           try clear c25
           try clear hx172_0
           try clear hx173_0
           try clear p172
           try clear p173
           try clear p2
           try clear q172
           try clear q173
           obtain ⟨x15_3, x16_3, x17_3, rfl, rfl, HA, HK3, HO_14, HO_15, BK166, HB⟩ := hrel
           cases gk with
           | zero => exact absurd HA.out (by simp [spec_BestCharging.l0])
           | succ k3 =>
            have H := HA.out
            clear HA
            simp only [spec_BestCharging.l0] at H
            by_cases c26 : x17_3 < (l2.length : Int)
            ·rw [if_pos c26] at H
             have c26b0 : decide (x17_3 < (l2.length : Int)) = true := decide_eq_true c26
             clear c26
             have H' := Aside0.mk H
             clear H
             have hcz27_0 : wr.cell? ⟨gb166, 0, none⟩ = some (.int .i64 a0_0) := (blk_cell BK166.out 0).trans rfl
             have hcz27_1 : wr.cell? ⟨gb166, 1, none⟩ = some (.int .i64 a0_1) := (blk_cell BK166.out 1).trans rfl
             have hcz27_2 : wr.cell? ⟨gb166, 2, none⟩ = some (.int .i64 a0_2) := (blk_cell BK166.out 2).trans rfl
             have hfz27_0 := blk_frozen BK166.out 0
             have hfz27_1 := blk_frozen BK166.out 1
             have hfz27_2 := blk_frozen BK166.out 2
             go_wp2
             go_loopg [15, 16, 18] k3 (fun kq v15 v16 v18 w' => ∃ (x15_4 : List Int) (x16_4 : Int) (x18_4 : Int), v16 = .int .i64 x16_4 ∧ v18 = .int .i64 x18_4 ∧ Aside0 (spec_BestCharging.l1 kq a1 l2 l3 a4 t169 x15_4 x16_4 x17_3 x18_4 a0_0 a0_1 a0_2 = some (r1, r2, r3)) ∧ Aside0 (kq ≤ k3) ∧ Aside0 (Kd.N (Kd.slice 2 (Kd.int .i64)) 24 w' w.heap.size (fun k_ => some k_ ≠ (v15 : Value).ownBlock ∧ k_ ≠ gb166) (.slice (some ad172) t169.length co23) t169) ∧ Aside0 (Kd.R (Kd.int .i64) 2 w' w.heap.size (fun _ => True) v15 x15_4) ∧ Aside0 (w'.heap[gb166]? = some (.cells #[.int .i64 a0_0, .int .i64 a0_1, .int .i64 a0_2] 26 (0, 0))) ∧ Aside0 (Below w.heap.size w w'))
             case atStart => exact ⟨(x15_3), (x16_3), (wrap64 (-a0_1)), (by first | rfl | (simp; done) | (simp [*]; done)), (by first | rfl | (simp; done) | (simp [*]; done)), H', ⟨Nat.le_refl _⟩, ⟨by (with_reducible repeat (first | apply Kd.N_alloc | apply Kd.N_drewN | apply Kd.N_drew)); exact HO_14.out⟩, ⟨by (with_reducible repeat (first | apply Kd.R_alloc | apply Kd.R_drewN | apply Kd.R_drew)); exact HO_15.out⟩, ⟨by (with_reducible repeat (first | refine blk_drewN ?_ _ | refine blk_drew ?_ | refine blk_alloc ?_ _)); exact BK166.out⟩, ⟨by repeat (first | (with_reducible first | exact HB.out | apply below_alloc | apply pw_below_drewN | apply below_drew1 | refine below_set ?_ GE166.out) | exact HB.out)⟩⟩
             case round =>
              clear H'
              try clear c1
              try clear p1
              try clear q1
              try clear hx1
              try clear qi1
              try clear c2
              try clear p2
              try clear c3
              try clear c4
              try clear c5
              try clear p6
              try clear c9
              try clear c9b0
              try clear c9b1
              try clear c11
              try clear c13
              try clear c14
              try clear c14b0
              try clear c14b1
              try clear c16
              try clear c16b0
              try clear c16b1
              try clear c17
              try clear c17b0
              try clear p17
              try clear q17
              try clear hx17
              try clear qi17
              try clear c18
              try clear c18b0
              try clear c19
              try clear c19b0
              try clear c25
              try clear c26
              try clear c26b0
              try clear hcz27_0
              try clear hcz27_1
              try clear hcz27_2
              try clear hfz27_0
              try clear hfz27_1
              try clear hfz27_2
              try clear hx172_0
              try clear hx173_0
              try clear p1
              try clear p17
              try clear p172
              try clear p173
              try clear p2
              try clear q1
              try clear q17
              try clear q172
              try clear q173
              obtain ⟨x15_4, x16_4, x18_4, rfl, rfl, HA, HK4, HO_14, HO_15, BK166, HB⟩ := hrel
              cases gk with
              | zero => exact absurd HA.out (by simp [spec_BestCharging.l1])
              | succ k4 =>
               have H := HA.out
               clear HA
               simp only [spec_BestCharging.l1] at H
               by_cases c28 : x18_4 ≤ a0_1
               ·rw [if_pos c28] at H
                have c28b0 : decide (x18_4 ≤ a0_1) = true := decide_eq_true c28
                clear c28
                replace H := Option.bind_eq_some_iff.mp H
                obtain ⟨⟨t179, t180⟩, A290, H⟩ := H
                replace H : (if t180 = true then (if 0 ≤ x17_3 then (if x17_3 < (l2.length : Int) then ((spec_l00In.f (wrap64 ((rd l2 x17_3) + x18_4)) 0 a4).bind fun t182 => (if t182 = true then (if 0 ≤ (wrap64 (x17_3 + 1)) then (if (wrap64 (x17_3 + 1)) < (t169.length : Int) then (if 0 ≤ t179 then (if t179 < ((rd_L2 t169 (wrap64 (x17_3 + 1))).length : Int) then (if (rd (rd_L2 t169 (wrap64 (x17_3 + 1))) t179) ≥ 0 then (if x17_3 < (l3.length : Int) then (if x17_3 < (t169.length : Int) then (if 0 ≤ x16_4 then (if x16_4 < ((rd_L2 t169 x17_3).length : Int) then (spec_BestCharging.j4 k4 a1 l2 l3 a4 t169 x15_4 x16_4 x17_3 x18_4 t179 ((wrap64 ((rd (rd_L2 t169 (wrap64 (x17_3 + 1))) t179) + (wrap64 ((wrap64 ((rd l2 x17_3) + x18_4)) * (rd l3 x17_3))))) == (rd (rd_L2 t169 x17_3) x16_4)) a0_0 a0_1 a0_2) else (none)) else (none)) else (none)) else (none)) else (spec_BestCharging.j4 k4 a1 l2 l3 a4 t169 x15_4 x16_4 x17_3 x18_4 t179 false a0_0 a0_1 a0_2)) else (none)) else (none)) else (none)) else (none)) else (spec_BestCharging.j4 k4 a1 l2 l3 a4 t169 x15_4 x16_4 x17_3 x18_4 t179 false a0_0 a0_1 a0_2))) else (none)) else (none)) else (spec_BestCharging.j4 k4 a1 l2 l3 a4 t169 x15_4 x16_4 x17_3 x18_4 t179 false a0_0 a0_1 a0_2)) = some (r1, r2, r3) := H
                have A29 := Aside0.mk A290
                clear A290
                have HC30 := Aside0.mk H
                clear H
                have hcz31_0 : wr.cell? ⟨gb166, 0, none⟩ = some (.int .i64 a0_0) := (blk_cell BK166.out 0).trans rfl
                have hcz31_1 : wr.cell? ⟨gb166, 1, none⟩ = some (.int .i64 a0_1) := (blk_cell BK166.out 1).trans rfl
                have hcz31_2 : wr.cell? ⟨gb166, 2, none⟩ = some (.int .i64 a0_2) := (blk_cell BK166.out 2).trans rfl
                have hfz31_0 := blk_frozen BK166.out 0
                have hfz31_1 := blk_frozen BK166.out 1
                have hfz31_2 := blk_frozen BK166.out 2
                go_upto_region 18 with (first | ((with_reducible refine gate_callee (f := 44) rfl ?_); refine goesL_ (some 73) rfl rfl Try.func44 (by kernel_rfl) rfl #[.pointer (some ⟨gb166, 0, none⟩), .int .i64 x16_4, .int .i64 x18_4] rfl (by (try simp only [List.map_toArray, List.map_cons, List.map_nil]); first | done | rfl | (simp only [List.length_drop, List.length_take]; rfl)) ?_; (with_reducible refine (spec_l14After.calls _ 1 [(⟨a0_0, a0_1, a0_2⟩ : S26)] x16_4 x18_4 t179 t180 _ ?side1 ?side2 A29.out).mono ?_); (case side1 => exact Kd.C_one (k26_mk _ (⟨a0_0, a0_1, a0_2⟩ : S26) ) (cells_blk (cs := #[.int .i64 a0_0, .int .i64 a0_1, .int .i64 a0_2]) (t := 26) (by (with_reducible repeat (first | refine blk_drewN ?_ _ | refine blk_drew ?_ | refine blk_alloc ?_ _)); exact BK166.out))); (case side2 => exact Nat.le_refl _); rintro e w' ⟨rfl, ⟨nd, rfl⟩⟩; refine ⟨_, rfl, ?_⟩; (try (rw [drewN_self wr]; generalize hq_ : World.drewN wr _ = wr; have n0_ : Aside0 (Kd.N (Kd.slice 2 (Kd.int .i64)) 24 wr w.heap.size (fun k_ => some k_ ≠ (u15 : Value).ownBlock ∧ k_ ≠ gb166) (.slice (some ad172) t169.length co23) t169) := ⟨by rw [← hq_]; exact (by (with_reducible repeat (first | apply Kd.N_alloc | apply Kd.N_drewN | apply Kd.N_drew)); exact HO_14.out)⟩; have n1_ : Aside0 (Kd.R (Kd.int .i64) 2 wr w.heap.size (fun _ => True) u15 x15_4) := ⟨by rw [← hq_]; exact (by (with_reducible repeat (first | apply Kd.R_alloc | apply Kd.R_drewN | apply Kd.R_drew)); exact HO_15.out)⟩; have n2_ : Aside0 (wr.heap[gb166]? = some (.cells #[.int .i64 a0_0, .int .i64 a0_1, .int .i64 a0_2] 26 (0, 0))) := ⟨by rw [← hq_]; exact (by (with_reducible repeat (first | refine blk_drewN ?_ _ | refine blk_drew ?_ | refine blk_alloc ?_ _)); exact BK166.out)⟩; have n3_ : Aside0 (Below w.heap.size w wr) := ⟨by rw [← hq_]; exact (by repeat (first | (with_reducible first | exact HB.out | apply below_alloc | apply pw_below_drewN | apply below_drew1 | refine below_set ?_ GE166.out) | exact HB.out))⟩; clear HO_14 HO_15 BK166 HB hq_; have HO_14 := n0_; have HO_15 := n1_; have BK166 := n2_; have HB := n3_; clear n0_ n1_ n2_ n3_))))
                (try simp only [Act.put, List.setIfInBounds_toArray, List.set_cons_zero, List.set_cons_succ])
                go_cut [127] (fun v127 wc => ∃ (kq : Nat) (x127_29 : Bool), v127 = .bool x127_29 ∧ Aside0 (spec_BestCharging.j4 kq a1 l2 l3 a4 t169 x15_4 x16_4 x17_3 x18_4 t179 x127_29 a0_0 a0_1 a0_2 = some (r1, r2, r3)) ∧ Aside0 (kq ≤ k4) ∧ Aside0 (Kd.N (Kd.slice 2 (Kd.int .i64)) 24 wc w.heap.size (fun k_ => some k_ ≠ (u15 : Value).ownBlock ∧ k_ ≠ gb166) (.slice (some ad172) t169.length co23) t169) ∧ Aside0 (Kd.R (Kd.int .i64) 2 wc w.heap.size (fun _ => True) u15 x15_4) ∧ Aside0 (wc.heap[gb166]? = some (.cells #[.int .i64 a0_0, .int .i64 a0_1, .int .i64 a0_2] 26 (0, 0))) ∧ Aside0 (Below w.heap.size w wc))
                case first =>
                 have H := HC30.out
                 clear HC30
                 by_cases c32 : t180 = true
                 ·subst c32
                  have H1 : (if 0 ≤ x17_3 then (if x17_3 < (l2.length : Int) then ((spec_l00In.f (wrap64 ((rd l2 x17_3) + x18_4)) 0 a4).bind fun t182 => (if t182 = true then (if 0 ≤ (wrap64 (x17_3 + 1)) then (if (wrap64 (x17_3 + 1)) < (t169.length : Int) then (if 0 ≤ t179 then (if t179 < ((rd_L2 t169 (wrap64 (x17_3 + 1))).length : Int) then (if (rd (rd_L2 t169 (wrap64 (x17_3 + 1))) t179) ≥ 0 then (if x17_3 < (l3.length : Int) then (if x17_3 < (t169.length : Int) then (if 0 ≤ x16_4 then (if x16_4 < ((rd_L2 t169 x17_3).length : Int) then (spec_BestCharging.j4 k4 a1 l2 l3 a4 t169 x15_4 x16_4 x17_3 x18_4 t179 ((wrap64 ((rd (rd_L2 t169 (wrap64 (x17_3 + 1))) t179) + (wrap64 ((wrap64 ((rd l2 x17_3) + x18_4)) * (rd l3 x17_3))))) == (rd (rd_L2 t169 x17_3) x16_4)) a0_0 a0_1 a0_2) else (none)) else (none)) else (none)) else (none)) else (spec_BestCharging.j4 k4 a1 l2 l3 a4 t169 x15_4 x16_4 x17_3 x18_4 t179 false a0_0 a0_1 a0_2)) else (none)) else (none)) else (none)) else (none)) else (spec_BestCharging.j4 k4 a1 l2 l3 a4 t169 x15_4 x16_4 x17_3 x18_4 t179 false a0_0 a0_1 a0_2))) else (none)) else (none)) = some (r1, r2, r3) := by rw [if_pos rfl] at H; exact H
                  clear H
                  have H := H1
                  clear H1
                  by_cases c33 : 0 ≤ x17_3
                  ·rw [if_pos c33] at H
                   have c33b0 : decide (0 ≤ x17_3) = true := decide_eq_true c33
                   clear c33
                   (first | rw [c33b0] | (simp only [i64_w, i32_w]; rw [c33b0]) | skip)
                   by_cases c34 : x17_3 < (l2.length : Int)
                   ·rw [if_pos c34] at H
                    have c34b0 : decide (x17_3 < (l2.length : Int)) = true := decide_eq_true c34
                    clear c34
                    replace H := Option.bind_eq_some_iff.mp H
                    obtain ⟨t182, A350, H⟩ := H
                    replace H : (if t182 = true then (if 0 ≤ (wrap64 (x17_3 + 1)) then (if (wrap64 (x17_3 + 1)) < (t169.length : Int) then (if 0 ≤ t179 then (if t179 < ((rd_L2 t169 (wrap64 (x17_3 + 1))).length : Int) then (if (rd (rd_L2 t169 (wrap64 (x17_3 + 1))) t179) ≥ 0 then (if x17_3 < (l3.length : Int) then (if x17_3 < (t169.length : Int) then (if 0 ≤ x16_4 then (if x16_4 < ((rd_L2 t169 x17_3).length : Int) then (spec_BestCharging.j4 k4 a1 l2 l3 a4 t169 x15_4 x16_4 x17_3 x18_4 t179 ((wrap64 ((rd (rd_L2 t169 (wrap64 (x17_3 + 1))) t179) + (wrap64 ((wrap64 ((rd l2 x17_3) + x18_4)) * (rd l3 x17_3))))) == (rd (rd_L2 t169 x17_3) x16_4)) a0_0 a0_1 a0_2) else (none)) else (none)) else (none)) else (none)) else (spec_BestCharging.j4 k4 a1 l2 l3 a4 t169 x15_4 x16_4 x17_3 x18_4 t179 false a0_0 a0_1 a0_2)) else (none)) else (none)) else (none)) else (none)) else (spec_BestCharging.j4 k4 a1 l2 l3 a4 t169 x15_4 x16_4 x17_3 x18_4 t179 false a0_0 a0_1 a0_2)) = some (r1, r2, r3) := H
                    have A35 := Aside0.mk A350
                    clear A350
                    by_cases c36 : t182 = true
                    ·subst c36
                     have H1 : (if 0 ≤ (wrap64 (x17_3 + 1)) then (if (wrap64 (x17_3 + 1)) < (t169.length : Int) then (if 0 ≤ t179 then (if t179 < ((rd_L2 t169 (wrap64 (x17_3 + 1))).length : Int) then (if (rd (rd_L2 t169 (wrap64 (x17_3 + 1))) t179) ≥ 0 then (if x17_3 < (l3.length : Int) then (if x17_3 < (t169.length : Int) then (if 0 ≤ x16_4 then (if x16_4 < ((rd_L2 t169 x17_3).length : Int) then (spec_BestCharging.j4 k4 a1 l2 l3 a4 t169 x15_4 x16_4 x17_3 x18_4 t179 ((wrap64 ((rd (rd_L2 t169 (wrap64 (x17_3 + 1))) t179) + (wrap64 ((wrap64 ((rd l2 x17_3) + x18_4)) * (rd l3 x17_3))))) == (rd (rd_L2 t169 x17_3) x16_4)) a0_0 a0_1 a0_2) else (none)) else (none)) else (none)) else (none)) else (spec_BestCharging.j4 k4 a1 l2 l3 a4 t169 x15_4 x16_4 x17_3 x18_4 t179 false a0_0 a0_1 a0_2)) else (none)) else (none)) else (none)) else (none)) = some (r1, r2, r3) := by rw [if_pos rfl] at H; exact H
                     clear H
                     have H := H1
                     clear H1
                     obtain ⟨ji37, hji37⟩ : ∃ j_ : Int, (wrap64 (x17_3 + 1)) = j_ := ⟨_, rfl⟩
                     replace H : (if 0 ≤ (ji37) then (if (ji37) < (t169.length : Int) then (if 0 ≤ t179 then (if t179 < ((rd_L2 t169 (ji37)).length : Int) then (if (rd (rd_L2 t169 (ji37)) t179) ≥ 0 then (if x17_3 < (l3.length : Int) then (if x17_3 < (t169.length : Int) then (if 0 ≤ x16_4 then (if x16_4 < ((rd_L2 t169 x17_3).length : Int) then (spec_BestCharging.j4 k4 a1 l2 l3 a4 t169 x15_4 x16_4 x17_3 x18_4 t179 ((wrap64 ((rd (rd_L2 t169 (ji37)) t179) + (wrap64 ((wrap64 ((rd l2 x17_3) + x18_4)) * (rd l3 x17_3))))) == (rd (rd_L2 t169 x17_3) x16_4)) a0_0 a0_1 a0_2) else (none)) else (none)) else (none)) else (none)) else (spec_BestCharging.j4 k4 a1 l2 l3 a4 t169 x15_4 x16_4 x17_3 x18_4 t179 false a0_0 a0_1 a0_2)) else (none)) else (none)) else (none)) else (none)) = some (r1, r2, r3) := by first | (rw [hji37] at H; exact H) | (simp only [hji37] at H ⊢; exact H)
                     (try rw [hji37] at A35)
                     have hji37w : (IntKind.i64.wrap (x17_3 + 1)) = ji37 := (i64_w _).trans hji37
                     by_cases c38 : 0 ≤ (ji37)
                     ·rw [if_pos c38] at H
                      have c38b0 : decide (0 ≤ (ji37)) = true := decide_eq_true c38
                      clear c38
                      by_cases c39 : (ji37) < (t169.length : Int)
                      ·rw [if_pos c39] at H
                       have c39b0 : decide ((ji37) < (t169.length : Int)) = true := decide_eq_true c39
                       clear c39
                       by_cases c40 : 0 ≤ t179
                       ·rw [if_pos c40] at H
                        have c40b0 : decide (0 ≤ t179) = true := decide_eq_true c40
                        clear c40
                        by_cases c41 : t179 < ((rd_L2 t169 (ji37)).length : Int)
                        ·rw [if_pos c41] at H
                         have c41b0 : decide (t179 < ((rd_L2 t169 (ji37)).length : Int)) = true := decide_eq_true c41
                         clear c41
                         by_cases c42 : (rd (rd_L2 t169 (ji37)) t179) ≥ 0
                         ·rw [if_pos c42] at H
                          have c42b0 : decide (0 ≤ (rd (rd_L2 t169 (ji37)) t179)) = true := decide_eq_true c42
                          clear c42
                          by_cases c43 : x17_3 < (l3.length : Int)
                          ·rw [if_pos c43] at H
                           have c43b0 : decide (x17_3 < (l3.length : Int)) = true := decide_eq_true c43
                           clear c43
                           by_cases c44 : x17_3 < (t169.length : Int)
                           ·rw [if_pos c44] at H
                            have c44b0 : decide (x17_3 < (t169.length : Int)) = true := decide_eq_true c44
                            clear c44
                            by_cases c45 : 0 ≤ x16_4
                            ·rw [if_pos c45] at H
                             have c45b0 : decide (0 ≤ x16_4) = true := decide_eq_true c45
                             clear c45
                             by_cases c46 : x16_4 < ((rd_L2 t169 x17_3).length : Int)
                             ·rw [if_pos c46] at H
                              have c46b0 : decide (x16_4 < ((rd_L2 t169 x17_3).length : Int)) = true := decide_eq_true c46
                              clear c46
                              have H' := Aside0.mk H
                              clear H
                              try go_wp2
                              have n0_ := Aside0.mk (Kd.N_drew HO_14.out)
                              have n1_ := Aside0.mk (Kd.R_drew HO_15.out)
                              have n2_ := Aside0.mk (blk_drew BK166.out)
                              have n3_ := Aside0.mk (below_drew1 HB.out)
                              clear HO_14
                              clear HO_15
                              clear BK166
                              clear HB
                              have HO_14 := n0_
                              have HO_15 := n1_
                              have BK166 := n2_
                              have HB := n3_
                              clear n0_ n1_ n2_ n3_
                              have p181 : 0 ≤ (x17_3 : Int) := of_decide_eq_true (by first | (with_reducible assumption) | assumption)
                              have q181 : x17_3 < (l2.length : Int) := of_decide_eq_true (by first | (with_reducible assumption) | assumption)
                              obtain ⟨ad181, e181, hx181_0⟩ := Kd.at_int HR2.out x17_3 p181 q181
                              have hw181_0 := hx181_0
                              cases e181
                              replace hx181_0 := (HB.out.cell (World.block_lt_of_cell? w _ hx181_0)).trans hx181_0
                              replace p181 := eq_true p181
                              replace q181 := eq_true q181
                              have p183 : 0 ≤ ((ji37) : Int) := of_decide_eq_true (by first | (with_reducible assumption) | assumption)
                              have q183 : (ji37) < (t169.length : Int) := of_decide_eq_true (by first | (with_reducible assumption) | assumption)
                              obtain ⟨ad183, A183_0, c183_0, e183, hx183_0, hl183_0, hi183_0⟩ := at_L2 (Kd.N_reads' HO_14.out).2.2 (ji37) p183 q183
                              obtain rfl : ad172 = ad183 := (by injection e183)
                              obtain ⟨ce183, hce183, hMe183, hcc183⟩ := Kd.N_get HO_14.out [] (ji37) p183 (by first | exact q183 | exact of_decide_eq_true (by first | (with_reducible assumption) | assumption) | (have e_ := (Kd.N_reads' HO_14.out).1; omega))
                              obtain ⟨ua183_0, uc183_0, rfl, ul183_0, ge183_0⟩ := Kd.FK_slice_open hMe183
                              have hv183_0 := hcc183 0 _ rfl
                              rw [Nat.add_zero, show ((Kd.slice 2 (Kd.int .i64))).sz = 1 from rfl, Nat.mul_one] at hv183_0
                              replace hv183_0 := Option.some.inj (hv183_0.symm.trans hx183_0)
                              injection hv183_0 with hva_ hvn_ hvc_
                              rw [hva_] at ge183_0
                              rw [hvc_] at ul183_0
                              have HL183_0 := Aside0.mk (show Kd.V (Kd.int .i64) 2 _ w.heap.size _ _ (rd_L2 t169 (ji37)) from Kd.V_mk ul183_0 ge183_0)
                              clear hva_ hvn_ hvc_ ge183_0 ul183_0
                              clear hcc183 hce183
                              have HR183_0 := Aside0.mk hi183_0
                              have HC183_0 := Aside0.mk hl183_0
                              clear hi183_0 hl183_0
                              replace p183 := eq_true p183
                              replace q183 := eq_true q183
                              have p184 : 0 ≤ (t179 : Int) := of_decide_eq_true (by first | (with_reducible assumption) | assumption)
                              have q184 : t179 < ((rd_L2 t169 (ji37)).length : Int) := of_decide_eq_true (by first | (with_reducible assumption) | assumption)
                              obtain ⟨ad184, e184, hx184_0⟩ := Kd.at_int (by repeat (first | (with_reducible exact HR183_0.out) | (with_reducible refine Kd.C_alloc ?_ _) | (with_reducible refine Kd.C_drewN ?_ _) | (with_reducible refine Kd.C_drew ?_) | exact HR183_0.out)) t179 p184 q184
                              cases e184
                              replace p184 := eq_true p184
                              replace q184 := eq_true q184
                              have p185 : 0 ≤ ((ji37) : Int) := of_decide_eq_true (by first | (with_reducible assumption) | assumption)
                              have q185 : (ji37) < (t169.length : Int) := of_decide_eq_true (by first | (with_reducible assumption) | assumption)
                              obtain ⟨ad185, A185_0, c185_0, e185, hx185_0, hl185_0, hi185_0⟩ := at_L2 (Kd.N_reads' HO_14.out).2.2 (ji37) p185 q185
                              obtain rfl : ad172 = ad185 := (by injection e185)
                              obtain ⟨ce185, hce185, hMe185, hcc185⟩ := Kd.N_get HO_14.out [] (ji37) p185 (by first | exact q185 | exact of_decide_eq_true (by first | (with_reducible assumption) | assumption) | (have e_ := (Kd.N_reads' HO_14.out).1; omega))
                              obtain ⟨ua185_0, uc185_0, rfl, ul185_0, ge185_0⟩ := Kd.FK_slice_open hMe185
                              have hv185_0 := hcc185 0 _ rfl
                              rw [Nat.add_zero, show ((Kd.slice 2 (Kd.int .i64))).sz = 1 from rfl, Nat.mul_one] at hv185_0
                              replace hv185_0 := Option.some.inj (hv185_0.symm.trans hx185_0)
                              injection hv185_0 with hva_ hvn_ hvc_
                              rw [hva_] at ge185_0
                              rw [hvc_] at ul185_0
                              have HL185_0 := Aside0.mk (show Kd.V (Kd.int .i64) 2 _ w.heap.size _ _ (rd_L2 t169 (ji37)) from Kd.V_mk ul185_0 ge185_0)
                              clear hva_ hvn_ hvc_ ge185_0 ul185_0
                              clear hcc185 hce185
                              have HR185_0 := Aside0.mk hi185_0
                              have HC185_0 := Aside0.mk hl185_0
                              clear hi185_0 hl185_0
                              replace p185 := eq_true p185
                              replace q185 := eq_true q185
                              have ea_ := Option.some.inj (hx183_0.symm.trans hx185_0)
                              injection ea_ with ea_ en_ ec_
                              subst ea_
                              subst ec_
                              clear en_
                              have p186 : 0 ≤ (t179 : Int) := of_decide_eq_true (by first | (with_reducible assumption) | assumption)
                              have q186 : t179 < ((rd_L2 t169 (ji37)).length : Int) := of_decide_eq_true (by first | (with_reducible assumption) | assumption)
                              obtain ⟨ad186, e186, hx186_0⟩ := Kd.at_int (by repeat (first | (with_reducible exact HR185_0.out) | (with_reducible refine Kd.C_alloc ?_ _) | (with_reducible refine Kd.C_drewN ?_ _) | (with_reducible refine Kd.C_drew ?_) | exact HR185_0.out)) t179 p186 q186
                              cases e186
                              replace p186 := eq_true p186
                              replace q186 := eq_true q186
                              have p187 : 0 ≤ (x17_3 : Int) := of_decide_eq_true (by first | (with_reducible assumption) | assumption)
                              have q187 : x17_3 < (l2.length : Int) := of_decide_eq_true (by first | (with_reducible assumption) | assumption)
                              obtain ⟨ad187, e187, hx187_0⟩ := Kd.at_int HR2.out x17_3 p187 q187
                              have hw187_0 := hx187_0
                              obtain rfl : ad181 = ad187 := (by injection e187)
                              replace hx187_0 := (HB.out.cell (World.block_lt_of_cell? w _ hx187_0)).trans hx187_0
                              replace p187 := eq_true p187
                              replace q187 := eq_true q187
                              have p188 : 0 ≤ (x17_3 : Int) := of_decide_eq_true (by first | (with_reducible assumption) | assumption)
                              have q188 : x17_3 < (l3.length : Int) := of_decide_eq_true (by first | (with_reducible assumption) | assumption)
                              obtain ⟨ad188, e188, hx188_0⟩ := Kd.at_int HR3.out x17_3 p188 q188
                              have hw188_0 := hx188_0
                              cases e188
                              replace hx188_0 := (HB.out.cell (World.block_lt_of_cell? w _ hx188_0)).trans hx188_0
                              replace p188 := eq_true p188
                              replace q188 := eq_true q188
                              have p189 : 0 ≤ (x17_3 : Int) := of_decide_eq_true (by first | (with_reducible assumption) | assumption)
                              have q189 : x17_3 < (t169.length : Int) := of_decide_eq_true (by first | (with_reducible assumption) | assumption)
                              obtain ⟨ad189, A189_0, c189_0, e189, hx189_0, hl189_0, hi189_0⟩ := at_L2 (Kd.N_reads' HO_14.out).2.2 x17_3 p189 q189
                              obtain rfl : ad172 = ad189 := (by injection e189)
                              obtain ⟨ce189, hce189, hMe189, hcc189⟩ := Kd.N_get HO_14.out [] x17_3 p189 (by first | exact q189 | exact of_decide_eq_true (by first | (with_reducible assumption) | assumption) | (have e_ := (Kd.N_reads' HO_14.out).1; omega))
                              obtain ⟨ua189_0, uc189_0, rfl, ul189_0, ge189_0⟩ := Kd.FK_slice_open hMe189
                              have hv189_0 := hcc189 0 _ rfl
                              rw [Nat.add_zero, show ((Kd.slice 2 (Kd.int .i64))).sz = 1 from rfl, Nat.mul_one] at hv189_0
                              replace hv189_0 := Option.some.inj (hv189_0.symm.trans hx189_0)
                              injection hv189_0 with hva_ hvn_ hvc_
                              rw [hva_] at ge189_0
                              rw [hvc_] at ul189_0
                              have HL189_0 := Aside0.mk (show Kd.V (Kd.int .i64) 2 _ w.heap.size _ _ (rd_L2 t169 x17_3) from Kd.V_mk ul189_0 ge189_0)
                              clear hva_ hvn_ hvc_ ge189_0 ul189_0
                              clear hcc189 hce189
                              have HR189_0 := Aside0.mk hi189_0
                              have HC189_0 := Aside0.mk hl189_0
                              clear hi189_0 hl189_0
                              replace p189 := eq_true p189
                              replace q189 := eq_true q189
                              have p190 : 0 ≤ (x16_4 : Int) := of_decide_eq_true (by first | (with_reducible assumption) | assumption)
                              have q190 : x16_4 < ((rd_L2 t169 x17_3).length : Int) := of_decide_eq_true (by first | (with_reducible assumption) | assumption)
                              obtain ⟨ad190, e190, hx190_0⟩ := Kd.at_int (by repeat (first | (with_reducible exact HR189_0.out) | (with_reducible refine Kd.C_alloc ?_ _) | (with_reducible refine Kd.C_drewN ?_ _) | (with_reducible refine Kd.C_drew ?_) | exact HR189_0.out)) x16_4 p190 q190
                              cases e190
                              replace p190 := eq_true p190
                              replace q190 := eq_true q190
                              refine start_ (n := 52) (S := fun w' => w'.cell? (ad181.add (x17_3).toNat) = some (.int .i64 (rd l2 x17_3)) ∧ w'.cell? (ad172.add ((ji37)).toNat) = some (.slice (some ad184) (rd_L2 t169 (ji37)).length c183_0) ∧ w'.cell? (ad184.add (t179).toNat) = some (.int .i64 (rd (rd_L2 t169 (ji37)) t179)) ∧ w'.cell? (ad172.add ((ji37)).toNat) = some (.slice (some ad184) (rd_L2 t169 (ji37)).length c183_0) ∧ w'.cell? (ad184.add (t179).toNat) = some (.int .i64 (rd (rd_L2 t169 (ji37)) t179)) ∧ w'.cell? (ad181.add (x17_3).toNat) = some (.int .i64 (rd l2 x17_3)) ∧ w'.cell? (ad188.add (x17_3).toNat) = some (.int .i64 (rd l3 x17_3)) ∧ w'.cell? (ad172.add (x17_3).toNat) = some (.slice (some ad190) (rd_L2 t169 x17_3).length c189_0) ∧ w'.cell? (ad190.add (x16_4).toNat) = some (.int .i64 (rd (rd_L2 t169 x17_3) x16_4))) (ds := []) (tf 0 52) (by kernel_rfl) rfl rfl ⟨((HB.out.cell (World.block_lt_of_cell? w _ hw181_0)).trans hw181_0), hx183_0, hx184_0, hx185_0, hx186_0, ((HB.out.cell (World.block_lt_of_cell? w _ hw187_0)).trans hw187_0), ((HB.out.cell (World.block_lt_of_cell? w _ hw188_0)).trans hw188_0), hx189_0, hx190_0⟩ (fun hHeld => ?_); refine with_tabW spec_BestCharging.tab18 spec_BestCharging.bits18 (fun HT_ HW_ => ?_)
                              generalize wr.drew = w47 at HO_14 HO_15 BK166 HB HL183_0 HL185_0 HL189_0 HR183_0 HR185_0 HR189_0 hx181_0 hx183_0 hx184_0 hx185_0 hx186_0 hx187_0 hx188_0 hx189_0 hx190_0 hHeld ⊢
                              refine px 0 (some 76) (tf 1 52) HT_ ?_
                              refine px 1 (some 77) (tf 2 52) HT_ ?_
                              refine px 2 (some 78) (tf 3 52) HT_ ?_
                              refine px 3 (some 79) (tf 4 52) HT_ ?_
                              refine px 4 (some 80) (tf 5 52) HT_ ?_
                              refine px 6 (some 82) (tb 52 95) HT_ ?_
                              refine px 8 (some 84) (tb 52 351) HT_ ?_
                              refine tx (v := ?_) 5 (some 81) (tb 52 383) HT_ HW_ hHeld ?_ ?_
                              rotate_left; (· rintro w' ⟨s0, s1, s2, s3, s4, s5, s6, s7, s8⟩; go_simp; with_reducible rfl)
                              refine px 7 (some 83) (tf 9 52) HT_ ?_
                              refine one_ (i := 9) (N := some 85) (tf 10 52) rfl rfl (one_of HT_.out (by kernel_rfl)) (by decide) (fun K hK => ?_)
                              refine goes_ Try.func32 (by kernel_rfl) rfl #[.int .i64 (wrap64 ((rd l2 x17_3) + x18_4)), .int .i64 0, .int .i64 a4] (by rfl) rfl rfl (by (try simp only [List.map_toArray, List.map_cons, List.map_nil]); first | done | rfl | (simp only [List.length_drop, List.length_take]; rfl)) ?_
                              with_reducible refine (spec_l00In.calls (wrap64 ((rd l2 x17_3) + x18_4)) 0 a4 true _ A35.out).mono ?_
                              rintro e w' ⟨rfl, ⟨nd, rfl⟩⟩
                              refine ⟨_, rfl, ?_⟩
                              refine hK.out _ _ ⟨((HB.out.cell (World.block_lt_of_cell? w _ hw181_0)).trans hw181_0), hHeld.2.1, hHeld.2.2.1, hHeld.2.2.2.1, hHeld.2.2.2.2.1, ((HB.out.cell (World.block_lt_of_cell? w _ hw187_0)).trans hw187_0), ((HB.out.cell (World.block_lt_of_cell? w _ hw188_0)).trans hw188_0), hHeld.2.2.2.2.2.2.2.1, hHeld.2.2.2.2.2.2.2.2⟩ (fun hHeld => ?_)
                              clear hK K
                              refine norm_ (a' := ?_) ?_ ?_
                              rotate_left
                              ·show Act.put _ (some 85) _ = _
                               simp only [Act.put, List.setIfInBounds_toArray, List.set_cons_zero, List.set_cons_succ, i64_w, i32_w]
                               rfl
                              refine px 10 (some 86) (tf 11 52) HT_ ?_
                              refine px 11 (some 87) (tf 12 52) HT_ ?_
                              refine px 12 (some 88) (tf 13 52) HT_ ?_
                              refine px 13 (some 89) (tf 14 52) HT_ ?_
                              refine px 14 (some 90) (tf 15 52) HT_ ?_
                              refine px 15 (some 91) (tf 16 52) HT_ ?_
                              refine px 17 (some 93) (tb 52 196607) HT_ ?_
                              refine tx (v := ?_) 16 (some 92) (tf 18 52) HT_ HW_ hHeld ?_ ?_
                              rotate_left; (· rintro w' ⟨s0, s1, s2, s3, s4, s5, s6, s7, s8⟩; go_simp; with_reducible rfl)
                              refine px 18 (some 94) (tf 19 52) HT_ ?_
                              refine tx (v := ?_) 19 (some 95) (tf 20 52) HT_ HW_ hHeld ?_ ?_
                              rotate_left; (· rintro w' ⟨s0, s1, s2, s3, s4, s5, s6, s7, s8⟩; go_simp; with_reducible rfl)
                              refine px 20 (some 96) (tf 21 52) HT_ ?_
                              refine px 21 (some 97) (tf 22 52) HT_ ?_
                              refine px 22 (some 98) (tf 23 52) HT_ ?_
                              refine px 23 (some 99) (tf 24 52) HT_ ?_
                              refine px 24 (some 100) (tf 25 52) HT_ ?_
                              refine px 25 (some 101) (tf 26 52) HT_ ?_
                              refine px 26 (some 102) (tf 27 52) HT_ ?_
                              refine px 28 (some 104) (tb 52 402653183) HT_ ?_
                              refine px 31 (some 107) (tb 52 2550136831) HT_ ?_
                              refine px 32 (some 108) (tb 52 6845104127) HT_ ?_
                              refine px 33 (some 109) (tb 52 15435038719) HT_ ?_
                              refine px 35 (some 111) (tb 52 49794777087) HT_ ?_
                              refine px 37 (some 113) (tb 52 187233730559) HT_ ?_
                              refine px 38 (some 114) (tb 52 462111637503) HT_ ?_
                              refine px 39 (some 115) (tb 52 1011867451391) HT_ ?_
                              refine px 43 (some 119) (tb 52 9807960473599) HT_ ?_
                              refine px 44 (some 120) (tb 52 27400146518015) HT_ ?_
                              refine px 45 (some 121) (tb 52 62584518606847) HT_ ?_
                              refine px 47 (some 123) (tb 52 203322006962175) HT_ ?_
                              refine tx (v := ?_) 27 (some 103) (tb 52 203322141179903) HT_ HW_ hHeld ?_ ?_
                              rotate_left; (· rintro w' ⟨s0, s1, s2, s3, s4, s5, s6, s7, s8⟩; go_simp; with_reducible rfl)
                              refine px 29 (some 105) (tb 52 203322678050815) HT_ ?_
                              refine tx (v := ?_) 30 (some 106) (tb 52 203323751792639) HT_ HW_ hHeld ?_ ?_
                              rotate_left; (· rintro w' ⟨s0, s1, s2, s3, s4, s5, s6, s7, s8⟩; go_simp; with_reducible rfl)
                              refine tx (v := ?_) 34 (some 110) (tb 52 203340931661823) HT_ HW_ hHeld ?_ ?_
                              rotate_left; (· rintro w' ⟨s0, s1, s2, s3, s4, s5, s6, s7, s8⟩; go_simp; with_reducible rfl)
                              refine px 36 (some 112) (tb 52 203409651138559) HT_ ?_
                              refine tx (v := ?_) 40 (some 116) (tb 52 204509162766335) HT_ HW_ hHeld ?_ ?_
                              rotate_left; (· rintro w' ⟨s0, s1, s2, s3, s4, s5, s6, s7, s8⟩; go_simp; with_reducible rfl)
                              refine px 41 (some 117) (tb 52 206708186021887) HT_ ?_
                              refine px 42 (some 118) (tb 52 211106232532991) HT_ ?_
                              refine tx (v := ?_) 46 (some 122) (tf 48 52) HT_ HW_ hHeld ?_ ?_
                              rotate_left; (· rintro w' ⟨s0, s1, s2, s3, s4, s5, s6, s7, s8⟩; go_simp; with_reducible rfl)
                              refine px 48 (some 124) (tf 49 52) HT_ ?_
                              refine tx (v := ?_) 49 (some 125) (tf 50 52) HT_ HW_ hHeld ?_ ?_
                              rotate_left; (· rintro w' ⟨s0, s1, s2, s3, s4, s5, s6, s7, s8⟩; go_simp; with_reducible rfl)
                              refine px 50 (some 126) (tf 51 52) HT_ ?_
                              refine px 51 (some 127) (tf 52 52) HT_ ?_
                              refine done_ (done_of HT_.out (by kernel_rfl)) ?_
                              try go_wp2
                              go_meet
                              case rel => exact ⟨_, (((wrap64 ((rd (rd_L2 t169 (ji37)) t179) + (wrap64 ((wrap64 ((rd l2 x17_3) + x18_4)) * (rd l3 x17_3))))) == (rd (rd_L2 t169 x17_3) x16_4))), (by first | rfl | (simp; done) | (simp only [← hji37] <;> (first | rfl | simp)) | (simp [*]; done)), H', ⟨by have := HJ6.out; have := HJ11.out; have := HK3.out; have := HK4.out; first | omega | exact Nat.le_refl _⟩, ⟨by (with_reducible repeat (first | apply Kd.N_alloc | apply Kd.N_drewN | apply Kd.N_drew)); exact HO_14.out⟩, ⟨by (with_reducible repeat (first | apply Kd.R_alloc | apply Kd.R_drewN | apply Kd.R_drew)); exact HO_15.out⟩, ⟨by (with_reducible repeat (first | refine blk_drewN ?_ _ | refine blk_drew ?_ | refine blk_alloc ?_ _)); exact BK166.out⟩, ⟨by repeat (first | (with_reducible first | exact HB.out | apply below_alloc | apply pw_below_drewN | apply below_drew1 | refine below_set ?_ GE166.out) | exact HB.out)⟩⟩
                             ·rw [if_neg c46] at H
                              exact absurd H (by simp)
                            ·rw [if_neg c45] at H
                             exact absurd H (by simp)
                           ·rw [if_neg c44] at H
                            exact absurd H (by simp)
                          ·rw [if_neg c43] at H
                           exact absurd H (by simp)
                         ·rw [if_neg c42] at H
                          have c42b0 : decide (0 ≤ (rd (rd_L2 t169 (ji37)) t179)) = false := decide_eq_false c42
                          clear c42
                          have H' := Aside0.mk H
                          clear H
                          try go_wp2
                          have n0_ := Aside0.mk (Kd.N_drew HO_14.out)
                          have n1_ := Aside0.mk (Kd.R_drew HO_15.out)
                          have n2_ := Aside0.mk (blk_drew BK166.out)
                          have n3_ := Aside0.mk (below_drew1 HB.out)
                          clear HO_14
                          clear HO_15
                          clear BK166
                          clear HB
                          have HO_14 := n0_
                          have HO_15 := n1_
                          have BK166 := n2_
                          have HB := n3_
                          clear n0_ n1_ n2_ n3_
                          have p181 : 0 ≤ (x17_3 : Int) := of_decide_eq_true (by first | (with_reducible assumption) | assumption)
                          have q181 : x17_3 < (l2.length : Int) := of_decide_eq_true (by first | (with_reducible assumption) | assumption)
                          obtain ⟨ad181, e181, hx181_0⟩ := Kd.at_int HR2.out x17_3 p181 q181
                          have hw181_0 := hx181_0
                          cases e181
                          replace hx181_0 := (HB.out.cell (World.block_lt_of_cell? w _ hx181_0)).trans hx181_0
                          replace p181 := eq_true p181
                          replace q181 := eq_true q181
                          have p183 : 0 ≤ ((ji37) : Int) := of_decide_eq_true (by first | (with_reducible assumption) | assumption)
                          have q183 : (ji37) < (t169.length : Int) := of_decide_eq_true (by first | (with_reducible assumption) | assumption)
                          obtain ⟨ad183, A183_0, c183_0, e183, hx183_0, hl183_0, hi183_0⟩ := at_L2 (Kd.N_reads' HO_14.out).2.2 (ji37) p183 q183
                          obtain rfl : ad172 = ad183 := (by injection e183)
                          obtain ⟨ce183, hce183, hMe183, hcc183⟩ := Kd.N_get HO_14.out [] (ji37) p183 (by first | exact q183 | exact of_decide_eq_true (by first | (with_reducible assumption) | assumption) | (have e_ := (Kd.N_reads' HO_14.out).1; omega))
                          obtain ⟨ua183_0, uc183_0, rfl, ul183_0, ge183_0⟩ := Kd.FK_slice_open hMe183
                          have hv183_0 := hcc183 0 _ rfl
                          rw [Nat.add_zero, show ((Kd.slice 2 (Kd.int .i64))).sz = 1 from rfl, Nat.mul_one] at hv183_0
                          replace hv183_0 := Option.some.inj (hv183_0.symm.trans hx183_0)
                          injection hv183_0 with hva_ hvn_ hvc_
                          rw [hva_] at ge183_0
                          rw [hvc_] at ul183_0
                          have HL183_0 := Aside0.mk (show Kd.V (Kd.int .i64) 2 _ w.heap.size _ _ (rd_L2 t169 (ji37)) from Kd.V_mk ul183_0 ge183_0)
                          clear hva_ hvn_ hvc_ ge183_0 ul183_0
                          clear hcc183 hce183
                          have HR183_0 := Aside0.mk hi183_0
                          have HC183_0 := Aside0.mk hl183_0
                          clear hi183_0 hl183_0
                          replace p183 := eq_true p183
                          replace q183 := eq_true q183
                          have p184 : 0 ≤ (t179 : Int) := of_decide_eq_true (by first | (with_reducible assumption) | assumption)
                          have q184 : t179 < ((rd_L2 t169 (ji37)).length : Int) := of_decide_eq_true (by first | (with_reducible assumption) | assumption)
                          obtain ⟨ad184, e184, hx184_0⟩ := Kd.at_int (by repeat (first | (with_reducible exact HR183_0.out) | (with_reducible refine Kd.C_alloc ?_ _) | (with_reducible refine Kd.C_drewN ?_ _) | (with_reducible refine Kd.C_drew ?_) | exact HR183_0.out)) t179 p184 q184
                          cases e184
                          replace p184 := eq_true p184
                          replace q184 := eq_true q184
                          refine start_ (n := 52) (S := fun w' => w'.cell? (ad181.add (x17_3).toNat) = some (.int .i64 (rd l2 x17_3)) ∧ w'.cell? (ad172.add ((ji37)).toNat) = some (.slice (some ad184) (rd_L2 t169 (ji37)).length c183_0) ∧ w'.cell? (ad184.add (t179).toNat) = some (.int .i64 (rd (rd_L2 t169 (ji37)) t179))) (ds := []) (tf 0 52) (by kernel_rfl) rfl rfl ⟨((HB.out.cell (World.block_lt_of_cell? w _ hw181_0)).trans hw181_0), hx183_0, hx184_0⟩ (fun hHeld => ?_); refine with_tabW spec_BestCharging.tab18 spec_BestCharging.bits18 (fun HT_ HW_ => ?_)
                          generalize wr.drew = w48 at HO_14 HO_15 BK166 HB HL183_0 HR183_0 hx181_0 hx183_0 hx184_0 hHeld ⊢
                          refine px 0 (some 76) (tf 1 52) HT_ ?_
                          refine px 1 (some 77) (tf 2 52) HT_ ?_
                          refine px 2 (some 78) (tf 3 52) HT_ ?_
                          refine px 3 (some 79) (tf 4 52) HT_ ?_
                          refine px 4 (some 80) (tf 5 52) HT_ ?_
                          refine px 6 (some 82) (tb 52 95) HT_ ?_
                          refine px 8 (some 84) (tb 52 351) HT_ ?_
                          refine tx (v := ?_) 5 (some 81) (tb 52 383) HT_ HW_ hHeld ?_ ?_
                          rotate_left; (· rintro w' ⟨s0, s1, s2⟩; go_simp; with_reducible rfl)
                          refine px 7 (some 83) (tf 9 52) HT_ ?_
                          refine one_ (i := 9) (N := some 85) (tf 10 52) rfl rfl (one_of HT_.out (by kernel_rfl)) (by decide) (fun K hK => ?_)
                          refine goes_ Try.func32 (by kernel_rfl) rfl #[.int .i64 (wrap64 ((rd l2 x17_3) + x18_4)), .int .i64 0, .int .i64 a4] (by rfl) rfl rfl (by (try simp only [List.map_toArray, List.map_cons, List.map_nil]); first | done | rfl | (simp only [List.length_drop, List.length_take]; rfl)) ?_
                          with_reducible refine (spec_l00In.calls (wrap64 ((rd l2 x17_3) + x18_4)) 0 a4 true _ A35.out).mono ?_
                          rintro e w' ⟨rfl, ⟨nd, rfl⟩⟩
                          refine ⟨_, rfl, ?_⟩
                          refine hK.out _ _ ⟨((HB.out.cell (World.block_lt_of_cell? w _ hw181_0)).trans hw181_0), hHeld.2.1, hHeld.2.2⟩ (fun hHeld => ?_)
                          clear hK K
                          refine norm_ (a' := ?_) ?_ ?_
                          rotate_left
                          ·show Act.put _ (some 85) _ = _
                           simp only [Act.put, List.setIfInBounds_toArray, List.set_cons_zero, List.set_cons_succ, i64_w, i32_w]
                           rfl
                          refine px 10 (some 86) (tf 11 52) HT_ ?_
                          refine px 11 (some 87) (tf 12 52) HT_ ?_
                          refine px 12 (some 88) (tf 13 52) HT_ ?_
                          refine px 13 (some 89) (tf 14 52) HT_ ?_
                          refine px 14 (some 90) (tf 15 52) HT_ ?_
                          refine px 15 (some 91) (tf 16 52) HT_ ?_
                          refine px 17 (some 93) (tb 52 196607) HT_ ?_
                          refine tx (v := ?_) 16 (some 92) (tf 18 52) HT_ HW_ hHeld ?_ ?_
                          rotate_left; (· rintro w' ⟨s0, s1, s2⟩; go_simp; with_reducible rfl)
                          refine px 18 (some 94) (tf 19 52) HT_ ?_
                          refine tx (v := ?_) 19 (some 95) (tf 20 52) HT_ HW_ hHeld ?_ ?_
                          rotate_left; (· rintro w' ⟨s0, s1, s2⟩; go_simp; with_reducible rfl)
                          refine px 20 (some 96) (tf 21 52) HT_ ?_
                          refine px 21 (some 97) (tf 22 52) HT_ ?_
                          refine px 22 (some 98) (tf 23 52) HT_ ?_
                          refine sx 23 (some 99) (tf 24 52) HT_ ?_
                          refine sx 24 (some 100) (tf 25 52) HT_ ?_
                          refine sx 25 (some 101) (tf 26 52) HT_ ?_
                          refine sx 26 (some 102) (tf 27 52) HT_ ?_
                          refine sx 27 (some 103) (tf 28 52) HT_ ?_
                          refine sx 28 (some 104) (tf 29 52) HT_ ?_
                          refine sx 29 (some 105) (tf 30 52) HT_ ?_
                          refine sx 30 (some 106) (tf 31 52) HT_ ?_
                          refine sx 31 (some 107) (tf 32 52) HT_ ?_
                          refine sx 32 (some 108) (tf 33 52) HT_ ?_
                          refine sx 33 (some 109) (tf 34 52) HT_ ?_
                          refine sx 34 (some 110) (tf 35 52) HT_ ?_
                          refine sx 35 (some 111) (tf 36 52) HT_ ?_
                          refine sx 36 (some 112) (tf 37 52) HT_ ?_
                          refine sx 37 (some 113) (tf 38 52) HT_ ?_
                          refine sx 38 (some 114) (tf 39 52) HT_ ?_
                          refine sx 39 (some 115) (tf 40 52) HT_ ?_
                          refine sx 40 (some 116) (tf 41 52) HT_ ?_
                          refine sx 41 (some 117) (tf 42 52) HT_ ?_
                          refine sx 42 (some 118) (tf 43 52) HT_ ?_
                          refine sx 43 (some 119) (tf 44 52) HT_ ?_
                          refine sx 44 (some 120) (tf 45 52) HT_ ?_
                          refine sx 45 (some 121) (tf 46 52) HT_ ?_
                          refine sx 46 (some 122) (tf 47 52) HT_ ?_
                          refine sx 47 (some 123) (tf 48 52) HT_ ?_
                          refine sx 48 (some 124) (tf 49 52) HT_ ?_
                          refine sx 49 (some 125) (tf 50 52) HT_ ?_
                          refine sx 50 (some 126) (tf 51 52) HT_ ?_
                          refine px 51 (some 127) (tf 52 52) HT_ ?_
                          refine done_ (done_of HT_.out (by kernel_rfl)) ?_
                          try go_wp2
                          go_meet
                          case rel => exact ⟨_, (false), (by first | rfl | (simp; done) | (simp [*]; done)), H', ⟨by have := HJ6.out; have := HJ11.out; have := HK3.out; have := HK4.out; first | omega | exact Nat.le_refl _⟩, ⟨by (with_reducible repeat (first | apply Kd.N_alloc | apply Kd.N_drewN | apply Kd.N_drew)); exact HO_14.out⟩, ⟨by (with_reducible repeat (first | apply Kd.R_alloc | apply Kd.R_drewN | apply Kd.R_drew)); exact HO_15.out⟩, ⟨by (with_reducible repeat (first | refine blk_drewN ?_ _ | refine blk_drew ?_ | refine blk_alloc ?_ _)); exact BK166.out⟩, ⟨by repeat (first | (with_reducible first | exact HB.out | apply below_alloc | apply pw_below_drewN | apply below_drew1 | refine below_set ?_ GE166.out) | exact HB.out)⟩⟩
                        ·rw [if_neg c41] at H
                         exact absurd H (by simp)
                       ·rw [if_neg c40] at H
                        exact absurd H (by simp)
                      ·rw [if_neg c39] at H
                       exact absurd H (by simp)
                     ·rw [if_neg c38] at H
                      exact absurd H (by simp)
                    ·replace c36 := Bool.eq_false_iff.mpr c36
                     subst c36
                     have H1 : (spec_BestCharging.j4 k4 a1 l2 l3 a4 t169 x15_4 x16_4 x17_3 x18_4 t179 false a0_0 a0_1 a0_2) = some (r1, r2, r3) := by rw [if_neg (show ¬ (false = true) by decide)] at H; exact H
                     clear H
                     have H := H1
                     clear H1
                     have H' := Aside0.mk H
                     clear H
                     try go_wp2
                     have n0_ := Aside0.mk (Kd.N_drew HO_14.out)
                     have n1_ := Aside0.mk (Kd.R_drew HO_15.out)
                     have n2_ := Aside0.mk (blk_drew BK166.out)
                     have n3_ := Aside0.mk (below_drew1 HB.out)
                     clear HO_14
                     clear HO_15
                     clear BK166
                     clear HB
                     have HO_14 := n0_
                     have HO_15 := n1_
                     have BK166 := n2_
                     have HB := n3_
                     clear n0_ n1_ n2_ n3_
                     have p181 : 0 ≤ (x17_3 : Int) := of_decide_eq_true (by first | (with_reducible assumption) | assumption)
                     have q181 : x17_3 < (l2.length : Int) := of_decide_eq_true (by first | (with_reducible assumption) | assumption)
                     obtain ⟨ad181, e181, hx181_0⟩ := Kd.at_int HR2.out x17_3 p181 q181
                     have hw181_0 := hx181_0
                     cases e181
                     replace hx181_0 := (HB.out.cell (World.block_lt_of_cell? w _ hx181_0)).trans hx181_0
                     replace p181 := eq_true p181
                     replace q181 := eq_true q181
                     refine start_ (n := 52) (S := fun w' => w'.cell? (ad181.add (x17_3).toNat) = some (.int .i64 (rd l2 x17_3))) (ds := []) (tf 0 52) (by kernel_rfl) rfl rfl (((HB.out.cell (World.block_lt_of_cell? w _ hw181_0)).trans hw181_0)) (fun hHeld => ?_); refine with_tabW spec_BestCharging.tab18 spec_BestCharging.bits18 (fun HT_ HW_ => ?_)
                     generalize wr.drew = w49 at HO_14 HO_15 BK166 HB hx181_0 hHeld ⊢
                     refine px 0 (some 76) (tf 1 52) HT_ ?_
                     refine px 1 (some 77) (tf 2 52) HT_ ?_
                     refine px 2 (some 78) (tf 3 52) HT_ ?_
                     refine px 3 (some 79) (tf 4 52) HT_ ?_
                     refine px 4 (some 80) (tf 5 52) HT_ ?_
                     refine px 6 (some 82) (tb 52 95) HT_ ?_
                     refine px 8 (some 84) (tb 52 351) HT_ ?_
                     refine take_ (i := 5) (N := some 81) (v := ?_) (a' := ?_) (tb 52 383) rfl rfl (take_ofW HT_.out HW_.out (by kernel_rfl)) (fun _ _ _ h => h) (Or.inl ⟨by rfl, ?_⟩) hHeld ?_ ?_
                     rotate_left
                     ·intro w' s0
                      go_simp
                      with_reducible rfl
                     rotate_left; (· simp only [Act.put, List.setIfInBounds_toArray, List.set_cons_zero, List.set_cons_succ, i64_w, i32_w]; rfl)
                     refine px 7 (some 83) (tf 9 52) HT_ ?_
                     refine one_ (i := 9) (N := some 85) (tf 10 52) rfl rfl (one_of HT_.out (by kernel_rfl)) (by decide) (fun K hK => ?_)
                     refine goes_ Try.func32 (by kernel_rfl) rfl #[.int .i64 (wrap64 ((rd l2 x17_3) + x18_4)), .int .i64 0, .int .i64 a4] (by rfl) rfl rfl (by (try simp only [List.map_toArray, List.map_cons, List.map_nil]); first | done | rfl | (simp only [List.length_drop, List.length_take]; rfl)) ?_
                     with_reducible refine (spec_l00In.calls (wrap64 ((rd l2 x17_3) + x18_4)) 0 a4 false _ A35.out).mono ?_
                     rintro e w' ⟨rfl, ⟨nd, rfl⟩⟩
                     refine ⟨_, rfl, ?_⟩
                     refine hK.out _ _ (((HB.out.cell (World.block_lt_of_cell? w _ hw181_0)).trans hw181_0)) (fun hHeld => ?_)
                     clear hK K
                     refine norm_ (a' := ?_) ?_ ?_
                     rotate_left
                     ·show Act.put _ (some 85) _ = _
                      simp only [Act.put, List.setIfInBounds_toArray, List.set_cons_zero, List.set_cons_succ, i64_w, i32_w]
                      rfl
                     refine px 10 (some 86) (tf 11 52) HT_ ?_
                     refine px 11 (some 87) (tf 12 52) HT_ ?_
                     refine sx 12 (some 88) (tf 13 52) HT_ ?_
                     refine sx 13 (some 89) (tf 14 52) HT_ ?_
                     refine sx 14 (some 90) (tf 15 52) HT_ ?_
                     refine sx 15 (some 91) (tf 16 52) HT_ ?_
                     refine sx 16 (some 92) (tf 17 52) HT_ ?_
                     refine sx 17 (some 93) (tf 18 52) HT_ ?_
                     refine sx 18 (some 94) (tf 19 52) HT_ ?_
                     refine sx 19 (some 95) (tf 20 52) HT_ ?_
                     refine sx 20 (some 96) (tf 21 52) HT_ ?_
                     refine px 21 (some 97) (tf 22 52) HT_ ?_
                     refine px 22 (some 98) (tf 23 52) HT_ ?_
                     refine sx 23 (some 99) (tf 24 52) HT_ ?_
                     refine sx 24 (some 100) (tf 25 52) HT_ ?_
                     refine sx 25 (some 101) (tf 26 52) HT_ ?_
                     refine sx 26 (some 102) (tf 27 52) HT_ ?_
                     refine sx 27 (some 103) (tf 28 52) HT_ ?_
                     refine sx 28 (some 104) (tf 29 52) HT_ ?_
                     refine sx 29 (some 105) (tf 30 52) HT_ ?_
                     refine sx 30 (some 106) (tf 31 52) HT_ ?_
                     refine sx 31 (some 107) (tf 32 52) HT_ ?_
                     refine sx 32 (some 108) (tf 33 52) HT_ ?_
                     refine sx 33 (some 109) (tf 34 52) HT_ ?_
                     refine sx 34 (some 110) (tf 35 52) HT_ ?_
                     refine sx 35 (some 111) (tf 36 52) HT_ ?_
                     refine sx 36 (some 112) (tf 37 52) HT_ ?_
                     refine sx 37 (some 113) (tf 38 52) HT_ ?_
                     refine sx 38 (some 114) (tf 39 52) HT_ ?_
                     refine sx 39 (some 115) (tf 40 52) HT_ ?_
                     refine sx 40 (some 116) (tf 41 52) HT_ ?_
                     refine sx 41 (some 117) (tf 42 52) HT_ ?_
                     refine sx 42 (some 118) (tf 43 52) HT_ ?_
                     refine sx 43 (some 119) (tf 44 52) HT_ ?_
                     refine sx 44 (some 120) (tf 45 52) HT_ ?_
                     refine sx 45 (some 121) (tf 46 52) HT_ ?_
                     refine sx 46 (some 122) (tf 47 52) HT_ ?_
                     refine sx 47 (some 123) (tf 48 52) HT_ ?_
                     refine sx 48 (some 124) (tf 49 52) HT_ ?_
                     refine sx 49 (some 125) (tf 50 52) HT_ ?_
                     refine sx 50 (some 126) (tf 51 52) HT_ ?_
                     refine px 51 (some 127) (tf 52 52) HT_ ?_
                     refine done_ (done_of HT_.out (by kernel_rfl)) ?_
                     try go_wp2
                     go_meet
                     case rel => exact ⟨_, (false), (by first | rfl | (simp; done) | (simp [*]; done)), H', ⟨by have := HJ6.out; have := HJ11.out; have := HK3.out; have := HK4.out; first | omega | exact Nat.le_refl _⟩, ⟨by (with_reducible repeat (first | apply Kd.N_alloc | apply Kd.N_drewN | apply Kd.N_drew)); exact HO_14.out⟩, ⟨by (with_reducible repeat (first | apply Kd.R_alloc | apply Kd.R_drewN | apply Kd.R_drew)); exact HO_15.out⟩, ⟨by (with_reducible repeat (first | refine blk_drewN ?_ _ | refine blk_drew ?_ | refine blk_alloc ?_ _)); exact BK166.out⟩, ⟨by repeat (first | (with_reducible first | exact HB.out | apply below_alloc | apply pw_below_drewN | apply below_drew1 | refine below_set ?_ GE166.out) | exact HB.out)⟩⟩
                   ·rw [if_neg c34] at H
                    exact absurd H (by simp)
                  ·rw [if_neg c33] at H
                   exact absurd H (by simp)
                 ·replace c32 := Bool.eq_false_iff.mpr c32
                  subst c32
                  have H1 : (spec_BestCharging.j4 k4 a1 l2 l3 a4 t169 x15_4 x16_4 x17_3 x18_4 t179 false a0_0 a0_1 a0_2) = some (r1, r2, r3) := by rw [if_neg (show ¬ (false = true) by decide)] at H; exact H
                  clear H
                  have H := H1
                  clear H1
                  have H' := Aside0.mk H
                  clear H
                  try go_wp2
                  have n0_ := Aside0.mk (Kd.N_drew HO_14.out)
                  have n1_ := Aside0.mk (Kd.R_drew HO_15.out)
                  have n2_ := Aside0.mk (blk_drew BK166.out)
                  have n3_ := Aside0.mk (below_drew1 HB.out)
                  clear HO_14
                  clear HO_15
                  clear BK166
                  clear HB
                  have HO_14 := n0_
                  have HO_15 := n1_
                  have BK166 := n2_
                  have HB := n3_
                  clear n0_ n1_ n2_ n3_
                  refine start_ (n := 52) (S := fun w' => True) (ds := []) (tf 0 52) (by kernel_rfl) rfl rfl trivial (fun hHeld => ?_); refine with_tabW spec_BestCharging.tab18 spec_BestCharging.bits18 (fun HT_ HW_ => ?_)
                  generalize wr.drew = w50 at HO_14 HO_15 BK166 HB hHeld ⊢
                  refine px 0 (some 76) (tf 1 52) HT_ ?_
                  refine px 1 (some 77) (tf 2 52) HT_ ?_
                  refine sx 2 (some 78) (tf 3 52) HT_ ?_
                  refine sx 3 (some 79) (tf 4 52) HT_ ?_
                  refine sx 4 (some 80) (tf 5 52) HT_ ?_
                  refine sx 5 (some 81) (tf 6 52) HT_ ?_
                  refine sx 6 (some 82) (tf 7 52) HT_ ?_
                  refine sx 7 (some 83) (tf 8 52) HT_ ?_
                  refine sx 8 (some 84) (tf 9 52) HT_ ?_
                  refine sx 9 (some 85) (tf 10 52) HT_ ?_
                  refine px 10 (some 86) (tf 11 52) HT_ ?_
                  refine px 11 (some 87) (tf 12 52) HT_ ?_
                  refine sx 12 (some 88) (tf 13 52) HT_ ?_
                  refine sx 13 (some 89) (tf 14 52) HT_ ?_
                  refine sx 14 (some 90) (tf 15 52) HT_ ?_
                  refine sx 15 (some 91) (tf 16 52) HT_ ?_
                  refine sx 16 (some 92) (tf 17 52) HT_ ?_
                  refine sx 17 (some 93) (tf 18 52) HT_ ?_
                  refine sx 18 (some 94) (tf 19 52) HT_ ?_
                  refine sx 19 (some 95) (tf 20 52) HT_ ?_
                  refine sx 20 (some 96) (tf 21 52) HT_ ?_
                  refine px 21 (some 97) (tf 22 52) HT_ ?_
                  refine px 22 (some 98) (tf 23 52) HT_ ?_
                  refine sx 23 (some 99) (tf 24 52) HT_ ?_
                  refine sx 24 (some 100) (tf 25 52) HT_ ?_
                  refine sx 25 (some 101) (tf 26 52) HT_ ?_
                  refine sx 26 (some 102) (tf 27 52) HT_ ?_
                  refine sx 27 (some 103) (tf 28 52) HT_ ?_
                  refine sx 28 (some 104) (tf 29 52) HT_ ?_
                  refine sx 29 (some 105) (tf 30 52) HT_ ?_
                  refine sx 30 (some 106) (tf 31 52) HT_ ?_
                  refine sx 31 (some 107) (tf 32 52) HT_ ?_
                  refine sx 32 (some 108) (tf 33 52) HT_ ?_
                  refine sx 33 (some 109) (tf 34 52) HT_ ?_
                  refine sx 34 (some 110) (tf 35 52) HT_ ?_
                  refine sx 35 (some 111) (tf 36 52) HT_ ?_
                  refine sx 36 (some 112) (tf 37 52) HT_ ?_
                  refine sx 37 (some 113) (tf 38 52) HT_ ?_
                  refine sx 38 (some 114) (tf 39 52) HT_ ?_
                  refine sx 39 (some 115) (tf 40 52) HT_ ?_
                  refine sx 40 (some 116) (tf 41 52) HT_ ?_
                  refine sx 41 (some 117) (tf 42 52) HT_ ?_
                  refine sx 42 (some 118) (tf 43 52) HT_ ?_
                  refine sx 43 (some 119) (tf 44 52) HT_ ?_
                  refine sx 44 (some 120) (tf 45 52) HT_ ?_
                  refine sx 45 (some 121) (tf 46 52) HT_ ?_
                  refine sx 46 (some 122) (tf 47 52) HT_ ?_
                  refine sx 47 (some 123) (tf 48 52) HT_ ?_
                  refine sx 48 (some 124) (tf 49 52) HT_ ?_
                  refine sx 49 (some 125) (tf 50 52) HT_ ?_
                  refine sx 50 (some 126) (tf 51 52) HT_ ?_
                  refine px 51 (some 127) (tf 52 52) HT_ ?_
                  refine done_ (done_of HT_.out (by kernel_rfl)) ?_
                  try go_wp2
                  go_meet
                  case rel => exact ⟨_, (false), (by first | rfl | (simp; done) | (simp [*]; done)), H', ⟨by have := HJ6.out; have := HJ11.out; have := HK3.out; have := HK4.out; first | omega | exact Nat.le_refl _⟩, ⟨by (with_reducible repeat (first | apply Kd.N_alloc | apply Kd.N_drewN | apply Kd.N_drew)); exact HO_14.out⟩, ⟨by (with_reducible repeat (first | apply Kd.R_alloc | apply Kd.R_drewN | apply Kd.R_drew)); exact HO_15.out⟩, ⟨by (with_reducible repeat (first | refine blk_drewN ?_ _ | refine blk_drew ?_ | refine blk_alloc ?_ _)); exact BK166.out⟩, ⟨by repeat (first | (with_reducible first | exact HB.out | apply below_alloc | apply pw_below_drewN | apply below_drew1 | refine below_set ?_ GE166.out) | exact HB.out)⟩⟩
                case rest =>
                 clear HC30
                 try clear p1
                 try clear q1
                 try clear hx1
                 try clear p2
                 try clear c3
                 try clear c4
                 try clear p6
                 try clear p18
                 try clear q18
                 try clear hx18
                 try clear c32
                 try clear c33
                 try clear c34
                 try clear c36
                 try clear c38
                 try clear c39
                 try clear c40
                 try clear c41
                 try clear hx181_0
                 try clear p181
                 try clear q181
                 obtain ⟨kq, x127_29, rfl, HA, HJ29, HO_14, HO_15, BK166, HB⟩ := hcut
                 cases kq with
                 | zero => exact absurd HA.out (by simp [spec_BestCharging.j4])
                 | succ kj29 =>
                  have H := HA.out
                  clear HA
                  simp only [spec_BestCharging.j4] at H
                  by_cases c51 : x127_29 = true
                  ·subst c51
                   have H1 : (if x15_4.length < 17592186044416 then (spec_BestCharging.l0 kj29 a1 l2 l3 a4 t169 (x15_4 ++ [x18_4]) t179 (wrap64 (x17_3 + 1)) a0_0 a0_1 a0_2) else (none)) = some (r1, r2, r3) := by rw [if_pos rfl] at H; exact H
                   clear H
                   have H := H1
                   clear H1
                   by_cases c52 : x15_4.length < 17592186044416
                   ·rw [if_pos c52] at H
                    have LMc52 := Aside0.mk c52
                    clear c52
                    obtain ⟨y191, hy191⟩ : ∃ y_ : List Int, y_ = (x15_4 ++ [x18_4]) := ⟨_, rfl⟩
                    replace H : (spec_BestCharging.l0 kj29 a1 l2 l3 a4 t169 y191 t179 (wrap64 (x17_3 + 1)) a0_0 a0_1 a0_2) = some (r1, r2, r3) := by first | (rw [hy191]; with_reducible exact H) | (have H2_ := (Option.bind_some _ _).symm.trans H; rw [hy191]; with_reducible exact H2_) | (have H2_ := (Option.bind_some _ _).symm.trans H; with_reducible exact H2_) | with_reducible exact H | (rw [hy191]; exact H) | exact H
                    have Ny191 := Aside0.mk hy191
                    clear hy191
                    have H' := Aside0.mk H
                    clear H
                    go_wp2_with (first | ((with_reducible refine gate_builtin (b := .append) (xs := #[.tmp 128, .tmp 130]) rfl ?_); (try (refine gate_guard (by rfl) ?_; dsimp only)); at_builtin; refine Kd.R_append (Kd.int .i64) (w0 := w) w.heap.size rfl (.tmp 128) (.tmp 130) 24 2 (.int .i64 0) 8 rfl Try.underlying24 info2 rfl (by decide) (by omega) u15 x15_4 x18_4 [.int .i64 x18_4] (fun _ => True) (fun _ => False) rfl rfl ?aP (fun _ hk => hk.elim) ?aF ?aO ?aB ?aS ?aL ?_; (case aP => exact rfl); (case aB => exact (by repeat (first | (with_reducible first | exact HB.out | apply below_alloc | apply pw_below_drewN | apply below_drew1 | refine below_set ?_ GE166.out) | exact HB.out))); (case aF => exact (fun _ _ => trivial)); (case aO => exact (by (with_reducible repeat (first | apply Kd.R_alloc | apply Kd.R_drewN | apply Kd.R_drew)); exact HO_15.out)); (case aS => exact (below_size (by repeat (first | (with_reducible first | exact HB.out | apply below_alloc | apply pw_below_drewN | apply below_drew1 | refine below_set ?_ GE166.out) | exact HB.out)))); (case aL => have := LMc52.out; omega); intro v192 w53 ho hb hg hat; rw [← Ny191.out] at ho; have n0_ := Aside0.mk (Kd.N_afterv (ok := (fun k_ => k_ ≠ gb166)) (by (with_reducible repeat (first | apply Kd.N_alloc | apply Kd.N_drewN | apply Kd.N_drew)); exact Kd.N_mono HO_14.out (fun _ hk => ⟨hk.2, hk.1⟩)) hg hat); have n1_ := Aside0.mk (blk_grown (g := gb166) (o := .cells #[.int .i64 a0_0, .int .i64 a0_1, .int .i64 a0_2] 26 (0, 0)) (by (with_reducible repeat (first | refine blk_drewN ?_ _ | refine blk_drew ?_ | refine blk_alloc ?_ _)); exact BK166.out) hg (Kd.R_ne HO_15.out BK166.out (by decide))); have n2_ := Aside0.mk (hb); have n3_ := Aside0.mk (ho); clear HO_14; clear BK166; clear HB; clear HO_15; have HO_14 := n0_; have BK166 := n1_; have HB := n2_; have HO193 := n3_; clear n0_ n1_ n2_ n3_; clear ho hb hg hat))
                    go_roundg kj29
                    case measure => have := HJ6.out; have := HJ11.out; have := HK3.out; have := HK4.out; have := HJ29.out; omega
                    case rel => exact ⟨(y191), (t179), (wrap64 (x17_3 + 1)), (by first | rfl | (simp; done) | (simp [*]; done)), (by first | rfl | (simp; done) | (simp [*]; done)), H', ⟨by have := HJ6.out; have := HJ11.out; have := HK3.out; have := HK4.out; have := HJ29.out; omega⟩, ⟨by (with_reducible repeat (first | apply Kd.N_alloc | apply Kd.N_drewN | apply Kd.N_drew)); exact Kd.N_mono HO_14.out (fun _ hk => ⟨hk.2, hk.1⟩)⟩, ⟨by (with_reducible repeat (first | apply Kd.R_alloc | apply Kd.R_drewN | apply Kd.R_drew)); exact HO193.out⟩, ⟨by (with_reducible repeat (first | refine blk_drewN ?_ _ | refine blk_drew ?_ | refine blk_alloc ?_ _)); exact BK166.out⟩, ⟨by repeat (first | (with_reducible first | exact HB.out | apply below_alloc | apply pw_below_drewN | apply below_drew1 | refine below_set ?_ GE166.out) | exact HB.out)⟩⟩
                   ·rw [if_neg c52] at H
                    exact absurd H (by simp)
                  ·replace c51 := Bool.eq_false_iff.mpr c51
                   subst c51
                   have H1 : (spec_BestCharging.l1 kj29 a1 l2 l3 a4 t169 x15_4 x16_4 x17_3 (wrap64 (x18_4 + 1)) a0_0 a0_1 a0_2) = some (r1, r2, r3) := by rw [if_neg (show ¬ (false = true) by decide)] at H; exact H
                   clear H
                   have H := H1
                   clear H1
                   have H' := Aside0.mk H
                   clear H
                   go_wp2
                   go_roundg kj29
                   case measure => have := HJ6.out; have := HJ11.out; have := HK3.out; have := HK4.out; have := HJ29.out; omega
                   case rel => exact ⟨(x15_4), (x16_4), (wrap64 (x18_4 + 1)), (by first | rfl | (simp; done) | (simp [*]; done)), (by first | rfl | (simp; done) | (simp [*]; done)), H', ⟨by have := HJ6.out; have := HJ11.out; have := HK3.out; have := HK4.out; have := HJ29.out; omega⟩, ⟨by (with_reducible repeat (first | apply Kd.N_alloc | apply Kd.N_drewN | apply Kd.N_drew)); exact HO_14.out⟩, ⟨by (with_reducible repeat (first | apply Kd.R_alloc | apply Kd.R_drewN | apply Kd.R_drew)); exact HO_15.out⟩, ⟨by (with_reducible repeat (first | refine blk_drewN ?_ _ | refine blk_drew ?_ | refine blk_alloc ?_ _)); exact BK166.out⟩, ⟨by repeat (first | (with_reducible first | exact HB.out | apply below_alloc | apply pw_below_drewN | apply below_drew1 | refine below_set ?_ GE166.out) | exact HB.out)⟩⟩
               ·rw [if_neg c28] at H
                have c28b0 : decide (x18_4 ≤ a0_1) = false := decide_eq_false c28
                clear c28
                have H' := Aside0.mk H
                clear H
                have hcz54_0 : wr.cell? ⟨gb166, 0, none⟩ = some (.int .i64 a0_0) := (blk_cell BK166.out 0).trans rfl
                have hcz54_1 : wr.cell? ⟨gb166, 1, none⟩ = some (.int .i64 a0_1) := (blk_cell BK166.out 1).trans rfl
                have hcz54_2 : wr.cell? ⟨gb166, 2, none⟩ = some (.int .i64 a0_2) := (blk_cell BK166.out 2).trans rfl
                have hfz54_0 := blk_frozen BK166.out 0
                have hfz54_1 := blk_frozen BK166.out 1
                have hfz54_2 := blk_frozen BK166.out 2
                go_wp2
                go_roundg k4
                case measure => have := HJ6.out; have := HJ11.out; have := HK3.out; have := HK4.out; omega
                case rel => exact ⟨(x15_4), (x16_4), (wrap64 (x17_3 + 1)), (by first | rfl | (simp; done) | (simp [*]; done)), (by first | rfl | (simp; done) | (simp [*]; done)), H', ⟨by have := HJ6.out; have := HJ11.out; have := HK3.out; have := HK4.out; omega⟩, ⟨by (with_reducible repeat (first | apply Kd.N_alloc | apply Kd.N_drewN | apply Kd.N_drew)); exact HO_14.out⟩, ⟨by (with_reducible repeat (first | apply Kd.R_alloc | apply Kd.R_drewN | apply Kd.R_drew)); exact HO_15.out⟩, ⟨by (with_reducible repeat (first | refine blk_drewN ?_ _ | refine blk_drew ?_ | refine blk_alloc ?_ _)); exact BK166.out⟩, ⟨by repeat (first | (with_reducible first | exact HB.out | apply below_alloc | apply pw_below_drewN | apply below_drew1 | refine below_set ?_ GE166.out) | exact HB.out)⟩⟩
            ·rw [if_neg c26] at H
             have c26b0 : decide (x17_3 < (l2.length : Int)) = false := decide_eq_false c26
             clear c26
             by_cases c55 : 0 < (t169.length : Int)
             ·rw [if_pos c55] at H
              have c55b0 : decide (0 < (t169.length : Int)) = true := decide_eq_true c55
              have c55b1 : decide (0 < t169.length) = true := decide_eq_true (by omega)
              clear c55
              by_cases c56 : 0 ≤ a1
              ·rw [if_pos c56] at H
               have c56b0 : decide (0 ≤ a1) = true := decide_eq_true c56
               clear c56
               by_cases c57 : a1 < ((rd_L2 t169 0).length : Int)
               ·rw [if_pos c57] at H
                have c57b0 : decide (a1 < ((rd_L2 t169 0).length : Int)) = true := decide_eq_true c57
                clear c57
                simp only [Option.some.injEq, Prod.mk.injEq] at H
                obtain ⟨rfl, rfl, rfl⟩ := H
                try go_wp2
                have n0_ := Aside0.mk (Kd.N_drew HO_14.out)
                have n1_ := Aside0.mk (Kd.R_drew HO_15.out)
                have n2_ := Aside0.mk (blk_drew BK166.out)
                have n3_ := Aside0.mk (below_drew1 HB.out)
                clear HO_14
                clear HO_15
                clear BK166
                clear HB
                have HO_14 := n0_
                have HO_15 := n1_
                have BK166 := n2_
                have HB := n3_
                clear n0_ n1_ n2_ n3_
                have p177 : 0 ≤ (0 : Int) := (by omega)
                have q177 : 0 < (t169.length : Int) := of_decide_eq_true (by first | (with_reducible assumption) | assumption)
                obtain ⟨ad177, A177_0, c177_0, e177, hx177_0, hl177_0, hi177_0⟩ := at_L2 (Kd.N_reads' HO_14.out).2.2 0 p177 q177
                obtain rfl : ad172 = ad177 := (by injection e177)
                obtain ⟨ce177, hce177, hMe177, hcc177⟩ := Kd.N_get HO_14.out [] 0 p177 (by first | exact q177 | exact of_decide_eq_true (by first | (with_reducible assumption) | assumption) | (have e_ := (Kd.N_reads' HO_14.out).1; omega))
                obtain ⟨ua177_0, uc177_0, rfl, ul177_0, ge177_0⟩ := Kd.FK_slice_open hMe177
                have hv177_0 := hcc177 0 _ rfl
                rw [Nat.add_zero, show ((Kd.slice 2 (Kd.int .i64))).sz = 1 from rfl, Nat.mul_one] at hv177_0
                replace hv177_0 := Option.some.inj (hv177_0.symm.trans hx177_0)
                injection hv177_0 with hva_ hvn_ hvc_
                rw [hva_] at ge177_0
                rw [hvc_] at ul177_0
                have HL177_0 := Aside0.mk (show Kd.V (Kd.int .i64) 2 _ w.heap.size _ _ (rd_L2 t169 0) from Kd.V_mk ul177_0 ge177_0)
                clear hva_ hvn_ hvc_ ge177_0 ul177_0
                clear hcc177 hce177
                have qi177 : (0 < t169.length) = True := eq_true (by omega)
                (try rw [show ((0 : Int)).toNat = 0 from rfl] at hx177_0)
                (try rw [Addr.add_zero'] at hx177_0)
                have HR177_0 := Aside0.mk hi177_0
                have HC177_0 := Aside0.mk hl177_0
                clear hi177_0 hl177_0
                replace p177 := eq_true p177
                replace q177 := eq_true q177
                have p178 : 0 ≤ (a1 : Int) := of_decide_eq_true (by first | (with_reducible assumption) | assumption)
                have q178 : a1 < ((rd_L2 t169 0).length : Int) := of_decide_eq_true (by first | (with_reducible assumption) | assumption)
                obtain ⟨ad178, e178, hx178_0⟩ := Kd.at_int (by repeat (first | (with_reducible exact HR177_0.out) | (with_reducible refine Kd.C_alloc ?_ _) | (with_reducible refine Kd.C_drewN ?_ _) | (with_reducible refine Kd.C_drew ?_) | exact HR177_0.out)) a1 p178 q178
                cases e178
                replace p178 := eq_true p178
                replace q178 := eq_true q178
                refine start_ (n := 10) (S := fun w' => w'.cell? ad172 = some (.slice (some ad178) (rd_L2 t169 0).length c177_0) ∧ w'.cell? (ad178.add (a1).toNat) = some (.int .i64 (rd (rd_L2 t169 0) a1))) (ds := []) (tf 0 10) (by kernel_rfl) rfl rfl ⟨hx177_0, hx178_0⟩ (fun hHeld => ?_); refine with_tabW spec_BestCharging.tab21 spec_BestCharging.bits21 (fun HT_ HW_ => ?_)
                generalize wr.drew = w58 at HO_14 HO_15 BK166 HB HL177_0 HR177_0 hx177_0 hx178_0 hHeld ⊢
                refine px 0 (some 133) (tf 1 10) HT_ ?_
                refine px 1 (some 134) (tf 2 10) HT_ ?_
                refine px 2 (some 135) (tf 3 10) HT_ ?_
                refine px 4 (some 137) (tb 10 23) HT_ ?_
                refine px 7 (some 10) (tb 10 151) HT_ ?_
                refine tx (v := ?_) 3 (some 136) (tb 10 159) HT_ HW_ hHeld ?_ ?_
                rotate_left; (· rintro w' ⟨s0, s1⟩; go_simp; with_reducible rfl)
                refine px 5 (some 138) (tb 10 191) HT_ ?_
                refine tx (v := ?_) 6 (some 139) (tf 8 10) HT_ HW_ hHeld ?_ ?_
                rotate_left; (· rintro w' ⟨s0, s1⟩; go_simp; with_reducible rfl)
                refine px 8 (some 11) (tf 9 10) HT_ ?_
                refine px 9 (some 12) (tf 10 10) HT_ ?_
                refine done_ (done_of HT_.out (by kernel_rfl)) ?_
                try go_wp2
                go_ret3
                exact ⟨_, by first | rfl | (simp [errW_none, errW_some] <;> rfl) | (simp [*, errW_none, errW_some] <;> rfl), by (with_reducible repeat (first | apply Kd.R_alloc | apply Kd.R_drewN | apply Kd.R_drew)); exact HO_15.out, by repeat (first | (with_reducible first | exact HB.out | apply below_alloc | apply pw_below_drewN | apply below_drew1 | refine below_set ?_ GE166.out) | exact HB.out)⟩
               ·rw [if_neg c57] at H
                exact absurd H (by simp)
              ·rw [if_neg c56] at H
               exact absurd H (by simp)
             ·rw [if_neg c55] at H
              exact absurd H (by simp)
        ·rw [if_neg c18] at H
         exact absurd H (by simp)
       ·rw [if_neg c17] at H
        exact absurd H (by simp)
      ·rw [if_neg c16] at H
       exact absurd H (by simp)
     ·rw [if_neg c14] at H
      have c14b0 : (x13_11 == 0) = false := beq_eq_false_iff_ne.mpr c14
      have c14b1 : (x13_11 != 0) = true := bne_iff_ne.mpr c14
      simp only [Option.some.injEq, Prod.mk.injEq] at H
      obtain ⟨rfl, rfl, rfl⟩ := H
      go_wp2
      go_ret3
      exact ⟨_, by first | rfl | (simp [errW_none, errW_some] <;> rfl) | (simp [*, errW_none, errW_some] <;> rfl), by first | exact Kd.R_nil _ _ _ _ _ | exact Kd.N_nil _ _ _ _ _ | exact Kd.V_nil _ _ _ _ _ | exact Kd.Q_nil _ _ _ _ _ | exact Kd.S_nil _ _ _ _ _, by repeat (first | (with_reducible first | exact HB.out | apply below_alloc | apply pw_below_drewN | apply below_drew1 | refine below_set ?_ GE166.out) | exact HB.out)⟩

end Go.Proofs.Ytpdgicpgjmibgaa.PFnExactBestCharging
