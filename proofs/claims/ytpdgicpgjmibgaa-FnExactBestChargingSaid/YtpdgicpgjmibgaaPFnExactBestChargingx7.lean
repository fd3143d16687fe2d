-- written by wip/xprint.py, a program of this session, for this claim; not trusted: Lean checks it.
import Derived.Test.YtpdgicpgjmibgaaPFnExactBestChargingx0
import Derived.Test.YtpdgicpgjmibgaaPFnExactBestChargingx5
import Derived.Test.YtpdgicpgjmibgaaPFnExactBestChargingx6
namespace Go.Proofs.Ytpdgicpgjmibgaa.PFnExactBestCharging
open Go.RowKit Go.Proofs.YtpdgicpgjmibgaaW.PrintWords Go.Proofs.YtpdgicpgjmibgaaW.PrintLast Go.Proofs.YtpdgicpgjmibgaaW.PrintMore
attribute [local go_sem] max2_int min2_int max_two min_two max_three min_three max_four min_four   -- for this text's walks alone
set_option linter.unusedVariables false
set_option linter.unusedSimpArgs false

/-! ### impl_BestCharging: function 26 -/
mutual
def impl_BestCharging.l0 : Nat → List (List Int) → Int → List Int → Int → Int → Int → Int → Int → Int → Int → Int → Int → List Int → List Int → Int → Option (List Int × Int × Int)
 | 0, _, _, _, _, _, _, _, _, _, _, _, _, _, _, _ => none
 | k + 1, x14, x15, x16, x17, x60, x61, x257000, x257001, x257002, x258000, x258001, x258002, x258003, x258004, x258005 => if x61 < x60 then (impl_BestCharging.l1 k x14 x15 x16 x17 x61 (wrap64 (-x257001)) x60 x61 x257000 x257001 x257002 x258000 x258001 x258002 x258003 x258004 x258005) else (some (x16, x15, 0))
def impl_BestCharging.l1 : Nat → List (List Int) → Int → List Int → Int → Int → Int → Int → Int → Int → Int → Int → Int → Int → Int → List Int → List Int → Int → Option (List Int × Int × Int)
 | 0, _, _, _, _, _, _, _, _, _, _, _, _, _, _, _, _, _ => none
 | k + 1, x14, x15, x16, x17, x18, x19, x60, x61, x257000, x257001, x257002, x258000, x258001, x258002, x258003, x258004, x258005 => if x19 ≤ x257001 then ((impl_charging_after.f x258000 x258001 x258002 x258003 x258004 x258005 x18 x17 x19).bind fun bt266 => (if bt266.2 = true then (if 0 ≤ (wrap64 (x18 + 1)) then (if (wrap64 (x18 + 1)) < (x14.length : Int) then (if 0 ≤ bt266.1 then (if bt266.1 < ((rd_L2 x14 (wrap64 (x18 + 1))).length : Int) then (if (rd (rd_L2 x14 (wrap64 (x18 + 1))) bt266.1) ≥ 0 then ((impl_charging_price.f x258000 x258001 x258002 x258003 x258004 x258005 x18 x19).bind fun t270 => (if 0 ≤ x18 then (if x18 < (x14.length : Int) then (if 0 ≤ x17 then (if x17 < ((rd_L2 x14 x18).length : Int) then (if (wrap64 (t270 + (rd (rd_L2 x14 (wrap64 (x18 + 1))) bt266.1))) = (rd (rd_L2 x14 x18) x17) then (if x16.length < 17592186044416 then (impl_BestCharging.l0 k x14 x15 (x16 ++ [x19]) bt266.1 x60 (wrap64 (x61 + 1)) x257000 x257001 x257002 x258000 x258001 x258002 x258003 x258004 x258005) else (none)) else (impl_BestCharging.l1 k x14 x15 x16 x17 x18 (wrap64 (x19 + 1)) x60 x61 x257000 x257001 x257002 x258000 x258001 x258002 x258003 x258004 x258005)) else (none)) else (none)) else (none)) else (none))) else (impl_BestCharging.l1 k x14 x15 x16 x17 x18 (wrap64 (x19 + 1)) x60 x61 x257000 x257001 x257002 x258000 x258001 x258002 x258003 x258004 x258005)) else (none)) else (none)) else (none)) else (none)) else (impl_BestCharging.l1 k x14 x15 x16 x17 x18 (wrap64 (x19 + 1)) x60 x61 x257000 x257001 x257002 x258000 x258001 x258002 x258003 x258004 x258005))) else (impl_BestCharging.l0 k x14 x15 x16 x17 x60 (wrap64 (x61 + 1)) x257000 x257001 x257002 x258000 x258001 x258002 x258003 x258004 x258005)
end
def impl_BestCharging.f (k : Nat) (a0_0 : Int) (a0_1 : Int) (a0_2 : Int) (a1 : Int) (l2 : List Int) (l3 : List Int) (a4 : Int) : Option (List Int × Int × Int) := (impl_ValidTank.f a0_0 a0_1 a0_2).bind fun t258 => (if t258 = true then ((impl_charging_ok.f a0_0 a0_1 a0_2 l2 l3 a4 a1).bind fun t259 => (if t259 = true then (if (l3.length : Int) = (l2.length : Int) then ((impl_allWithin.f l3 0 1000).bind fun t260 => (if t260 = true then ((impl_charging_costs.f k a0_0 a0_1 a0_2 l2 l3 a4).bind fun t261 => (if 0 < (t261.length : Int) then (if 0 ≤ a1 then (if a1 < ((rd_L2 t261 0).length : Int) then (if (rd (rd_L2 t261 0) a1) < 0 then (some (([] : List Int), 0, 3)) else (impl_BestCharging.l0 k t261 (rd (rd_L2 t261 0) a1) ([] : List Int) a1 (l2.length : Int) 0 a0_0 a0_1 a0_2 a0_0 a0_1 a0_2 l2 l3 a4)) else (none)) else (none)) else (none))) else (some (([] : List Int), 0, 2)))) else (some (([] : List Int), 0, 2))) else (some (([] : List Int), 0, 2)))) else (some (([] : List Int), 0, 1)))
theorem impl_BestCharging.mono_l : ∀ k, (∀ y0 y1 y2 y3 y4 y5 y6 y7 y8 y9 y10 y11 y12 y13 y14, LeO (impl_BestCharging.l0 k y0 y1 y2 y3 y4 y5 y6 y7 y8 y9 y10 y11 y12 y13 y14) (impl_BestCharging.l0 (k + 1) y0 y1 y2 y3 y4 y5 y6 y7 y8 y9 y10 y11 y12 y13 y14)) ∧ (∀ y0 y1 y2 y3 y4 y5 y6 y7 y8 y9 y10 y11 y12 y13 y14 y15 y16, LeO (impl_BestCharging.l1 k y0 y1 y2 y3 y4 y5 y6 y7 y8 y9 y10 y11 y12 y13 y14 y15 y16) (impl_BestCharging.l1 (k + 1) y0 y1 y2 y3 y4 y5 y6 y7 y8 y9 y10 y11 y12 y13 y14 y15 y16))
 | 0 => ⟨fun _ _ _ _ _ _ _ _ _ _ _ _ _ _ _ r h => by simp [impl_BestCharging.l0] at h, fun _ _ _ _ _ _ _ _ _ _ _ _ _ _ _ _ _ r h => by simp [impl_BestCharging.l1] at h⟩
 | k + 1 => by
  obtain ⟨ih0, ih1⟩ := impl_BestCharging.mono_l k
  refine ⟨?_, ?_⟩
  ·intro y0 y1 y2 y3 y4 y5 y6 y7 y8 y9 y10 y11 y12 y13 y14
   unfold impl_BestCharging.l0
   repeat' first
   | (with_reducible exact ih0 _ _ _ _ _ _ _ _ _ _ _ _ _ _ _)
   | (with_reducible exact ih1 _ _ _ _ _ _ _ _ _ _ _ _ _ _ _ _ _)
   | (with_reducible exact impl_charging_costs.mono _ _ _ _ _ _ _)
   | (with_reducible exact LeO.refl _)
   | (with_reducible exact LeO.none _)
   | (with_reducible refine LeO.ite ?_ ?_)
   | (with_reducible refine LeO.bind ?_ (fun _ => ?_))
   | exact ih0 _ _ _ _ _ _ _ _ _ _ _ _ _ _ _
   | exact ih1 _ _ _ _ _ _ _ _ _ _ _ _ _ _ _ _ _
   | exact impl_charging_costs.mono _ _ _ _ _ _ _
   | exact LeO.none _
   | refine LeO.ite ?_ ?_
   | refine LeO.bind ?_ (fun _ => ?_)
  ·intro y0 y1 y2 y3 y4 y5 y6 y7 y8 y9 y10 y11 y12 y13 y14 y15 y16
   unfold impl_BestCharging.l1
   repeat' first
   | (with_reducible exact ih0 _ _ _ _ _ _ _ _ _ _ _ _ _ _ _)
   | (with_reducible exact ih1 _ _ _ _ _ _ _ _ _ _ _ _ _ _ _ _ _)
   | (with_reducible exact impl_charging_costs.mono _ _ _ _ _ _ _)
   | (with_reducible exact LeO.refl _)
   | (with_reducible exact LeO.none _)
   | (with_reducible refine LeO.ite ?_ ?_)
   | (with_reducible refine LeO.bind ?_ (fun _ => ?_))
   | exact ih0 _ _ _ _ _ _ _ _ _ _ _ _ _ _ _
   | exact ih1 _ _ _ _ _ _ _ _ _ _ _ _ _ _ _ _ _
   | exact impl_charging_costs.mono _ _ _ _ _ _ _
   | exact LeO.none _
   | refine LeO.ite ?_ ?_
   | refine LeO.bind ?_ (fun _ => ?_)
theorem impl_BestCharging.mono : ∀ a0 a1 a2 a3 a4 a5 a6 k, LeO (impl_BestCharging.f k a0 a1 a2 a3 a4 a5 a6) (impl_BestCharging.f (k + 1) a0 a1 a2 a3 a4 a5 a6) := by
 intro a0 a1 a2 a3 a4 a5 a6 k
 obtain ⟨ih0, ih1⟩ := impl_BestCharging.mono_l k
 unfold impl_BestCharging.f
 repeat' first
   | (with_reducible exact ih0 _ _ _ _ _ _ _ _ _ _ _ _ _ _ _)
   | (with_reducible exact ih1 _ _ _ _ _ _ _ _ _ _ _ _ _ _ _ _ _)
   | (with_reducible exact impl_charging_costs.mono _ _ _ _ _ _ _)
   | (with_reducible exact LeO.refl _)
   | (with_reducible exact LeO.none _)
   | (with_reducible refine LeO.ite ?_ ?_)
   | (with_reducible refine LeO.bind ?_ (fun _ => ?_))
   | exact ih0 _ _ _ _ _ _ _ _ _ _ _ _ _ _ _
   | exact ih1 _ _ _ _ _ _ _ _ _ _ _ _ _ _ _ _ _
   | exact impl_charging_costs.mono _ _ _ _ _ _ _
   | exact LeO.none _
   | refine LeO.ite ?_ ?_
   | refine LeO.bind ?_ (fun _ => ?_)
def impl_BestCharging.T19 : Bool × List (List Nat × List Nat) := (true, [([], []), ([0], [0]), ([1], [1]), ([1], [1]), ([3, 1], [1, 3]), ([2, 4, 1], [1, 2, 4]), ([5, 1], [1, 5]), ([1], [1]), ([6, 7, 1], [1, 6, 7]), ([8, 1], [1, 8]), ([9, 1], [1, 9]), ([1, 10], [1, 10]), ([11, 1], [11]), ([12], [12]), ([12], [12]), ([12], [12]), ([13, 14, 15, 12, 12], [12, 13, 14, 15]), ([12], [12]), ([12], [12]), ([18, 12], [12, 18]), ([17, 19, 12], [12, 17, 19]), ([20, 12], [12, 20]), ([12], [12]), ([21, 22, 12], [12, 21, 22]), ([23, 12], [12, 23]), ([16, 24, 12], [12, 16, 24]), ([12], [12]), ([12], [12]), ([26, 27, 12], [12, 26, 27]), ([28, 12], [12, 28]), ([12], [12]), ([29, 30, 12], [12, 29, 30]), ([31, 12], [12, 31]), ([25, 32, 12], [12, 25, 32]), ([12, 33], [12, 33])])
def impl_BestCharging.B19 : List Nat := [0, 1, 3, 3, 11, 31, 63, 3, 255, 511, 1023, 2047, 4095, 8191, 8191, 8191, 65535, 8191, 8191, 270335, 925695, 1974271, 8191, 8265727, 16654335, 33554431, 8191, 8191, 201334783, 469770239, 8191, 2080382975, 4227866623, 8589934591, 17179869183]
theorem impl_BestCharging.tab19 : rtab .any (opsOf Try.f26 19) = impl_BestCharging.T19 := by kernel_rfl
theorem impl_BestCharging.bits19 : waitsOk impl_BestCharging.T19.2 impl_BestCharging.B19 = true := by kernel_rfl
set_option maxHeartbeats 8000000 in
set_option maxRecDepth 100000 in
theorem impl_BestCharging.calls (k : Nat) (a0_0 : Int) (a0_1 : Int) (a0_2 : Int) (a1 : Int) (A2 : Option Addr) (c2 : Nat) (l2 : List Int) (A3 : Option Addr) (c3 : Nat) (l3 : List Int) (a4 : Int) (r1 : List Int) (r2 : Int) (r3 : Int) (w : World) (hr2 : Kd.C (Kd.int .i64) w A2 l2.length l2) (hc2 : l2.length ≤ c2) (hr3 : Kd.C (Kd.int .i64) w A3 l3.length l3) (hc3 : l3.length ≤ c3) (h : impl_BestCharging.f k a0_0 a0_1 a0_2 a1 l2 l3 a4 = some (r1, r2, r3)) :
  Calls Try.prog 26 #[.agg #[.int .i64 a0_0, .int .i64 a0_1, .int .i64 a0_2], .int .i64 a1, .slice A2 l2.length c2, .slice A3 l3.length c3, .int .i64 a4] w fun e w' => ∃ v0_ : Value, e = .returned (.tuple #[v0_, .int .i64 r2, .int .i64 r3]) ∧ Kd.R (Kd.int .i64) 2 w' w.heap.size (fun _ => True) v0_ r1 ∧ Below w.heap.size w w' := by
 have hu26 := Try.underlying26
 have hu55 := Try.underlying55
 have HR2 := Aside0.mk hr2
 have HC2 := Aside0.mk hc2
 clear hr2 hc2
 have HR3 := Aside0.mk hr3
 have HC3 := Aside0.mk hc3
 clear hr3 hc3
 have HB := Aside0.mk (Below.refl w.heap.size w)
 have H : ((impl_ValidTank.f a0_0 a0_1 a0_2).bind fun t258 => (if t258 = true then ((impl_charging_ok.f a0_0 a0_1 a0_2 l2 l3 a4 a1).bind fun t259 => (if t259 = true then (if (l3.length : Int) = (l2.length : Int) then ((impl_allWithin.f l3 0 1000).bind fun t260 => (if t260 = true then ((impl_charging_costs.f k a0_0 a0_1 a0_2 l2 l3 a4).bind fun t261 => (if 0 < (t261.length : Int) then (if 0 ≤ a1 then (if a1 < ((rd_L2 t261 0).length : Int) then (if (rd (rd_L2 t261 0) a1) < 0 then (some (([] : List Int), 0, 3)) else (impl_BestCharging.l0 k t261 (rd (rd_L2 t261 0) a1) ([] : List Int) a1 (l2.length : Int) 0 a0_0 a0_1 a0_2 a0_0 a0_1 a0_2 l2 l3 a4)) else (none)) else (none)) else (none))) else (some (([] : List Int), 0, 2)))) else (some (([] : List Int), 0, 2))) else (some (([] : List Int), 0, 2)))) else (some (([] : List Int), 0, 1)))) = some (r1, r2, r3) := h
 clear h
 replace H := Option.bind_eq_some_iff.mp H
 obtain ⟨t258, A60, H⟩ := H
 replace H : (if t258 = true then ((impl_charging_ok.f a0_0 a0_1 a0_2 l2 l3 a4 a1).bind fun t259 => (if t259 = true then (if (l3.length : Int) = (l2.length : Int) then ((impl_allWithin.f l3 0 1000).bind fun t260 => (if t260 = true then ((impl_charging_costs.f k a0_0 a0_1 a0_2 l2 l3 a4).bind fun t261 => (if 0 < (t261.length : Int) then (if 0 ≤ a1 then (if a1 < ((rd_L2 t261 0).length : Int) then (if (rd (rd_L2 t261 0) a1) < 0 then (some (([] : List Int), 0, 3)) else (impl_BestCharging.l0 k t261 (rd (rd_L2 t261 0) a1) ([] : List Int) a1 (l2.length : Int) 0 a0_0 a0_1 a0_2 a0_0 a0_1 a0_2 l2 l3 a4)) else (none)) else (none)) else (none))) else (some (([] : List Int), 0, 2)))) else (some (([] : List Int), 0, 2))) else (some (([] : List Int), 0, 2)))) else (some (([] : List Int), 0, 1))) = some (r1, r2, r3) := H
 have A6 := Aside0.mk A60
 clear A60
 by_cases c7 : t258 = true
 ·subst c7
  have H1 : ((impl_charging_ok.f a0_0 a0_1 a0_2 l2 l3 a4 a1).bind fun t259 => (if t259 = true then (if (l3.length : Int) = (l2.length : Int) then ((impl_allWithin.f l3 0 1000).bind fun t260 => (if t260 = true then ((impl_charging_costs.f k a0_0 a0_1 a0_2 l2 l3 a4).bind fun t261 => (if 0 < (t261.length : Int) then (if 0 ≤ a1 then (if a1 < ((rd_L2 t261 0).length : Int) then (if (rd (rd_L2 t261 0) a1) < 0 then (some (([] : List Int), 0, 3)) else (impl_BestCharging.l0 k t261 (rd (rd_L2 t261 0) a1) ([] : List Int) a1 (l2.length : Int) 0 a0_0 a0_1 a0_2 a0_0 a0_1 a0_2 l2 l3 a4)) else (none)) else (none)) else (none))) else (some (([] : List Int), 0, 2)))) else (some (([] : List Int), 0, 2))) else (some (([] : List Int), 0, 2)))) = some (r1, r2, r3) := by rw [if_pos rfl] at H; exact H
  clear H
  have H := H1
  clear H1
  replace H := Option.bind_eq_some_iff.mp H
  obtain ⟨t259, A80, H⟩ := H
  replace H : (if t259 = true then (if (l3.length : Int) = (l2.length : Int) then ((impl_allWithin.f l3 0 1000).bind fun t260 => (if t260 = true then ((impl_charging_costs.f k a0_0 a0_1 a0_2 l2 l3 a4).bind fun t261 => (if 0 < (t261.length : Int) then (if 0 ≤ a1 then (if a1 < ((rd_L2 t261 0).length : Int) then (if (rd (rd_L2 t261 0) a1) < 0 then (some (([] : List Int), 0, 3)) else (impl_BestCharging.l0 k t261 (rd (rd_L2 t261 0) a1) ([] : List Int) a1 (l2.length : Int) 0 a0_0 a0_1 a0_2 a0_0 a0_1 a0_2 l2 l3 a4)) else (none)) else (none)) else (none))) else (some (([] : List Int), 0, 2)))) else (some (([] : List Int), 0, 2))) else (some (([] : List Int), 0, 2))) = some (r1, r2, r3) := H
  have A8 := Aside0.mk A80
  clear A80
  by_cases c9 : t259 = true
  ·subst c9
   have H1 : (if (l3.length : Int) = (l2.length : Int) then ((impl_allWithin.f l3 0 1000).bind fun t260 => (if t260 = true then ((impl_charging_costs.f k a0_0 a0_1 a0_2 l2 l3 a4).bind fun t261 => (if 0 < (t261.length : Int) then (if 0 ≤ a1 then (if a1 < ((rd_L2 t261 0).length : Int) then (if (rd (rd_L2 t261 0) a1) < 0 then (some (([] : List Int), 0, 3)) else (impl_BestCharging.l0 k t261 (rd (rd_L2 t261 0) a1) ([] : List Int) a1 (l2.length : Int) 0 a0_0 a0_1 a0_2 a0_0 a0_1 a0_2 l2 l3 a4)) else (none)) else (none)) else (none))) else (some (([] : List Int), 0, 2)))) else (some (([] : List Int), 0, 2))) = some (r1, r2, r3) := by rw [if_pos rfl] at H; exact H
   clear H
   have H := H1
   clear H1
   by_cases c10 : (l3.length : Int) = (l2.length : Int)
   ·rw [if_pos c10] at H
    have c10b0 : ((l3.length : Int) == (l2.length : Int)) = true := beq_iff_eq.mpr c10
    have c10b1 : ((l3.length : Int) != (l2.length : Int)) = false := bne_eq_false_iff_eq.mpr c10
    have c10b2 : (l3.length == l2.length) = true := by first | simpa using c10 | (simp at c10 ⊢; omega)
    clear c10
    replace H := Option.bind_eq_some_iff.mp H
    obtain ⟨t260, A110, H⟩ := H
    replace H : (if t260 = true then ((impl_charging_costs.f k a0_0 a0_1 a0_2 l2 l3 a4).bind fun t261 => (if 0 < (t261.length : Int) then (if 0 ≤ a1 then (if a1 < ((rd_L2 t261 0).length : Int) then (if (rd (rd_L2 t261 0) a1) < 0 then (some (([] : List Int), 0, 3)) else (impl_BestCharging.l0 k t261 (rd (rd_L2 t261 0) a1) ([] : List Int) a1 (l2.length : Int) 0 a0_0 a0_1 a0_2 a0_0 a0_1 a0_2 l2 l3 a4)) else (none)) else (none)) else (none))) else (some (([] : List Int), 0, 2))) = some (r1, r2, r3) := H
    have A11 := Aside0.mk A110
    clear A110
    by_cases c12 : t260 = true
    ·subst c12
     have H1 : ((impl_charging_costs.f k a0_0 a0_1 a0_2 l2 l3 a4).bind fun t261 => (if 0 < (t261.length : Int) then (if 0 ≤ a1 then (if a1 < ((rd_L2 t261 0).length : Int) then (if (rd (rd_L2 t261 0) a1) < 0 then (some (([] : List Int), 0, 3)) else (impl_BestCharging.l0 k t261 (rd (rd_L2 t261 0) a1) ([] : List Int) a1 (l2.length : Int) 0 a0_0 a0_1 a0_2 a0_0 a0_1 a0_2 l2 l3 a4)) else (none)) else (none)) else (none))) = some (r1, r2, r3) := by rw [if_pos rfl] at H; exact H
     clear H
     have H := H1
     clear H1
     replace H := Option.bind_eq_some_iff.mp H
     obtain ⟨t261, A130, H⟩ := H
     replace H : (if 0 < (t261.length : Int) then (if 0 ≤ a1 then (if a1 < ((rd_L2 t261 0).length : Int) then (if (rd (rd_L2 t261 0) a1) < 0 then (some (([] : List Int), 0, 3)) else (impl_BestCharging.l0 k t261 (rd (rd_L2 t261 0) a1) ([] : List Int) a1 (l2.length : Int) 0 a0_0 a0_1 a0_2 a0_0 a0_1 a0_2 l2 l3 a4)) else (none)) else (none)) else (none)) = some (r1, r2, r3) := H
     have A13 := Aside0.mk A130
     clear A130
     by_cases c14 : 0 < (t261.length : Int)
     ·rw [if_pos c14] at H
      have c14b0 : decide (0 < (t261.length : Int)) = true := decide_eq_true c14
      have c14b1 : decide (0 < t261.length) = true := decide_eq_true (by omega)
      clear c14
      by_cases c15 : 0 ≤ a1
      ·rw [if_pos c15] at H
       have c15b0 : decide (0 ≤ a1) = true := decide_eq_true c15
       clear c15
       by_cases c16 : a1 < ((rd_L2 t261 0).length : Int)
       ·rw [if_pos c16] at H
        have c16b0 : decide (a1 < ((rd_L2 t261 0).length : Int)) = true := decide_eq_true c16
        clear c16
        by_cases c17 : (rd (rd_L2 t261 0) a1) < 0
        ·rw [if_pos c17] at H
         have c17b0 : decide ((rd (rd_L2 t261 0) a1) < 0) = true := decide_eq_true c17
         clear c17
         simp only [Option.some.injEq, Prod.mk.injEq] at H
         obtain ⟨rfl, rfl, rfl⟩ := H
         go_enter Try.func26, Try.ntmps26
         go_wp2_with (first | ((with_reducible refine gate_dst (N := 5) rfl ?_); (try (refine gate_guard (by rfl) ?_; dsimp only)); refine box_event ?hg (N := 5) ?hd (cs := #[.int .i64 a0_0, .int .i64 a0_1, .int .i64 a0_2]) (t := 26) ?hr ?_; (case hd => rfl); (case hg => rfl); (case hr => first | (go_simp; done) | (go_simp; rfl)); intro gb256 hg w18 hbox hb; have n0_ := Aside0.mk (below_step (by repeat (first | (with_reducible first | exact HB.out | apply below_alloc | apply pw_below_drewN | apply below_drew1) | exact HB.out)) hb); have n1_ := Aside0.mk (hbox); have n2_ := Aside0.mk ((by rw [hg]; exact (below_size (by repeat (first | (with_reducible first | exact HB.out | apply below_alloc | apply pw_below_drewN | apply below_drew1) | exact HB.out))) : w.heap.size ≤ gb256)); have n3_ := Aside0.mk ((by rw [hg]; exact (below_size (by repeat (first | (with_reducible first | exact HB.out | apply below_alloc | apply pw_below_drewN | apply below_drew1) | exact HB.out))) : w.heap.size ≤ gb256)); clear HB; have HB := n0_; have BK256 := n1_; have GW256 := n2_; have GE256 := n3_; clear n0_ n1_ n2_ n3_; clear hb hbox hg; have hcz19_0 : w18.cell? ⟨gb256, 0, none⟩ = some (.int .i64 a0_0) := (blk_cell BK256.out 0).trans rfl; have hcz19_1 : w18.cell? ⟨gb256, 1, none⟩ = some (.int .i64 a0_1) := (blk_cell BK256.out 1).trans rfl; have hcz19_2 : w18.cell? ⟨gb256, 2, none⟩ = some (.int .i64 a0_2) := (blk_cell BK256.out 2).trans rfl; have hfz19_0 := blk_frozen BK256.out 0; have hfz19_1 := blk_frozen BK256.out 1; have hfz19_2 := blk_frozen BK256.out 2) | ((with_reducible refine gate_dst (N := 13) rfl ?_); (try (refine gate_guard (by rfl) ?_; dsimp only)); refine box_event ?hg (N := 13) ?hd (cs := #[.int .i64 0, .int .i64 0, .int .i64 0, .slice none 0 0, .slice none 0 0, .int .i64 0]) (t := 55) ?hr ?_; (case hd => rfl); (case hg => rfl); (case hr => first | (go_simp; done) | (go_simp; rfl)); intro gb257 hg w20 hbox hb; have n0_ := Aside0.mk (blk_below (g := gb256) (o := .cells #[.int .i64 a0_0, .int .i64 a0_1, .int .i64 a0_2] 26 (0, 0)) (by (with_reducible repeat (first | refine blk_drewN ?_ _ | refine blk_drew ?_ | refine blk_alloc ?_ _)); exact BK256.out) hb); have n1_ := Aside0.mk (below_step (by repeat (first | (with_reducible first | exact HB.out | apply below_alloc | apply pw_below_drewN | apply below_drew1 | refine below_set ?_ GE256.out) | exact HB.out)) hb); have n2_ := Aside0.mk (hbox); have n3_ := Aside0.mk ((by rw [hg]; exact (below_size (by repeat (first | (with_reducible first | exact HB.out | apply below_alloc | apply pw_below_drewN | apply below_drew1 | refine below_set ?_ GE256.out) | exact HB.out))) : w.heap.size ≤ gb257)); have n4_ := Aside0.mk ((by rw [hg]; exact (below_size (by repeat (first | (with_reducible first | exact HB.out | apply below_alloc | apply pw_below_drewN | apply below_drew1 | refine below_set ?_ GE256.out) | exact HB.out))) : w.heap.size ≤ gb257)); have n5_ := Aside0.mk ((by rw [hg]; exact Nat.ne_of_lt (blk_lt (g := gb256) (o := .cells #[.int .i64 a0_0, .int .i64 a0_1, .int .i64 a0_2] 26 (0, 0)) (by (with_reducible repeat (first | refine blk_drewN ?_ _ | refine blk_drew ?_ | refine blk_alloc ?_ _)); exact BK256.out)) : gb256 ≠ gb257)); have n6_ := Aside0.mk ((by rw [hg]; exact Nat.ne_of_gt (blk_lt (g := gb256) (o := .cells #[.int .i64 a0_0, .int .i64 a0_1, .int .i64 a0_2] 26 (0, 0)) (by (with_reducible repeat (first | refine blk_drewN ?_ _ | refine blk_drew ?_ | refine blk_alloc ?_ _)); exact BK256.out)) : gb257 ≠ gb256)); clear BK256; clear HB; have BK256 := n0_; have HB := n1_; have BK257 := n2_; have GW257 := n3_; have GE257 := n4_; have NB256_257 := n5_; have NB257_256 := n6_; clear n0_ n1_ n2_ n3_ n4_ n5_ n6_; clear hb hbox hg; have hnb21 := NB257_256.out; have hnc21 := NB256_257.out; have hcz22_0 : w20.cell? ⟨gb257, 0, none⟩ = some (.int .i64 0) := (blk_cell BK257.out 0).trans rfl; have hcz22_1 : w20.cell? ⟨gb257, 1, none⟩ = some (.int .i64 0) := (blk_cell BK257.out 1).trans rfl; have hcz22_2 : w20.cell? ⟨gb257, 2, none⟩ = some (.int .i64 0) := (blk_cell BK257.out 2).trans rfl; have hcz22_3 : w20.cell? ⟨gb257, 3, none⟩ = some (.slice none 0 0) := (blk_cell BK257.out 3).trans rfl; have hcz22_4 : w20.cell? ⟨gb257, 4, none⟩ = some (.slice none 0 0) := (blk_cell BK257.out 4).trans rfl; have hcz22_5 : w20.cell? ⟨gb257, 5, none⟩ = some (.int .i64 0) := (blk_cell BK257.out 5).trans rfl; have hfz22_0 := blk_frozen BK257.out 0; have hfz22_1 := blk_frozen BK257.out 1; have hfz22_2 := blk_frozen BK257.out 2; have hfz22_3 := blk_frozen BK257.out 3; have hfz22_4 := blk_frozen BK257.out 4; have hfz22_5 := blk_frozen BK257.out 5; have hcz23_0 : w20.cell? ⟨gb256, 0, none⟩ = some (.int .i64 a0_0) := (blk_cell BK256.out 0).trans rfl; have hcz23_1 : w20.cell? ⟨gb256, 1, none⟩ = some (.int .i64 a0_1) := (blk_cell BK256.out 1).trans rfl; have hcz23_2 : w20.cell? ⟨gb256, 2, none⟩ = some (.int .i64 a0_2) := (blk_cell BK256.out 2).trans rfl; have hfz23_0 := blk_frozen BK256.out 0; have hfz23_1 := blk_frozen BK256.out 1; have hfz23_2 := blk_frozen BK256.out 2) | ((with_reducible refine gate_callee (f := 40) rfl ?_); refine goesL_ (some 29) rfl rfl Try.func40 (by kernel_rfl) rfl #[.agg #[.int .i64 a0_0, .int .i64 a0_1, .int .i64 a0_2]] rfl (by (try simp only [List.map_toArray, List.map_cons, List.map_nil]); first | done | rfl | (simp only [List.length_drop, List.length_take]; rfl)) ?_; (with_reducible refine (impl_ValidTank.calls a0_0 a0_1 a0_2 true _ A6.out).mono ?_); rintro e w24 ⟨rfl, hb⟩; refine ⟨_, rfl, ?_⟩; have n0_ := Aside0.mk (blk_below (g := gb256) (o := .cells #[.int .i64 a0_0, .int .i64 a0_1, .int .i64 a0_2] 26 (0, 0)) (by (with_reducible repeat (first | refine blk_drewN ?_ _ | refine blk_drew ?_ | refine blk_alloc ?_ _)); refine blk_far ?_ NB256_257.out _; (with_reducible repeat (first | refine blk_drewN ?_ _ | refine blk_drew ?_ | refine blk_alloc ?_ _)); refine blk_far ?_ NB256_257.out _; (with_reducible repeat (first | refine blk_drewN ?_ _ | refine blk_drew ?_ | refine blk_alloc ?_ _)); refine blk_far ?_ NB256_257.out _; (with_reducible repeat (first | refine blk_drewN ?_ _ | refine blk_drew ?_ | refine blk_alloc ?_ _)); refine blk_far ?_ NB256_257.out _; (with_reducible repeat (first | refine blk_drewN ?_ _ | refine blk_drew ?_ | refine blk_alloc ?_ _)); refine blk_far ?_ NB256_257.out _; (with_reducible repeat (first | refine blk_drewN ?_ _ | refine blk_drew ?_ | refine blk_alloc ?_ _)); refine blk_far ?_ NB256_257.out _; (with_reducible repeat (first | refine blk_drewN ?_ _ | refine blk_drew ?_ | refine blk_alloc ?_ _)); exact BK256.out) hb); have n1_ := Aside0.mk (blk_below (g := gb257) (o := .cells #[.int .i64 a0_0, .int .i64 a0_1, .int .i64 a0_2, .slice A2 l2.length c2, .slice A3 l3.length c3, .int .i64 a4] 55 (0, 0)) (by (with_reducible repeat (first | refine blk_drewN ?_ _ | refine blk_drew ?_ | refine blk_alloc ?_ _)); refine blk_put (cs := #[.int .i64 a0_0, .int .i64 a0_1, .int .i64 a0_2, .slice A2 l2.length c2, .slice A3 l3.length c3, .int .i64 0]) ?_ 5 _ rfl; (with_reducible repeat (first | refine blk_drewN ?_ _ | refine blk_drew ?_ | refine blk_alloc ?_ _)); refine blk_put (cs := #[.int .i64 a0_0, .int .i64 a0_1, .int .i64 a0_2, .slice A2 l2.length c2, .slice none 0 0, .int .i64 0]) ?_ 4 _ rfl; (with_reducible repeat (first | refine blk_drewN ?_ _ | refine blk_drew ?_ | refine blk_alloc ?_ _)); refine blk_put (cs := #[.int .i64 a0_0, .int .i64 a0_1, .int .i64 a0_2, .slice none 0 0, .slice none 0 0, .int .i64 0]) ?_ 3 _ rfl; (with_reducible repeat (first | refine blk_drewN ?_ _ | refine blk_drew ?_ | refine blk_alloc ?_ _)); refine blk_put (cs := #[.int .i64 a0_0, .int .i64 a0_1, .int .i64 0, .slice none 0 0, .slice none 0 0, .int .i64 0]) ?_ 2 _ rfl; (with_reducible repeat (first | refine blk_drewN ?_ _ | refine blk_drew ?_ | refine blk_alloc ?_ _)); refine blk_put (cs := #[.int .i64 a0_0, .int .i64 0, .int .i64 0, .slice none 0 0, .slice none 0 0, .int .i64 0]) ?_ 1 _ rfl; (with_reducible repeat (first | refine blk_drewN ?_ _ | refine blk_drew ?_ | refine blk_alloc ?_ _)); refine blk_put (cs := #[.int .i64 0, .int .i64 0, .int .i64 0, .slice none 0 0, .slice none 0 0, .int .i64 0]) ?_ 0 _ rfl; (with_reducible repeat (first | refine blk_drewN ?_ _ | refine blk_drew ?_ | refine blk_alloc ?_ _)); exact BK257.out) hb); have n2_ := Aside0.mk (below_step (by repeat (first | (with_reducible first | exact HB.out | apply below_alloc | apply pw_below_drewN | apply below_drew1 | refine below_set ?_ GE256.out | refine below_set ?_ GE257.out) | exact HB.out)) hb); clear BK256; clear BK257; clear HB; have BK256 := n0_; have BK257 := n1_; have HB := n2_; clear n0_ n1_ n2_; (try clear hb); (try clear hb2); (try clear hk); (try clear hi); have hcz25_0 : w24.cell? ⟨gb257, 0, none⟩ = some (.int .i64 a0_0) := (blk_cell BK257.out 0).trans rfl; have hcz25_1 : w24.cell? ⟨gb257, 1, none⟩ = some (.int .i64 a0_1) := (blk_cell BK257.out 1).trans rfl; have hcz25_2 : w24.cell? ⟨gb257, 2, none⟩ = some (.int .i64 a0_2) := (blk_cell BK257.out 2).trans rfl; have hcz25_3 : w24.cell? ⟨gb257, 3, none⟩ = some (.slice A2 l2.length c2) := (blk_cell BK257.out 3).trans rfl; have hcz25_4 : w24.cell? ⟨gb257, 4, none⟩ = some (.slice A3 l3.length c3) := (blk_cell BK257.out 4).trans rfl; have hcz25_5 : w24.cell? ⟨gb257, 5, none⟩ = some (.int .i64 a4) := (blk_cell BK257.out 5).trans rfl; have hfz25_0 := blk_frozen BK257.out 0; have hfz25_1 := blk_frozen BK257.out 1; have hfz25_2 := blk_frozen BK257.out 2; have hfz25_3 := blk_frozen BK257.out 3; have hfz25_4 := blk_frozen BK257.out 4; have hfz25_5 := blk_frozen BK257.out 5) | ((with_reducible refine gate_callee (f := 37) rfl ?_); refine goesL_ (some 34) rfl rfl Try.func37 (by kernel_rfl) rfl #[.agg #[.int .i64 a0_0, .int .i64 a0_1, .int .i64 a0_2, .slice A2 l2.length c2, .slice A3 l3.length c3, .int .i64 a4], .int .i64 a1] rfl (by (try simp only [List.map_toArray, List.map_cons, List.map_nil]); first | done | rfl | (simp only [List.length_drop, List.length_take]; rfl)) ?_; (with_reducible refine (impl_charging_ok.calls a0_0 a0_1 a0_2 _ _ l2 _ _ l3 a4 a1 true _ ?side1 ?side2 ?side3 ?side4 A8.out).mono ?_); (case side1 => repeat (first | exact (Kd.C_below HR2.out HB.out) | (with_reducible refine Kd.C_alloc ?_ _) | (with_reducible refine Kd.C_drewN ?_ _) | (with_reducible refine Kd.C_drew ?_))); (case side2 => exact HC2.out); (case side3 => repeat (first | exact (Kd.C_below HR3.out HB.out) | (with_reducible refine Kd.C_alloc ?_ _) | (with_reducible refine Kd.C_drewN ?_ _) | (with_reducible refine Kd.C_drew ?_))); (case side4 => exact HC3.out); rintro e w26 ⟨rfl, hb⟩; refine ⟨_, rfl, ?_⟩; have n0_ := Aside0.mk (blk_below (g := gb256) (o := .cells #[.int .i64 a0_0, .int .i64 a0_1, .int .i64 a0_2] 26 (0, 0)) (by (with_reducible repeat (first | refine blk_drewN ?_ _ | refine blk_drew ?_ | refine blk_alloc ?_ _)); exact BK256.out) hb); have n1_ := Aside0.mk (blk_below (g := gb257) (o := .cells #[.int .i64 a0_0, .int .i64 a0_1, .int .i64 a0_2, .slice A2 l2.length c2, .slice A3 l3.length c3, .int .i64 a4] 55 (0, 0)) (by (with_reducible repeat (first | refine blk_drewN ?_ _ | refine blk_drew ?_ | refine blk_alloc ?_ _)); exact BK257.out) hb); have n2_ := Aside0.mk (below_step (by repeat (first | (with_reducible first | exact HB.out | apply below_alloc | apply pw_below_drewN | apply below_drew1 | refine below_set ?_ GE256.out | refine below_set ?_ GE257.out) | exact HB.out)) hb); clear BK256; clear BK257; clear HB; have BK256 := n0_; have BK257 := n1_; have HB := n2_; clear n0_ n1_ n2_; (try clear hb); (try clear hb2); (try clear hk); (try clear hi)) | (go_at_call 53; (with_reducible refine (impl_allWithin.calls _ _ l3 0 1000 true _ ?side1 ?side2 A11.out).mono ?_); (case side1 => repeat (first | exact (Kd.C_below HR3.out HB.out) | (with_reducible refine Kd.C_alloc ?_ _) | (with_reducible refine Kd.C_drewN ?_ _) | (with_reducible refine Kd.C_drew ?_))); (case side2 => exact HC3.out); rintro e w27 ⟨rfl, hb⟩; have n0_ := Aside0.mk (blk_below (g := gb256) (o := .cells #[.int .i64 a0_0, .int .i64 a0_1, .int .i64 a0_2] 26 (0, 0)) (by (with_reducible repeat (first | refine blk_drewN ?_ _ | refine blk_drew ?_ | refine blk_alloc ?_ _)); exact BK256.out) hb); have n1_ := Aside0.mk (blk_below (g := gb257) (o := .cells #[.int .i64 a0_0, .int .i64 a0_1, .int .i64 a0_2, .slice A2 l2.length c2, .slice A3 l3.length c3, .int .i64 a4] 55 (0, 0)) (by (with_reducible repeat (first | refine blk_drewN ?_ _ | refine blk_drew ?_ | refine blk_alloc ?_ _)); exact BK257.out) hb); have n2_ := Aside0.mk (below_step (by repeat (first | (with_reducible first | exact HB.out | apply below_alloc | apply pw_below_drewN | apply below_drew1 | refine below_set ?_ GE256.out | refine below_set ?_ GE257.out) | exact HB.out)) hb); clear BK256; clear BK257; clear HB; have BK256 := n0_; have BK257 := n1_; have HB := n2_; clear n0_ n1_ n2_; (try clear hb); (try clear hb2); (try clear hk); (try clear hi); have hcz28_0 : w27.cell? ⟨gb257, 0, none⟩ = some (.int .i64 a0_0) := (blk_cell BK257.out 0).trans rfl; have hcz28_1 : w27.cell? ⟨gb257, 1, none⟩ = some (.int .i64 a0_1) := (blk_cell BK257.out 1).trans rfl; have hcz28_2 : w27.cell? ⟨gb257, 2, none⟩ = some (.int .i64 a0_2) := (blk_cell BK257.out 2).trans rfl; have hcz28_3 : w27.cell? ⟨gb257, 3, none⟩ = some (.slice A2 l2.length c2) := (blk_cell BK257.out 3).trans rfl; have hcz28_4 : w27.cell? ⟨gb257, 4, none⟩ = some (.slice A3 l3.length c3) := (blk_cell BK257.out 4).trans rfl; have hcz28_5 : w27.cell? ⟨gb257, 5, none⟩ = some (.int .i64 a4) := (blk_cell BK257.out 5).trans rfl; have hfz28_0 := blk_frozen BK257.out 0; have hfz28_1 := blk_frozen BK257.out 1; have hfz28_2 := blk_frozen BK257.out 2; have hfz28_3 := blk_frozen BK257.out 3; have hfz28_4 := blk_frozen BK257.out 4; have hfz28_5 := blk_frozen BK257.out 5) | ((with_reducible refine gate_callee (f := 54) rfl ?_); refine goesL_ (some 49) rfl rfl Try.func54 (by kernel_rfl) rfl #[.agg #[.int .i64 a0_0, .int .i64 a0_1, .int .i64 a0_2, .slice A2 l2.length c2, .slice A3 l3.length c3, .int .i64 a4]] rfl (by (try simp only [List.map_toArray, List.map_cons, List.map_nil]); first | done | rfl | (simp only [List.length_drop, List.length_take]; rfl)) ?_; (with_reducible refine (impl_charging_costs.calls k a0_0 a0_1 a0_2 _ _ l2 _ _ l3 a4 t261 _ ?side1 ?side2 ?side3 ?side4 A13.out).mono ?_); (case side1 => repeat (first | exact (Kd.C_below HR2.out HB.out) | (with_reducible refine Kd.C_alloc ?_ _) | (with_reducible refine Kd.C_drewN ?_ _) | (with_reducible refine Kd.C_drew ?_))); (case side2 => exact HC2.out); (case side3 => repeat (first | exact (Kd.C_below HR3.out HB.out) | (with_reducible refine Kd.C_alloc ?_ _) | (with_reducible refine Kd.C_drewN ?_ _) | (with_reducible refine Kd.C_drew ?_))); (case side4 => exact HC3.out); rintro e w29 ⟨v262, rfl, ho0, hb⟩; refine ⟨_, rfl, ?_⟩; have n0_ := Aside0.mk (Kd.S_lower ho0 (below_size (by repeat (first | (with_reducible first | exact HB.out | apply below_alloc | apply pw_below_drewN | apply below_drew1 | refine below_set ?_ GE256.out | refine below_set ?_ GE257.out) | exact HB.out)))); have n1_ := Aside0.mk (blk_below (g := gb256) (o := .cells #[.int .i64 a0_0, .int .i64 a0_1, .int .i64 a0_2] 26 (0, 0)) (by (with_reducible repeat (first | refine blk_drewN ?_ _ | refine blk_drew ?_ | refine blk_alloc ?_ _)); exact BK256.out) hb); have n2_ := Aside0.mk (blk_below (g := gb257) (o := .cells #[.int .i64 a0_0, .int .i64 a0_1, .int .i64 a0_2, .slice A2 l2.length c2, .slice A3 l3.length c3, .int .i64 a4] 55 (0, 0)) (by (with_reducible repeat (first | refine blk_drewN ?_ _ | refine blk_drew ?_ | refine blk_alloc ?_ _)); exact BK257.out) hb); have n3_ := Aside0.mk (below_step (by repeat (first | (with_reducible first | exact HB.out | apply below_alloc | apply pw_below_drewN | apply below_drew1 | refine below_set ?_ GE256.out | refine below_set ?_ GE257.out) | exact HB.out)) hb); clear BK256; clear BK257; clear HB; have HO263 := n0_; have BK256 := n1_; have BK257 := n2_; have HB := n3_; clear n0_ n1_ n2_ n3_; (try clear hb); (try clear hb2); (try clear hk); (try clear hi); (try clear ho0); obtain ⟨Ao30, co30, eo30⟩ := Kd.S_slice HO263.out; subst eo30; have p264 : 0 ≤ (0 : Int) := (by omega); have q264 : 0 < (t261.length : Int) := of_decide_eq_true (by first | (with_reducible assumption) | assumption); obtain ⟨ad264, A264_0, c264_0, e264, hx264_0, hl264_0, hi264_0⟩ := at_L2 (Kd.S_reads' HO263.out).2.2 0 p264 q264; cases e264; obtain ⟨ce264, hce264, hMe264, hcc264⟩ := Kd.S_get HO263.out [] 0 p264 (by first | exact q264 | exact of_decide_eq_true (by first | (with_reducible assumption) | assumption) | (have e_ := (Kd.S_reads' HO263.out).1; omega)); obtain ⟨ve264_0, rfl, ge264_0⟩ := hMe264; have hv264_0 := hcc264 0 _ rfl; rw [Nat.add_zero, show ((Kd.slice 2 (Kd.int .i64))).sz = 1 from rfl, Nat.mul_one] at hv264_0; replace hv264_0 := Option.some.inj (hv264_0.symm.trans hx264_0); rw [hv264_0] at ge264_0; have HL264_0 := Aside0.mk (show Kd.R (Kd.int .i64) 2 _ _ _ _ (rd_L2 t261 0) from ge264_0); clear hv264_0 ge264_0; clear hcc264 hce264; have qi264 : (0 < t261.length) = True := eq_true (by omega); (try rw [show ((0 : Int)).toNat = 0 from rfl] at hx264_0); (try rw [Addr.add_zero'] at hx264_0); have HR264_0 := Aside0.mk hi264_0; have HC264_0 := Aside0.mk hl264_0; clear hi264_0 hl264_0; replace p264 := eq_true p264; replace q264 := eq_true q264; have p265 : 0 ≤ (a1 : Int) := of_decide_eq_true (by first | (with_reducible assumption) | assumption); have q265 : a1 < ((rd_L2 t261 0).length : Int) := of_decide_eq_true (by first | (with_reducible assumption) | assumption); obtain ⟨ad265, e265, hx265_0⟩ := Kd.at_int (by repeat (first | (with_reducible exact HR264_0.out) | (with_reducible refine Kd.C_alloc ?_ _) | (with_reducible refine Kd.C_drewN ?_ _) | (with_reducible refine Kd.C_drew ?_) | exact HR264_0.out)) a1 p265 q265; cases e265; replace p265 := eq_true p265; replace q265 := eq_true q265))
         go_ret3
         exact ⟨_, by first | rfl | (simp [errW_none, errW_some] <;> rfl) | (simp [*, errW_none, errW_some] <;> rfl), by first | exact Kd.R_nil _ _ _ _ _ | exact Kd.N_nil _ _ _ _ _ | exact Kd.V_nil _ _ _ _ _ | exact Kd.Q_nil _ _ _ _ _ | exact Kd.S_nil _ _ _ _ _, by repeat (first | (with_reducible first | exact HB.out | apply below_alloc | apply pw_below_drewN | apply below_drew1 | refine below_set ?_ GE256.out | refine below_set ?_ GE257.out) | exact HB.out)⟩
        ·rw [if_neg c17] at H
         have c17b0 : decide ((rd (rd_L2 t261 0) a1) < 0) = false := decide_eq_false c17
         clear c17
         have H' := Aside0.mk H
         clear H
         go_enter Try.func26, Try.ntmps26
         go_wp2_with (first | ((with_reducible refine gate_dst (N := 5) rfl ?_); (try (refine gate_guard (by rfl) ?_; dsimp only)); refine box_event ?hg (N := 5) ?hd (cs := #[.int .i64 a0_0, .int .i64 a0_1, .int .i64 a0_2]) (t := 26) ?hr ?_; (case hd => rfl); (case hg => rfl); (case hr => first | (go_simp; done) | (go_simp; rfl)); intro gb256 hg w31 hbox hb; have n0_ := Aside0.mk (below_step (by repeat (first | (with_reducible first | exact HB.out | apply below_alloc | apply pw_below_drewN | apply below_drew1) | exact HB.out)) hb); have n1_ := Aside0.mk (hbox); have n2_ := Aside0.mk ((by rw [hg]; exact (below_size (by repeat (first | (with_reducible first | exact HB.out | apply below_alloc | apply pw_below_drewN | apply below_drew1) | exact HB.out))) : w.heap.size ≤ gb256)); have n3_ := Aside0.mk ((by rw [hg]; exact (below_size (by repeat (first | (with_reducible first | exact HB.out | apply below_alloc | apply pw_below_drewN | apply below_drew1) | exact HB.out))) : w.heap.size ≤ gb256)); clear HB; have HB := n0_; have BK256 := n1_; have GW256 := n2_; have GE256 := n3_; clear n0_ n1_ n2_ n3_; clear hb hbox hg; have hcz32_0 : w31.cell? ⟨gb256, 0, none⟩ = some (.int .i64 a0_0) := (blk_cell BK256.out 0).trans rfl; have hcz32_1 : w31.cell? ⟨gb256, 1, none⟩ = some (.int .i64 a0_1) := (blk_cell BK256.out 1).trans rfl; have hcz32_2 : w31.cell? ⟨gb256, 2, none⟩ = some (.int .i64 a0_2) := (blk_cell BK256.out 2).trans rfl; have hfz32_0 := blk_frozen BK256.out 0; have hfz32_1 := blk_frozen BK256.out 1; have hfz32_2 := blk_frozen BK256.out 2) | ((with_reducible refine gate_dst (N := 13) rfl ?_); (try (refine gate_guard (by rfl) ?_; dsimp only)); refine box_event ?hg (N := 13) ?hd (cs := #[.int .i64 0, .int .i64 0, .int .i64 0, .slice none 0 0, .slice none 0 0, .int .i64 0]) (t := 55) ?hr ?_; (case hd => rfl); (case hg => rfl); (case hr => first | (go_simp; done) | (go_simp; rfl)); intro gb257 hg w33 hbox hb; have n0_ := Aside0.mk (blk_below (g := gb256) (o := .cells #[.int .i64 a0_0, .int .i64 a0_1, .int .i64 a0_2] 26 (0, 0)) (by (with_reducible repeat (first | refine blk_drewN ?_ _ | refine blk_drew ?_ | refine blk_alloc ?_ _)); exact BK256.out) hb); have n1_ := Aside0.mk (below_step (by repeat (first | (with_reducible first | exact HB.out | apply below_alloc | apply pw_below_drewN | apply below_drew1 | refine below_set ?_ GE256.out) | exact HB.out)) hb); have n2_ := Aside0.mk (hbox); have n3_ := Aside0.mk ((by rw [hg]; exact (below_size (by repeat (first | (with_reducible first | exact HB.out | apply below_alloc | apply pw_below_drewN | apply below_drew1 | refine below_set ?_ GE256.out) | exact HB.out))) : w.heap.size ≤ gb257)); have n4_ := Aside0.mk ((by rw [hg]; exact (below_size (by repeat (first | (with_reducible first | exact HB.out | apply below_alloc | apply pw_below_drewN | apply below_drew1 | refine below_set ?_ GE256.out) | exact HB.out))) : w.heap.size ≤ gb257)); have n5_ := Aside0.mk ((by rw [hg]; exact Nat.ne_of_lt (blk_lt (g := gb256) (o := .cells #[.int .i64 a0_0, .int .i64 a0_1, .int .i64 a0_2] 26 (0, 0)) (by (with_reducible repeat (first | refine blk_drewN ?_ _ | refine blk_drew ?_ | refine blk_alloc ?_ _)); exact BK256.out)) : gb256 ≠ gb257)); have n6_ := Aside0.mk ((by rw [hg]; exact Nat.ne_of_gt (blk_lt (g := gb256) (o := .cells #[.int .i64 a0_0, .int .i64 a0_1, .int .i64 a0_2] 26 (0, 0)) (by (with_reducible repeat (first | refine blk_drewN ?_ _ | refine blk_drew ?_ | refine blk_alloc ?_ _)); exact BK256.out)) : gb257 ≠ gb256)); clear BK256; clear HB; have BK256 := n0_; have HB := n1_; have BK257 := n2_; have GW257 := n3_; have GE257 := n4_; have NB256_257 := n5_; have NB257_256 := n6_; clear n0_ n1_ n2_ n3_ n4_ n5_ n6_; clear hb hbox hg; have hnb34 := NB257_256.out; have hnc34 := NB256_257.out; have hcz35_0 : w33.cell? ⟨gb257, 0, none⟩ = some (.int .i64 0) := (blk_cell BK257.out 0).trans rfl; have hcz35_1 : w33.cell? ⟨gb257, 1, none⟩ = some (.int .i64 0) := (blk_cell BK257.out 1).trans rfl; have hcz35_2 : w33.cell? ⟨gb257, 2, none⟩ = some (.int .i64 0) := (blk_cell BK257.out 2).trans rfl; have hcz35_3 : w33.cell? ⟨gb257, 3, none⟩ = some (.slice none 0 0) := (blk_cell BK257.out 3).trans rfl; have hcz35_4 : w33.cell? ⟨gb257, 4, none⟩ = some (.slice none 0 0) := (blk_cell BK257.out 4).trans rfl; have hcz35_5 : w33.cell? ⟨gb257, 5, none⟩ = some (.int .i64 0) := (blk_cell BK257.out 5).trans rfl; have hfz35_0 := blk_frozen BK257.out 0; have hfz35_1 := blk_frozen BK257.out 1; have hfz35_2 := blk_frozen BK257.out 2; have hfz35_3 := blk_frozen BK257.out 3; have hfz35_4 := blk_frozen BK257.out 4; have hfz35_5 := blk_frozen BK257.out 5; have hcz36_0 : w33.cell? ⟨gb256, 0, none⟩ = some (.int .i64 a0_0) := (blk_cell BK256.out 0).trans rfl; have hcz36_1 : w33.cell? ⟨gb256, 1, none⟩ = some (.int .i64 a0_1) := (blk_cell BK256.out 1).trans rfl; have hcz36_2 : w33.cell? ⟨gb256, 2, none⟩ = some (.int .i64 a0_2) := (blk_cell BK256.out 2).trans rfl; have hfz36_0 := blk_frozen BK256.out 0; have hfz36_1 := blk_frozen BK256.out 1; have hfz36_2 := blk_frozen BK256.out 2) | ((with_reducible refine gate_callee (f := 40) rfl ?_); refine goesL_ (some 29) rfl rfl Try.func40 (by kernel_rfl) rfl #[.agg #[.int .i64 a0_0, .int .i64 a0_1, .int .i64 a0_2]] rfl (by (try simp only [List.map_toArray, List.map_cons, List.map_nil]); first | done | rfl | (simp only [List.length_drop, List.length_take]; rfl)) ?_; (with_reducible refine (impl_ValidTank.calls a0_0 a0_1 a0_2 true _ A6.out).mono ?_); rintro e w37 ⟨rfl, hb⟩; refine ⟨_, rfl, ?_⟩; have n0_ := Aside0.mk (blk_below (g := gb256) (o := .cells #[.int .i64 a0_0, .int .i64 a0_1, .int .i64 a0_2] 26 (0, 0)) (by (with_reducible repeat (first | refine blk_drewN ?_ _ | refine blk_drew ?_ | refine blk_alloc ?_ _)); refine blk_far ?_ NB256_257.out _; (with_reducible repeat (first | refine blk_drewN ?_ _ | refine blk_drew ?_ | refine blk_alloc ?_ _)); refine blk_far ?_ NB256_257.out _; (with_reducible repeat (first | refine blk_drewN ?_ _ | refine blk_drew ?_ | refine blk_alloc ?_ _)); refine blk_far ?_ NB256_257.out _; (with_reducible repeat (first | refine blk_drewN ?_ _ | refine blk_drew ?_ | refine blk_alloc ?_ _)); refine blk_far ?_ NB256_257.out _; (with_reducible repeat (first | refine blk_drewN ?_ _ | refine blk_drew ?_ | refine blk_alloc ?_ _)); refine blk_far ?_ NB256_257.out _; (with_reducible repeat (first | refine blk_drewN ?_ _ | refine blk_drew ?_ | refine blk_alloc ?_ _)); refine blk_far ?_ NB256_257.out _; (with_reducible repeat (first | refine blk_drewN ?_ _ | refine blk_drew ?_ | refine blk_alloc ?_ _)); exact BK256.out) hb); have n1_ := Aside0.mk (blk_below (g := gb257) (o := .cells #[.int .i64 a0_0, .int .i64 a0_1, .int .i64 a0_2, .slice A2 l2.length c2, .slice A3 l3.length c3, .int .i64 a4] 55 (0, 0)) (by (with_reducible repeat (first | refine blk_drewN ?_ _ | refine blk_drew ?_ | refine blk_alloc ?_ _)); refine blk_put (cs := #[.int .i64 a0_0, .int .i64 a0_1, .int .i64 a0_2, .slice A2 l2.length c2, .slice A3 l3.length c3, .int .i64 0]) ?_ 5 _ rfl; (with_reducible repeat (first | refine blk_drewN ?_ _ | refine blk_drew ?_ | refine blk_alloc ?_ _)); refine blk_put (cs := #[.int .i64 a0_0, .int .i64 a0_1, .int .i64 a0_2, .slice A2 l2.length c2, .slice none 0 0, .int .i64 0]) ?_ 4 _ rfl; (with_reducible repeat (first | refine blk_drewN ?_ _ | refine blk_drew ?_ | refine blk_alloc ?_ _)); refine blk_put (cs := #[.int .i64 a0_0, .int .i64 a0_1, .int .i64 a0_2, .slice none 0 0, .slice none 0 0, .int .i64 0]) ?_ 3 _ rfl; (with_reducible repeat (first | refine blk_drewN ?_ _ | refine blk_drew ?_ | refine blk_alloc ?_ _)); refine blk_put (cs := #[.int .i64 a0_0, .int .i64 a0_1, .int .i64 0, .slice none 0 0, .slice none 0 0, .int .i64 0]) ?_ 2 _ rfl; (with_reducible repeat (first | refine blk_drewN ?_ _ | refine blk_drew ?_ | refine blk_alloc ?_ _)); refine blk_put (cs := #[.int .i64 a0_0, .int .i64 0, .int .i64 0, .slice none 0 0, .slice none 0 0, .int .i64 0]) ?_ 1 _ rfl; (with_reducible repeat (first | refine blk_drewN ?_ _ | refine blk_drew ?_ | refine blk_alloc ?_ _)); refine blk_put (cs := #[.int .i64 0, .int .i64 0, .int .i64 0, .slice none 0 0, .slice none 0 0, .int .i64 0]) ?_ 0 _ rfl; (with_reducible repeat (first | refine blk_drewN ?_ _ | refine blk_drew ?_ | refine blk_alloc ?_ _)); exact BK257.out) hb); have n2_ := Aside0.mk (below_step (by repeat (first | (with_reducible first | exact HB.out | apply below_alloc | apply pw_below_drewN | apply below_drew1 | refine below_set ?_ GE256.out | refine below_set ?_ GE257.out) | exact HB.out)) hb); clear BK256; clear BK257; clear HB; have BK256 := n0_; have BK257 := n1_; have HB := n2_; clear n0_ n1_ n2_; (try clear hb); (try clear hb2); (try clear hk); (try clear hi); have hcz38_0 : w37.cell? ⟨gb257, 0, none⟩ = some (.int .i64 a0_0) := (blk_cell BK257.out 0).trans rfl; have hcz38_1 : w37.cell? ⟨gb257, 1, none⟩ = some (.int .i64 a0_1) := (blk_cell BK257.out 1).trans rfl; have hcz38_2 : w37.cell? ⟨gb257, 2, none⟩ = some (.int .i64 a0_2) := (blk_cell BK257.out 2).trans rfl; have hcz38_3 : w37.cell? ⟨gb257, 3, none⟩ = some (.slice A2 l2.length c2) := (blk_cell BK257.out 3).trans rfl; have hcz38_4 : w37.cell? ⟨gb257, 4, none⟩ = some (.slice A3 l3.length c3) := (blk_cell BK257.out 4).trans rfl; have hcz38_5 : w37.cell? ⟨gb257, 5, none⟩ = some (.int .i64 a4) := (blk_cell BK257.out 5).trans rfl; have hfz38_0 := blk_frozen BK257.out 0; have hfz38_1 := blk_frozen BK257.out 1; have hfz38_2 := blk_frozen BK257.out 2; have hfz38_3 := blk_frozen BK257.out 3; have hfz38_4 := blk_frozen BK257.out 4; have hfz38_5 := blk_frozen BK257.out 5) | ((with_reducible refine gate_callee (f := 37) rfl ?_); refine goesL_ (some 34) rfl rfl Try.func37 (by kernel_rfl) rfl #[.agg #[.int .i64 a0_0, .int .i64 a0_1, .int .i64 a0_2, .slice A2 l2.length c2, .slice A3 l3.length c3, .int .i64 a4], .int .i64 a1] rfl (by (try simp only [List.map_toArray, List.map_cons, List.map_nil]); first | done | rfl | (simp only [List.length_drop, List.length_take]; rfl)) ?_; (with_reducible refine (impl_charging_ok.calls a0_0 a0_1 a0_2 _ _ l2 _ _ l3 a4 a1 true _ ?side1 ?side2 ?side3 ?side4 A8.out).mono ?_); (case side1 => repeat (first | exact (Kd.C_below HR2.out HB.out) | (with_reducible refine Kd.C_alloc ?_ _) | (with_reducible refine Kd.C_drewN ?_ _) | (with_reducible refine Kd.C_drew ?_))); (case side2 => exact HC2.out); (case side3 => repeat (first | exact (Kd.C_below HR3.out HB.out) | (with_reducible refine Kd.C_alloc ?_ _) | (with_reducible refine Kd.C_drewN ?_ _) | (with_reducible refine Kd.C_drew ?_))); (case side4 => exact HC3.out); rintro e w39 ⟨rfl, hb⟩; refine ⟨_, rfl, ?_⟩; have n0_ := Aside0.mk (blk_below (g := gb256) (o := .cells #[.int .i64 a0_0, .int .i64 a0_1, .int .i64 a0_2] 26 (0, 0)) (by (with_reducible repeat (first | refine blk_drewN ?_ _ | refine blk_drew ?_ | refine blk_alloc ?_ _)); exact BK256.out) hb); have n1_ := Aside0.mk (blk_below (g := gb257) (o := .cells #[.int .i64 a0_0, .int .i64 a0_1, .int .i64 a0_2, .slice A2 l2.length c2, .slice A3 l3.length c3, .int .i64 a4] 55 (0, 0)) (by (with_reducible repeat (first | refine blk_drewN ?_ _ | refine blk_drew ?_ | refine blk_alloc ?_ _)); exact BK257.out) hb); have n2_ := Aside0.mk (below_step (by repeat (first | (with_reducible first | exact HB.out | apply below_alloc | apply pw_below_drewN | apply below_drew1 | refine below_set ?_ GE256.out | refine below_set ?_ GE257.out) | exact HB.out)) hb); clear BK256; clear BK257; clear HB; have BK256 := n0_; have BK257 := n1_; have HB := n2_; clear n0_ n1_ n2_; (try clear hb); (try clear hb2); (try clear hk); (try clear hi)) | (go_at_call 53; (with_reducible refine (impl_allWithin.calls _ _ l3 0 1000 true _ ?side1 ?side2 A11.out).mono ?_); (case side1 => repeat (first | exact (Kd.C_below HR3.out HB.out) | (with_reducible refine Kd.C_alloc ?_ _) | (with_reducible refine Kd.C_drewN ?_ _) | (with_reducible refine Kd.C_drew ?_))); (case side2 => exact HC3.out); rintro e w40 ⟨rfl, hb⟩; have n0_ := Aside0.mk (blk_below (g := gb256) (o := .cells #[.int .i64 a0_0, .int .i64 a0_1, .int .i64 a0_2] 26 (0, 0)) (by (with_reducible repeat (first | refine blk_drewN ?_ _ | refine blk_drew ?_ | refine blk_alloc ?_ _)); exact BK256.out) hb); have n1_ := Aside0.mk (blk_below (g := gb257) (o := .cells #[.int .i64 a0_0, .int .i64 a0_1, .int .i64 a0_2, .slice A2 l2.length c2, .slice A3 l3.length c3, .int .i64 a4] 55 (0, 0)) (by (with_reducible repeat (first | refine blk_drewN ?_ _ | refine blk_drew ?_ | refine blk_alloc ?_ _)); exact BK257.out) hb); have n2_ := Aside0.mk (below_step (by repeat (first | (with_reducible first | exact HB.out | apply below_alloc | apply pw_below_drewN | apply below_drew1 | refine below_set ?_ GE256.out | refine below_set ?_ GE257.out) | exact HB.out)) hb); clear BK256; clear BK257; clear HB; have BK256 := n0_; have BK257 := n1_; have HB := n2_; clear n0_ n1_ n2_; (try clear hb); (try clear hb2); (try clear hk); (try clear hi); have hcz41_0 : w40.cell? ⟨gb257, 0, none⟩ = some (.int .i64 a0_0) := (blk_cell BK257.out 0).trans rfl; have hcz41_1 : w40.cell? ⟨gb257, 1, none⟩ = some (.int .i64 a0_1) := (blk_cell BK257.out 1).trans rfl; have hcz41_2 : w40.cell? ⟨gb257, 2, none⟩ = some (.int .i64 a0_2) := (blk_cell BK257.out 2).trans rfl; have hcz41_3 : w40.cell? ⟨gb257, 3, none⟩ = some (.slice A2 l2.length c2) := (blk_cell BK257.out 3).trans rfl; have hcz41_4 : w40.cell? ⟨gb257, 4, none⟩ = some (.slice A3 l3.length c3) := (blk_cell BK257.out 4).trans rfl; have hcz41_5 : w40.cell? ⟨gb257, 5, none⟩ = some (.int .i64 a4) := (blk_cell BK257.out 5).trans rfl; have hfz41_0 := blk_frozen BK257.out 0; have hfz41_1 := blk_frozen BK257.out 1; have hfz41_2 := blk_frozen BK257.out 2; have hfz41_3 := blk_frozen BK257.out 3; have hfz41_4 := blk_frozen BK257.out 4; have hfz41_5 := blk_frozen BK257.out 5) | ((with_reducible refine gate_callee (f := 54) rfl ?_); refine goesL_ (some 49) rfl rfl Try.func54 (by kernel_rfl) rfl #[.agg #[.int .i64 a0_0, .int .i64 a0_1, .int .i64 a0_2, .slice A2 l2.length c2, .slice A3 l3.length c3, .int .i64 a4]] rfl (by (try simp only [List.map_toArray, List.map_cons, List.map_nil]); first | done | rfl | (simp only [List.length_drop, List.length_take]; rfl)) ?_; (with_reducible refine (impl_charging_costs.calls k a0_0 a0_1 a0_2 _ _ l2 _ _ l3 a4 t261 _ ?side1 ?side2 ?side3 ?side4 A13.out).mono ?_); (case side1 => repeat (first | exact (Kd.C_below HR2.out HB.out) | (with_reducible refine Kd.C_alloc ?_ _) | (with_reducible refine Kd.C_drewN ?_ _) | (with_reducible refine Kd.C_drew ?_))); (case side2 => exact HC2.out); (case side3 => repeat (first | exact (Kd.C_below HR3.out HB.out) | (with_reducible refine Kd.C_alloc ?_ _) | (with_reducible refine Kd.C_drewN ?_ _) | (with_reducible refine Kd.C_drew ?_))); (case side4 => exact HC3.out); rintro e w42 ⟨v262, rfl, ho0, hb⟩; refine ⟨_, rfl, ?_⟩; have n0_ := Aside0.mk (Kd.S_lower ho0 (below_size (by repeat (first | (with_reducible first | exact HB.out | apply below_alloc | apply pw_below_drewN | apply below_drew1 | refine below_set ?_ GE256.out | refine below_set ?_ GE257.out) | exact HB.out)))); have n1_ := Aside0.mk (blk_below (g := gb256) (o := .cells #[.int .i64 a0_0, .int .i64 a0_1, .int .i64 a0_2] 26 (0, 0)) (by (with_reducible repeat (first | refine blk_drewN ?_ _ | refine blk_drew ?_ | refine blk_alloc ?_ _)); exact BK256.out) hb); have n2_ := Aside0.mk (blk_below (g := gb257) (o := .cells #[.int .i64 a0_0, .int .i64 a0_1, .int .i64 a0_2, .slice A2 l2.length c2, .slice A3 l3.length c3, .int .i64 a4] 55 (0, 0)) (by (with_reducible repeat (first | refine blk_drewN ?_ _ | refine blk_drew ?_ | refine blk_alloc ?_ _)); exact BK257.out) hb); have n3_ := Aside0.mk (below_step (by repeat (first | (with_reducible first | exact HB.out | apply below_alloc | apply pw_below_drewN | apply below_drew1 | refine below_set ?_ GE256.out | refine below_set ?_ GE257.out) | exact HB.out)) hb); clear BK256; clear BK257; clear HB; have HO263 := n0_; have BK256 := n1_; have BK257 := n2_; have HB := n3_; clear n0_ n1_ n2_ n3_; (try clear hb); (try clear hb2); (try clear hk); (try clear hi); (try clear ho0); obtain ⟨Ao43, co43, eo43⟩ := Kd.S_slice HO263.out; subst eo43; have p264 : 0 ≤ (0 : Int) := (by omega); have q264 : 0 < (t261.length : Int) := of_decide_eq_true (by first | (with_reducible assumption) | assumption); obtain ⟨ad264, A264_0, c264_0, e264, hx264_0, hl264_0, hi264_0⟩ := at_L2 (Kd.S_reads' HO263.out).2.2 0 p264 q264; cases e264; obtain ⟨ce264, hce264, hMe264, hcc264⟩ := Kd.S_get HO263.out [] 0 p264 (by first | exact q264 | exact of_decide_eq_true (by first | (with_reducible assumption) | assumption) | (have e_ := (Kd.S_reads' HO263.out).1; omega)); obtain ⟨ve264_0, rfl, ge264_0⟩ := hMe264; have hv264_0 := hcc264 0 _ rfl; rw [Nat.add_zero, show ((Kd.slice 2 (Kd.int .i64))).sz = 1 from rfl, Nat.mul_one] at hv264_0; replace hv264_0 := Option.some.inj (hv264_0.symm.trans hx264_0); rw [hv264_0] at ge264_0; have HL264_0 := Aside0.mk (show Kd.R (Kd.int .i64) 2 _ _ _ _ (rd_L2 t261 0) from ge264_0); clear hv264_0 ge264_0; clear hcc264 hce264; have qi264 : (0 < t261.length) = True := eq_true (by omega); (try rw [show ((0 : Int)).toNat = 0 from rfl] at hx264_0); (try rw [Addr.add_zero'] at hx264_0); have HR264_0 := Aside0.mk hi264_0; have HC264_0 := Aside0.mk hl264_0; clear hi264_0 hl264_0; replace p264 := eq_true p264; replace q264 := eq_true q264; have p265 : 0 ≤ (a1 : Int) := of_decide_eq_true (by first | (with_reducible assumption) | assumption); have q265 : a1 < ((rd_L2 t261 0).length : Int) := of_decide_eq_true (by first | (with_reducible assumption) | assumption); obtain ⟨ad265, e265, hx265_0⟩ := Kd.at_int (by repeat (first | (with_reducible exact HR264_0.out) | (with_reducible refine Kd.C_alloc ?_ _) | (with_reducible refine Kd.C_drewN ?_ _) | (with_reducible refine Kd.C_drew ?_) | exact HR264_0.out)) a1 p265 q265; cases e265; replace p265 := eq_true p265; replace q265 := eq_true q265))
         go_loopg [16, 17, 61] k (fun kq v16 v17 v61 w' => ∃ (x16_1 : List Int) (x17_1 : Int) (x61_1 : Int), v17 = .int .i64 x17_1 ∧ v61 = .int .i64 x61_1 ∧ Aside0 (impl_BestCharging.l0 kq t261 (rd (rd_L2 t261 0) a1) x16_1 x17_1 (l2.length : Int) x61_1 a0_0 a0_1 a0_2 a0_0 a0_1 a0_2 l2 l3 a4 = some (r1, r2, r3)) ∧ Aside0 (kq ≤ k) ∧ Aside0 (Kd.S (Kd.slice 2 (Kd.int .i64)) 24 w' w.heap.size (fun k_ => some k_ ≠ (v16 : Value).ownBlock) (.slice (some ad264) t261.length co43) t261) ∧ Aside0 (Kd.R (Kd.int .i64) 2 w' w.heap.size (fun _ => True) v16 x16_1) ∧ Aside0 (w'.heap[gb256]? = some (.cells #[.int .i64 a0_0, .int .i64 a0_1, .int .i64 a0_2] 26 (0, 0))) ∧ Aside0 (w'.heap[gb257]? = some (.cells #[.int .i64 a0_0, .int .i64 a0_1, .int .i64 a0_2, (.slice A2 l2.length c2), (.slice A3 l3.length c3), .int .i64 a4] 55 (0, 0))) ∧ Aside0 (Below w.heap.size w w'))
         case atStart => exact ⟨(([] : List Int)), (a1), (0), (by first | rfl | (simp; done) | (simp [*]; done)), (by first | rfl | (simp; done) | (simp [*]; done)), H', ⟨Nat.le_refl _⟩, ⟨by (with_reducible repeat (first | apply Kd.S_alloc | apply Kd.S_drewN | apply Kd.S_drew)); exact Kd.S_mono HO263.out (fun _ hk => (by simp [Value.ownBlock]))⟩, ⟨by first | exact Kd.R_nil _ _ _ _ _ | exact Kd.N_nil _ _ _ _ _ | exact Kd.V_nil _ _ _ _ _ | exact Kd.Q_nil _ _ _ _ _ | exact Kd.S_nil _ _ _ _ _⟩, ⟨by (with_reducible repeat (first | refine blk_drewN ?_ _ | refine blk_drew ?_ | refine blk_alloc ?_ _)); exact BK256.out⟩, ⟨by (with_reducible repeat (first | refine blk_drewN ?_ _ | refine blk_drew ?_ | refine blk_alloc ?_ _)); exact BK257.out⟩, ⟨by repeat (first | (with_reducible first | exact HB.out | apply below_alloc | apply pw_below_drewN | apply below_drew1 | refine below_set ?_ GE256.out | refine below_set ?_ GE257.out) | exact HB.out)⟩⟩
         case round =>
          clear H'
          try clear c1
          try clear c2
          try clear p2
          try clear q2
          try clear hx2
          try clear qi2
          try clear c3
          try clear c4
          try clear c5
          try clear c7
          try clear c9
          try clear c10
          try clear c10b0
          try clear c10b1
          try clear c10b2
          try clear c12
          try clear c14
          try clear c14b0
          try clear c14b1
          try clear c15
          try clear c15b0
          try clear c16
          try clear c16b0
          try clear c17
          try clear c17b0
          try clear c21
          try clear c26
          try clear p26
          try clear q26
          try clear hx26
          try clear qi26
          try clear c34
          try clear c37
          try clear c40
          try clear hcz19_0
          try clear hcz19_1
          try clear hcz19_2
          try clear hcz22_0
          try clear hcz22_1
          try clear hcz22_2
          try clear hcz22_3
          try clear hcz22_4
          try clear hcz22_5
          try clear hcz23_0
          try clear hcz23_1
          try clear hcz23_2
          try clear hcz25_0
          try clear hcz25_1
          try clear hcz25_2
          try clear hcz25_3
          try clear hcz25_4
          try clear hcz25_5
          try clear hcz28_0
          try clear hcz28_1
          try clear hcz28_2
          try clear hcz28_3
          try clear hcz28_4
          try clear hcz28_5
          try clear hcz32_0
          try clear hcz32_1
          try clear hcz32_2
          try clear hcz35_0
          try clear hcz35_1
          try clear hcz35_2
          try clear hcz35_3
          try clear hcz35_4
          try clear hcz35_5
          try clear hcz36_0
          try clear hcz36_1
          try clear hcz36_2
          try clear hcz38_0
          try clear hcz38_1
          try clear hcz38_2
          try clear hcz38_3
          try clear hcz38_4
          try clear hcz38_5
          try clear hcz41_0
          try clear hcz41_1
          try clear hcz41_2
          try clear hcz41_3
          try clear hcz41_4
          try clear hcz41_5
          try clear hfz19_0
          try clear hfz19_1
          try clear hfz19_2
          try clear hfz22_0
          try clear hfz22_1
          try clear hfz22_2
          try clear hfz22_3
          try clear hfz22_4
          try clear hfz22_5
          try clear hfz23_0
          try clear hfz23_1
          try clear hfz23_2
          try clear hfz25_0
          try clear hfz25_1
          try clear hfz25_2
          try clear hfz25_3
          try clear hfz25_4
          try clear hfz25_5
          try clear hfz28_0
          try clear hfz28_1
          try clear hfz28_2
          try clear hfz28_3
          try clear hfz28_4
          try clear hfz28_5
          try clear hfz32_0
          try clear hfz32_1
          try clear hfz32_2
          try clear hfz35_0
          try clear hfz35_1
          try clear hfz35_2
          try clear hfz35_3
          try clear hfz35_4
          try clear hfz35_5
          try clear hfz36_0
          try clear hfz36_1
          try clear hfz36_2
          try clear hfz38_0
          try clear hfz38_1
          try clear hfz38_2
          try clear hfz38_3
          try clear hfz38_4
          try clear hfz38_5
          try clear hfz41_0
          try clear hfz41_1
          try clear hfz41_2
          try clear hfz41_3
          try clear hfz41_4
          try clear hfz41_5
          try clear hx264_0
          try clear hx265_0
          try clear p264
          try clear p265
          try clear q264
          try clear q265
          obtain ⟨x16_1, x17_1, x61_1, rfl, rfl, HA, HK1, HO_14, HO_16, BK256, BK257, HB⟩ := hrel
          cases gk with
          | zero => exact absurd HA.out (by simp [impl_BestCharging.l0])
          | succ k1 =>
           have H := HA.out
           clear HA
           simp only [impl_BestCharging.l0] at H
           by_cases c44 : x61_1 < (l2.length : Int)
           ·rw [if_pos c44] at H
            have c44b0 : decide (x61_1 < (l2.length : Int)) = true := decide_eq_true c44
            clear c44
            have H' := Aside0.mk H
            clear H
            have hnb45 := NB256_257.out
            have hnc45 := NB257_256.out
            have hcz46_0 : wr.cell? ⟨gb256, 0, none⟩ = some (.int .i64 a0_0) := (blk_cell BK256.out 0).trans rfl
            have hcz46_1 : wr.cell? ⟨gb256, 1, none⟩ = some (.int .i64 a0_1) := (blk_cell BK256.out 1).trans rfl
            have hcz46_2 : wr.cell? ⟨gb256, 2, none⟩ = some (.int .i64 a0_2) := (blk_cell BK256.out 2).trans rfl
            have hfz46_0 := blk_frozen BK256.out 0
            have hfz46_1 := blk_frozen BK256.out 1
            have hfz46_2 := blk_frozen BK256.out 2
            go_wp2
            go_loopg [16, 17, 19] k1 (fun kq v16 v17 v19 w' => ∃ (x16_2 : List Int) (x17_2 : Int) (x19_2 : Int), v17 = .int .i64 x17_2 ∧ v19 = .int .i64 x19_2 ∧ Aside0 (impl_BestCharging.l1 kq t261 (rd (rd_L2 t261 0) a1) x16_2 x17_2 x61_1 x19_2 (l2.length : Int) x61_1 a0_0 a0_1 a0_2 a0_0 a0_1 a0_2 l2 l3 a4 = some (r1, r2, r3)) ∧ Aside0 (kq ≤ k1) ∧ Aside0 (Kd.S (Kd.slice 2 (Kd.int .i64)) 24 w' w.heap.size (fun k_ => some k_ ≠ (v16 : Value).ownBlock) (.slice (some ad264) t261.length co43) t261) ∧ Aside0 (Kd.R (Kd.int .i64) 2 w' w.heap.size (fun _ => True) v16 x16_2) ∧ Aside0 (w'.heap[gb256]? = some (.cells #[.int .i64 a0_0, .int .i64 a0_1, .int .i64 a0_2] 26 (0, 0))) ∧ Aside0 (w'.heap[gb257]? = some (.cells #[.int .i64 a0_0, .int .i64 a0_1, .int .i64 a0_2, (.slice A2 l2.length c2), (.slice A3 l3.length c3), .int .i64 a4] 55 (0, 0))) ∧ Aside0 (Below w.heap.size w w'))
            case atStart => exact ⟨(x16_1), (x17_1), (wrap64 (-a0_1)), (by first | rfl | (simp; done) | (simp [*]; done)), (by first | rfl | (simp; done) | (simp [*]; done)), H', ⟨Nat.le_refl _⟩, ⟨by (with_reducible repeat (first | apply Kd.S_alloc | apply Kd.S_drewN | apply Kd.S_drew)); exact HO_14.out⟩, ⟨by (with_reducible repeat (first | apply Kd.R_alloc | apply Kd.R_drewN | apply Kd.R_drew)); exact HO_16.out⟩, ⟨by (with_reducible repeat (first | refine blk_drewN ?_ _ | refine blk_drew ?_ | refine blk_alloc ?_ _)); exact BK256.out⟩, ⟨by (with_reducible repeat (first | refine blk_drewN ?_ _ | refine blk_drew ?_ | refine blk_alloc ?_ _)); exact BK257.out⟩, ⟨by repeat (first | (with_reducible first | exact HB.out | apply below_alloc | apply pw_below_drewN | apply below_drew1 | refine below_set ?_ GE256.out | refine below_set ?_ GE257.out) | exact HB.out)⟩⟩
            case round =>
             clear H'
             try clear c1
             try clear c2
             try clear p2
             try clear q2
             try clear hx2
             try clear qi2
             try clear c3
             try clear c4
             try clear c5
             try clear p6
             try clear c7
             try clear c9
             try clear c10
             try clear c10b0
             try clear c10b1
             try clear c10b2
             try clear c12
             try clear c14
             try clear c14b0
             try clear c14b1
             try clear c15
             try clear c15b0
             try clear c16
             try clear c16b0
             try clear c17
             try clear c17b0
             try clear c21
             try clear c26
             try clear p26
             try clear q26
             try clear hx26
             try clear qi26
             try clear c34
             try clear c37
             try clear c40
             try clear c44
             try clear c44b0
             try clear c45
             try clear hcz19_0
             try clear hcz19_1
             try clear hcz19_2
             try clear hcz22_0
             try clear hcz22_1
             try clear hcz22_2
             try clear hcz22_3
             try clear hcz22_4
             try clear hcz22_5
             try clear hcz23_0
             try clear hcz23_1
             try clear hcz23_2
             try clear hcz25_0
             try clear hcz25_1
             try clear hcz25_2
             try clear hcz25_3
             try clear hcz25_4
             try clear hcz25_5
             try clear hcz28_0
             try clear hcz28_1
             try clear hcz28_2
             try clear hcz28_3
             try clear hcz28_4
             try clear hcz28_5
             try clear hcz32_0
             try clear hcz32_1
             try clear hcz32_2
             try clear hcz35_0
             try clear hcz35_1
             try clear hcz35_2
             try clear hcz35_3
             try clear hcz35_4
             try clear hcz35_5
             try clear hcz36_0
             try clear hcz36_1
             try clear hcz36_2
             try clear hcz38_0
             try clear hcz38_1
             try clear hcz38_2
             try clear hcz38_3
             try clear hcz38_4
             try clear hcz38_5
             try clear hcz41_0
             try clear hcz41_1
             try clear hcz41_2
             try clear hcz41_3
             try clear hcz41_4
             try clear hcz41_5
             try clear hcz46_0
             try clear hcz46_1
             try clear hcz46_2
             try clear hfz19_0
             try clear hfz19_1
             try clear hfz19_2
             try clear hfz22_0
             try clear hfz22_1
             try clear hfz22_2
             try clear hfz22_3
             try clear hfz22_4
             try clear hfz22_5
             try clear hfz23_0
             try clear hfz23_1
             try clear hfz23_2
             try clear hfz25_0
             try clear hfz25_1
             try clear hfz25_2
             try clear hfz25_3
             try clear hfz25_4
             try clear hfz25_5
             try clear hfz28_0
             try clear hfz28_1
             try clear hfz28_2
             try clear hfz28_3
             try clear hfz28_4
             try clear hfz28_5
             try clear hfz32_0
             try clear hfz32_1
             try clear hfz32_2
             try clear hfz35_0
             try clear hfz35_1
             try clear hfz35_2
             try clear hfz35_3
             try clear hfz35_4
             try clear hfz35_5
             try clear hfz36_0
             try clear hfz36_1
             try clear hfz36_2
             try clear hfz38_0
             try clear hfz38_1
             try clear hfz38_2
             try clear hfz38_3
             try clear hfz38_4
             try clear hfz38_5
             try clear hfz41_0
             try clear hfz41_1
             try clear hfz41_2
             try clear hfz41_3
             try clear hfz41_4
             try clear hfz41_5
             try clear hfz46_0
             try clear hfz46_1
             try clear hfz46_2
             try clear hx264_0
             try clear hx265_0
             try clear p2
             try clear p26
             try clear p264
             try clear p265
             try clear q2
             try clear q26
             try clear q264
             try clear q265
             obtain ⟨x16_2, x17_2, x19_2, rfl, rfl, HA, HK2, HO_14, HO_16, BK256, BK257, HB⟩ := hrel
             cases gk with
             | zero => exact absurd HA.out (by simp [impl_BestCharging.l1])
             | succ k2 =>
              have H := HA.out
              clear HA
              simp only [impl_BestCharging.l1] at H
              by_cases c47 : x19_2 ≤ a0_1
              ·rw [if_pos c47] at H
               have c47b0 : decide (x19_2 ≤ a0_1) = true := decide_eq_true c47
               clear c47
               replace H := Option.bind_eq_some_iff.mp H
               obtain ⟨⟨t266, t267⟩, A480, H⟩ := H
               replace H : (if t267 = true then (if 0 ≤ (wrap64 (x61_1 + 1)) then (if (wrap64 (x61_1 + 1)) < (t261.length : Int) then (if 0 ≤ t266 then (if t266 < ((rd_L2 t261 (wrap64 (x61_1 + 1))).length : Int) then (if (rd (rd_L2 t261 (wrap64 (x61_1 + 1))) t266) ≥ 0 then ((impl_charging_price.f a0_0 a0_1 a0_2 l2 l3 a4 x61_1 x19_2).bind fun t270 => (if 0 ≤ x61_1 then (if x61_1 < (t261.length : Int) then (if 0 ≤ x17_2 then (if x17_2 < ((rd_L2 t261 x61_1).length : Int) then (if (wrap64 (t270 + (rd (rd_L2 t261 (wrap64 (x61_1 + 1))) t266))) = (rd (rd_L2 t261 x61_1) x17_2) then (if x16_2.length < 17592186044416 then (impl_BestCharging.l0 k2 t261 (rd (rd_L2 t261 0) a1) (x16_2 ++ [x19_2]) t266 (l2.length : Int) (wrap64 (x61_1 + 1)) a0_0 a0_1 a0_2 a0_0 a0_1 a0_2 l2 l3 a4) else (none)) else (impl_BestCharging.l1 k2 t261 (rd (rd_L2 t261 0) a1) x16_2 x17_2 x61_1 (wrap64 (x19_2 + 1)) (l2.length : Int) x61_1 a0_0 a0_1 a0_2 a0_0 a0_1 a0_2 l2 l3 a4)) else (none)) else (none)) else (none)) else (none))) else (impl_BestCharging.l1 k2 t261 (rd (rd_L2 t261 0) a1) x16_2 x17_2 x61_1 (wrap64 (x19_2 + 1)) (l2.length : Int) x61_1 a0_0 a0_1 a0_2 a0_0 a0_1 a0_2 l2 l3 a4)) else (none)) else (none)) else (none)) else (none)) else (impl_BestCharging.l1 k2 t261 (rd (rd_L2 t261 0) a1) x16_2 x17_2 x61_1 (wrap64 (x19_2 + 1)) (l2.length : Int) x61_1 a0_0 a0_1 a0_2 a0_0 a0_1 a0_2 l2 l3 a4)) = some (r1, r2, r3) := H
               have A48 := Aside0.mk A480
               clear A480
               by_cases c49 : t267 = true
               ·subst c49
                have H1 : (if 0 ≤ (wrap64 (x61_1 + 1)) then (if (wrap64 (x61_1 + 1)) < (t261.length : Int) then (if 0 ≤ t266 then (if t266 < ((rd_L2 t261 (wrap64 (x61_1 + 1))).length : Int) then (if (rd (rd_L2 t261 (wrap64 (x61_1 + 1))) t266) ≥ 0 then ((impl_charging_price.f a0_0 a0_1 a0_2 l2 l3 a4 x61_1 x19_2).bind fun t270 => (if 0 ≤ x61_1 then (if x61_1 < (t261.length : Int) then (if 0 ≤ x17_2 then (if x17_2 < ((rd_L2 t261 x61_1).length : Int) then (if (wrap64 (t270 + (rd (rd_L2 t261 (wrap64 (x61_1 + 1))) t266))) = (rd (rd_L2 t261 x61_1) x17_2) then (if x16_2.length < 17592186044416 then (impl_BestCharging.l0 k2 t261 (rd (rd_L2 t261 0) a1) (x16_2 ++ [x19_2]) t266 (l2.length : Int) (wrap64 (x61_1 + 1)) a0_0 a0_1 a0_2 a0_0 a0_1 a0_2 l2 l3 a4) else (none)) else (impl_BestCharging.l1 k2 t261 (rd (rd_L2 t261 0) a1) x16_2 x17_2 x61_1 (wrap64 (x19_2 + 1)) (l2.length : Int) x61_1 a0_0 a0_1 a0_2 a0_0 a0_1 a0_2 l2 l3 a4)) else (none)) else (none)) else (none)) else (none))) else (impl_BestCharging.l1 k2 t261 (rd (rd_L2 t261 0) a1) x16_2 x17_2 x61_1 (wrap64 (x19_2 + 1)) (l2.length : Int) x61_1 a0_0 a0_1 a0_2 a0_0 a0_1 a0_2 l2 l3 a4)) else (none)) else (none)) else (none)) else (none)) = some (r1, r2, r3) := by rw [if_pos rfl] at H; exact H
                clear H
                have H := H1
                clear H1
                obtain ⟨ji50, hji50⟩ : ∃ j_ : Int, (wrap64 (x61_1 + 1)) = j_ := ⟨_, rfl⟩
                replace H : (if 0 ≤ (ji50) then (if (ji50) < (t261.length : Int) then (if 0 ≤ t266 then (if t266 < ((rd_L2 t261 (ji50)).length : Int) then (if (rd (rd_L2 t261 (ji50)) t266) ≥ 0 then ((impl_charging_price.f a0_0 a0_1 a0_2 l2 l3 a4 x61_1 x19_2).bind fun t270 => (if 0 ≤ x61_1 then (if x61_1 < (t261.length : Int) then (if 0 ≤ x17_2 then (if x17_2 < ((rd_L2 t261 x61_1).length : Int) then (if (wrap64 (t270 + (rd (rd_L2 t261 (ji50)) t266))) = (rd (rd_L2 t261 x61_1) x17_2) then (if x16_2.length < 17592186044416 then (impl_BestCharging.l0 k2 t261 (rd (rd_L2 t261 0) a1) (x16_2 ++ [x19_2]) t266 (l2.length : Int) ji50 a0_0 a0_1 a0_2 a0_0 a0_1 a0_2 l2 l3 a4) else (none)) else (impl_BestCharging.l1 k2 t261 (rd (rd_L2 t261 0) a1) x16_2 x17_2 x61_1 (wrap64 (x19_2 + 1)) (l2.length : Int) x61_1 a0_0 a0_1 a0_2 a0_0 a0_1 a0_2 l2 l3 a4)) else (none)) else (none)) else (none)) else (none))) else (impl_BestCharging.l1 k2 t261 (rd (rd_L2 t261 0) a1) x16_2 x17_2 x61_1 (wrap64 (x19_2 + 1)) (l2.length : Int) x61_1 a0_0 a0_1 a0_2 a0_0 a0_1 a0_2 l2 l3 a4)) else (none)) else (none)) else (none)) else (none)) = some (r1, r2, r3) := by first | (rw [hji50] at H; exact H) | (simp only [hji50] at H ⊢; exact H)
                (try rw [hji50] at A48)
                have hji50w : (IntKind.i64.wrap (x61_1 + 1)) = ji50 := (i64_w _).trans hji50
                by_cases c51 : 0 ≤ (ji50)
                ·rw [if_pos c51] at H
                 have c51b0 : decide (0 ≤ (ji50)) = true := decide_eq_true c51
                 clear c51
                 by_cases c52 : (ji50) < (t261.length : Int)
                 ·rw [if_pos c52] at H
                  have c52b0 : decide ((ji50) < (t261.length : Int)) = true := decide_eq_true c52
                  clear c52
                  by_cases c53 : 0 ≤ t266
                  ·rw [if_pos c53] at H
                   have c53b0 : decide (0 ≤ t266) = true := decide_eq_true c53
                   clear c53
                   by_cases c54 : t266 < ((rd_L2 t261 (ji50)).length : Int)
                   ·rw [if_pos c54] at H
                    have c54b0 : decide (t266 < ((rd_L2 t261 (ji50)).length : Int)) = true := decide_eq_true c54
                    clear c54
                    by_cases c55 : (rd (rd_L2 t261 (ji50)) t266) ≥ 0
                    ·rw [if_pos c55] at H
                     have c55b0 : decide (0 ≤ (rd (rd_L2 t261 (ji50)) t266)) = true := decide_eq_true c55
                     clear c55
                     replace H := Option.bind_eq_some_iff.mp H
                     obtain ⟨t270, A560, H⟩ := H
                     replace H : (if 0 ≤ x61_1 then (if x61_1 < (t261.length : Int) then (if 0 ≤ x17_2 then (if x17_2 < ((rd_L2 t261 x61_1).length : Int) then (if (wrap64 (t270 + (rd (rd_L2 t261 (ji50)) t266))) = (rd (rd_L2 t261 x61_1) x17_2) then (if x16_2.length < 17592186044416 then (impl_BestCharging.l0 k2 t261 (rd (rd_L2 t261 0) a1) (x16_2 ++ [x19_2]) t266 (l2.length : Int) ji50 a0_0 a0_1 a0_2 a0_0 a0_1 a0_2 l2 l3 a4) else (none)) else (impl_BestCharging.l1 k2 t261 (rd (rd_L2 t261 0) a1) x16_2 x17_2 x61_1 (wrap64 (x19_2 + 1)) (l2.length : Int) x61_1 a0_0 a0_1 a0_2 a0_0 a0_1 a0_2 l2 l3 a4)) else (none)) else (none)) else (none)) else (none)) = some (r1, r2, r3) := H
                     have A56 := Aside0.mk A560
                     clear A560
                     by_cases c57 : 0 ≤ x61_1
                     ·rw [if_pos c57] at H
                      have c57b0 : decide (0 ≤ x61_1) = true := decide_eq_true c57
                      clear c57
                      by_cases c58 : x61_1 < (t261.length : Int)
                      ·rw [if_pos c58] at H
                       have c58b0 : decide (x61_1 < (t261.length : Int)) = true := decide_eq_true c58
                       clear c58
                       by_cases c59 : 0 ≤ x17_2
                       ·rw [if_pos c59] at H
                        have c59b0 : decide (0 ≤ x17_2) = true := decide_eq_true c59
                        clear c59
                        by_cases c60 : x17_2 < ((rd_L2 t261 x61_1).length : Int)
                        ·rw [if_pos c60] at H
                         have c60b0 : decide (x17_2 < ((rd_L2 t261 x61_1).length : Int)) = true := decide_eq_true c60
                         clear c60
                         by_cases c61 : (wrap64 (t270 + (rd (rd_L2 t261 (ji50)) t266))) = (rd (rd_L2 t261 x61_1) x17_2)
                         ·rw [if_pos c61] at H
                          have c61b0 : ((wrap64 (t270 + (rd (rd_L2 t261 (ji50)) t266))) == (rd (rd_L2 t261 x61_1) x17_2)) = true := beq_iff_eq.mpr c61
                          have c61b1 : ((wrap64 (t270 + (rd (rd_L2 t261 (ji50)) t266))) != (rd (rd_L2 t261 x61_1) x17_2)) = false := bne_eq_false_iff_eq.mpr c61
                          clear c61
                          by_cases c62 : x16_2.length < 17592186044416
                          ·rw [if_pos c62] at H
                           have LMc62 := Aside0.mk c62
                           clear c62
                           obtain ⟨y275, hy275⟩ : ∃ y_ : List Int, y_ = (x16_2 ++ [x19_2]) := ⟨_, rfl⟩
                           replace H : (impl_BestCharging.l0 k2 t261 (rd (rd_L2 t261 0) a1) y275 t266 (l2.length : Int) ji50 a0_0 a0_1 a0_2 a0_0 a0_1 a0_2 l2 l3 a4) = some (r1, r2, r3) := by first | (rw [hy275]; with_reducible exact H) | (have H2_ := (Option.bind_some _ _).symm.trans H; rw [hy275]; with_reducible exact H2_) | (have H2_ := (Option.bind_some _ _).symm.trans H; with_reducible exact H2_) | with_reducible exact H | (rw [hy275]; exact H) | exact H
                           have Ny275 := Aside0.mk hy275
                           clear hy275
                           have H' := Aside0.mk H
                           clear H
                           have hnb63 := NB256_257.out
                           have hnc63 := NB257_256.out
                           have hcz64_0 : wr.cell? ⟨gb256, 0, none⟩ = some (.int .i64 a0_0) := (blk_cell BK256.out 0).trans rfl
                           have hcz64_1 : wr.cell? ⟨gb256, 1, none⟩ = some (.int .i64 a0_1) := (blk_cell BK256.out 1).trans rfl
                           have hcz64_2 : wr.cell? ⟨gb256, 2, none⟩ = some (.int .i64 a0_2) := (blk_cell BK256.out 2).trans rfl
                           have hfz64_0 := blk_frozen BK256.out 0
                           have hfz64_1 := blk_frozen BK256.out 1
                           have hfz64_2 := blk_frozen BK256.out 2
                           have hcz65_0 : wr.cell? ⟨gb257, 0, none⟩ = some (.int .i64 a0_0) := (blk_cell BK257.out 0).trans rfl
                           have hcz65_1 : wr.cell? ⟨gb257, 1, none⟩ = some (.int .i64 a0_1) := (blk_cell BK257.out 1).trans rfl
                           have hcz65_2 : wr.cell? ⟨gb257, 2, none⟩ = some (.int .i64 a0_2) := (blk_cell BK257.out 2).trans rfl
                           have hcz65_3 : wr.cell? ⟨gb257, 3, none⟩ = some (.slice A2 l2.length c2) := (blk_cell BK257.out 3).trans rfl
                           have hcz65_4 : wr.cell? ⟨gb257, 4, none⟩ = some (.slice A3 l3.length c3) := (blk_cell BK257.out 4).trans rfl
                           have hcz65_5 : wr.cell? ⟨gb257, 5, none⟩ = some (.int .i64 a4) := (blk_cell BK257.out 5).trans rfl
                           have hfz65_0 := blk_frozen BK257.out 0
                           have hfz65_1 := blk_frozen BK257.out 1
                           have hfz65_2 := blk_frozen BK257.out 2
                           have hfz65_3 := blk_frozen BK257.out 3
                           have hfz65_4 := blk_frozen BK257.out 4
                           have hfz65_5 := blk_frozen BK257.out 5
                           try go_wp2_with (first | ((with_reducible refine gate_callee (f := 39) rfl ?_); refine goesL_ (some 78) rfl rfl Try.func39 (by kernel_rfl) rfl #[.agg #[.int .i64 a0_0, .int .i64 a0_1, .int .i64 a0_2, .slice A2 l2.length c2, .slice A3 l3.length c3, .int .i64 a4], .int .i64 x61_1, .int .i64 x17_2, .int .i64 x19_2] rfl (by (try simp only [List.map_toArray, List.map_cons, List.map_nil]); first | done | rfl | (simp only [List.length_drop, List.length_take]; rfl)) ?_; (with_reducible refine (impl_charging_after.calls a0_0 a0_1 a0_2 _ _ l2 _ _ l3 a4 x61_1 x17_2 x19_2 t266 true _ ?side1 ?side2 ?side3 ?side4 A48.out).mono ?_); (case side1 => repeat (first | exact (Kd.C_below HR2.out HB.out) | (with_reducible refine Kd.C_alloc ?_ _) | (with_reducible refine Kd.C_drewN ?_ _) | (with_reducible refine Kd.C_drew ?_))); (case side2 => exact HC2.out); (case side3 => repeat (first | exact (Kd.C_below HR3.out HB.out) | (with_reducible refine Kd.C_alloc ?_ _) | (with_reducible refine Kd.C_drewN ?_ _) | (with_reducible refine Kd.C_drew ?_))); (case side4 => exact HC3.out); rintro e w66 ⟨rfl, hb⟩; refine ⟨_, rfl, ?_⟩; have n0_ := Aside0.mk (Kd.S_below (by (with_reducible repeat (first | apply Kd.S_alloc | apply Kd.S_drewN | apply Kd.S_drew)); exact HO_14.out) hb); have n1_ := Aside0.mk (Kd.R_below (by (with_reducible repeat (first | apply Kd.R_alloc | apply Kd.R_drewN | apply Kd.R_drew)); exact HO_16.out) hb); have n2_ := Aside0.mk (blk_below (g := gb256) (o := .cells #[.int .i64 a0_0, .int .i64 a0_1, .int .i64 a0_2] 26 (0, 0)) (by (with_reducible repeat (first | refine blk_drewN ?_ _ | refine blk_drew ?_ | refine blk_alloc ?_ _)); exact BK256.out) hb); have n3_ := Aside0.mk (blk_below (g := gb257) (o := .cells #[.int .i64 a0_0, .int .i64 a0_1, .int .i64 a0_2, .slice A2 l2.length c2, .slice A3 l3.length c3, .int .i64 a4] 55 (0, 0)) (by (with_reducible repeat (first | refine blk_drewN ?_ _ | refine blk_drew ?_ | refine blk_alloc ?_ _)); exact BK257.out) hb); have n4_ := Aside0.mk (below_step (by repeat (first | (with_reducible first | exact HB.out | apply below_alloc | apply pw_below_drewN | apply below_drew1 | refine below_set ?_ GE256.out | refine below_set ?_ GE257.out) | exact HB.out)) hb); clear HO_14; clear HO_16; clear BK256; clear BK257; clear HB; have HO_14 := n0_; have HO_16 := n1_; have BK256 := n2_; have BK257 := n3_; have HB := n4_; clear n0_ n1_ n2_ n3_ n4_; (try clear hb); (try clear hb2); (try clear hk); (try clear hi)))
                           have n0_ := Aside0.mk (Kd.S_drew HO_14.out)
                           have n1_ := Aside0.mk (Kd.R_drew HO_16.out)
                           have n2_ := Aside0.mk (blk_drew BK256.out)
                           have n3_ := Aside0.mk (blk_drew BK257.out)
                           have n4_ := Aside0.mk (below_drew1 HB.out)
                           clear HO_14
                           clear HO_16
                           clear BK256
                           clear BK257
                           clear HB
                           have HO_14 := n0_
                           have HO_16 := n1_
                           have BK256 := n2_
                           have BK257 := n3_
                           have HB := n4_
                           clear n0_ n1_ n2_ n3_ n4_
                           have p268 : 0 ≤ ((ji50) : Int) := of_decide_eq_true (by first | (with_reducible assumption) | assumption)
                           have q268 : (ji50) < (t261.length : Int) := of_decide_eq_true (by first | (with_reducible assumption) | assumption)
                           obtain ⟨ad268, A268_0, c268_0, e268, hx268_0, hl268_0, hi268_0⟩ := at_L2 (Kd.S_reads' HO_14.out).2.2 (ji50) p268 q268
                           obtain rfl : ad264 = ad268 := (by injection e268)
                           obtain ⟨ce268, hce268, hMe268, hcc268⟩ := Kd.S_get HO_14.out [] (ji50) p268 (by first | exact q268 | exact of_decide_eq_true (by first | (with_reducible assumption) | assumption) | (have e_ := (Kd.S_reads' HO_14.out).1; omega))
                           obtain ⟨ve268_0, rfl, ge268_0⟩ := hMe268
                           have hv268_0 := hcc268 0 _ rfl
                           rw [Nat.add_zero, show ((Kd.slice 2 (Kd.int .i64))).sz = 1 from rfl, Nat.mul_one] at hv268_0
                           replace hv268_0 := Option.some.inj (hv268_0.symm.trans hx268_0)
                           rw [hv268_0] at ge268_0
                           have HL268_0 := Aside0.mk (show Kd.R (Kd.int .i64) 2 _ _ _ _ (rd_L2 t261 (ji50)) from ge268_0)
                           clear hv268_0 ge268_0
                           clear hcc268 hce268
                           have HR268_0 := Aside0.mk hi268_0
                           have HC268_0 := Aside0.mk hl268_0
                           clear hi268_0 hl268_0
                           replace p268 := eq_true p268
                           replace q268 := eq_true q268
                           have p269 : 0 ≤ (t266 : Int) := of_decide_eq_true (by first | (with_reducible assumption) | assumption)
                           have q269 : t266 < ((rd_L2 t261 (ji50)).length : Int) := of_decide_eq_true (by first | (with_reducible assumption) | assumption)
                           obtain ⟨ad269, e269, hx269_0⟩ := Kd.at_int (by repeat (first | (with_reducible exact HR268_0.out) | (with_reducible refine Kd.C_alloc ?_ _) | (with_reducible refine Kd.C_drewN ?_ _) | (with_reducible refine Kd.C_drew ?_) | exact HR268_0.out)) t266 p269 q269
                           cases e269
                           replace p269 := eq_true p269
                           replace q269 := eq_true q269
                           have p271 : 0 ≤ ((ji50) : Int) := of_decide_eq_true (by first | (with_reducible assumption) | assumption)
                           have q271 : (ji50) < (t261.length : Int) := of_decide_eq_true (by first | (with_reducible assumption) | assumption)
                           obtain ⟨ad271, A271_0, c271_0, e271, hx271_0, hl271_0, hi271_0⟩ := at_L2 (Kd.S_reads' HO_14.out).2.2 (ji50) p271 q271
                           obtain rfl : ad264 = ad271 := (by injection e271)
                           obtain ⟨ce271, hce271, hMe271, hcc271⟩ := Kd.S_get HO_14.out [] (ji50) p271 (by first | exact q271 | exact of_decide_eq_true (by first | (with_reducible assumption) | assumption) | (have e_ := (Kd.S_reads' HO_14.out).1; omega))
                           obtain ⟨ve271_0, rfl, ge271_0⟩ := hMe271
                           have hv271_0 := hcc271 0 _ rfl
                           rw [Nat.add_zero, show ((Kd.slice 2 (Kd.int .i64))).sz = 1 from rfl, Nat.mul_one] at hv271_0
                           replace hv271_0 := Option.some.inj (hv271_0.symm.trans hx271_0)
                           rw [hv271_0] at ge271_0
                           have HL271_0 := Aside0.mk (show Kd.R (Kd.int .i64) 2 _ _ _ _ (rd_L2 t261 (ji50)) from ge271_0)
                           clear hv271_0 ge271_0
                           clear hcc271 hce271
                           have HR271_0 := Aside0.mk hi271_0
                           have HC271_0 := Aside0.mk hl271_0
                           clear hi271_0 hl271_0
                           replace p271 := eq_true p271
                           replace q271 := eq_true q271
                           have ea_ := Option.some.inj (hx268_0.symm.trans hx271_0)
                           injection ea_ with ea_ en_ ec_
                           subst ea_
                           subst ec_
                           clear en_
                           have p272 : 0 ≤ (t266 : Int) := of_decide_eq_true (by first | (with_reducible assumption) | assumption)
                           have q272 : t266 < ((rd_L2 t261 (ji50)).length : Int) := of_decide_eq_true (by first | (with_reducible assumption) | assumption)
                           obtain ⟨ad272, e272, hx272_0⟩ := Kd.at_int (by repeat (first | (with_reducible exact HR271_0.out) | (with_reducible refine Kd.C_alloc ?_ _) | (with_reducible refine Kd.C_drewN ?_ _) | (with_reducible refine Kd.C_drew ?_) | exact HR271_0.out)) t266 p272 q272
                           cases e272
                           replace p272 := eq_true p272
                           replace q272 := eq_true q272
                           have p273 : 0 ≤ (x61_1 : Int) := of_decide_eq_true (by first | (with_reducible assumption) | assumption)
                           have q273 : x61_1 < (t261.length : Int) := of_decide_eq_true (by first | (with_reducible assumption) | assumption)
                           obtain ⟨ad273, A273_0, c273_0, e273, hx273_0, hl273_0, hi273_0⟩ := at_L2 (Kd.S_reads' HO_14.out).2.2 x61_1 p273 q273
                           obtain rfl : ad264 = ad273 := (by injection e273)
                           obtain ⟨ce273, hce273, hMe273, hcc273⟩ := Kd.S_get HO_14.out [] x61_1 p273 (by first | exact q273 | exact of_decide_eq_true (by first | (with_reducible assumption) | assumption) | (have e_ := (Kd.S_reads' HO_14.out).1; omega))
                           obtain ⟨ve273_0, rfl, ge273_0⟩ := hMe273
                           have hv273_0 := hcc273 0 _ rfl
                           rw [Nat.add_zero, show ((Kd.slice 2 (Kd.int .i64))).sz = 1 from rfl, Nat.mul_one] at hv273_0
                           replace hv273_0 := Option.some.inj (hv273_0.symm.trans hx273_0)
                           rw [hv273_0] at ge273_0
                           have HL273_0 := Aside0.mk (show Kd.R (Kd.int .i64) 2 _ _ _ _ (rd_L2 t261 x61_1) from ge273_0)
                           clear hv273_0 ge273_0
                           clear hcc273 hce273
                           have HR273_0 := Aside0.mk hi273_0
                           have HC273_0 := Aside0.mk hl273_0
                           clear hi273_0 hl273_0
                           replace p273 := eq_true p273
                           replace q273 := eq_true q273
                           have p274 : 0 ≤ (x17_2 : Int) := of_decide_eq_true (by first | (with_reducible assumption) | assumption)
                           have q274 : x17_2 < ((rd_L2 t261 x61_1).length : Int) := of_decide_eq_true (by first | (with_reducible assumption) | assumption)
                           obtain ⟨ad274, e274, hx274_0⟩ := Kd.at_int (by repeat (first | (with_reducible exact HR273_0.out) | (with_reducible refine Kd.C_alloc ?_ _) | (with_reducible refine Kd.C_drewN ?_ _) | (with_reducible refine Kd.C_drew ?_) | exact HR273_0.out)) x17_2 p274 q274
                           cases e274
                           replace p274 := eq_true p274
                           replace q274 := eq_true q274
                           refine start_ (n := 35) (S := fun w' => w'.cell? ⟨gb257, 0, none⟩ = some (.int .i64 a0_0) ∧ w'.cell? ⟨gb257, 1, none⟩ = some (.int .i64 a0_1) ∧ w'.cell? ⟨gb257, 2, none⟩ = some (.int .i64 a0_2) ∧ w'.cell? ⟨gb257, 3, none⟩ = some (.slice A2 l2.length c2) ∧ w'.cell? ⟨gb257, 4, none⟩ = some (.slice A3 l3.length c3) ∧ w'.cell? ⟨gb257, 5, none⟩ = some (.int .i64 a4) ∧ w'.cell? (ad264.add ((ji50)).toNat) = some (.slice (some ad269) (rd_L2 t261 (ji50)).length c268_0) ∧ w'.cell? (ad269.add (t266).toNat) = some (.int .i64 (rd (rd_L2 t261 (ji50)) t266)) ∧ w'.cell? (ad264.add ((ji50)).toNat) = some (.slice (some ad269) (rd_L2 t261 (ji50)).length c268_0) ∧ w'.cell? (ad269.add (t266).toNat) = some (.int .i64 (rd (rd_L2 t261 (ji50)) t266)) ∧ w'.cell? (ad264.add (x61_1).toNat) = some (.slice (some ad274) (rd_L2 t261 x61_1).length c273_0) ∧ w'.cell? (ad274.add (x17_2).toNat) = some (.int .i64 (rd (rd_L2 t261 x61_1) x17_2))) (ds := []) (tf 0 35) (by kernel_rfl) rfl rfl ⟨(blk_cell BK257.out 0).trans rfl, (blk_cell BK257.out 1).trans rfl, (blk_cell BK257.out 2).trans rfl, (blk_cell BK257.out 3).trans rfl, (blk_cell BK257.out 4).trans rfl, (blk_cell BK257.out 5).trans rfl, hx268_0, hx269_0, hx271_0, hx272_0, hx273_0, hx274_0⟩ (fun hHeld => ?_); refine with_tabW impl_BestCharging.tab19 impl_BestCharging.bits19 (fun HT_ HW_ => ?_)
                           generalize w66.drew = w67 at HO_14 HO_16 BK256 BK257 HB HL268_0 HL271_0 HL273_0 HR268_0 HR271_0 HR273_0 hx268_0 hx269_0 hx271_0 hx272_0 hx273_0 hx274_0 hHeld ⊢
                           refine px 0 (some 81) (tf 1 35) HT_ ?_
                           refine px 1 (some 82) (tf 2 35) HT_ ?_
                           refine px 2 (some 83) (tf 3 35) HT_ ?_
                           refine px 3 (some 84) (tf 4 35) HT_ ?_
                           refine px 4 (some 85) (tf 5 35) HT_ ?_
                           refine px 5 (some 86) (tf 6 35) HT_ ?_
                           refine px 7 (some 88) (tb 35 191) HT_ ?_
                           refine tx (v := ?_) 6 (some 87) (tf 8 35) HT_ HW_ hHeld ?_ ?_
                           rotate_left; (· rintro w' ⟨s0, s1, s2, s3, s4, s5, s6, s7, s8, s9, s10, s11⟩; go_simp; with_reducible rfl)
                           refine px 8 (some 89) (tf 9 35) HT_ ?_
                           refine tx (v := ?_) 9 (some 90) (tf 10 35) HT_ HW_ hHeld ?_ ?_
                           rotate_left; (· rintro w' ⟨s0, s1, s2, s3, s4, s5, s6, s7, s8, s9, s10, s11⟩; go_simp; with_reducible rfl)
                           refine px 10 (some 91) (tf 11 35) HT_ ?_
                           refine px 11 (some 92) (tf 12 35) HT_ ?_
                           refine px 12 (some 93) (tf 13 35) HT_ ?_
                           refine px 14 (some 95) (tb 35 24575) HT_ ?_
                           refine px 15 (some 96) (tb 35 57343) HT_ ?_
                           refine px 17 (some 98) (tb 35 188415) HT_ ?_
                           refine px 18 (some 99) (tb 35 450559) HT_ ?_
                           refine px 19 (some 100) (tb 35 974847) HT_ ?_
                           refine px 20 (some 101) (tb 35 2023423) HT_ ?_
                           refine px 22 (some 103) (tb 35 6217727) HT_ ?_
                           refine px 26 (some 107) (tb 35 73326591) HT_ ?_
                           refine px 27 (some 108) (tb 35 207544319) HT_ ?_
                           refine px 28 (some 109) (tb 35 475979775) HT_ ?_
                           refine px 30 (some 111) (tb 35 1549721599) HT_ ?_
                           refine tx (v := ?_) 13 (some 94) (tb 35 1549729791) HT_ HW_ hHeld ?_ ?_
                           rotate_left; (· rintro w' ⟨s0, s1, s2, s3, s4, s5, s6, s7, s8, s9, s10, s11⟩; go_simp; with_reducible rfl)
                           refine tx (v := ?_) 21 (some 102) (tb 35 1551826943) HT_ HW_ hHeld ?_ ?_
                           rotate_left; (· rintro w' ⟨s0, s1, s2, s3, s4, s5, s6, s7, s8, s9, s10, s11⟩; go_simp; with_reducible rfl)
                           refine px 23 (some 104) (tb 35 1560215551) HT_ ?_
                           refine tx (v := ?_) 24 (some 105) (tb 35 1576992767) HT_ HW_ hHeld ?_ ?_
                           rotate_left; (· rintro w' ⟨s0, s1, s2, s3, s4, s5, s6, s7, s8, s9, s10, s11⟩; go_simp; with_reducible rfl)
                           refine tx (v := ?_) 29 (some 110) (tb 35 2113863679) HT_ HW_ hHeld ?_ ?_
                           rotate_left; (· rintro w' ⟨s0, s1, s2, s3, s4, s5, s6, s7, s8, s9, s10, s11⟩; go_simp; with_reducible rfl)
                           refine px 31 (some 112) (tb 35 4261347327) HT_ ?_
                           refine tx (v := ?_) 32 (some 113) (tb 35 8556314623) HT_ HW_ hHeld ?_ ?_
                           rotate_left; (· rintro w' ⟨s0, s1, s2, s3, s4, s5, s6, s7, s8, s9, s10, s11⟩; go_simp; with_reducible rfl)
                           refine one_ (i := 16) (N := some 97) (tb 35 8556380159) rfl rfl (one_of HT_.out (by kernel_rfl)) (by decide) (fun K hK => ?_)
                           refine goes_ Try.func55 (by kernel_rfl) rfl #[.agg #[.int .i64 a0_0, .int .i64 a0_1, .int .i64 a0_2, .slice A2 l2.length c2, .slice A3 l3.length c3, .int .i64 a4], .int .i64 x61_1, .int .i64 x19_2] (by rfl) rfl rfl (by (try simp only [List.map_toArray, List.map_cons, List.map_nil]); first | done | rfl | (simp only [List.length_drop, List.length_take]; rfl)) ?_
                           with_reducible refine (impl_charging_price.calls a0_0 a0_1 a0_2 _ _ l2 _ _ l3 a4 x61_1 x19_2 t270 _ ?side1 ?side2 ?side3 ?side4 A56.out).mono ?_
                           (case side1 => repeat (first | exact (Kd.C_below HR2.out HB.out) | (with_reducible refine Kd.C_alloc ?_ _) | (with_reducible refine Kd.C_drewN ?_ _) | (with_reducible refine Kd.C_drew ?_)))
                           (case side2 => exact HC2.out)
                           (case side3 => repeat (first | exact (Kd.C_below HR3.out HB.out) | (with_reducible refine Kd.C_alloc ?_ _) | (with_reducible refine Kd.C_drewN ?_ _) | (with_reducible refine Kd.C_drew ?_)))
                           (case side4 => exact HC3.out)
                           rintro e w68 ⟨rfl, hb⟩
                           have HS6_ := (hb.cell (World.block_lt_of_cell? _ _ (hHeld.2.2.2.2.2.2.1))).trans (hHeld.2.2.2.2.2.2.1)
                           have HS7_ := (hb.cell (World.block_lt_of_cell? _ _ (hHeld.2.2.2.2.2.2.2.1))).trans (hHeld.2.2.2.2.2.2.2.1)
                           have HS8_ := (hb.cell (World.block_lt_of_cell? _ _ (hHeld.2.2.2.2.2.2.2.2.1))).trans (hHeld.2.2.2.2.2.2.2.2.1)
                           have HS9_ := (hb.cell (World.block_lt_of_cell? _ _ (hHeld.2.2.2.2.2.2.2.2.2.1))).trans (hHeld.2.2.2.2.2.2.2.2.2.1)
                           have HS10_ := (hb.cell (World.block_lt_of_cell? _ _ (hHeld.2.2.2.2.2.2.2.2.2.2.1))).trans (hHeld.2.2.2.2.2.2.2.2.2.2.1)
                           have HS11_ := (hb.cell (World.block_lt_of_cell? _ _ (hHeld.2.2.2.2.2.2.2.2.2.2.2))).trans (hHeld.2.2.2.2.2.2.2.2.2.2.2)
                           refine ⟨_, rfl, ?_⟩
                           have n0_ := Aside0.mk (Kd.S_below (by (with_reducible repeat (first | apply Kd.S_alloc | apply Kd.S_drewN | apply Kd.S_drew)); exact HO_14.out) hb)
                           have n1_ := Aside0.mk (Kd.R_below (by (with_reducible repeat (first | apply Kd.R_alloc | apply Kd.R_drewN | apply Kd.R_drew)); exact HO_16.out) hb)
                           have n2_ := Aside0.mk (Kd.R_below (by (with_reducible repeat (first | apply Kd.R_alloc | apply Kd.R_drewN | apply Kd.R_drew)); exact HL268_0.out) hb)
                           have n3_ := Aside0.mk (Kd.R_below (by (with_reducible repeat (first | apply Kd.R_alloc | apply Kd.R_drewN | apply Kd.R_drew)); exact HL271_0.out) hb)
                           have n4_ := Aside0.mk (Kd.R_below (by (with_reducible repeat (first | apply Kd.R_alloc | apply Kd.R_drewN | apply Kd.R_drew)); exact HL273_0.out) hb)
                           have n5_ := Aside0.mk (blk_below (g := gb256) (o := .cells #[.int .i64 a0_0, .int .i64 a0_1, .int .i64 a0_2] 26 (0, 0)) (by (with_reducible repeat (first | refine blk_drewN ?_ _ | refine blk_drew ?_ | refine blk_alloc ?_ _)); exact BK256.out) hb)
                           have n6_ := Aside0.mk (blk_below (g := gb257) (o := .cells #[.int .i64 a0_0, .int .i64 a0_1, .int .i64 a0_2, .slice A2 l2.length c2, .slice A3 l3.length c3, .int .i64 a4] 55 (0, 0)) (by (with_reducible repeat (first | refine blk_drewN ?_ _ | refine blk_drew ?_ | refine blk_alloc ?_ _)); exact BK257.out) hb)
                           have n7_ := Aside0.mk (Kd.C_below (by repeat (first | (with_reducible exact HR268_0.out) | (with_reducible refine Kd.C_alloc ?_ _) | (with_reducible refine Kd.C_drewN ?_ _) | (with_reducible refine Kd.C_drew ?_) | exact HR268_0.out)) hb)
                           have n8_ := Aside0.mk (Kd.C_below (by repeat (first | (with_reducible exact HR271_0.out) | (with_reducible refine Kd.C_alloc ?_ _) | (with_reducible refine Kd.C_drewN ?_ _) | (with_reducible refine Kd.C_drew ?_) | exact HR271_0.out)) hb)
                           have n9_ := Aside0.mk (Kd.C_below (by repeat (first | (with_reducible exact HR273_0.out) | (with_reducible refine Kd.C_alloc ?_ _) | (with_reducible refine Kd.C_drewN ?_ _) | (with_reducible refine Kd.C_drew ?_) | exact HR273_0.out)) hb)
                           have n10_ := Aside0.mk (below_step (by repeat (first | (with_reducible first | exact HB.out | apply below_alloc | apply pw_below_drewN | apply below_drew1 | refine below_set ?_ GE256.out | refine below_set ?_ GE257.out) | exact HB.out)) hb)
                           clear HO_14
                           clear HO_16
                           clear HL268_0
                           clear HL271_0
                           clear HL273_0
                           clear BK256
                           clear BK257
                           clear HR268_0
                           clear HR271_0
                           clear HR273_0
                           clear HB
                           have HO_14 := n0_
                           have HO_16 := n1_
                           have HL268_0 := n2_
                           have HL271_0 := n3_
                           have HL273_0 := n4_
                           have BK256 := n5_
                           have BK257 := n6_
                           have HR268_0 := n7_
                           have HR271_0 := n8_
                           have HR273_0 := n9_
                           have HB := n10_
                           clear n0_ n1_ n2_ n3_ n4_ n5_ n6_ n7_ n8_ n9_ n10_
                           (try clear hb)
                           (try clear hb2)
                           (try clear hk)
                           (try clear hi)
                           refine hK.out _ _ ⟨(blk_cell BK257.out 0).trans rfl, (blk_cell BK257.out 1).trans rfl, (blk_cell BK257.out 2).trans rfl, (blk_cell BK257.out 3).trans rfl, (blk_cell BK257.out 4).trans rfl, (blk_cell BK257.out 5).trans rfl, HS6_, HS7_, HS8_, HS9_, HS10_, HS11_⟩ (fun hHeld => ?_)
                           clear hK K
                           refine norm_ (a' := ?_) ?_ ?_
                           rotate_left
                           ·show Act.put _ (some 97) _ = _
                            simp only [Act.put, List.setIfInBounds_toArray, List.set_cons_zero, List.set_cons_succ, i64_w, i32_w]
                            rfl
                           refine px 25 (some 106) (tf 33 35) HT_ ?_
                           refine px 33 (some 114) (tf 34 35) HT_ ?_
                           refine px 34 (some 115) (tf 35 35) HT_ ?_
                           refine done_ (done_of HT_.out (by kernel_rfl)) ?_
                           try go_wp2_with (first | ((with_reducible refine gate_builtin (b := .append) (xs := #[.tmp 116, .tmp 118]) rfl ?_); (try (refine gate_guard (by rfl) ?_; dsimp only)); at_builtin; refine Kd.R_append (Kd.int .i64) (w0 := w) w.heap.size rfl (.tmp 116) (.tmp 118) 24 2 (.int .i64 0) 8 rfl Try.underlying24 info2 rfl (by decide) (by omega) u16 x16_2 x19_2 [.int .i64 x19_2] (fun _ => True) (fun _ => False) rfl rfl ?aP (fun _ hk => hk.elim) ?aF ?aO ?aB ?aS ?aL ?_; (case aP => exact rfl); (case aB => exact (by repeat (first | (with_reducible first | exact HB.out | apply below_alloc | apply pw_below_drewN | apply below_drew1 | refine below_set ?_ GE256.out | refine below_set ?_ GE257.out) | exact HB.out))); (case aF => exact (fun _ _ => trivial)); (case aO => exact (by (with_reducible repeat (first | apply Kd.R_alloc | apply Kd.R_drewN | apply Kd.R_drew)); exact HO_16.out)); (case aS => exact (below_size (by repeat (first | (with_reducible first | exact HB.out | apply below_alloc | apply pw_below_drewN | apply below_drew1 | refine below_set ?_ GE256.out | refine below_set ?_ GE257.out) | exact HB.out)))); (case aL => have := LMc62.out; omega); intro v276 w69 ho hb hg hat; rw [← Ny275.out] at ho; have n0_ := Aside0.mk (Kd.S_after (ok := (fun _ => True)) (by (with_reducible repeat (first | apply Kd.S_alloc | apply Kd.S_drewN | apply Kd.S_drew)); exact Kd.S_mono HO_14.out (fun _ hk => ⟨trivial, hk⟩)) hg hat); have n1_ := Aside0.mk (blk_grown (g := gb256) (o := .cells #[.int .i64 a0_0, .int .i64 a0_1, .int .i64 a0_2] 26 (0, 0)) (by (with_reducible repeat (first | refine blk_drewN ?_ _ | refine blk_drew ?_ | refine blk_alloc ?_ _)); exact BK256.out) hg (Kd.R_ne HO_16.out BK256.out (by decide))); have n2_ := Aside0.mk (blk_grown (g := gb257) (o := .cells #[.int .i64 a0_0, .int .i64 a0_1, .int .i64 a0_2, .slice A2 l2.length c2, .slice A3 l3.length c3, .int .i64 a4] 55 (0, 0)) (by (with_reducible repeat (first | refine blk_drewN ?_ _ | refine blk_drew ?_ | refine blk_alloc ?_ _)); exact BK257.out) hg (Kd.R_ne HO_16.out BK257.out (by decide))); have n3_ := Aside0.mk (Kd.R_after (ok := (fun k_ => some k_ ≠ (.slice (some ad264) t261.length co43 : Value).ownBlock)) (by (with_reducible repeat (first | apply Kd.R_alloc | apply Kd.R_drewN | apply Kd.R_drew)); exact Kd.R_mono HL268_0.out (fun _ hk => ⟨hk.2, hk.1⟩)) hg hat); have n4_ := Aside0.mk (Kd.R_after (ok := (fun k_ => some k_ ≠ (.slice (some ad264) t261.length co43 : Value).ownBlock)) (by (with_reducible repeat (first | apply Kd.R_alloc | apply Kd.R_drewN | apply Kd.R_drew)); exact Kd.R_mono HL271_0.out (fun _ hk => ⟨hk.2, hk.1⟩)) hg hat); have n5_ := Aside0.mk (Kd.R_after (ok := (fun k_ => some k_ ≠ (.slice (some ad264) t261.length co43 : Value).ownBlock)) (by (with_reducible repeat (first | apply Kd.R_alloc | apply Kd.R_drewN | apply Kd.R_drew)); exact Kd.R_mono HL273_0.out (fun _ hk => ⟨hk.2, hk.1⟩)) hg hat); have n6_ := Aside0.mk (hb); have n7_ := Aside0.mk (ho); clear HO_14; clear BK256; clear BK257; clear HL268_0; clear HL271_0; clear HL273_0; clear HB; clear HO_16; have HO_14 := n0_; have BK256 := n1_; have BK257 := n2_; have HL268_0 := n3_; have HL271_0 := n4_; have HL273_0 := n5_; have HB := n6_; have HO277 := n7_; clear n0_ n1_ n2_ n3_ n4_ n5_ n6_ n7_; clear ho hb hg hat))
                           go_roundg k2
                           case measure => have := HK1.out; have := HK2.out; omega
                           case rel => exact ⟨(y275), (t266), (ji50), (by first | rfl | (simp; done) | (simp [*]; done)), (by first | rfl | (simp; done) | (simp only [← hji50] <;> (first | rfl | simp)) | (simp [*]; done)), H', ⟨by have := HK1.out; have := HK2.out; omega⟩, ⟨by (with_reducible repeat (first | apply Kd.S_alloc | apply Kd.S_drewN | apply Kd.S_drew)); exact Kd.S_mono HO_14.out (fun _ hk => hk.2)⟩, ⟨by (with_reducible repeat (first | apply Kd.R_alloc | apply Kd.R_drewN | apply Kd.R_drew)); exact HO277.out⟩, ⟨by (with_reducible repeat (first | refine blk_drewN ?_ _ | refine blk_drew ?_ | refine blk_alloc ?_ _)); exact BK256.out⟩, ⟨by (with_reducible repeat (first | refine blk_drewN ?_ _ | refine blk_drew ?_ | refine blk_alloc ?_ _)); exact BK257.out⟩, ⟨by repeat (first | (with_reducible first | exact HB.out | apply below_alloc | apply pw_below_drewN | apply below_drew1 | refine below_set ?_ GE256.out | refine below_set ?_ GE257.out) | exact HB.out)⟩⟩
                          ·rw [if_neg c62] at H
                           exact absurd H (by simp)
                         ·rw [if_neg c61] at H
                          have c61b0 : ((wrap64 (t270 + (rd (rd_L2 t261 (ji50)) t266))) == (rd (rd_L2 t261 x61_1) x17_2)) = false := beq_eq_false_iff_ne.mpr c61
                          have c61b1 : ((wrap64 (t270 + (rd (rd_L2 t261 (ji50)) t266))) != (rd (rd_L2 t261 x61_1) x17_2)) = true := bne_iff_ne.mpr c61
                          have H' := Aside0.mk H
                          clear H
                          have hnb70 := NB256_257.out
                          have hnc70 := NB257_256.out
                          have hcz71_0 : wr.cell? ⟨gb256, 0, none⟩ = some (.int .i64 a0_0) := (blk_cell BK256.out 0).trans rfl
                          have hcz71_1 : wr.cell? ⟨gb256, 1, none⟩ = some (.int .i64 a0_1) := (blk_cell BK256.out 1).trans rfl
                          have hcz71_2 : wr.cell? ⟨gb256, 2, none⟩ = some (.int .i64 a0_2) := (blk_cell BK256.out 2).trans rfl
                          have hfz71_0 := blk_frozen BK256.out 0
                          have hfz71_1 := blk_frozen BK256.out 1
                          have hfz71_2 := blk_frozen BK256.out 2
                          have hcz72_0 : wr.cell? ⟨gb257, 0, none⟩ = some (.int .i64 a0_0) := (blk_cell BK257.out 0).trans rfl
                          have hcz72_1 : wr.cell? ⟨gb257, 1, none⟩ = some (.int .i64 a0_1) := (blk_cell BK257.out 1).trans rfl
                          have hcz72_2 : wr.cell? ⟨gb257, 2, none⟩ = some (.int .i64 a0_2) := (blk_cell BK257.out 2).trans rfl
                          have hcz72_3 : wr.cell? ⟨gb257, 3, none⟩ = some (.slice A2 l2.length c2) := (blk_cell BK257.out 3).trans rfl
                          have hcz72_4 : wr.cell? ⟨gb257, 4, none⟩ = some (.slice A3 l3.length c3) := (blk_cell BK257.out 4).trans rfl
                          have hcz72_5 : wr.cell? ⟨gb257, 5, none⟩ = some (.int .i64 a4) := (blk_cell BK257.out 5).trans rfl
                          have hfz72_0 := blk_frozen BK257.out 0
                          have hfz72_1 := blk_frozen BK257.out 1
                          have hfz72_2 := blk_frozen BK257.out 2
                          have hfz72_3 := blk_frozen BK257.out 3
                          have hfz72_4 := blk_frozen BK257.out 4
                          have hfz72_5 := blk_frozen BK257.out 5
                          try go_wp2_with (first | ((with_reducible refine gate_callee (f := 39) rfl ?_); refine goesL_ (some 78) rfl rfl Try.func39 (by kernel_rfl) rfl #[.agg #[.int .i64 a0_0, .int .i64 a0_1, .int .i64 a0_2, .slice A2 l2.length c2, .slice A3 l3.length c3, .int .i64 a4], .int .i64 x61_1, .int .i64 x17_2, .int .i64 x19_2] rfl (by (try simp only [List.map_toArray, List.map_cons, List.map_nil]); first | done | rfl | (simp only [List.length_drop, List.length_take]; rfl)) ?_; (with_reducible refine (impl_charging_after.calls a0_0 a0_1 a0_2 _ _ l2 _ _ l3 a4 x61_1 x17_2 x19_2 t266 true _ ?side1 ?side2 ?side3 ?side4 A48.out).mono ?_); (case side1 => repeat (first | exact (Kd.C_below HR2.out HB.out) | (with_reducible refine Kd.C_alloc ?_ _) | (with_reducible refine Kd.C_drewN ?_ _) | (with_reducible refine Kd.C_drew ?_))); (case side2 => exact HC2.out); (case side3 => repeat (first | exact (Kd.C_below HR3.out HB.out) | (with_reducible refine Kd.C_alloc ?_ _) | (with_reducible refine Kd.C_drewN ?_ _) | (with_reducible refine Kd.C_drew ?_))); (case side4 => exact HC3.out); rintro e w73 ⟨rfl, hb⟩; refine ⟨_, rfl, ?_⟩; have n0_ := Aside0.mk (Kd.S_below (by (with_reducible repeat (first | apply Kd.S_alloc | apply Kd.S_drewN | apply Kd.S_drew)); exact HO_14.out) hb); have n1_ := Aside0.mk (Kd.R_below (by (with_reducible repeat (first | apply Kd.R_alloc | apply Kd.R_drewN | apply Kd.R_drew)); exact HO_16.out) hb); have n2_ := Aside0.mk (blk_below (g := gb256) (o := .cells #[.int .i64 a0_0, .int .i64 a0_1, .int .i64 a0_2] 26 (0, 0)) (by (with_reducible repeat (first | refine blk_drewN ?_ _ | refine blk_drew ?_ | refine blk_alloc ?_ _)); exact BK256.out) hb); have n3_ := Aside0.mk (blk_below (g := gb257) (o := .cells #[.int .i64 a0_0, .int .i64 a0_1, .int .i64 a0_2, .slice A2 l2.length c2, .slice A3 l3.length c3, .int .i64 a4] 55 (0, 0)) (by (with_reducible repeat (first | refine blk_drewN ?_ _ | refine blk_drew ?_ | refine blk_alloc ?_ _)); exact BK257.out) hb); have n4_ := Aside0.mk (below_step (by repeat (first | (with_reducible first | exact HB.out | apply below_alloc | apply pw_below_drewN | apply below_drew1 | refine below_set ?_ GE256.out | refine below_set ?_ GE257.out) | exact HB.out)) hb); clear HO_14; clear HO_16; clear BK256; clear BK257; clear HB; have HO_14 := n0_; have HO_16 := n1_; have BK256 := n2_; have BK257 := n3_; have HB := n4_; clear n0_ n1_ n2_ n3_ n4_; (try clear hb); (try clear hb2); (try clear hk); (try clear hi)))
                          have n0_ := Aside0.mk (Kd.S_drew HO_14.out)
                          have n1_ := Aside0.mk (Kd.R_drew HO_16.out)
                          have n2_ := Aside0.mk (blk_drew BK256.out)
                          have n3_ := Aside0.mk (blk_drew BK257.out)
                          have n4_ := Aside0.mk (below_drew1 HB.out)
                          clear HO_14
                          clear HO_16
                          clear BK256
                          clear BK257
                          clear HB
                          have HO_14 := n0_
                          have HO_16 := n1_
                          have BK256 := n2_
                          have BK257 := n3_
                          have HB := n4_
                          clear n0_ n1_ n2_ n3_ n4_
                          have p268 : 0 ≤ ((ji50) : Int) := of_decide_eq_true (by first | (with_reducible assumption) | assumption)
                          have q268 : (ji50) < (t261.length : Int) := of_decide_eq_true (by first | (with_reducible assumption) | assumption)
                          obtain ⟨ad268, A268_0, c268_0, e268, hx268_0, hl268_0, hi268_0⟩ := at_L2 (Kd.S_reads' HO_14.out).2.2 (ji50) p268 q268
                          obtain rfl : ad264 = ad268 := (by injection e268)
                          obtain ⟨ce268, hce268, hMe268, hcc268⟩ := Kd.S_get HO_14.out [] (ji50) p268 (by first | exact q268 | exact of_decide_eq_true (by first | (with_reducible assumption) | assumption) | (have e_ := (Kd.S_reads' HO_14.out).1; omega))
                          obtain ⟨ve268_0, rfl, ge268_0⟩ := hMe268
                          have hv268_0 := hcc268 0 _ rfl
                          rw [Nat.add_zero, show ((Kd.slice 2 (Kd.int .i64))).sz = 1 from rfl, Nat.mul_one] at hv268_0
                          replace hv268_0 := Option.some.inj (hv268_0.symm.trans hx268_0)
                          rw [hv268_0] at ge268_0
                          have HL268_0 := Aside0.mk (show Kd.R (Kd.int .i64) 2 _ _ _ _ (rd_L2 t261 (ji50)) from ge268_0)
                          clear hv268_0 ge268_0
                          clear hcc268 hce268
                          have HR268_0 := Aside0.mk hi268_0
                          have HC268_0 := Aside0.mk hl268_0
                          clear hi268_0 hl268_0
                          replace p268 := eq_true p268
                          replace q268 := eq_true q268
                          have p269 : 0 ≤ (t266 : Int) := of_decide_eq_true (by first | (with_reducible assumption) | assumption)
                          have q269 : t266 < ((rd_L2 t261 (ji50)).length : Int) := of_decide_eq_true (by first | (with_reducible assumption) | assumption)
                          obtain ⟨ad269, e269, hx269_0⟩ := Kd.at_int (by repeat (first | (with_reducible exact HR268_0.out) | (with_reducible refine Kd.C_alloc ?_ _) | (with_reducible refine Kd.C_drewN ?_ _) | (with_reducible refine Kd.C_drew ?_) | exact HR268_0.out)) t266 p269 q269
                          cases e269
                          replace p269 := eq_true p269
                          replace q269 := eq_true q269
                          have p271 : 0 ≤ ((ji50) : Int) := of_decide_eq_true (by first | (with_reducible assumption) | assumption)
                          have q271 : (ji50) < (t261.length : Int) := of_decide_eq_true (by first | (with_reducible assumption) | assumption)
                          obtain ⟨ad271, A271_0, c271_0, e271, hx271_0, hl271_0, hi271_0⟩ := at_L2 (Kd.S_reads' HO_14.out).2.2 (ji50) p271 q271
                          obtain rfl : ad264 = ad271 := (by injection e271)
                          obtain ⟨ce271, hce271, hMe271, hcc271⟩ := Kd.S_get HO_14.out [] (ji50) p271 (by first | exact q271 | exact of_decide_eq_true (by first | (with_reducible assumption) | assumption) | (have e_ := (Kd.S_reads' HO_14.out).1; omega))
                          obtain ⟨ve271_0, rfl, ge271_0⟩ := hMe271
                          have hv271_0 := hcc271 0 _ rfl
                          rw [Nat.add_zero, show ((Kd.slice 2 (Kd.int .i64))).sz = 1 from rfl, Nat.mul_one] at hv271_0
                          replace hv271_0 := Option.some.inj (hv271_0.symm.trans hx271_0)
                          rw [hv271_0] at ge271_0
                          have HL271_0 := Aside0.mk (show Kd.R (Kd.int .i64) 2 _ _ _ _ (rd_L2 t261 (ji50)) from ge271_0)
                          clear hv271_0 ge271_0
                          clear hcc271 hce271
                          have HR271_0 := Aside0.mk hi271_0
                          have HC271_0 := Aside0.mk hl271_0
                          clear hi271_0 hl271_0
                          replace p271 := eq_true p271
                          replace q271 := eq_true q271
                          have ea_ := Option.some.inj (hx268_0.symm.trans hx271_0)
                          injection ea_ with ea_ en_ ec_
                          subst ea_
                          subst ec_
                          clear en_
                          have p272 : 0 ≤ (t266 : Int) := of_decide_eq_true (by first | (with_reducible assumption) | assumption)
                          have q272 : t266 < ((rd_L2 t261 (ji50)).length : Int) := of_decide_eq_true (by first | (with_reducible assumption) | assumption)
                          obtain ⟨ad272, e272, hx272_0⟩ := Kd.at_int (by repeat (first | (with_reducible exact HR271_0.out) | (with_reducible refine Kd.C_alloc ?_ _) | (with_reducible refine Kd.C_drewN ?_ _) | (with_reducible refine Kd.C_drew ?_) | exact HR271_0.out)) t266 p272 q272
                          cases e272
                          replace p272 := eq_true p272
                          replace q272 := eq_true q272
                          have p273 : 0 ≤ (x61_1 : Int) := of_decide_eq_true (by first | (with_reducible assumption) | assumption)
                          have q273 : x61_1 < (t261.length : Int) := of_decide_eq_true (by first | (with_reducible assumption) | assumption)
                          obtain ⟨ad273, A273_0, c273_0, e273, hx273_0, hl273_0, hi273_0⟩ := at_L2 (Kd.S_reads' HO_14.out).2.2 x61_1 p273 q273
                          obtain rfl : ad264 = ad273 := (by injection e273)
                          obtain ⟨ce273, hce273, hMe273, hcc273⟩ := Kd.S_get HO_14.out [] x61_1 p273 (by first | exact q273 | exact of_decide_eq_true (by first | (with_reducible assumption) | assumption) | (have e_ := (Kd.S_reads' HO_14.out).1; omega))
                          obtain ⟨ve273_0, rfl, ge273_0⟩ := hMe273
                          have hv273_0 := hcc273 0 _ rfl
                          rw [Nat.add_zero, show ((Kd.slice 2 (Kd.int .i64))).sz = 1 from rfl, Nat.mul_one] at hv273_0
                          replace hv273_0 := Option.some.inj (hv273_0.symm.trans hx273_0)
                          rw [hv273_0] at ge273_0
                          have HL273_0 := Aside0.mk (show Kd.R (Kd.int .i64) 2 _ _ _ _ (rd_L2 t261 x61_1) from ge273_0)
                          clear hv273_0 ge273_0
                          clear hcc273 hce273
                          have HR273_0 := Aside0.mk hi273_0
                          have HC273_0 := Aside0.mk hl273_0
                          clear hi273_0 hl273_0
                          replace p273 := eq_true p273
                          replace q273 := eq_true q273
                          have p274 : 0 ≤ (x17_2 : Int) := of_decide_eq_true (by first | (with_reducible assumption) | assumption)
                          have q274 : x17_2 < ((rd_L2 t261 x61_1).length : Int) := of_decide_eq_true (by first | (with_reducible assumption) | assumption)
                          obtain ⟨ad274, e274, hx274_0⟩ := Kd.at_int (by repeat (first | (with_reducible exact HR273_0.out) | (with_reducible refine Kd.C_alloc ?_ _) | (with_reducible refine Kd.C_drewN ?_ _) | (with_reducible refine Kd.C_drew ?_) | exact HR273_0.out)) x17_2 p274 q274
                          cases e274
                          replace p274 := eq_true p274
                          replace q274 := eq_true q274
                          refine start_ (n := 35) (S := fun w' => w'.cell? ⟨gb257, 0, none⟩ = some (.int .i64 a0_0) ∧ w'.cell? ⟨gb257, 1, none⟩ = some (.int .i64 a0_1) ∧ w'.cell? ⟨gb257, 2, none⟩ = some (.int .i64 a0_2) ∧ w'.cell? ⟨gb257, 3, none⟩ = some (.slice A2 l2.length c2) ∧ w'.cell? ⟨gb257, 4, none⟩ = some (.slice A3 l3.length c3) ∧ w'.cell? ⟨gb257, 5, none⟩ = some (.int .i64 a4) ∧ w'.cell? (ad264.add ((ji50)).toNat) = some (.slice (some ad269) (rd_L2 t261 (ji50)).length c268_0) ∧ w'.cell? (ad269.add (t266).toNat) = some (.int .i64 (rd (rd_L2 t261 (ji50)) t266)) ∧ w'.cell? (ad264.add ((ji50)).toNat) = some (.slice (some ad269) (rd_L2 t261 (ji50)).length c268_0) ∧ w'.cell? (ad269.add (t266).toNat) = some (.int .i64 (rd (rd_L2 t261 (ji50)) t266)) ∧ w'.cell? (ad264.add (x61_1).toNat) = some (.slice (some ad274) (rd_L2 t261 x61_1).length c273_0) ∧ w'.cell? (ad274.add (x17_2).toNat) = some (.int .i64 (rd (rd_L2 t261 x61_1) x17_2))) (ds := []) (tf 0 35) (by kernel_rfl) rfl rfl ⟨(blk_cell BK257.out 0).trans rfl, (blk_cell BK257.out 1).trans rfl, (blk_cell BK257.out 2).trans rfl, (blk_cell BK257.out 3).trans rfl, (blk_cell BK257.out 4).trans rfl, (blk_cell BK257.out 5).trans rfl, hx268_0, hx269_0, hx271_0, hx272_0, hx273_0, hx274_0⟩ (fun hHeld => ?_); refine with_tabW impl_BestCharging.tab19 impl_BestCharging.bits19 (fun HT_ HW_ => ?_)
                          generalize w73.drew = w74 at HO_14 HO_16 BK256 BK257 HB HL268_0 HL271_0 HL273_0 HR268_0 HR271_0 HR273_0 hx268_0 hx269_0 hx271_0 hx272_0 hx273_0 hx274_0 hHeld ⊢
                          refine px 0 (some 81) (tf 1 35) HT_ ?_
                          refine px 1 (some 82) (tf 2 35) HT_ ?_
                          refine px 2 (some 83) (tf 3 35) HT_ ?_
                          refine px 3 (some 84) (tf 4 35) HT_ ?_
                          refine px 4 (some 85) (tf 5 35) HT_ ?_
                          refine px 5 (some 86) (tf 6 35) HT_ ?_
                          refine px 7 (some 88) (tb 35 191) HT_ ?_
                          refine tx (v := ?_) 6 (some 87) (tf 8 35) HT_ HW_ hHeld ?_ ?_
                          rotate_left; (· rintro w' ⟨s0, s1, s2, s3, s4, s5, s6, s7, s8, s9, s10, s11⟩; go_simp; with_reducible rfl)
                          refine px 8 (some 89) (tf 9 35) HT_ ?_
                          refine tx (v := ?_) 9 (some 90) (tf 10 35) HT_ HW_ hHeld ?_ ?_
                          rotate_left; (· rintro w' ⟨s0, s1, s2, s3, s4, s5, s6, s7, s8, s9, s10, s11⟩; go_simp; with_reducible rfl)
                          refine px 10 (some 91) (tf 11 35) HT_ ?_
                          refine px 11 (some 92) (tf 12 35) HT_ ?_
                          refine px 12 (some 93) (tf 13 35) HT_ ?_
                          refine px 14 (some 95) (tb 35 24575) HT_ ?_
                          refine px 15 (some 96) (tb 35 57343) HT_ ?_
                          refine px 17 (some 98) (tb 35 188415) HT_ ?_
                          refine px 18 (some 99) (tb 35 450559) HT_ ?_
                          refine px 19 (some 100) (tb 35 974847) HT_ ?_
                          refine px 20 (some 101) (tb 35 2023423) HT_ ?_
                          refine px 22 (some 103) (tb 35 6217727) HT_ ?_
                          refine px 26 (some 107) (tb 35 73326591) HT_ ?_
                          refine px 27 (some 108) (tb 35 207544319) HT_ ?_
                          refine px 28 (some 109) (tb 35 475979775) HT_ ?_
                          refine px 30 (some 111) (tb 35 1549721599) HT_ ?_
                          refine tx (v := ?_) 13 (some 94) (tb 35 1549729791) HT_ HW_ hHeld ?_ ?_
                          rotate_left; (· rintro w' ⟨s0, s1, s2, s3, s4, s5, s6, s7, s8, s9, s10, s11⟩; go_simp; with_reducible rfl)
                          refine tx (v := ?_) 21 (some 102) (tb 35 1551826943) HT_ HW_ hHeld ?_ ?_
                          rotate_left; (· rintro w' ⟨s0, s1, s2, s3, s4, s5, s6, s7, s8, s9, s10, s11⟩; go_simp; with_reducible rfl)
                          refine px 23 (some 104) (tb 35 1560215551) HT_ ?_
                          refine tx (v := ?_) 24 (some 105) (tb 35 1576992767) HT_ HW_ hHeld ?_ ?_
                          rotate_left; (· rintro w' ⟨s0, s1, s2, s3, s4, s5, s6, s7, s8, s9, s10, s11⟩; go_simp; with_reducible rfl)
                          refine tx (v := ?_) 29 (some 110) (tb 35 2113863679) HT_ HW_ hHeld ?_ ?_
                          rotate_left; (· rintro w' ⟨s0, s1, s2, s3, s4, s5, s6, s7, s8, s9, s10, s11⟩; go_simp; with_reducible rfl)
                          refine px 31 (some 112) (tb 35 4261347327) HT_ ?_
                          refine tx (v := ?_) 32 (some 113) (tb 35 8556314623) HT_ HW_ hHeld ?_ ?_
                          rotate_left; (· rintro w' ⟨s0, s1, s2, s3, s4, s5, s6, s7, s8, s9, s10, s11⟩; go_simp; with_reducible rfl)
                          refine one_ (i := 16) (N := some 97) (tb 35 8556380159) rfl rfl (one_of HT_.out (by kernel_rfl)) (by decide) (fun K hK => ?_)
                          refine goes_ Try.func55 (by kernel_rfl) rfl #[.agg #[.int .i64 a0_0, .int .i64 a0_1, .int .i64 a0_2, .slice A2 l2.length c2, .slice A3 l3.length c3, .int .i64 a4], .int .i64 x61_1, .int .i64 x19_2] (by rfl) rfl rfl (by (try simp only [List.map_toArray, List.map_cons, List.map_nil]); first | done | rfl | (simp only [List.length_drop, List.length_take]; rfl)) ?_
                          with_reducible refine (impl_charging_price.calls a0_0 a0_1 a0_2 _ _ l2 _ _ l3 a4 x61_1 x19_2 t270 _ ?side1 ?side2 ?side3 ?side4 A56.out).mono ?_
                          (case side1 => repeat (first | exact (Kd.C_below HR2.out HB.out) | (with_reducible refine Kd.C_alloc ?_ _) | (with_reducible refine Kd.C_drewN ?_ _) | (with_reducible refine Kd.C_drew ?_)))
                          (case side2 => exact HC2.out)
                          (case side3 => repeat (first | exact (Kd.C_below HR3.out HB.out) | (with_reducible refine Kd.C_alloc ?_ _) | (with_reducible refine Kd.C_drewN ?_ _) | (with_reducible refine Kd.C_drew ?_)))
                          (case side4 => exact HC3.out)
                          rintro e w75 ⟨rfl, hb⟩
                          have HS6_ := (hb.cell (World.block_lt_of_cell? _ _ (hHeld.2.2.2.2.2.2.1))).trans (hHeld.2.2.2.2.2.2.1)
                          have HS7_ := (hb.cell (World.block_lt_of_cell? _ _ (hHeld.2.2.2.2.2.2.2.1))).trans (hHeld.2.2.2.2.2.2.2.1)
                          have HS8_ := (hb.cell (World.block_lt_of_cell? _ _ (hHeld.2.2.2.2.2.2.2.2.1))).trans (hHeld.2.2.2.2.2.2.2.2.1)
                          have HS9_ := (hb.cell (World.block_lt_of_cell? _ _ (hHeld.2.2.2.2.2.2.2.2.2.1))).trans (hHeld.2.2.2.2.2.2.2.2.2.1)
                          have HS10_ := (hb.cell (World.block_lt_of_cell? _ _ (hHeld.2.2.2.2.2.2.2.2.2.2.1))).trans (hHeld.2.2.2.2.2.2.2.2.2.2.1)
                          have HS11_ := (hb.cell (World.block_lt_of_cell? _ _ (hHeld.2.2.2.2.2.2.2.2.2.2.2))).trans (hHeld.2.2.2.2.2.2.2.2.2.2.2)
                          refine ⟨_, rfl, ?_⟩
                          have n0_ := Aside0.mk (Kd.S_below (by (with_reducible repeat (first | apply Kd.S_alloc | apply Kd.S_drewN | apply Kd.S_drew)); exact HO_14.out) hb)
                          have n1_ := Aside0.mk (Kd.R_below (by (with_reducible repeat (first | apply Kd.R_alloc | apply Kd.R_drewN | apply Kd.R_drew)); exact HO_16.out) hb)
                          have n2_ := Aside0.mk (Kd.R_below (by (with_reducible repeat (first | apply Kd.R_alloc | apply Kd.R_drewN | apply Kd.R_drew)); exact HL268_0.out) hb)
                          have n3_ := Aside0.mk (Kd.R_below (by (with_reducible repeat (first | apply Kd.R_alloc | apply Kd.R_drewN | apply Kd.R_drew)); exact HL271_0.out) hb)
                          have n4_ := Aside0.mk (Kd.R_below (by (with_reducible repeat (first | apply Kd.R_alloc | apply Kd.R_drewN | apply Kd.R_drew)); exact HL273_0.out) hb)
                          have n5_ := Aside0.mk (blk_below (g := gb256) (o := .cells #[.int .i64 a0_0, .int .i64 a0_1, .int .i64 a0_2] 26 (0, 0)) (by (with_reducible repeat (first | refine blk_drewN ?_ _ | refine blk_drew ?_ | refine blk_alloc ?_ _)); exact BK256.out) hb)
                          have n6_ := Aside0.mk (blk_below (g := gb257) (o := .cells #[.int .i64 a0_0, .int .i64 a0_1, .int .i64 a0_2, .slice A2 l2.length c2, .slice A3 l3.length c3, .int .i64 a4] 55 (0, 0)) (by (with_reducible repeat (first | refine blk_drewN ?_ _ | refine blk_drew ?_ | refine blk_alloc ?_ _)); exact BK257.out) hb)
                          have n7_ := Aside0.mk (Kd.C_below (by repeat (first | (with_reducible exact HR268_0.out) | (with_reducible refine Kd.C_alloc ?_ _) | (with_reducible refine Kd.C_drewN ?_ _) | (with_reducible refine Kd.C_drew ?_) | exact HR268_0.out)) hb)
                          have n8_ := Aside0.mk (Kd.C_below (by repeat (first | (with_reducible exact HR271_0.out) | (with_reducible refine Kd.C_alloc ?_ _) | (with_reducible refine Kd.C_drewN ?_ _) | (with_reducible refine Kd.C_drew ?_) | exact HR271_0.out)) hb)
                          have n9_ := Aside0.mk (Kd.C_below (by repeat (first | (with_reducible exact HR273_0.out) | (with_reducible refine Kd.C_alloc ?_ _) | (with_reducible refine Kd.C_drewN ?_ _) | (with_reducible refine Kd.C_drew ?_) | exact HR273_0.out)) hb)
                          have n10_ := Aside0.mk (below_step (by repeat (first | (with_reducible first | exact HB.out | apply below_alloc | apply pw_below_drewN | apply below_drew1 | refine below_set ?_ GE256.out | refine below_set ?_ GE257.out) | exact HB.out)) hb)
                          clear HO_14
                          clear HO_16
                          clear HL268_0
                          clear HL271_0
                          clear HL273_0
                          clear BK256
                          clear BK257
                          clear HR268_0
                          clear HR271_0
                          clear HR273_0
                          clear HB
                          have HO_14 := n0_
                          have HO_16 := n1_
                          have HL268_0 := n2_
                          have HL271_0 := n3_
                          have HL273_0 := n4_
                          have BK256 := n5_
                          have BK257 := n6_
                          have HR268_0 := n7_
                          have HR271_0 := n8_
                          have HR273_0 := n9_
                          have HB := n10_
                          clear n0_ n1_ n2_ n3_ n4_ n5_ n6_ n7_ n8_ n9_ n10_
                          (try clear hb)
                          (try clear hb2)
                          (try clear hk)
                          (try clear hi)
                          refine hK.out _ _ ⟨(blk_cell BK257.out 0).trans rfl, (blk_cell BK257.out 1).trans rfl, (blk_cell BK257.out 2).trans rfl, (blk_cell BK257.out 3).trans rfl, (blk_cell BK257.out 4).trans rfl, (blk_cell BK257.out 5).trans rfl, HS6_, HS7_, HS8_, HS9_, HS10_, HS11_⟩ (fun hHeld => ?_)
                          clear hK K
                          refine norm_ (a' := ?_) ?_ ?_
                          rotate_left
                          ·show Act.put _ (some 97) _ = _
                           simp only [Act.put, List.setIfInBounds_toArray, List.set_cons_zero, List.set_cons_succ, i64_w, i32_w]
                           rfl
                          refine px 25 (some 106) (tf 33 35) HT_ ?_
                          refine px 33 (some 114) (tf 34 35) HT_ ?_
                          refine px 34 (some 115) (tf 35 35) HT_ ?_
                          refine done_ (done_of HT_.out (by kernel_rfl)) ?_
                          try go_wp2
                          go_roundg k2
                          case measure => have := HK1.out; have := HK2.out; omega
                          case rel => exact ⟨(x16_2), (x17_2), (wrap64 (x19_2 + 1)), (by first | rfl | (simp; done) | (simp [*]; done)), (by first | rfl | (simp; done) | (simp [*]; done)), H', ⟨by have := HK1.out; have := HK2.out; omega⟩, ⟨by (with_reducible repeat (first | apply Kd.S_alloc | apply Kd.S_drewN | apply Kd.S_drew)); exact HO_14.out⟩, ⟨by (with_reducible repeat (first | apply Kd.R_alloc | apply Kd.R_drewN | apply Kd.R_drew)); exact HO_16.out⟩, ⟨by (with_reducible repeat (first | refine blk_drewN ?_ _ | refine blk_drew ?_ | refine blk_alloc ?_ _)); exact BK256.out⟩, ⟨by (with_reducible repeat (first | refine blk_drewN ?_ _ | refine blk_drew ?_ | refine blk_alloc ?_ _)); exact BK257.out⟩, ⟨by repeat (first | (with_reducible first | exact HB.out | apply below_alloc | apply pw_below_drewN | apply below_drew1 | refine below_set ?_ GE256.out | refine below_set ?_ GE257.out) | exact HB.out)⟩⟩
                        ·rw [if_neg c60] at H
                         exact absurd H (by simp)
                       ·rw [if_neg c59] at H
                        exact absurd H (by simp)
                      ·rw [if_neg c58] at H
                       exact absurd H (by simp)
                     ·rw [if_neg c57] at H
                      exact absurd H (by simp)
                    ·rw [if_neg c55] at H
                     have c55b0 : decide (0 ≤ (rd (rd_L2 t261 (ji50)) t266)) = false := decide_eq_false c55
                     clear c55
                     have H' := Aside0.mk H
                     clear H
                     have hnb76 := NB256_257.out
                     have hnc76 := NB257_256.out
                     have hcz77_0 : wr.cell? ⟨gb256, 0, none⟩ = some (.int .i64 a0_0) := (blk_cell BK256.out 0).trans rfl
                     have hcz77_1 : wr.cell? ⟨gb256, 1, none⟩ = some (.int .i64 a0_1) := (blk_cell BK256.out 1).trans rfl
                     have hcz77_2 : wr.cell? ⟨gb256, 2, none⟩ = some (.int .i64 a0_2) := (blk_cell BK256.out 2).trans rfl
                     have hfz77_0 := blk_frozen BK256.out 0
                     have hfz77_1 := blk_frozen BK256.out 1
                     have hfz77_2 := blk_frozen BK256.out 2
                     have hcz78_0 : wr.cell? ⟨gb257, 0, none⟩ = some (.int .i64 a0_0) := (blk_cell BK257.out 0).trans rfl
                     have hcz78_1 : wr.cell? ⟨gb257, 1, none⟩ = some (.int .i64 a0_1) := (blk_cell BK257.out 1).trans rfl
                     have hcz78_2 : wr.cell? ⟨gb257, 2, none⟩ = some (.int .i64 a0_2) := (blk_cell BK257.out 2).trans rfl
                     have hcz78_3 : wr.cell? ⟨gb257, 3, none⟩ = some (.slice A2 l2.length c2) := (blk_cell BK257.out 3).trans rfl
                     have hcz78_4 : wr.cell? ⟨gb257, 4, none⟩ = some (.slice A3 l3.length c3) := (blk_cell BK257.out 4).trans rfl
                     have hcz78_5 : wr.cell? ⟨gb257, 5, none⟩ = some (.int .i64 a4) := (blk_cell BK257.out 5).trans rfl
                     have hfz78_0 := blk_frozen BK257.out 0
                     have hfz78_1 := blk_frozen BK257.out 1
                     have hfz78_2 := blk_frozen BK257.out 2
                     have hfz78_3 := blk_frozen BK257.out 3
                     have hfz78_4 := blk_frozen BK257.out 4
                     have hfz78_5 := blk_frozen BK257.out 5
                     try go_wp2_with (first | ((with_reducible refine gate_callee (f := 39) rfl ?_); refine goesL_ (some 78) rfl rfl Try.func39 (by kernel_rfl) rfl #[.agg #[.int .i64 a0_0, .int .i64 a0_1, .int .i64 a0_2, .slice A2 l2.length c2, .slice A3 l3.length c3, .int .i64 a4], .int .i64 x61_1, .int .i64 x17_2, .int .i64 x19_2] rfl (by (try simp only [List.map_toArray, List.map_cons, List.map_nil]); first | done | rfl | (simp only [List.length_drop, List.length_take]; rfl)) ?_; (with_reducible refine (impl_charging_after.calls a0_0 a0_1 a0_2 _ _ l2 _ _ l3 a4 x61_1 x17_2 x19_2 t266 true _ ?side1 ?side2 ?side3 ?side4 A48.out).mono ?_); (case side1 => repeat (first | exact (Kd.C_below HR2.out HB.out) | (with_reducible refine Kd.C_alloc ?_ _) | (with_reducible refine Kd.C_drewN ?_ _) | (with_reducible refine Kd.C_drew ?_))); (case side2 => exact HC2.out); (case side3 => repeat (first | exact (Kd.C_below HR3.out HB.out) | (with_reducible refine Kd.C_alloc ?_ _) | (with_reducible refine Kd.C_drewN ?_ _) | (with_reducible refine Kd.C_drew ?_))); (case side4 => exact HC3.out); rintro e w79 ⟨rfl, hb⟩; refine ⟨_, rfl, ?_⟩; have n0_ := Aside0.mk (Kd.S_below (by (with_reducible repeat (first | apply Kd.S_alloc | apply Kd.S_drewN | apply Kd.S_drew)); exact HO_14.out) hb); have n1_ := Aside0.mk (Kd.R_below (by (with_reducible repeat (first | apply Kd.R_alloc | apply Kd.R_drewN | apply Kd.R_drew)); exact HO_16.out) hb); have n2_ := Aside0.mk (blk_below (g := gb256) (o := .cells #[.int .i64 a0_0, .int .i64 a0_1, .int .i64 a0_2] 26 (0, 0)) (by (with_reducible repeat (first | refine blk_drewN ?_ _ | refine blk_drew ?_ | refine blk_alloc ?_ _)); exact BK256.out) hb); have n3_ := Aside0.mk (blk_below (g := gb257) (o := .cells #[.int .i64 a0_0, .int .i64 a0_1, .int .i64 a0_2, .slice A2 l2.length c2, .slice A3 l3.length c3, .int .i64 a4] 55 (0, 0)) (by (with_reducible repeat (first | refine blk_drewN ?_ _ | refine blk_drew ?_ | refine blk_alloc ?_ _)); exact BK257.out) hb); have n4_ := Aside0.mk (below_step (by repeat (first | (with_reducible first | exact HB.out | apply below_alloc | apply pw_below_drewN | apply below_drew1 | refine below_set ?_ GE256.out | refine below_set ?_ GE257.out) | exact HB.out)) hb); clear HO_14; clear HO_16; clear BK256; clear BK257; clear HB; have HO_14 := n0_; have HO_16 := n1_; have BK256 := n2_; have BK257 := n3_; have HB := n4_; clear n0_ n1_ n2_ n3_ n4_; (try clear hb); (try clear hb2); (try clear hk); (try clear hi)))
                     have n0_ := Aside0.mk (Kd.S_drew HO_14.out)
                     have n1_ := Aside0.mk (Kd.R_drew HO_16.out)
                     have n2_ := Aside0.mk (blk_drew BK256.out)
                     have n3_ := Aside0.mk (blk_drew BK257.out)
                     have n4_ := Aside0.mk (below_drew1 HB.out)
                     clear HO_14
                     clear HO_16
                     clear BK256
                     clear BK257
                     clear HB
                     have HO_14 := n0_
                     have HO_16 := n1_
                     have BK256 := n2_
                     have BK257 := n3_
                     have HB := n4_
                     clear n0_ n1_ n2_ n3_ n4_
                     have p268 : 0 ≤ ((ji50) : Int) := of_decide_eq_true (by first | (with_reducible assumption) | assumption)
                     have q268 : (ji50) < (t261.length : Int) := of_decide_eq_true (by first | (with_reducible assumption) | assumption)
                     obtain ⟨ad268, A268_0, c268_0, e268, hx268_0, hl268_0, hi268_0⟩ := at_L2 (Kd.S_reads' HO_14.out).2.2 (ji50) p268 q268
                     obtain rfl : ad264 = ad268 := (by injection e268)
                     obtain ⟨ce268, hce268, hMe268, hcc268⟩ := Kd.S_get HO_14.out [] (ji50) p268 (by first | exact q268 | exact of_decide_eq_true (by first | (with_reducible assumption) | assumption) | (have e_ := (Kd.S_reads' HO_14.out).1; omega))
                     obtain ⟨ve268_0, rfl, ge268_0⟩ := hMe268
                     have hv268_0 := hcc268 0 _ rfl
                     rw [Nat.add_zero, show ((Kd.slice 2 (Kd.int .i64))).sz = 1 from rfl, Nat.mul_one] at hv268_0
                     replace hv268_0 := Option.some.inj (hv268_0.symm.trans hx268_0)
                     rw [hv268_0] at ge268_0
                     have HL268_0 := Aside0.mk (show Kd.R (Kd.int .i64) 2 _ _ _ _ (rd_L2 t261 (ji50)) from ge268_0)
                     clear hv268_0 ge268_0
                     clear hcc268 hce268
                     have HR268_0 := Aside0.mk hi268_0
                     have HC268_0 := Aside0.mk hl268_0
                     clear hi268_0 hl268_0
                     replace p268 := eq_true p268
                     replace q268 := eq_true q268
                     have p269 : 0 ≤ (t266 : Int) := of_decide_eq_true (by first | (with_reducible assumption) | assumption)
                     have q269 : t266 < ((rd_L2 t261 (ji50)).length : Int) := of_decide_eq_true (by first | (with_reducible assumption) | assumption)
                     obtain ⟨ad269, e269, hx269_0⟩ := Kd.at_int (by repeat (first | (with_reducible exact HR268_0.out) | (with_reducible refine Kd.C_alloc ?_ _) | (with_reducible refine Kd.C_drewN ?_ _) | (with_reducible refine Kd.C_drew ?_) | exact HR268_0.out)) t266 p269 q269
                     cases e269
                     replace p269 := eq_true p269
                     replace q269 := eq_true q269
                     refine start_ (n := 35) (S := fun w' => w'.cell? (ad264.add ((ji50)).toNat) = some (.slice (some ad269) (rd_L2 t261 (ji50)).length c268_0) ∧ w'.cell? (ad269.add (t266).toNat) = some (.int .i64 (rd (rd_L2 t261 (ji50)) t266))) (ds := []) (tf 0 35) (by kernel_rfl) rfl rfl ⟨hx268_0, hx269_0⟩ (fun hHeld => ?_); refine with_tabW impl_BestCharging.tab19 impl_BestCharging.bits19 (fun HT_ HW_ => ?_)
                     generalize w79.drew = w80 at HO_14 HO_16 BK256 BK257 HB HL268_0 HR268_0 hx268_0 hx269_0 hHeld ⊢
                     refine px 0 (some 81) (tf 1 35) HT_ ?_
                     refine px 1 (some 82) (tf 2 35) HT_ ?_
                     refine px 2 (some 83) (tf 3 35) HT_ ?_
                     refine px 3 (some 84) (tf 4 35) HT_ ?_
                     refine px 4 (some 85) (tf 5 35) HT_ ?_
                     refine px 5 (some 86) (tf 6 35) HT_ ?_
                     refine px 7 (some 88) (tb 35 191) HT_ ?_
                     refine tx (v := ?_) 6 (some 87) (tf 8 35) HT_ HW_ hHeld ?_ ?_
                     rotate_left; (· rintro w' ⟨s0, s1⟩; go_simp; with_reducible rfl)
                     refine px 8 (some 89) (tf 9 35) HT_ ?_
                     refine tx (v := ?_) 9 (some 90) (tf 10 35) HT_ HW_ hHeld ?_ ?_
                     rotate_left; (· rintro w' ⟨s0, s1⟩; go_simp; with_reducible rfl)
                     refine px 10 (some 91) (tf 11 35) HT_ ?_
                     refine px 11 (some 92) (tf 12 35) HT_ ?_
                     refine px 12 (some 93) (tf 13 35) HT_ ?_
                     refine sx 13 (some 94) (tf 14 35) HT_ ?_
                     refine sx 14 (some 95) (tf 15 35) HT_ ?_
                     refine sx 15 (some 96) (tf 16 35) HT_ ?_
                     refine sx 16 (some 97) (tf 17 35) HT_ ?_
                     refine sx 17 (some 98) (tf 18 35) HT_ ?_
                     refine sx 18 (some 99) (tf 19 35) HT_ ?_
                     refine sx 19 (some 100) (tf 20 35) HT_ ?_
                     refine sx 20 (some 101) (tf 21 35) HT_ ?_
                     refine sx 21 (some 102) (tf 22 35) HT_ ?_
                     refine sx 22 (some 103) (tf 23 35) HT_ ?_
                     refine sx 23 (some 104) (tf 24 35) HT_ ?_
                     refine sx 24 (some 105) (tf 25 35) HT_ ?_
                     refine sx 25 (some 106) (tf 26 35) HT_ ?_
                     refine sx 26 (some 107) (tf 27 35) HT_ ?_
                     refine sx 27 (some 108) (tf 28 35) HT_ ?_
                     refine sx 28 (some 109) (tf 29 35) HT_ ?_
                     refine sx 29 (some 110) (tf 30 35) HT_ ?_
                     refine sx 30 (some 111) (tf 31 35) HT_ ?_
                     refine sx 31 (some 112) (tf 32 35) HT_ ?_
                     refine sx 32 (some 113) (tf 33 35) HT_ ?_
                     refine sx 33 (some 114) (tf 34 35) HT_ ?_
                     refine px 34 (some 115) (tf 35 35) HT_ ?_
                     refine done_ (done_of HT_.out (by kernel_rfl)) ?_
                     try go_wp2
                     go_roundg k2
                     case measure => have := HK1.out; have := HK2.out; omega
                     case rel => exact ⟨(x16_2), (x17_2), (wrap64 (x19_2 + 1)), (by first | rfl | (simp; done) | (simp [*]; done)), (by first | rfl | (simp; done) | (simp [*]; done)), H', ⟨by have := HK1.out; have := HK2.out; omega⟩, ⟨by (with_reducible repeat (first | apply Kd.S_alloc | apply Kd.S_drewN | apply Kd.S_drew)); exact HO_14.out⟩, ⟨by (with_reducible repeat (first | apply Kd.R_alloc | apply Kd.R_drewN | apply Kd.R_drew)); exact HO_16.out⟩, ⟨by (with_reducible repeat (first | refine blk_drewN ?_ _ | refine blk_drew ?_ | refine blk_alloc ?_ _)); exact BK256.out⟩, ⟨by (with_reducible repeat (first | refine blk_drewN ?_ _ | refine blk_drew ?_ | refine blk_alloc ?_ _)); exact BK257.out⟩, ⟨by repeat (first | (with_reducible first | exact HB.out | apply below_alloc | apply pw_below_drewN | apply below_drew1 | refine below_set ?_ GE256.out | refine below_set ?_ GE257.out) | exact HB.out)⟩⟩
                   ·rw [if_neg c54] at H
                    exact absurd H (by simp)
                  ·rw [if_neg c53] at H
                   exact absurd H (by simp)
                 ·rw [if_neg c52] at H
                  exact absurd H (by simp)
                ·rw [if_neg c51] at H
                 exact absurd H (by simp)
               ·replace c49 := Bool.eq_false_iff.mpr c49
                subst c49
                have H1 : (impl_BestCharging.l1 k2 t261 (rd (rd_L2 t261 0) a1) x16_2 x17_2 x61_1 (wrap64 (x19_2 + 1)) (l2.length : Int) x61_1 a0_0 a0_1 a0_2 a0_0 a0_1 a0_2 l2 l3 a4) = some (r1, r2, r3) := by rw [if_neg (show ¬ (false = true) by decide)] at H; exact H
                clear H
                have H := H1
                clear H1
                have H' := Aside0.mk H
                clear H
                have hnb81 := NB256_257.out
                have hnc81 := NB257_256.out
                have hcz82_0 : wr.cell? ⟨gb256, 0, none⟩ = some (.int .i64 a0_0) := (blk_cell BK256.out 0).trans rfl
                have hcz82_1 : wr.cell? ⟨gb256, 1, none⟩ = some (.int .i64 a0_1) := (blk_cell BK256.out 1).trans rfl
                have hcz82_2 : wr.cell? ⟨gb256, 2, none⟩ = some (.int .i64 a0_2) := (blk_cell BK256.out 2).trans rfl
                have hfz82_0 := blk_frozen BK256.out 0
                have hfz82_1 := blk_frozen BK256.out 1
                have hfz82_2 := blk_frozen BK256.out 2
                have hcz83_0 : wr.cell? ⟨gb257, 0, none⟩ = some (.int .i64 a0_0) := (blk_cell BK257.out 0).trans rfl
                have hcz83_1 : wr.cell? ⟨gb257, 1, none⟩ = some (.int .i64 a0_1) := (blk_cell BK257.out 1).trans rfl
                have hcz83_2 : wr.cell? ⟨gb257, 2, none⟩ = some (.int .i64 a0_2) := (blk_cell BK257.out 2).trans rfl
                have hcz83_3 : wr.cell? ⟨gb257, 3, none⟩ = some (.slice A2 l2.length c2) := (blk_cell BK257.out 3).trans rfl
                have hcz83_4 : wr.cell? ⟨gb257, 4, none⟩ = some (.slice A3 l3.length c3) := (blk_cell BK257.out 4).trans rfl
                have hcz83_5 : wr.cell? ⟨gb257, 5, none⟩ = some (.int .i64 a4) := (blk_cell BK257.out 5).trans rfl
                have hfz83_0 := blk_frozen BK257.out 0
                have hfz83_1 := blk_frozen BK257.out 1
                have hfz83_2 := blk_frozen BK257.out 2
                have hfz83_3 := blk_frozen BK257.out 3
                have hfz83_4 := blk_frozen BK257.out 4
                have hfz83_5 := blk_frozen BK257.out 5
                try go_wp2_with (first | ((with_reducible refine gate_callee (f := 39) rfl ?_); refine goesL_ (some 78) rfl rfl Try.func39 (by kernel_rfl) rfl #[.agg #[.int .i64 a0_0, .int .i64 a0_1, .int .i64 a0_2, .slice A2 l2.length c2, .slice A3 l3.length c3, .int .i64 a4], .int .i64 x61_1, .int .i64 x17_2, .int .i64 x19_2] rfl (by (try simp only [List.map_toArray, List.map_cons, List.map_nil]); first | done | rfl | (simp only [List.length_drop, List.length_take]; rfl)) ?_; (with_reducible refine (impl_charging_after.calls a0_0 a0_1 a0_2 _ _ l2 _ _ l3 a4 x61_1 x17_2 x19_2 t266 false _ ?side1 ?side2 ?side3 ?side4 A48.out).mono ?_); (case side1 => repeat (first | exact (Kd.C_below HR2.out HB.out) | (with_reducible refine Kd.C_alloc ?_ _) | (with_reducible refine Kd.C_drewN ?_ _) | (with_reducible refine Kd.C_drew ?_))); (case side2 => exact HC2.out); (case side3 => repeat (first | exact (Kd.C_below HR3.out HB.out) | (with_reducible refine Kd.C_alloc ?_ _) | (with_reducible refine Kd.C_drewN ?_ _) | (with_reducible refine Kd.C_drew ?_))); (case side4 => exact HC3.out); rintro e w84 ⟨rfl, hb⟩; refine ⟨_, rfl, ?_⟩; have n0_ := Aside0.mk (Kd.S_below (by (with_reducible repeat (first | apply Kd.S_alloc | apply Kd.S_drewN | apply Kd.S_drew)); exact HO_14.out) hb); have n1_ := Aside0.mk (Kd.R_below (by (with_reducible repeat (first | apply Kd.R_alloc | apply Kd.R_drewN | apply Kd.R_drew)); exact HO_16.out) hb); have n2_ := Aside0.mk (blk_below (g := gb256) (o := .cells #[.int .i64 a0_0, .int .i64 a0_1, .int .i64 a0_2] 26 (0, 0)) (by (with_reducible repeat (first | refine blk_drewN ?_ _ | refine blk_drew ?_ | refine blk_alloc ?_ _)); exact BK256.out) hb); have n3_ := Aside0.mk (blk_below (g := gb257) (o := .cells #[.int .i64 a0_0, .int .i64 a0_1, .int .i64 a0_2, .slice A2 l2.length c2, .slice A3 l3.length c3, .int .i64 a4] 55 (0, 0)) (by (with_reducible repeat (first | refine blk_drewN ?_ _ | refine blk_drew ?_ | refine blk_alloc ?_ _)); exact BK257.out) hb); have n4_ := Aside0.mk (below_step (by repeat (first | (with_reducible first | exact HB.out | apply below_alloc | apply pw_below_drewN | apply below_drew1 | refine below_set ?_ GE256.out | refine below_set ?_ GE257.out) | exact HB.out)) hb); clear HO_14; clear HO_16; clear BK256; clear BK257; clear HB; have HO_14 := n0_; have HO_16 := n1_; have BK256 := n2_; have BK257 := n3_; have HB := n4_; clear n0_ n1_ n2_ n3_ n4_; (try clear hb); (try clear hb2); (try clear hk); (try clear hi)))
                have n0_ := Aside0.mk (Kd.S_drew HO_14.out)
                have n1_ := Aside0.mk (Kd.R_drew HO_16.out)
                have n2_ := Aside0.mk (blk_drew BK256.out)
                have n3_ := Aside0.mk (blk_drew BK257.out)
                have n4_ := Aside0.mk (below_drew1 HB.out)
                clear HO_14
                clear HO_16
                clear BK256
                clear BK257
                clear HB
                have HO_14 := n0_
                have HO_16 := n1_
                have BK256 := n2_
                have BK257 := n3_
                have HB := n4_
                clear n0_ n1_ n2_ n3_ n4_
                refine start_ (n := 35) (S := fun w' => True) (ds := []) (tf 0 35) (by kernel_rfl) rfl rfl trivial (fun hHeld => ?_); refine with_tabW impl_BestCharging.tab19 impl_BestCharging.bits19 (fun HT_ HW_ => ?_)
                generalize w84.drew = w85 at HO_14 HO_16 BK256 BK257 HB hHeld ⊢
                refine px 0 (some 81) (tf 1 35) HT_ ?_
                refine px 1 (some 82) (tf 2 35) HT_ ?_
                refine sx 2 (some 83) (tf 3 35) HT_ ?_
                refine sx 3 (some 84) (tf 4 35) HT_ ?_
                refine sx 4 (some 85) (tf 5 35) HT_ ?_
                refine sx 5 (some 86) (tf 6 35) HT_ ?_
                refine sx 6 (some 87) (tf 7 35) HT_ ?_
                refine sx 7 (some 88) (tf 8 35) HT_ ?_
                refine sx 8 (some 89) (tf 9 35) HT_ ?_
                refine sx 9 (some 90) (tf 10 35) HT_ ?_
                refine sx 10 (some 91) (tf 11 35) HT_ ?_
                refine px 11 (some 92) (tf 12 35) HT_ ?_
                refine px 12 (some 93) (tf 13 35) HT_ ?_
                refine sx 13 (some 94) (tf 14 35) HT_ ?_
                refine sx 14 (some 95) (tf 15 35) HT_ ?_
                refine sx 15 (some 96) (tf 16 35) HT_ ?_
                refine sx 16 (some 97) (tf 17 35) HT_ ?_
                refine sx 17 (some 98) (tf 18 35) HT_ ?_
                refine sx 18 (some 99) (tf 19 35) HT_ ?_
                refine sx 19 (some 100) (tf 20 35) HT_ ?_
                refine sx 20 (some 101) (tf 21 35) HT_ ?_
                refine sx 21 (some 102) (tf 22 35) HT_ ?_
                refine sx 22 (some 103) (tf 23 35) HT_ ?_
                refine sx 23 (some 104) (tf 24 35) HT_ ?_
                refine sx 24 (some 105) (tf 25 35) HT_ ?_
                refine sx 25 (some 106) (tf 26 35) HT_ ?_
                refine sx 26 (some 107) (tf 27 35) HT_ ?_
                refine sx 27 (some 108) (tf 28 35) HT_ ?_
                refine sx 28 (some 109) (tf 29 35) HT_ ?_
                refine sx 29 (some 110) (tf 30 35) HT_ ?_
                refine sx 30 (some 111) (tf 31 35) HT_ ?_
                refine sx 31 (some 112) (tf 32 35) HT_ ?_
                refine sx 32 (some 113) (tf 33 35) HT_ ?_
                refine sx 33 (some 114) (tf 34 35) HT_ ?_
                refine px 34 (some 115) (tf 35 35) HT_ ?_
                refine done_ (done_of HT_.out (by kernel_rfl)) ?_
                try go_wp2
                go_roundg k2
                case measure => have := HK1.out; have := HK2.out; omega
                case rel => exact ⟨(x16_2), (x17_2), (wrap64 (x19_2 + 1)), (by first | rfl | (simp; done) | (simp [*]; done)), (by first | rfl | (simp; done) | (simp [*]; done)), H', ⟨by have := HK1.out; have := HK2.out; omega⟩, ⟨by (with_reducible repeat (first | apply Kd.S_alloc | apply Kd.S_drewN | apply Kd.S_drew)); exact HO_14.out⟩, ⟨by (with_reducible repeat (first | apply Kd.R_alloc | apply Kd.R_drewN | apply Kd.R_drew)); exact HO_16.out⟩, ⟨by (with_reducible repeat (first | refine blk_drewN ?_ _ | refine blk_drew ?_ | refine blk_alloc ?_ _)); exact BK256.out⟩, ⟨by (with_reducible repeat (first | refine blk_drewN ?_ _ | refine blk_drew ?_ | refine blk_alloc ?_ _)); exact BK257.out⟩, ⟨by repeat (first | (with_reducible first | exact HB.out | apply below_alloc | apply pw_below_drewN | apply below_drew1 | refine below_set ?_ GE256.out | refine below_set ?_ GE257.out) | exact HB.out)⟩⟩
              ·rw [if_neg c47] at H
               have c47b0 : decide (x19_2 ≤ a0_1) = false := decide_eq_false c47
               clear c47
               have H' := Aside0.mk H
               clear H
               have hnb86 := NB256_257.out
               have hnc86 := NB257_256.out
               have hcz87_0 : wr.cell? ⟨gb256, 0, none⟩ = some (.int .i64 a0_0) := (blk_cell BK256.out 0).trans rfl
               have hcz87_1 : wr.cell? ⟨gb256, 1, none⟩ = some (.int .i64 a0_1) := (blk_cell BK256.out 1).trans rfl
               have hcz87_2 : wr.cell? ⟨gb256, 2, none⟩ = some (.int .i64 a0_2) := (blk_cell BK256.out 2).trans rfl
               have hfz87_0 := blk_frozen BK256.out 0
               have hfz87_1 := blk_frozen BK256.out 1
               have hfz87_2 := blk_frozen BK256.out 2
               go_wp2
               go_roundg k2
               case measure => have := HK1.out; have := HK2.out; omega
               case rel => exact ⟨(x16_2), (x17_2), (wrap64 (x61_1 + 1)), (by first | rfl | (simp; done) | (simp [*]; done)), (by first | rfl | (simp; done) | (simp [*]; done)), H', ⟨by have := HK1.out; have := HK2.out; omega⟩, ⟨by (with_reducible repeat (first | apply Kd.S_alloc | apply Kd.S_drewN | apply Kd.S_drew)); exact HO_14.out⟩, ⟨by (with_reducible repeat (first | apply Kd.R_alloc | apply Kd.R_drewN | apply Kd.R_drew)); exact HO_16.out⟩, ⟨by (with_reducible repeat (first | refine blk_drewN ?_ _ | refine blk_drew ?_ | refine blk_alloc ?_ _)); exact BK256.out⟩, ⟨by (with_reducible repeat (first | refine blk_drewN ?_ _ | refine blk_drew ?_ | refine blk_alloc ?_ _)); exact BK257.out⟩, ⟨by repeat (first | (with_reducible first | exact HB.out | apply below_alloc | apply pw_below_drewN | apply below_drew1 | refine below_set ?_ GE256.out | refine below_set ?_ GE257.out) | exact HB.out)⟩⟩
           ·rw [if_neg c44] at H
            have c44b0 : decide (x61_1 < (l2.length : Int)) = false := decide_eq_false c44
            clear c44
            simp only [Option.some.injEq, Prod.mk.injEq] at H
            obtain ⟨rfl, rfl, rfl⟩ := H
            go_wp2
            go_ret3
            exact ⟨_, by first | rfl | (simp [errW_none, errW_some] <;> rfl) | (simp [*, errW_none, errW_some] <;> rfl), by (with_reducible repeat (first | apply Kd.R_alloc | apply Kd.R_drewN | apply Kd.R_drew)); exact HO_16.out, by repeat (first | (with_reducible first | exact HB.out | apply below_alloc | apply pw_below_drewN | apply below_drew1 | refine below_set ?_ GE256.out | refine below_set ?_ GE257.out) | exact HB.out)⟩
       ·rw [if_neg c16] at H
        exact absurd H (by simp)
      ·rw [if_neg c15] at H
       exact absurd H (by simp)
     ·rw [if_neg c14] at H
      exact absurd H (by simp)
    ·replace c12 := Bool.eq_false_iff.mpr c12
     subst c12
     have H1 : (some (([] : List Int), 0, 2)) = some (r1, r2, r3) := by rw [if_neg (show ¬ (false = true) by decide)] at H; exact H
     clear H
     have H := H1
     clear H1
     simp only [Option.some.injEq, Prod.mk.injEq] at H
     obtain ⟨rfl, rfl, rfl⟩ := H
     go_enter Try.func26, Try.ntmps26
     go_wp2_with (first | ((with_reducible refine gate_dst (N := 5) rfl ?_); (try (refine gate_guard (by rfl) ?_; dsimp only)); refine box_event ?hg (N := 5) ?hd (cs := #[.int .i64 a0_0, .int .i64 a0_1, .int .i64 a0_2]) (t := 26) ?hr ?_; (case hd => rfl); (case hg => rfl); (case hr => first | (go_simp; done) | (go_simp; rfl)); intro gb256 hg w88 hbox hb; have n0_ := Aside0.mk (below_step (by repeat (first | (with_reducible first | exact HB.out | apply below_alloc | apply pw_below_drewN | apply below_drew1) | exact HB.out)) hb); have n1_ := Aside0.mk (hbox); have n2_ := Aside0.mk ((by rw [hg]; exact (below_size (by repeat (first | (with_reducible first | exact HB.out | apply below_alloc | apply pw_below_drewN | apply below_drew1) | exact HB.out))) : w.heap.size ≤ gb256)); have n3_ := Aside0.mk ((by rw [hg]; exact (below_size (by repeat (first | (with_reducible first | exact HB.out | apply below_alloc | apply pw_below_drewN | apply below_drew1) | exact HB.out))) : w.heap.size ≤ gb256)); clear HB; have HB := n0_; have BK256 := n1_; have GW256 := n2_; have GE256 := n3_; clear n0_ n1_ n2_ n3_; clear hb hbox hg; have hcz89_0 : w88.cell? ⟨gb256, 0, none⟩ = some (.int .i64 a0_0) := (blk_cell BK256.out 0).trans rfl; have hcz89_1 : w88.cell? ⟨gb256, 1, none⟩ = some (.int .i64 a0_1) := (blk_cell BK256.out 1).trans rfl; have hcz89_2 : w88.cell? ⟨gb256, 2, none⟩ = some (.int .i64 a0_2) := (blk_cell BK256.out 2).trans rfl; have hfz89_0 := blk_frozen BK256.out 0; have hfz89_1 := blk_frozen BK256.out 1; have hfz89_2 := blk_frozen BK256.out 2) | ((with_reducible refine gate_dst (N := 13) rfl ?_); (try (refine gate_guard (by rfl) ?_; dsimp only)); refine box_event ?hg (N := 13) ?hd (cs := #[.int .i64 0, .int .i64 0, .int .i64 0, .slice none 0 0, .slice none 0 0, .int .i64 0]) (t := 55) ?hr ?_; (case hd => rfl); (case hg => rfl); (case hr => first | (go_simp; done) | (go_simp; rfl)); intro gb257 hg w90 hbox hb; have n0_ := Aside0.mk (blk_below (g := gb256) (o := .cells #[.int .i64 a0_0, .int .i64 a0_1, .int .i64 a0_2] 26 (0, 0)) (by (with_reducible repeat (first | refine blk_drewN ?_ _ | refine blk_drew ?_ | refine blk_alloc ?_ _)); exact BK256.out) hb); have n1_ := Aside0.mk (below_step (by repeat (first | (with_reducible first | exact HB.out | apply below_alloc | apply pw_below_drewN | apply below_drew1 | refine below_set ?_ GE256.out) | exact HB.out)) hb); have n2_ := Aside0.mk (hbox); have n3_ := Aside0.mk ((by rw [hg]; exact (below_size (by repeat (first | (with_reducible first | exact HB.out | apply below_alloc | apply pw_below_drewN | apply below_drew1 | refine below_set ?_ GE256.out) | exact HB.out))) : w.heap.size ≤ gb257)); have n4_ := Aside0.mk ((by rw [hg]; exact (below_size (by repeat (first | (with_reducible first | exact HB.out | apply below_alloc | apply pw_below_drewN | apply below_drew1 | refine below_set ?_ GE256.out) | exact HB.out))) : w.heap.size ≤ gb257)); have n5_ := Aside0.mk ((by rw [hg]; exact Nat.ne_of_lt (blk_lt (g := gb256) (o := .cells #[.int .i64 a0_0, .int .i64 a0_1, .int .i64 a0_2] 26 (0, 0)) (by (with_reducible repeat (first | refine blk_drewN ?_ _ | refine blk_drew ?_ | refine blk_alloc ?_ _)); exact BK256.out)) : gb256 ≠ gb257)); have n6_ := Aside0.mk ((by rw [hg]; exact Nat.ne_of_gt (blk_lt (g := gb256) (o := .cells #[.int .i64 a0_0, .int .i64 a0_1, .int .i64 a0_2] 26 (0, 0)) (by (with_reducible repeat (first | refine blk_drewN ?_ _ | refine blk_drew ?_ | refine blk_alloc ?_ _)); exact BK256.out)) : gb257 ≠ gb256)); clear BK256; clear HB; have BK256 := n0_; have HB := n1_; have BK257 := n2_; have GW257 := n3_; have GE257 := n4_; have NB256_257 := n5_; have NB257_256 := n6_; clear n0_ n1_ n2_ n3_ n4_ n5_ n6_; clear hb hbox hg; have hnb91 := NB257_256.out; have hnc91 := NB256_257.out; have hcz92_0 : w90.cell? ⟨gb257, 0, none⟩ = some (.int .i64 0) := (blk_cell BK257.out 0).trans rfl; have hcz92_1 : w90.cell? ⟨gb257, 1, none⟩ = some (.int .i64 0) := (blk_cell BK257.out 1).trans rfl; have hcz92_2 : w90.cell? ⟨gb257, 2, none⟩ = some (.int .i64 0) := (blk_cell BK257.out 2).trans rfl; have hcz92_3 : w90.cell? ⟨gb257, 3, none⟩ = some (.slice none 0 0) := (blk_cell BK257.out 3).trans rfl; have hcz92_4 : w90.cell? ⟨gb257, 4, none⟩ = some (.slice none 0 0) := (blk_cell BK257.out 4).trans rfl; have hcz92_5 : w90.cell? ⟨gb257, 5, none⟩ = some (.int .i64 0) := (blk_cell BK257.out 5).trans rfl; have hfz92_0 := blk_frozen BK257.out 0; have hfz92_1 := blk_frozen BK257.out 1; have hfz92_2 := blk_frozen BK257.out 2; have hfz92_3 := blk_frozen BK257.out 3; have hfz92_4 := blk_frozen BK257.out 4; have hfz92_5 := blk_frozen BK257.out 5; have hcz93_0 : w90.cell? ⟨gb256, 0, none⟩ = some (.int .i64 a0_0) := (blk_cell BK256.out 0).trans rfl; have hcz93_1 : w90.cell? ⟨gb256, 1, none⟩ = some (.int .i64 a0_1) := (blk_cell BK256.out 1).trans rfl; have hcz93_2 : w90.cell? ⟨gb256, 2, none⟩ = some (.int .i64 a0_2) := (blk_cell BK256.out 2).trans rfl; have hfz93_0 := blk_frozen BK256.out 0; have hfz93_1 := blk_frozen BK256.out 1; have hfz93_2 := blk_frozen BK256.out 2) | ((with_reducible refine gate_callee (f := 40) rfl ?_); refine goesL_ (some 29) rfl rfl Try.func40 (by kernel_rfl) rfl #[.agg #[.int .i64 a0_0, .int .i64 a0_1, .int .i64 a0_2]] rfl (by (try simp only [List.map_toArray, List.map_cons, List.map_nil]); first | done | rfl | (simp only [List.length_drop, List.length_take]; rfl)) ?_; (with_reducible refine (impl_ValidTank.calls a0_0 a0_1 a0_2 true _ A6.out).mono ?_); rintro e w94 ⟨rfl, hb⟩; refine ⟨_, rfl, ?_⟩; have n0_ := Aside0.mk (blk_below (g := gb256) (o := .cells #[.int .i64 a0_0, .int .i64 a0_1, .int .i64 a0_2] 26 (0, 0)) (by (with_reducible repeat (first | refine blk_drewN ?_ _ | refine blk_drew ?_ | refine blk_alloc ?_ _)); refine blk_far ?_ NB256_257.out _; (with_reducible repeat (first | refine blk_drewN ?_ _ | refine blk_drew ?_ | refine blk_alloc ?_ _)); refine blk_far ?_ NB256_257.out _; (with_reducible repeat (first | refine blk_drewN ?_ _ | refine blk_drew ?_ | refine blk_alloc ?_ _)); refine blk_far ?_ NB256_257.out _; (with_reducible repeat (first | refine blk_drewN ?_ _ | refine blk_drew ?_ | refine blk_alloc ?_ _)); refine blk_far ?_ NB256_257.out _; (with_reducible repeat (first | refine blk_drewN ?_ _ | refine blk_drew ?_ | refine blk_alloc ?_ _)); refine blk_far ?_ NB256_257.out _; (with_reducible repeat (first | refine blk_drewN ?_ _ | refine blk_drew ?_ | refine blk_alloc ?_ _)); refine blk_far ?_ NB256_257.out _; (with_reducible repeat (first | refine blk_drewN ?_ _ | refine blk_drew ?_ | refine blk_alloc ?_ _)); exact BK256.out) hb); have n1_ := Aside0.mk (blk_below (g := gb257) (o := .cells #[.int .i64 a0_0, .int .i64 a0_1, .int .i64 a0_2, .slice A2 l2.length c2, .slice A3 l3.length c3, .int .i64 a4] 55 (0, 0)) (by (with_reducible repeat (first | refine blk_drewN ?_ _ | refine blk_drew ?_ | refine blk_alloc ?_ _)); refine blk_put (cs := #[.int .i64 a0_0, .int .i64 a0_1, .int .i64 a0_2, .slice A2 l2.length c2, .slice A3 l3.length c3, .int .i64 0]) ?_ 5 _ rfl; (with_reducible repeat (first | refine blk_drewN ?_ _ | refine blk_drew ?_ | refine blk_alloc ?_ _)); refine blk_put (cs := #[.int .i64 a0_0, .int .i64 a0_1, .int .i64 a0_2, .slice A2 l2.length c2, .slice none 0 0, .int .i64 0]) ?_ 4 _ rfl; (with_reducible repeat (first | refine blk_drewN ?_ _ | refine blk_drew ?_ | refine blk_alloc ?_ _)); refine blk_put (cs := #[.int .i64 a0_0, .int .i64 a0_1, .int .i64 a0_2, .slice none 0 0, .slice none 0 0, .int .i64 0]) ?_ 3 _ rfl; (with_reducible repeat (first | refine blk_drewN ?_ _ | refine blk_drew ?_ | refine blk_alloc ?_ _)); refine blk_put (cs := #[.int .i64 a0_0, .int .i64 a0_1, .int .i64 0, .slice none 0 0, .slice none 0 0, .int .i64 0]) ?_ 2 _ rfl; (with_reducible repeat (first | refine blk_drewN ?_ _ | refine blk_drew ?_ | refine blk_alloc ?_ _)); refine blk_put (cs := #[.int .i64 a0_0, .int .i64 0, .int .i64 0, .slice none 0 0, .slice none 0 0, .int .i64 0]) ?_ 1 _ rfl; (with_reducible repeat (first | refine blk_drewN ?_ _ | refine blk_drew ?_ | refine blk_alloc ?_ _)); refine blk_put (cs := #[.int .i64 0, .int .i64 0, .int .i64 0, .slice none 0 0, .slice none 0 0, .int .i64 0]) ?_ 0 _ rfl; (with_reducible repeat (first | refine blk_drewN ?_ _ | refine blk_drew ?_ | refine blk_alloc ?_ _)); exact BK257.out) hb); have n2_ := Aside0.mk (below_step (by repeat (first | (with_reducible first | exact HB.out | apply below_alloc | apply pw_below_drewN | apply below_drew1 | refine below_set ?_ GE256.out | refine below_set ?_ GE257.out) | exact HB.out)) hb); clear BK256; clear BK257; clear HB; have BK256 := n0_; have BK257 := n1_; have HB := n2_; clear n0_ n1_ n2_; (try clear hb); (try clear hb2); (try clear hk); (try clear hi); have hcz95_0 : w94.cell? ⟨gb257, 0, none⟩ = some (.int .i64 a0_0) := (blk_cell BK257.out 0).trans rfl; have hcz95_1 : w94.cell? ⟨gb257, 1, none⟩ = some (.int .i64 a0_1) := (blk_cell BK257.out 1).trans rfl; have hcz95_2 : w94.cell? ⟨gb257, 2, none⟩ = some (.int .i64 a0_2) := (blk_cell BK257.out 2).trans rfl; have hcz95_3 : w94.cell? ⟨gb257, 3, none⟩ = some (.slice A2 l2.length c2) := (blk_cell BK257.out 3).trans rfl; have hcz95_4 : w94.cell? ⟨gb257, 4, none⟩ = some (.slice A3 l3.length c3) := (blk_cell BK257.out 4).trans rfl; have hcz95_5 : w94.cell? ⟨gb257, 5, none⟩ = some (.int .i64 a4) := (blk_cell BK257.out 5).trans rfl; have hfz95_0 := blk_frozen BK257.out 0; have hfz95_1 := blk_frozen BK257.out 1; have hfz95_2 := blk_frozen BK257.out 2; have hfz95_3 := blk_frozen BK257.out 3; have hfz95_4 := blk_frozen BK257.out 4; have hfz95_5 := blk_frozen BK257.out 5) | ((with_reducible refine gate_callee (f := 37) rfl ?_); refine goesL_ (some 34) rfl rfl Try.func37 (by kernel_rfl) rfl #[.agg #[.int .i64 a0_0, .int .i64 a0_1, .int .i64 a0_2, .slice A2 l2.length c2, .slice A3 l3.length c3, .int .i64 a4], .int .i64 a1] rfl (by (try simp only [List.map_toArray, List.map_cons, List.map_nil]); first | done | rfl | (simp only [List.length_drop, List.length_take]; rfl)) ?_; (with_reducible refine (impl_charging_ok.calls a0_0 a0_1 a0_2 _ _ l2 _ _ l3 a4 a1 true _ ?side1 ?side2 ?side3 ?side4 A8.out).mono ?_); (case side1 => repeat (first | exact (Kd.C_below HR2.out HB.out) | (with_reducible refine Kd.C_alloc ?_ _) | (with_reducible refine Kd.C_drewN ?_ _) | (with_reducible refine Kd.C_drew ?_))); (case side2 => exact HC2.out); (case side3 => repeat (first | exact (Kd.C_below HR3.out HB.out) | (with_reducible refine Kd.C_alloc ?_ _) | (with_reducible refine Kd.C_drewN ?_ _) | (with_reducible refine Kd.C_drew ?_))); (case side4 => exact HC3.out); rintro e w96 ⟨rfl, hb⟩; refine ⟨_, rfl, ?_⟩; have n0_ := Aside0.mk (blk_below (g := gb256) (o := .cells #[.int .i64 a0_0, .int .i64 a0_1, .int .i64 a0_2] 26 (0, 0)) (by (with_reducible repeat (first | refine blk_drewN ?_ _ | refine blk_drew ?_ | refine blk_alloc ?_ _)); exact BK256.out) hb); have n1_ := Aside0.mk (blk_below (g := gb257) (o := .cells #[.int .i64 a0_0, .int .i64 a0_1, .int .i64 a0_2, .slice A2 l2.length c2, .slice A3 l3.length c3, .int .i64 a4] 55 (0, 0)) (by (with_reducible repeat (first | refine blk_drewN ?_ _ | refine blk_drew ?_ | refine blk_alloc ?_ _)); exact BK257.out) hb); have n2_ := Aside0.mk (below_step (by repeat (first | (with_reducible first | exact HB.out | apply below_alloc | apply pw_below_drewN | apply below_drew1 | refine below_set ?_ GE256.out | refine below_set ?_ GE257.out) | exact HB.out)) hb); clear BK256; clear BK257; clear HB; have BK256 := n0_; have BK257 := n1_; have HB := n2_; clear n0_ n1_ n2_; (try clear hb); (try clear hb2); (try clear hk); (try clear hi)) | (go_at_call 53; (with_reducible refine (impl_allWithin.calls _ _ l3 0 1000 false _ ?side1 ?side2 A11.out).mono ?_); (case side1 => repeat (first | exact (Kd.C_below HR3.out HB.out) | (with_reducible refine Kd.C_alloc ?_ _) | (with_reducible refine Kd.C_drewN ?_ _) | (with_reducible refine Kd.C_drew ?_))); (case side2 => exact HC3.out); rintro e w97 ⟨rfl, hb⟩; have n0_ := Aside0.mk (blk_below (g := gb256) (o := .cells #[.int .i64 a0_0, .int .i64 a0_1, .int .i64 a0_2] 26 (0, 0)) (by (with_reducible repeat (first | refine blk_drewN ?_ _ | refine blk_drew ?_ | refine blk_alloc ?_ _)); exact BK256.out) hb); have n1_ := Aside0.mk (blk_below (g := gb257) (o := .cells #[.int .i64 a0_0, .int .i64 a0_1, .int .i64 a0_2, .slice A2 l2.length c2, .slice A3 l3.length c3, .int .i64 a4] 55 (0, 0)) (by (with_reducible repeat (first | refine blk_drewN ?_ _ | refine blk_drew ?_ | refine blk_alloc ?_ _)); exact BK257.out) hb); have n2_ := Aside0.mk (below_step (by repeat (first | (with_reducible first | exact HB.out | apply below_alloc | apply pw_below_drewN | apply below_drew1 | refine below_set ?_ GE256.out | refine below_set ?_ GE257.out) | exact HB.out)) hb); clear BK256; clear BK257; clear HB; have BK256 := n0_; have BK257 := n1_; have HB := n2_; clear n0_ n1_ n2_; (try clear hb); (try clear hb2); (try clear hk); (try clear hi)))
     go_ret3
     exact ⟨_, by first | rfl | (simp [errW_none, errW_some] <;> rfl) | (simp [*, errW_none, errW_some] <;> rfl), by first | exact Kd.R_nil _ _ _ _ _ | exact Kd.N_nil _ _ _ _ _ | exact Kd.V_nil _ _ _ _ _ | exact Kd.Q_nil _ _ _ _ _ | exact Kd.S_nil _ _ _ _ _, by repeat (first | (with_reducible first | exact HB.out | apply below_alloc | apply pw_below_drewN | apply below_drew1 | refine below_set ?_ GE256.out | refine below_set ?_ GE257.out) | exact HB.out)⟩
   ·rw [if_neg c10] at H
    have c10b0 : ((l3.length : Int) == (l2.length : Int)) = false := beq_eq_false_iff_ne.mpr c10
    have c10b1 : ((l3.length : Int) != (l2.length : Int)) = true := bne_iff_ne.mpr c10
    have c10b2 : (l3.length == l2.length) = false := by first | simpa using c10 | (simp at c10 ⊢; omega)
    simp only [Option.some.injEq, Prod.mk.injEq] at H
    obtain ⟨rfl, rfl, rfl⟩ := H
    go_enter Try.func26, Try.ntmps26
    go_wp2_with (first | ((with_reducible refine gate_dst (N := 5) rfl ?_); (try (refine gate_guard (by rfl) ?_; dsimp only)); refine box_event ?hg (N := 5) ?hd (cs := #[.int .i64 a0_0, .int .i64 a0_1, .int .i64 a0_2]) (t := 26) ?hr ?_; (case hd => rfl); (case hg => rfl); (case hr => first | (go_simp; done) | (go_simp; rfl)); intro gb256 hg w98 hbox hb; have n0_ := Aside0.mk (below_step (by repeat (first | (with_reducible first | exact HB.out | apply below_alloc | apply pw_below_drewN | apply below_drew1) | exact HB.out)) hb); have n1_ := Aside0.mk (hbox); have n2_ := Aside0.mk ((by rw [hg]; exact (below_size (by repeat (first | (with_reducible first | exact HB.out | apply below_alloc | apply pw_below_drewN | apply below_drew1) | exact HB.out))) : w.heap.size ≤ gb256)); have n3_ := Aside0.mk ((by rw [hg]; exact (below_size (by repeat (first | (with_reducible first | exact HB.out | apply below_alloc | apply pw_below_drewN | apply below_drew1) | exact HB.out))) : w.heap.size ≤ gb256)); clear HB; have HB := n0_; have BK256 := n1_; have GW256 := n2_; have GE256 := n3_; clear n0_ n1_ n2_ n3_; clear hb hbox hg; have hcz99_0 : w98.cell? ⟨gb256, 0, none⟩ = some (.int .i64 a0_0) := (blk_cell BK256.out 0).trans rfl; have hcz99_1 : w98.cell? ⟨gb256, 1, none⟩ = some (.int .i64 a0_1) := (blk_cell BK256.out 1).trans rfl; have hcz99_2 : w98.cell? ⟨gb256, 2, none⟩ = some (.int .i64 a0_2) := (blk_cell BK256.out 2).trans rfl; have hfz99_0 := blk_frozen BK256.out 0; have hfz99_1 := blk_frozen BK256.out 1; have hfz99_2 := blk_frozen BK256.out 2) | ((with_reducible refine gate_dst (N := 13) rfl ?_); (try (refine gate_guard (by rfl) ?_; dsimp only)); refine box_event ?hg (N := 13) ?hd (cs := #[.int .i64 0, .int .i64 0, .int .i64 0, .slice none 0 0, .slice none 0 0, .int .i64 0]) (t := 55) ?hr ?_; (case hd => rfl); (case hg => rfl); (case hr => first | (go_simp; done) | (go_simp; rfl)); intro gb257 hg w100 hbox hb; have n0_ := Aside0.mk (blk_below (g := gb256) (o := .cells #[.int .i64 a0_0, .int .i64 a0_1, .int .i64 a0_2] 26 (0, 0)) (by (with_reducible repeat (first | refine blk_drewN ?_ _ | refine blk_drew ?_ | refine blk_alloc ?_ _)); exact BK256.out) hb); have n1_ := Aside0.mk (below_step (by repeat (first | (with_reducible first | exact HB.out | apply below_alloc | apply pw_below_drewN | apply below_drew1 | refine below_set ?_ GE256.out) | exact HB.out)) hb); have n2_ := Aside0.mk (hbox); have n3_ := Aside0.mk ((by rw [hg]; exact (below_size (by repeat (first | (with_reducible first | exact HB.out | apply below_alloc | apply pw_below_drewN | apply below_drew1 | refine below_set ?_ GE256.out) | exact HB.out))) : w.heap.size ≤ gb257)); have n4_ := Aside0.mk ((by rw [hg]; exact (below_size (by repeat (first | (with_reducible first | exact HB.out | apply below_alloc | apply pw_below_drewN | apply below_drew1 | refine below_set ?_ GE256.out) | exact HB.out))) : w.heap.size ≤ gb257)); have n5_ := Aside0.mk ((by rw [hg]; exact Nat.ne_of_lt (blk_lt (g := gb256) (o := .cells #[.int .i64 a0_0, .int .i64 a0_1, .int .i64 a0_2] 26 (0, 0)) (by (with_reducible repeat (first | refine blk_drewN ?_ _ | refine blk_drew ?_ | refine blk_alloc ?_ _)); exact BK256.out)) : gb256 ≠ gb257)); have n6_ := Aside0.mk ((by rw [hg]; exact Nat.ne_of_gt (blk_lt (g := gb256) (o := .cells #[.int .i64 a0_0, .int .i64 a0_1, .int .i64 a0_2] 26 (0, 0)) (by (with_reducible repeat (first | refine blk_drewN ?_ _ | refine blk_drew ?_ | refine blk_alloc ?_ _)); exact BK256.out)) : gb257 ≠ gb256)); clear BK256; clear HB; have BK256 := n0_; have HB := n1_; have BK257 := n2_; have GW257 := n3_; have GE257 := n4_; have NB256_257 := n5_; have NB257_256 := n6_; clear n0_ n1_ n2_ n3_ n4_ n5_ n6_; clear hb hbox hg; have hnb101 := NB257_256.out; have hnc101 := NB256_257.out; have hcz102_0 : w100.cell? ⟨gb257, 0, none⟩ = some (.int .i64 0) := (blk_cell BK257.out 0).trans rfl; have hcz102_1 : w100.cell? ⟨gb257, 1, none⟩ = some (.int .i64 0) := (blk_cell BK257.out 1).trans rfl; have hcz102_2 : w100.cell? ⟨gb257, 2, none⟩ = some (.int .i64 0) := (blk_cell BK257.out 2).trans rfl; have hcz102_3 : w100.cell? ⟨gb257, 3, none⟩ = some (.slice none 0 0) := (blk_cell BK257.out 3).trans rfl; have hcz102_4 : w100.cell? ⟨gb257, 4, none⟩ = some (.slice none 0 0) := (blk_cell BK257.out 4).trans rfl; have hcz102_5 : w100.cell? ⟨gb257, 5, none⟩ = some (.int .i64 0) := (blk_cell BK257.out 5).trans rfl; have hfz102_0 := blk_frozen BK257.out 0; have hfz102_1 := blk_frozen BK257.out 1; have hfz102_2 := blk_frozen BK257.out 2; have hfz102_3 := blk_frozen BK257.out 3; have hfz102_4 := blk_frozen BK257.out 4; have hfz102_5 := blk_frozen BK257.out 5; have hcz103_0 : w100.cell? ⟨gb256, 0, none⟩ = some (.int .i64 a0_0) := (blk_cell BK256.out 0).trans rfl; have hcz103_1 : w100.cell? ⟨gb256, 1, none⟩ = some (.int .i64 a0_1) := (blk_cell BK256.out 1).trans rfl; have hcz103_2 : w100.cell? ⟨gb256, 2, none⟩ = some (.int .i64 a0_2) := (blk_cell BK256.out 2).trans rfl; have hfz103_0 := blk_frozen BK256.out 0; have hfz103_1 := blk_frozen BK256.out 1; have hfz103_2 := blk_frozen BK256.out 2) | ((with_reducible refine gate_callee (f := 40) rfl ?_); refine goesL_ (some 29) rfl rfl Try.func40 (by kernel_rfl) rfl #[.agg #[.int .i64 a0_0, .int .i64 a0_1, .int .i64 a0_2]] rfl (by (try simp only [List.map_toArray, List.map_cons, List.map_nil]); first | done | rfl | (simp only [List.length_drop, List.length_take]; rfl)) ?_; (with_reducible refine (impl_ValidTank.calls a0_0 a0_1 a0_2 true _ A6.out).mono ?_); rintro e w104 ⟨rfl, hb⟩; refine ⟨_, rfl, ?_⟩; have n0_ := Aside0.mk (blk_below (g := gb256) (o := .cells #[.int .i64 a0_0, .int .i64 a0_1, .int .i64 a0_2] 26 (0, 0)) (by (with_reducible repeat (first | refine blk_drewN ?_ _ | refine blk_drew ?_ | refine blk_alloc ?_ _)); refine blk_far ?_ NB256_257.out _; (with_reducible repeat (first | refine blk_drewN ?_ _ | refine blk_drew ?_ | refine blk_alloc ?_ _)); refine blk_far ?_ NB256_257.out _; (with_reducible repeat (first | refine blk_drewN ?_ _ | refine blk_drew ?_ | refine blk_alloc ?_ _)); refine blk_far ?_ NB256_257.out _; (with_reducible repeat (first | refine blk_drewN ?_ _ | refine blk_drew ?_ | refine blk_alloc ?_ _)); refine blk_far ?_ NB256_257.out _; (with_reducible repeat (first | refine blk_drewN ?_ _ | refine blk_drew ?_ | refine blk_alloc ?_ _)); refine blk_far ?_ NB256_257.out _; (with_reducible repeat (first | refine blk_drewN ?_ _ | refine blk_drew ?_ | refine blk_alloc ?_ _)); refine blk_far ?_ NB256_257.out _; (with_reducible repeat (first | refine blk_drewN ?_ _ | refine blk_drew ?_ | refine blk_alloc ?_ _)); exact BK256.out) hb); have n1_ := Aside0.mk (blk_below (g := gb257) (o := .cells #[.int .i64 a0_0, .int .i64 a0_1, .int .i64 a0_2, .slice A2 l2.length c2, .slice A3 l3.length c3, .int .i64 a4] 55 (0, 0)) (by (with_reducible repeat (first | refine blk_drewN ?_ _ | refine blk_drew ?_ | refine blk_alloc ?_ _)); refine blk_put (cs := #[.int .i64 a0_0, .int .i64 a0_1, .int .i64 a0_2, .slice A2 l2.length c2, .slice A3 l3.length c3, .int .i64 0]) ?_ 5 _ rfl; (with_reducible repeat (first | refine blk_drewN ?_ _ | refine blk_drew ?_ | refine blk_alloc ?_ _)); refine blk_put (cs := #[.int .i64 a0_0, .int .i64 a0_1, .int .i64 a0_2, .slice A2 l2.length c2, .slice none 0 0, .int .i64 0]) ?_ 4 _ rfl; (with_reducible repeat (first | refine blk_drewN ?_ _ | refine blk_drew ?_ | refine blk_alloc ?_ _)); refine blk_put (cs := #[.int .i64 a0_0, .int .i64 a0_1, .int .i64 a0_2, .slice none 0 0, .slice none 0 0, .int .i64 0]) ?_ 3 _ rfl; (with_reducible repeat (first | refine blk_drewN ?_ _ | refine blk_drew ?_ | refine blk_alloc ?_ _)); refine blk_put (cs := #[.int .i64 a0_0, .int .i64 a0_1, .int .i64 0, .slice none 0 0, .slice none 0 0, .int .i64 0]) ?_ 2 _ rfl; (with_reducible repeat (first | refine blk_drewN ?_ _ | refine blk_drew ?_ | refine blk_alloc ?_ _)); refine blk_put (cs := #[.int .i64 a0_0, .int .i64 0, .int .i64 0, .slice none 0 0, .slice none 0 0, .int .i64 0]) ?_ 1 _ rfl; (with_reducible repeat (first | refine blk_drewN ?_ _ | refine blk_drew ?_ | refine blk_alloc ?_ _)); refine blk_put (cs := #[.int .i64 0, .int .i64 0, .int .i64 0, .slice none 0 0, .slice none 0 0, .int .i64 0]) ?_ 0 _ rfl; (with_reducible repeat (first | refine blk_drewN ?_ _ | refine blk_drew ?_ | refine blk_alloc ?_ _)); exact BK257.out) hb); have n2_ := Aside0.mk (below_step (by repeat (first | (with_reducible first | exact HB.out | apply below_alloc | apply pw_below_drewN | apply below_drew1 | refine below_set ?_ GE256.out | refine below_set ?_ GE257.out) | exact HB.out)) hb); clear BK256; clear BK257; clear HB; have BK256 := n0_; have BK257 := n1_; have HB := n2_; clear n0_ n1_ n2_; (try clear hb); (try clear hb2); (try clear hk); (try clear hi); have hcz105_0 : w104.cell? ⟨gb257, 0, none⟩ = some (.int .i64 a0_0) := (blk_cell BK257.out 0).trans rfl; have hcz105_1 : w104.cell? ⟨gb257, 1, none⟩ = some (.int .i64 a0_1) := (blk_cell BK257.out 1).trans rfl; have hcz105_2 : w104.cell? ⟨gb257, 2, none⟩ = some (.int .i64 a0_2) := (blk_cell BK257.out 2).trans rfl; have hcz105_3 : w104.cell? ⟨gb257, 3, none⟩ = some (.slice A2 l2.length c2) := (blk_cell BK257.out 3).trans rfl; have hcz105_4 : w104.cell? ⟨gb257, 4, none⟩ = some (.slice A3 l3.length c3) := (blk_cell BK257.out 4).trans rfl; have hcz105_5 : w104.cell? ⟨gb257, 5, none⟩ = some (.int .i64 a4) := (blk_cell BK257.out 5).trans rfl; have hfz105_0 := blk_frozen BK257.out 0; have hfz105_1 := blk_frozen BK257.out 1; have hfz105_2 := blk_frozen BK257.out 2; have hfz105_3 := blk_frozen BK257.out 3; have hfz105_4 := blk_frozen BK257.out 4; have hfz105_5 := blk_frozen BK257.out 5) | ((with_reducible refine gate_callee (f := 37) rfl ?_); refine goesL_ (some 34) rfl rfl Try.func37 (by kernel_rfl) rfl #[.agg #[.int .i64 a0_0, .int .i64 a0_1, .int .i64 a0_2, .slice A2 l2.length c2, .slice A3 l3.length c3, .int .i64 a4], .int .i64 a1] rfl (by (try simp only [List.map_toArray, List.map_cons, List.map_nil]); first | done | rfl | (simp only [List.length_drop, List.length_take]; rfl)) ?_; (with_reducible refine (impl_charging_ok.calls a0_0 a0_1 a0_2 _ _ l2 _ _ l3 a4 a1 true _ ?side1 ?side2 ?side3 ?side4 A8.out).mono ?_); (case side1 => repeat (first | exact (Kd.C_below HR2.out HB.out) | (with_reducible refine Kd.C_alloc ?_ _) | (with_reducible refine Kd.C_drewN ?_ _) | (with_reducible refine Kd.C_drew ?_))); (case side2 => exact HC2.out); (case side3 => repeat (first | exact (Kd.C_below HR3.out HB.out) | (with_reducible refine Kd.C_alloc ?_ _) | (with_reducible refine Kd.C_drewN ?_ _) | (with_reducible refine Kd.C_drew ?_))); (case side4 => exact HC3.out); rintro e w106 ⟨rfl, hb⟩; refine ⟨_, rfl, ?_⟩; have n0_ := Aside0.mk (blk_below (g := gb256) (o := .cells #[.int .i64 a0_0, .int .i64 a0_1, .int .i64 a0_2] 26 (0, 0)) (by (with_reducible repeat (first | refine blk_drewN ?_ _ | refine blk_drew ?_ | refine blk_alloc ?_ _)); exact BK256.out) hb); have n1_ := Aside0.mk (blk_below (g := gb257) (o := .cells #[.int .i64 a0_0, .int .i64 a0_1, .int .i64 a0_2, .slice A2 l2.length c2, .slice A3 l3.length c3, .int .i64 a4] 55 (0, 0)) (by (with_reducible repeat (first | refine blk_drewN ?_ _ | refine blk_drew ?_ | refine blk_alloc ?_ _)); exact BK257.out) hb); have n2_ := Aside0.mk (below_step (by repeat (first | (with_reducible first | exact HB.out | apply below_alloc | apply pw_below_drewN | apply below_drew1 | refine below_set ?_ GE256.out | refine below_set ?_ GE257.out) | exact HB.out)) hb); clear BK256; clear BK257; clear HB; have BK256 := n0_; have BK257 := n1_; have HB := n2_; clear n0_ n1_ n2_; (try clear hb); (try clear hb2); (try clear hk); (try clear hi)))
    go_ret3
    exact ⟨_, by first | rfl | (simp [errW_none, errW_some] <;> rfl) | (simp [*, errW_none, errW_some] <;> rfl), by first | exact Kd.R_nil _ _ _ _ _ | exact Kd.N_nil _ _ _ _ _ | exact Kd.V_nil _ _ _ _ _ | exact Kd.Q_nil _ _ _ _ _ | exact Kd.S_nil _ _ _ _ _, by repeat (first | (with_reducible first | exact HB.out | apply below_alloc | apply pw_below_drewN | apply below_drew1 | refine below_set ?_ GE256.out | refine below_set ?_ GE257.out) | exact HB.out)⟩
  ·replace c9 := Bool.eq_false_iff.mpr c9
   subst c9
   have H1 : (some (([] : List Int), 0, 2)) = some (r1, r2, r3) := by rw [if_neg (show ¬ (false = true) by decide)] at H; exact H
   clear H
   have H := H1
   clear H1
   simp only [Option.some.injEq, Prod.mk.injEq] at H
   obtain ⟨rfl, rfl, rfl⟩ := H
   go_enter Try.func26, Try.ntmps26
   go_wp2_with (first | ((with_reducible refine gate_dst (N := 5) rfl ?_); (try (refine gate_guard (by rfl) ?_; dsimp only)); refine box_event ?hg (N := 5) ?hd (cs := #[.int .i64 a0_0, .int .i64 a0_1, .int .i64 a0_2]) (t := 26) ?hr ?_; (case hd => rfl); (case hg => rfl); (case hr => first | (go_simp; done) | (go_simp; rfl)); intro gb256 hg w107 hbox hb; have n0_ := Aside0.mk (below_step (by repeat (first | (with_reducible first | exact HB.out | apply below_alloc | apply pw_below_drewN | apply below_drew1) | exact HB.out)) hb); have n1_ := Aside0.mk (hbox); have n2_ := Aside0.mk ((by rw [hg]; exact (below_size (by repeat (first | (with_reducible first | exact HB.out | apply below_alloc | apply pw_below_drewN | apply below_drew1) | exact HB.out))) : w.heap.size ≤ gb256)); have n3_ := Aside0.mk ((by rw [hg]; exact (below_size (by repeat (first | (with_reducible first | exact HB.out | apply below_alloc | apply pw_below_drewN | apply below_drew1) | exact HB.out))) : w.heap.size ≤ gb256)); clear HB; have HB := n0_; have BK256 := n1_; have GW256 := n2_; have GE256 := n3_; clear n0_ n1_ n2_ n3_; clear hb hbox hg; have hcz108_0 : w107.cell? ⟨gb256, 0, none⟩ = some (.int .i64 a0_0) := (blk_cell BK256.out 0).trans rfl; have hcz108_1 : w107.cell? ⟨gb256, 1, none⟩ = some (.int .i64 a0_1) := (blk_cell BK256.out 1).trans rfl; have hcz108_2 : w107.cell? ⟨gb256, 2, none⟩ = some (.int .i64 a0_2) := (blk_cell BK256.out 2).trans rfl; have hfz108_0 := blk_frozen BK256.out 0; have hfz108_1 := blk_frozen BK256.out 1; have hfz108_2 := blk_frozen BK256.out 2) | ((with_reducible refine gate_dst (N := 13) rfl ?_); (try (refine gate_guard (by rfl) ?_; dsimp only)); refine box_event ?hg (N := 13) ?hd (cs := #[.int .i64 0, .int .i64 0, .int .i64 0, .slice none 0 0, .slice none 0 0, .int .i64 0]) (t := 55) ?hr ?_; (case hd => rfl); (case hg => rfl); (case hr => first | (go_simp; done) | (go_simp; rfl)); intro gb257 hg w109 hbox hb; have n0_ := Aside0.mk (blk_below (g := gb256) (o := .cells #[.int .i64 a0_0, .int .i64 a0_1, .int .i64 a0_2] 26 (0, 0)) (by (with_reducible repeat (first | refine blk_drewN ?_ _ | refine blk_drew ?_ | refine blk_alloc ?_ _)); exact BK256.out) hb); have n1_ := Aside0.mk (below_step (by repeat (first | (with_reducible first | exact HB.out | apply below_alloc | apply pw_below_drewN | apply below_drew1 | refine below_set ?_ GE256.out) | exact HB.out)) hb); have n2_ := Aside0.mk (hbox); have n3_ := Aside0.mk ((by rw [hg]; exact (below_size (by repeat (first | (with_reducible first | exact HB.out | apply below_alloc | apply pw_below_drewN | apply below_drew1 | refine below_set ?_ GE256.out) | exact HB.out))) : w.heap.size ≤ gb257)); have n4_ := Aside0.mk ((by rw [hg]; exact (below_size (by repeat (first | (with_reducible first | exact HB.out | apply below_alloc | apply pw_below_drewN | apply below_drew1 | refine below_set ?_ GE256.out) | exact HB.out))) : w.heap.size ≤ gb257)); have n5_ := Aside0.mk ((by rw [hg]; exact Nat.ne_of_lt (blk_lt (g := gb256) (o := .cells #[.int .i64 a0_0, .int .i64 a0_1, .int .i64 a0_2] 26 (0, 0)) (by (with_reducible repeat (first | refine blk_drewN ?_ _ | refine blk_drew ?_ | refine blk_alloc ?_ _)); exact BK256.out)) : gb256 ≠ gb257)); have n6_ := Aside0.mk ((by rw [hg]; exact Nat.ne_of_gt (blk_lt (g := gb256) (o := .cells #[.int .i64 a0_0, .int .i64 a0_1, .int .i64 a0_2] 26 (0, 0)) (by (with_reducible repeat (first | refine blk_drewN ?_ _ | refine blk_drew ?_ | refine blk_alloc ?_ _)); exact BK256.out)) : gb257 ≠ gb256)); clear BK256; clear HB; have BK256 := n0_; have HB := n1_; have BK257 := n2_; have GW257 := n3_; have GE257 := n4_; have NB256_257 := n5_; have NB257_256 := n6_; clear n0_ n1_ n2_ n3_ n4_ n5_ n6_; clear hb hbox hg; have hnb110 := NB257_256.out; have hnc110 := NB256_257.out; have hcz111_0 : w109.cell? ⟨gb257, 0, none⟩ = some (.int .i64 0) := (blk_cell BK257.out 0).trans rfl; have hcz111_1 : w109.cell? ⟨gb257, 1, none⟩ = some (.int .i64 0) := (blk_cell BK257.out 1).trans rfl; have hcz111_2 : w109.cell? ⟨gb257, 2, none⟩ = some (.int .i64 0) := (blk_cell BK257.out 2).trans rfl; have hcz111_3 : w109.cell? ⟨gb257, 3, none⟩ = some (.slice none 0 0) := (blk_cell BK257.out 3).trans rfl; have hcz111_4 : w109.cell? ⟨gb257, 4, none⟩ = some (.slice none 0 0) := (blk_cell BK257.out 4).trans rfl; have hcz111_5 : w109.cell? ⟨gb257, 5, none⟩ = some (.int .i64 0) := (blk_cell BK257.out 5).trans rfl; have hfz111_0 := blk_frozen BK257.out 0; have hfz111_1 := blk_frozen BK257.out 1; have hfz111_2 := blk_frozen BK257.out 2; have hfz111_3 := blk_frozen BK257.out 3; have hfz111_4 := blk_frozen BK257.out 4; have hfz111_5 := blk_frozen BK257.out 5; have hcz112_0 : w109.cell? ⟨gb256, 0, none⟩ = some (.int .i64 a0_0) := (blk_cell BK256.out 0).trans rfl; have hcz112_1 : w109.cell? ⟨gb256, 1, none⟩ = some (.int .i64 a0_1) := (blk_cell BK256.out 1).trans rfl; have hcz112_2 : w109.cell? ⟨gb256, 2, none⟩ = some (.int .i64 a0_2) := (blk_cell BK256.out 2).trans rfl; have hfz112_0 := blk_frozen BK256.out 0; have hfz112_1 := blk_frozen BK256.out 1; have hfz112_2 := blk_frozen BK256.out 2) | ((with_reducible refine gate_callee (f := 40) rfl ?_); refine goesL_ (some 29) rfl rfl Try.func40 (by kernel_rfl) rfl #[.agg #[.int .i64 a0_0, .int .i64 a0_1, .int .i64 a0_2]] rfl (by (try simp only [List.map_toArray, List.map_cons, List.map_nil]); first | done | rfl | (simp only [List.length_drop, List.length_take]; rfl)) ?_; (with_reducible refine (impl_ValidTank.calls a0_0 a0_1 a0_2 true _ A6.out).mono ?_); rintro e w113 ⟨rfl, hb⟩; refine ⟨_, rfl, ?_⟩; have n0_ := Aside0.mk (blk_below (g := gb256) (o := .cells #[.int .i64 a0_0, .int .i64 a0_1, .int .i64 a0_2] 26 (0, 0)) (by (with_reducible repeat (first | refine blk_drewN ?_ _ | refine blk_drew ?_ | refine blk_alloc ?_ _)); refine blk_far ?_ NB256_257.out _; (with_reducible repeat (first | refine blk_drewN ?_ _ | refine blk_drew ?_ | refine blk_alloc ?_ _)); refine blk_far ?_ NB256_257.out _; (with_reducible repeat (first | refine blk_drewN ?_ _ | refine blk_drew ?_ | refine blk_alloc ?_ _)); refine blk_far ?_ NB256_257.out _; (with_reducible repeat (first | refine blk_drewN ?_ _ | refine blk_drew ?_ | refine blk_alloc ?_ _)); refine blk_far ?_ NB256_257.out _; (with_reducible repeat (first | refine blk_drewN ?_ _ | refine blk_drew ?_ | refine blk_alloc ?_ _)); refine blk_far ?_ NB256_257.out _; (with_reducible repeat (first | refine blk_drewN ?_ _ | refine blk_drew ?_ | refine blk_alloc ?_ _)); refine blk_far ?_ NB256_257.out _; (with_reducible repeat (first | refine blk_drewN ?_ _ | refine blk_drew ?_ | refine blk_alloc ?_ _)); exact BK256.out) hb); have n1_ := Aside0.mk (blk_below (g := gb257) (o := .cells #[.int .i64 a0_0, .int .i64 a0_1, .int .i64 a0_2, .slice A2 l2.length c2, .slice A3 l3.length c3, .int .i64 a4] 55 (0, 0)) (by (with_reducible repeat (first | refine blk_drewN ?_ _ | refine blk_drew ?_ | refine blk_alloc ?_ _)); refine blk_put (cs := #[.int .i64 a0_0, .int .i64 a0_1, .int .i64 a0_2, .slice A2 l2.length c2, .slice A3 l3.length c3, .int .i64 0]) ?_ 5 _ rfl; (with_reducible repeat (first | refine blk_drewN ?_ _ | refine blk_drew ?_ | refine blk_alloc ?_ _)); refine blk_put (cs := #[.int .i64 a0_0, .int .i64 a0_1, .int .i64 a0_2, .slice A2 l2.length c2, .slice none 0 0, .int .i64 0]) ?_ 4 _ rfl; (with_reducible repeat (first | refine blk_drewN ?_ _ | refine blk_drew ?_ | refine blk_alloc ?_ _)); refine blk_put (cs := #[.int .i64 a0_0, .int .i64 a0_1, .int .i64 a0_2, .slice none 0 0, .slice none 0 0, .int .i64 0]) ?_ 3 _ rfl; (with_reducible repeat (first | refine blk_drewN ?_ _ | refine blk_drew ?_ | refine blk_alloc ?_ _)); refine blk_put (cs := #[.int .i64 a0_0, .int .i64 a0_1, .int .i64 0, .slice none 0 0, .slice none 0 0, .int .i64 0]) ?_ 2 _ rfl; (with_reducible repeat (first | refine blk_drewN ?_ _ | refine blk_drew ?_ | refine blk_alloc ?_ _)); refine blk_put (cs := #[.int .i64 a0_0, .int .i64 0, .int .i64 0, .slice none 0 0, .slice none 0 0, .int .i64 0]) ?_ 1 _ rfl; (with_reducible repeat (first | refine blk_drewN ?_ _ | refine blk_drew ?_ | refine blk_alloc ?_ _)); refine blk_put (cs := #[.int .i64 0, .int .i64 0, .int .i64 0, .slice none 0 0, .slice none 0 0, .int .i64 0]) ?_ 0 _ rfl; (with_reducible repeat (first | refine blk_drewN ?_ _ | refine blk_drew ?_ | refine blk_alloc ?_ _)); exact BK257.out) hb); have n2_ := Aside0.mk (below_step (by repeat (first | (with_reducible first | exact HB.out | apply below_alloc | apply pw_below_drewN | apply below_drew1 | refine below_set ?_ GE256.out | refine below_set ?_ GE257.out) | exact HB.out)) hb); clear BK256; clear BK257; clear HB; have BK256 := n0_; have BK257 := n1_; have HB := n2_; clear n0_ n1_ n2_; (try clear hb); (try clear hb2); (try clear hk); (try clear hi); have hcz114_0 : w113.cell? ⟨gb257, 0, none⟩ = some (.int .i64 a0_0) := (blk_cell BK257.out 0).trans rfl; have hcz114_1 : w113.cell? ⟨gb257, 1, none⟩ = some (.int .i64 a0_1) := (blk_cell BK257.out 1).trans rfl; have hcz114_2 : w113.cell? ⟨gb257, 2, none⟩ = some (.int .i64 a0_2) := (blk_cell BK257.out 2).trans rfl; have hcz114_3 : w113.cell? ⟨gb257, 3, none⟩ = some (.slice A2 l2.length c2) := (blk_cell BK257.out 3).trans rfl; have hcz114_4 : w113.cell? ⟨gb257, 4, none⟩ = some (.slice A3 l3.length c3) := (blk_cell BK257.out 4).trans rfl; have hcz114_5 : w113.cell? ⟨gb257, 5, none⟩ = some (.int .i64 a4) := (blk_cell BK257.out 5).trans rfl; have hfz114_0 := blk_frozen BK257.out 0; have hfz114_1 := blk_frozen BK257.out 1; have hfz114_2 := blk_frozen BK257.out 2; have hfz114_3 := blk_frozen BK257.out 3; have hfz114_4 := blk_frozen BK257.out 4; have hfz114_5 := blk_frozen BK257.out 5) | ((with_reducible refine gate_callee (f := 37) rfl ?_); refine goesL_ (some 34) rfl rfl Try.func37 (by kernel_rfl) rfl #[.agg #[.int .i64 a0_0, .int .i64 a0_1, .int .i64 a0_2, .slice A2 l2.length c2, .slice A3 l3.length c3, .int .i64 a4], .int .i64 a1] rfl (by (try simp only [List.map_toArray, List.map_cons, List.map_nil]); first | done | rfl | (simp only [List.length_drop, List.length_take]; rfl)) ?_; (with_reducible refine (impl_charging_ok.calls a0_0 a0_1 a0_2 _ _ l2 _ _ l3 a4 a1 false _ ?side1 ?side2 ?side3 ?side4 A8.out).mono ?_); (case side1 => repeat (first | exact (Kd.C_below HR2.out HB.out) | (with_reducible refine Kd.C_alloc ?_ _) | (with_reducible refine Kd.C_drewN ?_ _) | (with_reducible refine Kd.C_drew ?_))); (case side2 => exact HC2.out); (case side3 => repeat (first | exact (Kd.C_below HR3.out HB.out) | (with_reducible refine Kd.C_alloc ?_ _) | (with_reducible refine Kd.C_drewN ?_ _) | (with_reducible refine Kd.C_drew ?_))); (case side4 => exact HC3.out); rintro e w115 ⟨rfl, hb⟩; refine ⟨_, rfl, ?_⟩; have n0_ := Aside0.mk (blk_below (g := gb256) (o := .cells #[.int .i64 a0_0, .int .i64 a0_1, .int .i64 a0_2] 26 (0, 0)) (by (with_reducible repeat (first | refine blk_drewN ?_ _ | refine blk_drew ?_ | refine blk_alloc ?_ _)); exact BK256.out) hb); have n1_ := Aside0.mk (blk_below (g := gb257) (o := .cells #[.int .i64 a0_0, .int .i64 a0_1, .int .i64 a0_2, .slice A2 l2.length c2, .slice A3 l3.length c3, .int .i64 a4] 55 (0, 0)) (by (with_reducible repeat (first | refine blk_drewN ?_ _ | refine blk_drew ?_ | refine blk_alloc ?_ _)); exact BK257.out) hb); have n2_ := Aside0.mk (below_step (by repeat (first | (with_reducible first | exact HB.out | apply below_alloc | apply pw_below_drewN | apply below_drew1 | refine below_set ?_ GE256.out | refine below_set ?_ GE257.out) | exact HB.out)) hb); clear BK256; clear BK257; clear HB; have BK256 := n0_; have BK257 := n1_; have HB := n2_; clear n0_ n1_ n2_; (try clear hb); (try clear hb2); (try clear hk); (try clear hi)))
   go_ret3
   exact ⟨_, by first | rfl | (simp [errW_none, errW_some] <;> rfl) | (simp [*, errW_none, errW_some] <;> rfl), by first | exact Kd.R_nil _ _ _ _ _ | exact Kd.N_nil _ _ _ _ _ | exact Kd.V_nil _ _ _ _ _ | exact Kd.Q_nil _ _ _ _ _ | exact Kd.S_nil _ _ _ _ _, by repeat (first | (with_reducible first | exact HB.out | apply below_alloc | apply pw_below_drewN | apply below_drew1 | refine below_set ?_ GE256.out | refine below_set ?_ GE257.out) | exact HB.out)⟩
 ·replace c7 := Bool.eq_false_iff.mpr c7
  subst c7
  have H1 : (some (([] : List Int), 0, 1)) = some (r1, r2, r3) := by rw [if_neg (show ¬ (false = true) by decide)] at H; exact H
  clear H
  have H := H1
  clear H1
  simp only [Option.some.injEq, Prod.mk.injEq] at H
  obtain ⟨rfl, rfl, rfl⟩ := H
  go_enter Try.func26, Try.ntmps26
  go_wp2_with (first | ((with_reducible refine gate_dst (N := 5) rfl ?_); (try (refine gate_guard (by rfl) ?_; dsimp only)); refine box_event ?hg (N := 5) ?hd (cs := #[.int .i64 a0_0, .int .i64 a0_1, .int .i64 a0_2]) (t := 26) ?hr ?_; (case hd => rfl); (case hg => rfl); (case hr => first | (go_simp; done) | (go_simp; rfl)); intro gb256 hg w116 hbox hb; have n0_ := Aside0.mk (below_step (by repeat (first | (with_reducible first | exact HB.out | apply below_alloc | apply pw_below_drewN | apply below_drew1) | exact HB.out)) hb); have n1_ := Aside0.mk (hbox); have n2_ := Aside0.mk ((by rw [hg]; exact (below_size (by repeat (first | (with_reducible first | exact HB.out | apply below_alloc | apply pw_below_drewN | apply below_drew1) | exact HB.out))) : w.heap.size ≤ gb256)); have n3_ := Aside0.mk ((by rw [hg]; exact (below_size (by repeat (first | (with_reducible first | exact HB.out | apply below_alloc | apply pw_below_drewN | apply below_drew1) | exact HB.out))) : w.heap.size ≤ gb256)); clear HB; have HB := n0_; have BK256 := n1_; have GW256 := n2_; have GE256 := n3_; clear n0_ n1_ n2_ n3_; clear hb hbox hg; have hcz117_0 : w116.cell? ⟨gb256, 0, none⟩ = some (.int .i64 a0_0) := (blk_cell BK256.out 0).trans rfl; have hcz117_1 : w116.cell? ⟨gb256, 1, none⟩ = some (.int .i64 a0_1) := (blk_cell BK256.out 1).trans rfl; have hcz117_2 : w116.cell? ⟨gb256, 2, none⟩ = some (.int .i64 a0_2) := (blk_cell BK256.out 2).trans rfl; have hfz117_0 := blk_frozen BK256.out 0; have hfz117_1 := blk_frozen BK256.out 1; have hfz117_2 := blk_frozen BK256.out 2) | ((with_reducible refine gate_dst (N := 13) rfl ?_); (try (refine gate_guard (by rfl) ?_; dsimp only)); refine box_event ?hg (N := 13) ?hd (cs := #[.int .i64 0, .int .i64 0, .int .i64 0, .slice none 0 0, .slice none 0 0, .int .i64 0]) (t := 55) ?hr ?_; (case hd => rfl); (case hg => rfl); (case hr => first | (go_simp; done) | (go_simp; rfl)); intro gb257 hg w118 hbox hb; have n0_ := Aside0.mk (blk_below (g := gb256) (o := .cells #[.int .i64 a0_0, .int .i64 a0_1, .int .i64 a0_2] 26 (0, 0)) (by (with_reducible repeat (first | refine blk_drewN ?_ _ | refine blk_drew ?_ | refine blk_alloc ?_ _)); exact BK256.out) hb); have n1_ := Aside0.mk (below_step (by repeat (first | (with_reducible first | exact HB.out | apply below_alloc | apply pw_below_drewN | apply below_drew1 | refine below_set ?_ GE256.out) | exact HB.out)) hb); have n2_ := Aside0.mk (hbox); have n3_ := Aside0.mk ((by rw [hg]; exact (below_size (by repeat (first | (with_reducible first | exact HB.out | apply below_alloc | apply pw_below_drewN | apply below_drew1 | refine below_set ?_ GE256.out) | exact HB.out))) : w.heap.size ≤ gb257)); have n4_ := Aside0.mk ((by rw [hg]; exact (below_size (by repeat (first | (with_reducible first | exact HB.out | apply below_alloc | apply pw_below_drewN | apply below_drew1 | refine below_set ?_ GE256.out) | exact HB.out))) : w.heap.size ≤ gb257)); have n5_ := Aside0.mk ((by rw [hg]; exact Nat.ne_of_lt (blk_lt (g := gb256) (o := .cells #[.int .i64 a0_0, .int .i64 a0_1, .int .i64 a0_2] 26 (0, 0)) (by (with_reducible repeat (first | refine blk_drewN ?_ _ | refine blk_drew ?_ | refine blk_alloc ?_ _)); exact BK256.out)) : gb256 ≠ gb257)); have n6_ := Aside0.mk ((by rw [hg]; exact Nat.ne_of_gt (blk_lt (g := gb256) (o := .cells #[.int .i64 a0_0, .int .i64 a0_1, .int .i64 a0_2] 26 (0, 0)) (by (with_reducible repeat (first | refine blk_drewN ?_ _ | refine blk_drew ?_ | refine blk_alloc ?_ _)); exact BK256.out)) : gb257 ≠ gb256)); clear BK256; clear HB; have BK256 := n0_; have HB := n1_; have BK257 := n2_; have GW257 := n3_; have GE257 := n4_; have NB256_257 := n5_; have NB257_256 := n6_; clear n0_ n1_ n2_ n3_ n4_ n5_ n6_; clear hb hbox hg; have hnb119 := NB257_256.out; have hnc119 := NB256_257.out; have hcz120_0 : w118.cell? ⟨gb257, 0, none⟩ = some (.int .i64 0) := (blk_cell BK257.out 0).trans rfl; have hcz120_1 : w118.cell? ⟨gb257, 1, none⟩ = some (.int .i64 0) := (blk_cell BK257.out 1).trans rfl; have hcz120_2 : w118.cell? ⟨gb257, 2, none⟩ = some (.int .i64 0) := (blk_cell BK257.out 2).trans rfl; have hcz120_3 : w118.cell? ⟨gb257, 3, none⟩ = some (.slice none 0 0) := (blk_cell BK257.out 3).trans rfl; have hcz120_4 : w118.cell? ⟨gb257, 4, none⟩ = some (.slice none 0 0) := (blk_cell BK257.out 4).trans rfl; have hcz120_5 : w118.cell? ⟨gb257, 5, none⟩ = some (.int .i64 0) := (blk_cell BK257.out 5).trans rfl; have hfz120_0 := blk_frozen BK257.out 0; have hfz120_1 := blk_frozen BK257.out 1; have hfz120_2 := blk_frozen BK257.out 2; have hfz120_3 := blk_frozen BK257.out 3; have hfz120_4 := blk_frozen BK257.out 4; have hfz120_5 := blk_frozen BK257.out 5; have hcz121_0 : w118.cell? ⟨gb256, 0, none⟩ = some (.int .i64 a0_0) := (blk_cell BK256.out 0).trans rfl; have hcz121_1 : w118.cell? ⟨gb256, 1, none⟩ = some (.int .i64 a0_1) := (blk_cell BK256.out 1).trans rfl; have hcz121_2 : w118.cell? ⟨gb256, 2, none⟩ = some (.int .i64 a0_2) := (blk_cell BK256.out 2).trans rfl; have hfz121_0 := blk_frozen BK256.out 0; have hfz121_1 := blk_frozen BK256.out 1; have hfz121_2 := blk_frozen BK256.out 2) | ((with_reducible refine gate_callee (f := 40) rfl ?_); refine goesL_ (some 29) rfl rfl Try.func40 (by kernel_rfl) rfl #[.agg #[.int .i64 a0_0, .int .i64 a0_1, .int .i64 a0_2]] rfl (by (try simp only [List.map_toArray, List.map_cons, List.map_nil]); first | done | rfl | (simp only [List.length_drop, List.length_take]; rfl)) ?_; (with_reducible refine (impl_ValidTank.calls a0_0 a0_1 a0_2 false _ A6.out).mono ?_); rintro e w122 ⟨rfl, hb⟩; refine ⟨_, rfl, ?_⟩; have n0_ := Aside0.mk (blk_below (g := gb256) (o := .cells #[.int .i64 a0_0, .int .i64 a0_1, .int .i64 a0_2] 26 (0, 0)) (by (with_reducible repeat (first | refine blk_drewN ?_ _ | refine blk_drew ?_ | refine blk_alloc ?_ _)); refine blk_far ?_ NB256_257.out _; (with_reducible repeat (first | refine blk_drewN ?_ _ | refine blk_drew ?_ | refine blk_alloc ?_ _)); refine blk_far ?_ NB256_257.out _; (with_reducible repeat (first | refine blk_drewN ?_ _ | refine blk_drew ?_ | refine blk_alloc ?_ _)); refine blk_far ?_ NB256_257.out _; (with_reducible repeat (first | refine blk_drewN ?_ _ | refine blk_drew ?_ | refine blk_alloc ?_ _)); refine blk_far ?_ NB256_257.out _; (with_reducible repeat (first | refine blk_drewN ?_ _ | refine blk_drew ?_ | refine blk_alloc ?_ _)); refine blk_far ?_ NB256_257.out _; (with_reducible repeat (first | refine blk_drewN ?_ _ | refine blk_drew ?_ | refine blk_alloc ?_ _)); refine blk_far ?_ NB256_257.out _; (with_reducible repeat (first | refine blk_drewN ?_ _ | refine blk_drew ?_ | refine blk_alloc ?_ _)); exact BK256.out) hb); have n1_ := Aside0.mk (blk_below (g := gb257) (o := .cells #[.int .i64 a0_0, .int .i64 a0_1, .int .i64 a0_2, .slice A2 l2.length c2, .slice A3 l3.length c3, .int .i64 a4] 55 (0, 0)) (by (with_reducible repeat (first | refine blk_drewN ?_ _ | refine blk_drew ?_ | refine blk_alloc ?_ _)); refine blk_put (cs := #[.int .i64 a0_0, .int .i64 a0_1, .int .i64 a0_2, .slice A2 l2.length c2, .slice A3 l3.length c3, .int .i64 0]) ?_ 5 _ rfl; (with_reducible repeat (first | refine blk_drewN ?_ _ | refine blk_drew ?_ | refine blk_alloc ?_ _)); refine blk_put (cs := #[.int .i64 a0_0, .int .i64 a0_1, .int .i64 a0_2, .slice A2 l2.length c2, .slice none 0 0, .int .i64 0]) ?_ 4 _ rfl; (with_reducible repeat (first | refine blk_drewN ?_ _ | refine blk_drew ?_ | refine blk_alloc ?_ _)); refine blk_put (cs := #[.int .i64 a0_0, .int .i64 a0_1, .int .i64 a0_2, .slice none 0 0, .slice none 0 0, .int .i64 0]) ?_ 3 _ rfl; (with_reducible repeat (first | refine blk_drewN ?_ _ | refine blk_drew ?_ | refine blk_alloc ?_ _)); refine blk_put (cs := #[.int .i64 a0_0, .int .i64 a0_1, .int .i64 0, .slice none 0 0, .slice none 0 0, .int .i64 0]) ?_ 2 _ rfl; (with_reducible repeat (first | refine blk_drewN ?_ _ | refine blk_drew ?_ | refine blk_alloc ?_ _)); refine blk_put (cs := #[.int .i64 a0_0, .int .i64 0, .int .i64 0, .slice none 0 0, .slice none 0 0, .int .i64 0]) ?_ 1 _ rfl; (with_reducible repeat (first | refine blk_drewN ?_ _ | refine blk_drew ?_ | refine blk_alloc ?_ _)); refine blk_put (cs := #[.int .i64 0, .int .i64 0, .int .i64 0, .slice none 0 0, .slice none 0 0, .int .i64 0]) ?_ 0 _ rfl; (with_reducible repeat (first | refine blk_drewN ?_ _ | refine blk_drew ?_ | refine blk_alloc ?_ _)); exact BK257.out) hb); have n2_ := Aside0.mk (below_step (by repeat (first | (with_reducible first | exact HB.out | apply below_alloc | apply pw_below_drewN | apply below_drew1 | refine below_set ?_ GE256.out | refine below_set ?_ GE257.out) | exact HB.out)) hb); clear BK256; clear BK257; clear HB; have BK256 := n0_; have BK257 := n1_; have HB := n2_; clear n0_ n1_ n2_; (try clear hb); (try clear hb2); (try clear hk); (try clear hi)))
  go_ret3
  exact ⟨_, by first | rfl | (simp [errW_none, errW_some] <;> rfl) | (simp [*, errW_none, errW_some] <;> rfl), by first | exact Kd.R_nil _ _ _ _ _ | exact Kd.N_nil _ _ _ _ _ | exact Kd.V_nil _ _ _ _ _ | exact Kd.Q_nil _ _ _ _ _ | exact Kd.S_nil _ _ _ _ _, by repeat (first | (with_reducible first | exact HB.out | apply below_alloc | apply pw_below_drewN | apply below_drew1 | refine below_set ?_ GE256.out | refine below_set ?_ GE257.out) | exact HB.out)⟩

end Go.Proofs.Ytpdgicpgjmibgaa.PFnExactBestCharging
