-- written by wip/xprint.py, a program of this session, for this claim; not trusted: Lean checks it.
import Derived.Test.YtpdgicpgjmibgaaPFnExactBestChargingx0
import Derived.Test.YtpdgicpgjmibgaaPFnExactBestChargingx5
namespace Go.Proofs.Ytpdgicpgjmibgaa.PFnExactBestCharging
open Go.RowKit Go.Proofs.YtpdgicpgjmibgaaW.PrintWords Go.Proofs.YtpdgicpgjmibgaaW.PrintLast Go.Proofs.YtpdgicpgjmibgaaW.PrintMore
attribute [local go_sem] max2_int min2_int max_two min_two max_three min_three max_four min_four   -- for this text's walks alone
set_option linter.unusedVariables false
set_option linter.unusedSimpArgs false

/-! ### impl_charging_costs: function 54 -/
mutual
def impl_charging_costs.l0 : Nat → List (List Int) → Int → Int → Int → Int → List Int → List Int → Int → Option ((List (List Int)))
 | 0, _, _, _, _, _, _, _, _ => none
 | k + 1, x3, x4, x218000, x218001, x218002, x218003, x218004, x218005 => if x4 ≥ 0 then (if 0 ≤ (wrap64 (x218000 + 1)) then (if (wrap64 (x218000 + 1) : Int).toNat ≤ 35184372088832 then (if 0 ≤ x4 then (if x4 < (x3.length : Int) then ((some (x3.set (x4 : Int).toNat (List.replicate (wrap64 (x218000 + 1) : Int).toNat 0) : List (List Int))).bind fun y228 => (impl_charging_costs.l1 k y228 x4 ((rd_L2 y228 x4).length : Int) 0 x218000 x218001 x218002 x218003 x218004 x218005)) else (none)) else (none)) else (none)) else (none)) else (some x3)
def impl_charging_costs.l1 : Nat → List (List Int) → Int → Int → Int → Int → Int → Int → List Int → List Int → Int → Option ((List (List Int)))
 | 0, _, _, _, _, _, _, _, _, _, _ => none
 | k + 1, x3, x4, x45, x46, x218000, x218001, x218002, x218003, x218004, x218005 => if x46 < x45 then (if 0 ≤ x4 then (if x4 < (x3.length : Int) then (if 0 ≤ x46 then (if x46 < ((rd_L2 x3 x4).length : Int) then (impl_charging_costs.l2 k (x3.set (x4 : Int).toNat ((rd_L2 x3 x4).set (x46 : Int).toNat (-1))) x4 x46 (wrap64 (-x218001)) x45 x46 x218000 x218001 x218002 x218003 x218004 x218005) else (none)) else (none)) else (none)) else (none)) else (impl_charging_costs.l0 k x3 (wrap64 (x4 - 1)) x218000 x218001 x218002 x218003 x218004 x218005)
def impl_charging_costs.l2 : Nat → List (List Int) → Int → Int → Int → Int → Int → Int → Int → Int → List Int → List Int → Int → Option ((List (List Int)))
 | 0, _, _, _, _, _, _, _, _, _, _, _, _ => none
 | k + 1, x3, x4, x5, x6, x45, x46, x218000, x218001, x218002, x218003, x218004, x218005 => if x6 ≤ x218001 then ((impl_charging_after.f x218000 x218001 x218002 x218003 x218004 x218005 x4 x5 x6).bind fun bt234 => (if bt234.2 = true then (if 0 ≤ (wrap64 (x4 + 1)) then (if (wrap64 (x4 + 1)) < (x3.length : Int) then (if 0 ≤ bt234.1 then (if bt234.1 < ((rd_L2 x3 (wrap64 (x4 + 1))).length : Int) then (impl_charging_costs.j3 k x3 x4 x5 x6 bt234.1 x45 x46 (decide ((rd (rd_L2 x3 (wrap64 (x4 + 1))) bt234.1) < 0)) x218000 x218001 x218002 x218003 x218004 x218005) else (none)) else (none)) else (none)) else (none)) else (impl_charging_costs.j3 k x3 x4 x5 x6 bt234.1 x45 x46 true x218000 x218001 x218002 x218003 x218004 x218005))) else (impl_charging_costs.l1 k x3 x4 x45 (wrap64 (x46 + 1)) x218000 x218001 x218002 x218003 x218004 x218005)
def impl_charging_costs.j3 : Nat → List (List Int) → Int → Int → Int → Int → Int → Int → Bool → Int → Int → Int → List Int → List Int → Int → Option ((List (List Int)))
 | 0, _, _, _, _, _, _, _, _, _, _, _, _, _, _ => none
 | k + 1, x3, x4, x5, x6, x7, x45, x46, x86, x218000, x218001, x218002, x218003, x218004, x218005 => if x86 = true then (impl_charging_costs.l2 k x3 x4 x5 (wrap64 (x6 + 1)) x45 x46 x218000 x218001 x218002 x218003 x218004 x218005) else ((impl_charging_price.f x218000 x218001 x218002 x218003 x218004 x218005 x4 x6).bind fun t238 => (if 0 ≤ (wrap64 (x4 + 1)) then (if (wrap64 (x4 + 1)) < (x3.length : Int) then (if 0 ≤ x7 then (if x7 < ((rd_L2 x3 (wrap64 (x4 + 1))).length : Int) then (if 0 ≤ x4 then (if x4 < (x3.length : Int) then (if 0 ≤ x5 then (if x5 < ((rd_L2 x3 x4).length : Int) then (if (rd (rd_L2 x3 x4) x5) < 0 then (impl_charging_costs.l2 k (x3.set (x4 : Int).toNat ((rd_L2 x3 x4).set (x5 : Int).toNat (wrap64 (t238 + (rd (rd_L2 x3 (wrap64 (x4 + 1))) x7))))) x4 x5 (wrap64 (x6 + 1)) x45 x46 x218000 x218001 x218002 x218003 x218004 x218005) else (if (wrap64 (t238 + (rd (rd_L2 x3 (wrap64 (x4 + 1))) x7))) < (rd (rd_L2 x3 x4) x5) then (impl_charging_costs.l2 k (x3.set (x4 : Int).toNat ((rd_L2 x3 x4).set (x5 : Int).toNat (wrap64 (t238 + (rd (rd_L2 x3 (wrap64 (x4 + 1))) x7))))) x4 x5 (wrap64 (x6 + 1)) x45 x46 x218000 x218001 x218002 x218003 x218004 x218005) else (impl_charging_costs.l2 k x3 x4 x5 (wrap64 (x6 + 1)) x45 x46 x218000 x218001 x218002 x218003 x218004 x218005))) else (none)) else (none)) else (none)) else (none)) else (none)) else (none)) else (none)) else (none)))
end
def impl_charging_costs.f (k : Nat) (a0_0 : Int) (a0_1 : Int) (a0_2 : Int) (l0_3 : List Int) (l0_4 : List Int) (a0_5 : Int) : Option ((List (List Int))) := if 0 ≤ (wrap64 ((l0_3.length : Int) + 1)) then (if (wrap64 ((l0_3.length : Int) + 1) : Int).toNat ≤ 11728124029610 then ((some (List.replicate (wrap64 ((l0_3.length : Int) + 1) : Int).toNat [] : List (List Int))).bind fun y218 => (if 0 ≤ (wrap64 (a0_0 + 1)) then (if (wrap64 (a0_0 + 1) : Int).toNat ≤ 35184372088832 then (if 0 ≤ (l0_3.length : Int) then (if (l0_3.length : Int) < (y218.length : Int) then (impl_charging_costs.l0 k (y218.set ((l0_3.length : Int) : Int).toNat (List.replicate (wrap64 (a0_0 + 1) : Int).toNat 0)) (wrap64 ((l0_3.length : Int) - 1)) a0_0 a0_1 a0_2 l0_3 l0_4 a0_5) else (none)) else (none)) else (none)) else (none))) else (none)) else (none)
theorem impl_charging_costs.mono_l : ∀ k, (∀ y0 y1 y2 y3 y4 y5 y6 y7, LeO (impl_charging_costs.l0 k y0 y1 y2 y3 y4 y5 y6 y7) (impl_charging_costs.l0 (k + 1) y0 y1 y2 y3 y4 y5 y6 y7)) ∧ (∀ y0 y1 y2 y3 y4 y5 y6 y7 y8 y9, LeO (impl_charging_costs.l1 k y0 y1 y2 y3 y4 y5 y6 y7 y8 y9) (impl_charging_costs.l1 (k + 1) y0 y1 y2 y3 y4 y5 y6 y7 y8 y9)) ∧ (∀ y0 y1 y2 y3 y4 y5 y6 y7 y8 y9 y10 y11, LeO (impl_charging_costs.l2 k y0 y1 y2 y3 y4 y5 y6 y7 y8 y9 y10 y11) (impl_charging_costs.l2 (k + 1) y0 y1 y2 y3 y4 y5 y6 y7 y8 y9 y10 y11)) ∧ (∀ y0 y1 y2 y3 y4 y5 y6 y7 y8 y9 y10 y11 y12 y13, LeO (impl_charging_costs.j3 k y0 y1 y2 y3 y4 y5 y6 y7 y8 y9 y10 y11 y12 y13) (impl_charging_costs.j3 (k + 1) y0 y1 y2 y3 y4 y5 y6 y7 y8 y9 y10 y11 y12 y13))
 | 0 => ⟨fun _ _ _ _ _ _ _ _ r h => by simp [impl_charging_costs.l0] at h, fun _ _ _ _ _ _ _ _ _ _ r h => by simp [impl_charging_costs.l1] at h, fun _ _ _ _ _ _ _ _ _ _ _ _ r h => by simp [impl_charging_costs.l2] at h, fun _ _ _ _ _ _ _ _ _ _ _ _ _ _ r h => by simp [impl_charging_costs.j3] at h⟩
 | k + 1 => by
  obtain ⟨ih0, ih1, ih2, ih3⟩ := impl_charging_costs.mono_l k
  refine ⟨?_, ?_, ?_, ?_⟩
  ·intro y0 y1 y2 y3 y4 y5 y6 y7
   unfold impl_charging_costs.l0
   repeat' first
   | (with_reducible exact ih0 _ _ _ _ _ _ _ _)
   | (with_reducible exact ih1 _ _ _ _ _ _ _ _ _ _)
   | (with_reducible exact ih2 _ _ _ _ _ _ _ _ _ _ _ _)
   | (with_reducible exact ih3 _ _ _ _ _ _ _ _ _ _ _ _ _ _)
   | (with_reducible exact LeO.refl _)
   | (with_reducible exact LeO.none _)
   | (with_reducible refine LeO.ite ?_ ?_)
   | (with_reducible refine LeO.bind ?_ (fun _ => ?_))
   | exact ih0 _ _ _ _ _ _ _ _
   | exact ih1 _ _ _ _ _ _ _ _ _ _
   | exact ih2 _ _ _ _ _ _ _ _ _ _ _ _
   | exact ih3 _ _ _ _ _ _ _ _ _ _ _ _ _ _
   | exact LeO.none _
   | refine LeO.ite ?_ ?_
   | refine LeO.bind ?_ (fun _ => ?_)
  ·intro y0 y1 y2 y3 y4 y5 y6 y7 y8 y9
   unfold impl_charging_costs.l1
   repeat' first
   | (with_reducible exact ih0 _ _ _ _ _ _ _ _)
   | (with_reducible exact ih1 _ _ _ _ _ _ _ _ _ _)
   | (with_reducible exact ih2 _ _ _ _ _ _ _ _ _ _ _ _)
   | (with_reducible exact ih3 _ _ _ _ _ _ _ _ _ _ _ _ _ _)
   | (with_reducible exact LeO.refl _)
   | (with_reducible exact LeO.none _)
   | (with_reducible refine LeO.ite ?_ ?_)
   | (with_reducible refine LeO.bind ?_ (fun _ => ?_))
   | exact ih0 _ _ _ _ _ _ _ _
   | exact ih1 _ _ _ _ _ _ _ _ _ _
   | exact ih2 _ _ _ _ _ _ _ _ _ _ _ _
   | exact ih3 _ _ _ _ _ _ _ _ _ _ _ _ _ _
   | exact LeO.none _
   | refine LeO.ite ?_ ?_
   | refine LeO.bind ?_ (fun _ => ?_)
  ·intro y0 y1 y2 y3 y4 y5 y6 y7 y8 y9 y10 y11
   unfold impl_charging_costs.l2
   repeat' first
   | (with_reducible exact ih0 _ _ _ _ _ _ _ _)
   | (with_reducible exact ih1 _ _ _ _ _ _ _ _ _ _)
   | (with_reducible exact ih2 _ _ _ _ _ _ _ _ _ _ _ _)
   | (with_reducible exact ih3 _ _ _ _ _ _ _ _ _ _ _ _ _ _)
   | (with_reducible exact LeO.refl _)
   | (with_reducible exact LeO.none _)
   | (with_reducible refine LeO.ite ?_ ?_)
   | (with_reducible refine LeO.bind ?_ (fun _ => ?_))
   | exact ih0 _ _ _ _ _ _ _ _
   | exact ih1 _ _ _ _ _ _ _ _ _ _
   | exact ih2 _ _ _ _ _ _ _ _ _ _ _ _
   | exact ih3 _ _ _ _ _ _ _ _ _ _ _ _ _ _
   | exact LeO.none _
   | refine LeO.ite ?_ ?_
   | refine LeO.bind ?_ (fun _ => ?_)
  ·intro y0 y1 y2 y3 y4 y5 y6 y7 y8 y9 y10 y11 y12 y13
   unfold impl_charging_costs.j3
   repeat' first
   | (with_reducible exact ih0 _ _ _ _ _ _ _ _)
   | (with_reducible exact ih1 _ _ _ _ _ _ _ _ _ _)
   | (with_reducible exact ih2 _ _ _ _ _ _ _ _ _ _ _ _)
   | (with_reducible exact ih3 _ _ _ _ _ _ _ _ _ _ _ _ _ _)
   | (with_reducible exact LeO.refl _)
   | (with_reducible exact LeO.none _)
   | (with_reducible refine LeO.ite ?_ ?_)
   | (with_reducible refine LeO.bind ?_ (fun _ => ?_))
   | exact ih0 _ _ _ _ _ _ _ _
   | exact ih1 _ _ _ _ _ _ _ _ _ _
   | exact ih2 _ _ _ _ _ _ _ _ _ _ _ _
   | exact ih3 _ _ _ _ _ _ _ _ _ _ _ _ _ _
   | exact LeO.none _
   | refine LeO.ite ?_ ?_
   | refine LeO.bind ?_ (fun _ => ?_)
theorem impl_charging_costs.mono : ∀ a0 a1 a2 a3 a4 a5 k, LeO (impl_charging_costs.f k a0 a1 a2 a3 a4 a5) (impl_charging_costs.f (k + 1) a0 a1 a2 a3 a4 a5) := by
 intro a0 a1 a2 a3 a4 a5 k
 obtain ⟨ih0, ih1, ih2, ih3⟩ := impl_charging_costs.mono_l k
 unfold impl_charging_costs.f
 repeat' first
   | (with_reducible exact ih0 _ _ _ _ _ _ _ _)
   | (with_reducible exact ih1 _ _ _ _ _ _ _ _ _ _)
   | (with_reducible exact ih2 _ _ _ _ _ _ _ _ _ _ _ _)
   | (with_reducible exact ih3 _ _ _ _ _ _ _ _ _ _ _ _ _ _)
   | (with_reducible exact LeO.refl _)
   | (with_reducible exact LeO.none _)
   | (with_reducible refine LeO.ite ?_ ?_)
   | (with_reducible refine LeO.bind ?_ (fun _ => ?_))
   | exact ih0 _ _ _ _ _ _ _ _
   | exact ih1 _ _ _ _ _ _ _ _ _ _
   | exact ih2 _ _ _ _ _ _ _ _ _ _ _ _
   | exact ih3 _ _ _ _ _ _ _ _ _ _ _ _ _ _
   | exact LeO.none _
   | refine LeO.ite ?_ ?_
   | refine LeO.bind ?_ (fun _ => ?_)
def impl_charging_costs.T2 : Bool × List (List Nat × List Nat) := (true, [([], []), ([], []), ([1], [1]), ([2], [2]), ([], []), ([4], [4]), ([5], [5]), ([6], [6]), ([7, 7], [7]), ([0, 3, 0, 1, 2, 3, 4, 5, 6, 7, 8], [0, 3]), ([9, 8, 0, 1, 2, 3, 4, 5, 6, 7, 8], [8, 9])])
def impl_charging_costs.B2 : List Nat := [0, 0, 2, 6, 0, 16, 48, 112, 240, 511, 1023]
theorem impl_charging_costs.tab2 : rtab .any (opsOf Try.f54 2) = impl_charging_costs.T2 := by kernel_rfl
theorem impl_charging_costs.bits2 : waitsOk impl_charging_costs.T2.2 impl_charging_costs.B2 = true := by kernel_rfl
def impl_charging_costs.T16 : Bool × List (List Nat × List Nat) := (true, [([], []), ([], []), ([], []), ([0, 1, 2], [0, 1, 2]), ([], []), ([], []), ([5], [5]), ([4, 6], [4, 6]), ([7], [7]), ([], []), ([8, 9], [8, 9]), ([10], [10]), ([3, 11], [3, 11]), ([12, 3, 0, 1, 2, 3, 4, 5, 6, 7, 8, 9, 10, 11, 12], [12])])
def impl_charging_costs.B16 : List Nat := [0, 0, 0, 7, 0, 0, 32, 112, 240, 0, 1008, 2032, 4095, 8191]
theorem impl_charging_costs.tab16 : rtab .any (opsOf Try.f54 16) = impl_charging_costs.T16 := by kernel_rfl
theorem impl_charging_costs.bits16 : waitsOk impl_charging_costs.T16.2 impl_charging_costs.B16 = true := by kernel_rfl
set_option maxHeartbeats 8000000 in
set_option maxRecDepth 100000 in
theorem impl_charging_costs.calls (k : Nat) (a0_0 : Int) (a0_1 : Int) (a0_2 : Int) (A0_3 : Option Addr) (c0_3 : Nat) (l0_3 : List Int) (A0_4 : Option Addr) (c0_4 : Nat) (l0_4 : List Int) (a0_5 : Int) (r : List (List Int)) (w : World) (hr0_3 : Kd.C (Kd.int .i64) w A0_3 l0_3.length l0_3) (hc0_3 : l0_3.length ≤ c0_3) (hr0_4 : Kd.C (Kd.int .i64) w A0_4 l0_4.length l0_4) (hc0_4 : l0_4.length ≤ c0_4) (h : impl_charging_costs.f k a0_0 a0_1 a0_2 l0_3 l0_4 a0_5 = some r) :
  Calls Try.prog 54 #[.agg #[.int .i64 a0_0, .int .i64 a0_1, .int .i64 a0_2, .slice A0_3 l0_3.length c0_3, .slice A0_4 l0_4.length c0_4, .int .i64 a0_5]] w fun e w' => ∃ v0_ : Value, e = .returned (v0_) ∧ Kd.S (Kd.slice 2 (Kd.int .i64)) 24 w' w.heap.size (fun _ => True) v0_ r ∧ Below w.heap.size w w' := by
 have hu55 := Try.underlying55
 have HR0_3 := Aside0.mk hr0_3
 have HC0_3 := Aside0.mk hc0_3
 clear hr0_3 hc0_3
 have HR0_4 := Aside0.mk hr0_4
 have HC0_4 := Aside0.mk hc0_4
 clear hr0_4 hc0_4
 have HB := Aside0.mk (Below.refl w.heap.size w)
 have H : (if 0 ≤ (wrap64 ((l0_3.length : Int) + 1)) then (if (wrap64 ((l0_3.length : Int) + 1) : Int).toNat ≤ 11728124029610 then ((some (List.replicate (wrap64 ((l0_3.length : Int) + 1) : Int).toNat [] : List (List Int))).bind fun y218 => (if 0 ≤ (wrap64 (a0_0 + 1)) then (if (wrap64 (a0_0 + 1) : Int).toNat ≤ 35184372088832 then (if 0 ≤ (l0_3.length : Int) then (if (l0_3.length : Int) < (y218.length : Int) then (impl_charging_costs.l0 k (y218.set ((l0_3.length : Int) : Int).toNat (List.replicate (wrap64 (a0_0 + 1) : Int).toNat 0)) (wrap64 ((l0_3.length : Int) - 1)) a0_0 a0_1 a0_2 l0_3 l0_4 a0_5) else (none)) else (none)) else (none)) else (none))) else (none)) else (none)) = some r := h
 clear h
 obtain ⟨ji2, hji2⟩ : ∃ j_ : Int, (wrap64 ((l0_3.length : Int) + 1)) = j_ := ⟨_, rfl⟩
 replace H : (if 0 ≤ (ji2) then (if (ji2 : Int).toNat ≤ 11728124029610 then ((some (List.replicate (ji2 : Int).toNat [] : List (List Int))).bind fun y218 => (if 0 ≤ (wrap64 (a0_0 + 1)) then (if (wrap64 (a0_0 + 1) : Int).toNat ≤ 35184372088832 then (if 0 ≤ (l0_3.length : Int) then (if (l0_3.length : Int) < (y218.length : Int) then (impl_charging_costs.l0 k (y218.set ((l0_3.length : Int) : Int).toNat (List.replicate (wrap64 (a0_0 + 1) : Int).toNat 0)) (wrap64 ((l0_3.length : Int) - 1)) a0_0 a0_1 a0_2 l0_3 l0_4 a0_5) else (none)) else (none)) else (none)) else (none))) else (none)) else (none)) = some r := by first | (rw [hji2] at H; exact H) | (simp only [hji2] at H ⊢; exact H)
 have hji2w : (IntKind.i64.wrap ((l0_3.length : Int) + 1)) = ji2 := (i64_w _).trans hji2
 by_cases c3 : 0 ≤ (ji2)
 ·rw [if_pos c3] at H
  have c3b0 := eq_true c3
  have c3b1 : decide (0 ≤ (ji2)) = true := decide_eq_true c3
  clear c3
  by_cases c4 : (ji2 : Int).toNat ≤ 11728124029610
  ·rw [if_pos c4] at H
   have c4b0 := eq_true c4
   have c4b1 : decide ((ji2 : Int).toNat ≤ 11728124029610) = true := decide_eq_true c4
   clear c4
   obtain ⟨y218, hy218⟩ : ∃ y_ : List (List Int), y_ = (List.replicate (ji2 : Int).toNat []) := ⟨_, rfl⟩
   replace H : (if 0 ≤ (wrap64 (a0_0 + 1)) then (if (wrap64 (a0_0 + 1) : Int).toNat ≤ 35184372088832 then (if 0 ≤ (l0_3.length : Int) then (if (l0_3.length : Int) < (y218.length : Int) then (impl_charging_costs.l0 k (y218.set ((l0_3.length : Int) : Int).toNat (List.replicate (wrap64 (a0_0 + 1) : Int).toNat 0)) (wrap64 ((l0_3.length : Int) - 1)) a0_0 a0_1 a0_2 l0_3 l0_4 a0_5) else (none)) else (none)) else (none)) else (none)) = some r := by first | (rw [hy218]; with_reducible exact H) | (have H2_ := (Option.bind_some _ _).symm.trans H; rw [hy218]; with_reducible exact H2_) | (have H2_ := (Option.bind_some _ _).symm.trans H; with_reducible exact H2_) | with_reducible exact H | (rw [hy218]; exact H) | exact H
   have Ny218 := Aside0.mk hy218
   clear hy218
   obtain ⟨ji5, hji5⟩ : ∃ j_ : Int, (wrap64 (a0_0 + 1)) = j_ := ⟨_, rfl⟩
   replace H : (if 0 ≤ (ji5) then (if (ji5 : Int).toNat ≤ 35184372088832 then (if 0 ≤ (l0_3.length : Int) then (if (l0_3.length : Int) < (y218.length : Int) then (impl_charging_costs.l0 k (y218.set ((l0_3.length : Int) : Int).toNat (List.replicate (ji5 : Int).toNat 0)) (wrap64 ((l0_3.length : Int) - 1)) a0_0 a0_1 a0_2 l0_3 l0_4 a0_5) else (none)) else (none)) else (none)) else (none)) = some r := by first | (rw [hji5] at H; exact H) | (simp only [hji5] at H ⊢; exact H)
   have hji5w : (IntKind.i64.wrap (a0_0 + 1)) = ji5 := (i64_w _).trans hji5
   by_cases c6 : 0 ≤ (ji5)
   ·rw [if_pos c6] at H
    have c6b0 := eq_true c6
    have c6b1 : decide (0 ≤ (ji5)) = true := decide_eq_true c6
    clear c6
    by_cases c7 : (ji5 : Int).toNat ≤ 35184372088832
    ·rw [if_pos c7] at H
     have c7b0 := eq_true c7
     have c7b1 : decide ((ji5 : Int).toNat ≤ 35184372088832) = true := decide_eq_true c7
     clear c7
     obtain ⟨y221, hy221⟩ : ∃ y_ : List Int, y_ = (List.replicate (ji5 : Int).toNat 0) := ⟨_, rfl⟩
     replace H : (if 0 ≤ (l0_3.length : Int) then (if (l0_3.length : Int) < (y218.length : Int) then (impl_charging_costs.l0 k (y218.set ((l0_3.length : Int) : Int).toNat y221) (wrap64 ((l0_3.length : Int) - 1)) a0_0 a0_1 a0_2 l0_3 l0_4 a0_5) else (none)) else (none)) = some r := by first | (rw [hy221]; with_reducible exact H) | (have H2_ := (Option.bind_some _ _).symm.trans H; rw [hy221]; with_reducible exact H2_) | (have H2_ := (Option.bind_some _ _).symm.trans H; with_reducible exact H2_) | with_reducible exact H | (rw [hy221]; exact H) | exact H
     have Ny221 := Aside0.mk hy221
     clear hy221
     by_cases c8 : 0 ≤ (l0_3.length : Int)
     ·rw [if_pos c8] at H
      have c8b0 : decide (0 ≤ (l0_3.length : Int)) = true := decide_eq_true c8
      have c8b1 : decide (0 ≤ l0_3.length) = true := decide_eq_true (by omega)
      clear c8
      by_cases c9 : (l0_3.length : Int) < (y218.length : Int)
      ·rw [if_pos c9] at H
       have c9b0 : decide ((l0_3.length : Int) < (y218.length : Int)) = true := decide_eq_true c9
       have c9b1 : decide (l0_3.length < y218.length) = true := decide_eq_true (Int.ofNat_lt.mp c9)
       clear c9
       obtain ⟨y224, hy224⟩ : ∃ y_ : List (List Int), y_ = (y218.set ((l0_3.length : Int) : Int).toNat y221) := ⟨_, rfl⟩
       replace H : (impl_charging_costs.l0 k y224 (wrap64 ((l0_3.length : Int) - 1)) a0_0 a0_1 a0_2 l0_3 l0_4 a0_5) = some r := by first | (rw [hy224]; with_reducible exact H) | (have H2_ := (Option.bind_some _ _).symm.trans H; rw [hy224]; with_reducible exact H2_) | (have H2_ := (Option.bind_some _ _).symm.trans H; with_reducible exact H2_) | with_reducible exact H | (rw [hy224]; exact H) | exact H
       have Ny224 := Aside0.mk hy224
       clear hy224
       have H' := Aside0.mk H
       clear H
       go_enter Try.func54, Try.ntmps54
       try go_wp2_with (first | ((with_reducible refine gate_dst (N := 1) rfl ?_); refine box_event ?hg (N := 1) ?hd (cs := #[.int .i64 a0_0, .int .i64 a0_1, .int .i64 a0_2, .slice A0_3 l0_3.length c0_3, .slice A0_4 l0_4.length c0_4, .int .i64 a0_5]) (t := 55) ?hr ?_; (case hd => rfl); (case hg => rfl); (case hr => first | (go_simp; done) | (go_simp; rfl)); intro gb217 hg w11 hbox hb; have n0_ := Aside0.mk (below_step (by repeat (first | (with_reducible first | exact HB.out | apply below_alloc | apply pw_below_drewN | apply below_drew1) | exact HB.out)) hb); have n1_ := Aside0.mk (hbox); have n2_ := Aside0.mk ((by rw [hg]; exact (below_size (by repeat (first | (with_reducible first | exact HB.out | apply below_alloc | apply pw_below_drewN | apply below_drew1) | exact HB.out))) : w.heap.size ≤ gb217)); have n3_ := Aside0.mk ((by rw [hg]; exact (below_size (by repeat (first | (with_reducible first | exact HB.out | apply below_alloc | apply pw_below_drewN | apply below_drew1) | exact HB.out))) : w.heap.size ≤ gb217)); clear HB; have HB := n0_; have BK217 := n1_; have GW217 := n2_; have GE217 := n3_; clear n0_ n1_ n2_ n3_; clear hb hbox hg; have hcz12_0 : w11.cell? ⟨gb217, 0, none⟩ = some (.int .i64 a0_0) := (blk_cell BK217.out 0).trans rfl; have hcz12_1 : w11.cell? ⟨gb217, 1, none⟩ = some (.int .i64 a0_1) := (blk_cell BK217.out 1).trans rfl; have hcz12_2 : w11.cell? ⟨gb217, 2, none⟩ = some (.int .i64 a0_2) := (blk_cell BK217.out 2).trans rfl; have hcz12_3 : w11.cell? ⟨gb217, 3, none⟩ = some (.slice A0_3 l0_3.length c0_3) := (blk_cell BK217.out 3).trans rfl; have hcz12_4 : w11.cell? ⟨gb217, 4, none⟩ = some (.slice A0_4 l0_4.length c0_4) := (blk_cell BK217.out 4).trans rfl; have hcz12_5 : w11.cell? ⟨gb217, 5, none⟩ = some (.int .i64 a0_5) := (blk_cell BK217.out 5).trans rfl; have hfz12_0 := blk_frozen BK217.out 0; have hfz12_1 := blk_frozen BK217.out 1; have hfz12_2 := blk_frozen BK217.out 2; have hfz12_3 := blk_frozen BK217.out 3; have hfz12_4 := blk_frozen BK217.out 4; have hfz12_5 := blk_frozen BK217.out 5) | ((with_reducible refine gate_dst (N := 14) rfl ?_); refine Kd.S_make (Kd.slice 2 (Kd.int .i64)) _ 24 rfl (N := 14) rfl 63 _ _ rfl ji2 rfl rfl Try.underlying63 (.slice none 0 0) 24 info24 rfl (by decide) (by omega) [] (ok := fun _ => True) (okp := fun _ => True) ⟨_, rfl, Kd.R_nil _ _ _ _ _⟩ (fun _ hk => hk) trivial (of_decide_eq_true (by first | (with_reducible assumption) | assumption)) (Nat.le_trans (Nat.mul_le_mul_right _ (of_decide_eq_true (by first | (with_reducible assumption) | assumption) : ji2.toNat ≤ 11728124029610)) (by omega)) (Below.refl _ _) (Nat.le_refl _) ?_; intro v219 w13 ho14 hb hg_ hnew_; clear hg_ hnew_; (first | rw [← Ny218.out] at ho14 | (simp only [Int.reduceToNat] at ho14; rw [← Ny218.out] at ho14)); have n0_ := Aside0.mk (Kd.S_lower ho14 (below_size (by repeat (first | (with_reducible first | exact HB.out | apply below_alloc | apply pw_below_drewN | apply below_drew1 | refine below_set ?_ GE217.out) | exact HB.out)))); have n1_ := Aside0.mk (blk_below (g := gb217) (o := .cells #[.int .i64 a0_0, .int .i64 a0_1, .int .i64 a0_2, .slice A0_3 l0_3.length c0_3, .slice A0_4 l0_4.length c0_4, .int .i64 a0_5] 55 (0, 0)) (by (with_reducible repeat (first | refine blk_drewN ?_ _ | refine blk_drew ?_ | refine blk_alloc ?_ _)); exact BK217.out) hb); have n2_ := Aside0.mk (below_step (by repeat (first | (with_reducible first | exact HB.out | apply below_alloc | apply pw_below_drewN | apply below_drew1 | refine below_set ?_ GE217.out) | exact HB.out)) hb); clear BK217; clear HB; have HO220 := n0_; have BK217 := n1_; have HB := n2_; clear n0_ n1_ n2_; clear hb ho14))
       have n0_ := Aside0.mk (Kd.S_drew HO220.out)
       have n1_ := Aside0.mk (blk_drew BK217.out)
       have n2_ := Aside0.mk (below_drew1 HB.out)
       clear HO220
       clear BK217
       clear HB
       have HO220 := n0_
       have BK217 := n1_
       have HB := n2_
       clear n0_ n1_ n2_
       refine start_ (n := 11) (S := fun w' => w'.cell? ⟨gb217, 0, none⟩ = some (.int .i64 a0_0) ∧ w'.cell? ⟨gb217, 1, none⟩ = some (.int .i64 a0_1) ∧ w'.cell? ⟨gb217, 2, none⟩ = some (.int .i64 a0_2) ∧ w'.cell? ⟨gb217, 3, none⟩ = some (.slice A0_3 l0_3.length c0_3) ∧ w'.cell? ⟨gb217, 4, none⟩ = some (.slice A0_4 l0_4.length c0_4) ∧ w'.cell? ⟨gb217, 5, none⟩ = some (.int .i64 a0_5)) (ds := [10]) (tf 0 11) (by kernel_rfl) rfl rfl ⟨(blk_cell BK217.out 0).trans rfl, (blk_cell BK217.out 1).trans rfl, (blk_cell BK217.out 2).trans rfl, (blk_cell BK217.out 3).trans rfl, (blk_cell BK217.out 4).trans rfl, (blk_cell BK217.out 5).trans rfl⟩ (fun hHeld => ?_); refine with_tabW impl_charging_costs.tab2 impl_charging_costs.bits2 (fun HT_ HW_ => ?_)
       generalize w13.drew = w15 at HO220 BK217 HB hHeld ⊢
       refine px 0 (some 15) (tf 1 11) HT_ ?_
       refine px 1 (some 16) (tf 2 11) HT_ ?_
       refine px 4 (some 19) (tb 11 19) HT_ ?_
       refine px 5 (some 20) (tb 11 51) HT_ ?_
       refine tx (v := ?_) 2 (some 17) (tb 11 55) HT_ HW_ hHeld ?_ ?_
       rotate_left; (· rintro w' ⟨s0, s1, s2, s3, s4, s5⟩; go_simp; with_reducible rfl)
       refine px 3 (some 18) (tf 6 11) HT_ ?_
       refine tx (v := ?_) 6 (some 21) (tf 7 11) HT_ HW_ hHeld ?_ ?_
       rotate_left; (· rintro w' ⟨s0, s1, s2, s3, s4, s5⟩; go_simp; with_reducible rfl)
       refine px 7 (some 22) (tf 8 11) HT_ ?_
       refine one_ (i := 8) (N := some 23) (tf 9 11) rfl rfl (one_of HT_.out (by kernel_rfl)) (by decide) (fun K hK => ?_)
       refine Kd.R_make_step (Kd.int .i64) _ 2 (by rfl) (N := 23) rfl 24 _ _ rfl ji5 rfl rfl Try.underlying24 (.int .i64 0) 8 info2 rfl (by decide) (by omega) 0 (ok := fun _ => True) (okp := fun _ => True) rfl (fun _ hk => hk) trivial (of_decide_eq_true (by first | (with_reducible assumption) | assumption)) (Nat.le_trans (Nat.mul_le_mul_right _ (of_decide_eq_true (by first | (with_reducible assumption) | assumption) : ji5.toNat ≤ 35184372088832)) (by omega)) (Below.refl _ _) (Nat.le_refl _) ?_
       intro v222 w16 ho17 hb hg_ hnew_
       clear hg_ hnew_
       (first | rw [← Ny221.out] at ho17 | (simp only [Int.reduceToNat] at ho17; rw [← Ny221.out] at ho17))
       have n0_ := Aside0.mk (Kd.S_elder' (by (with_reducible repeat (first | apply Kd.S_alloc | apply Kd.S_drewN | apply Kd.S_drew)); exact HO220.out) (Kd.R_base ho17) hb)
       have n1_ := Aside0.mk (Kd.R_lower ho17 (below_size (by repeat (first | (with_reducible first | exact HB.out | apply below_alloc | apply pw_below_drewN | apply below_drew1 | refine below_set ?_ GE217.out) | exact HB.out))))
       have n2_ := Aside0.mk (blk_below (g := gb217) (o := .cells #[.int .i64 a0_0, .int .i64 a0_1, .int .i64 a0_2, .slice A0_3 l0_3.length c0_3, .slice A0_4 l0_4.length c0_4, .int .i64 a0_5] 55 (0, 0)) (by (with_reducible repeat (first | refine blk_drewN ?_ _ | refine blk_drew ?_ | refine blk_alloc ?_ _)); exact BK217.out) hb)
       have n3_ := Aside0.mk (below_step (by repeat (first | (with_reducible first | exact HB.out | apply below_alloc | apply pw_below_drewN | apply below_drew1 | refine below_set ?_ GE217.out) | exact HB.out)) hb)
       clear HO220
       clear BK217
       clear HB
       have HO220 := n0_
       have HO223 := n1_
       have BK217 := n2_
       have HB := n3_
       clear n0_ n1_ n2_ n3_
       clear hb ho17
       have p10 : 0 ≤ ((l0_3.length : Int) : Int) := of_decide_eq_true (by first | (with_reducible assumption) | assumption)
       have q10 : ((l0_3.length : Int) : Int) < ((y218.length : Int) : Int) := of_decide_eq_true (by first | (with_reducible assumption) | assumption)
       obtain ⟨go10, co10, eo10, gb10, gl10, cl10, HG10⟩ := Kd.S_form HO220.out (by omega)
       (first | cases eo10 | (injection eo10 with ea_ en_ ec_; (first | subst ea_ | (injection ea_ with ea_; subst ea_)); subst ec_; clear en_))
       have GB10 := Aside0.mk gb10
       have GG10 := Aside0.mk HG10
       clear gb10 gl10 HG10
       obtain ⟨_, ce10, hcl10, hM10, hcc10, hfr10, _, _⟩ := Kd.S_elem HO220.out [] ((l0_3.length : Int) : Int) p10 q10
       obtain ⟨ve10_0, rfl, ge10_0⟩ := hM10
       have hx10_0 := hcc10 0 _ rfl
       have hf10_0 := hfr10 0
       (try simp only [show ((Kd.slice 2 (Kd.int .i64))).sz = 1 from rfl, Nat.mul_one, Nat.add_zero] at hx10_0)
       (try simp only [show ((Kd.slice 2 (Kd.int .i64))).sz = 1 from rfl, Nat.mul_one, Nat.add_zero] at hf10_0)
       (try simp only [Go.IntWalk.toNatUp] at hx10_0 hf10_0)
       (clear hcl10 hcc10 hfr10; try clear hM10)
       replace p10 := eq_true p10
       replace q10 := eq_true q10
       obtain ⟨Ao19, co19, eo19⟩ := Kd.R_slice HO223.out
       (first | subst eo19 | (injection eo19 with f1_ f2_ f3_; have f4_ := f1_.symm; have f5_ := f3_.symm; clear f1_ f2_ f3_; subst f4_; subst f5_))
       have n_ := Aside0.mk (Kd.S_mono (ok' := (fun k_ => some k_ ≠ (.slice Ao19 y221.length co19 : Value).ownBlock)) HO220.out (fun k_ hk => hk.2))
       clear HO220
       have HO220 := n_
       clear n_
       have HX18 := Aside0.mk (show Kd.S (Kd.slice 2 (Kd.int .i64)) 24 w16 w.heap.size (fun k_ => ((fun _ => True)) k_ ∧ ¬ ((fun k_ => some k_ = (.slice Ao19 y221.length co19 : Value).ownBlock)) k_) (.slice (some ⟨go10, 0, none⟩) y218.length co10) y218 from (by (with_reducible repeat (first | apply Kd.S_alloc | apply Kd.S_drewN | apply Kd.S_drew)); exact Kd.S_mono HO220.out (fun k_ hk => ⟨trivial, fun e_ => hk e_⟩)))
       obtain ⟨oki18, ce18, hcl18, hM18, hcc18, hfr18, hoki18, hH18⟩ := Kd.S_elem HX18.out [] ((l0_3.length : Int) : Int) (of_decide_eq_true (by first | (with_reducible assumption) | assumption)) (by have h_ : ((l0_3.length : Int) : Int) < ((y218.length : Int) : Int) := of_decide_eq_true (by first | (with_reducible assumption) | assumption); first | exact h_ | (have e_ := (Kd.S_reads' HO220.out).1; omega) | simpa using h_)
       obtain ⟨ve18_0, rfl, ge18_0⟩ := hM18
       have HP18 := (Kd.S_seg hH18 (of_decide_eq_true (by first | (with_reducible assumption) | assumption)) (by have h_ : ((l0_3.length : Int) : Int) < ((y218.length : Int) : Int) := of_decide_eq_true (by first | (with_reducible assumption) | assumption); first | exact h_ | (have e_ := (Kd.S_reads' HO220.out).1; omega) | simpa using h_) (seg := [.slice Ao19 y221.length co19]) (j := 0) (show 1 ≤ 1 from by decide) (x' := y221) (Kd.M_row (Kd.R_mono (Kd.R_tight rfl (Kd.R_mono (ok' := fun k_ => ((fun _ => True)) k_ ∧ k_ ≠ go10) (Kd.R_apart' (HO223.out) (Kd.S_typed HO220.out) (by decide)) (fun k_ hk => ⟨trivial, fun e_ => (hk.2) (by rw [e_]; rfl)⟩))) (fun _ h_ => Or.inr (h_)))) (fun _ hk => hk) (fun k_ hk_ => ((Kd.R_mono (ok' := fun k_ => ((fun _ => True)) k_ ∧ k_ ≠ go10) (Kd.R_apart' (HO223.out) (Kd.S_typed HO220.out) (by decide)) (fun k_ hk => ⟨trivial, fun e_ => (hk.2) (by rw [e_]; rfl)⟩))).1 k_ hk_.symm)).1
       (try simp only [show ((Kd.slice 2 (Kd.int .i64))).sz = 1 from rfl, Nat.mul_one, Nat.add_zero] at HP18)
       rw [← Ny224.out] at HP18
       have HQ18 := Aside0.mk HP18
       (clear hcl18 hcc18 hfr18 HP18; try clear hM18)
       refine hK.out _ _ ⟨(blk_cell BK217.out 0).trans rfl, (blk_cell BK217.out 1).trans rfl, (blk_cell BK217.out 2).trans rfl, (blk_cell BK217.out 3).trans rfl, (blk_cell BK217.out 4).trans rfl, (blk_cell BK217.out 5).trans rfl⟩ (fun hHeld => ?_)
       clear hK K
       refine norm_ (a' := ?_) ?_ ?_
       rotate_left
       ·show Act.put _ (some 23) _ = _
        simp only [Act.put, List.setIfInBounds_toArray, List.set_cons_zero, List.set_cons_succ, i64_w, i32_w]
        rfl
       refine px 9 (some 24) (tf 10 11) HT_ ?_
       refine last_ (i := 10) (N := none) (tf 11 11) rfl rfl (one_of HT_.out (by kernel_rfl)) (by decide) (fun K hK => ?_)
       refine skip_ (w1 := ?_) (by rfl) rfl ?_ ?_
       rotate_left
       ·go_simp
        rfl
       refine hK.out _ _ ?_
       clear hK K
       refine done_ (done_of HT_.out (by kernel_rfl)) ?_
       have hnr20 : gb217 ≠ go10 := (by have h_ := Kd.S_ne HO220.out BK217.out (by decide); intro e_; exact h_ (by rw [e_]; rfl))
       have hns20 := Ne.symm hnr20
       have hcz21_0 : w16.cell? ⟨gb217, 0, none⟩ = some (.int .i64 a0_0) := (blk_cell BK217.out 0).trans rfl
       have hcz21_1 : w16.cell? ⟨gb217, 1, none⟩ = some (.int .i64 a0_1) := (blk_cell BK217.out 1).trans rfl
       have hcz21_2 : w16.cell? ⟨gb217, 2, none⟩ = some (.int .i64 a0_2) := (blk_cell BK217.out 2).trans rfl
       have hcz21_3 : w16.cell? ⟨gb217, 3, none⟩ = some (.slice A0_3 l0_3.length c0_3) := (blk_cell BK217.out 3).trans rfl
       have hcz21_4 : w16.cell? ⟨gb217, 4, none⟩ = some (.slice A0_4 l0_4.length c0_4) := (blk_cell BK217.out 4).trans rfl
       have hcz21_5 : w16.cell? ⟨gb217, 5, none⟩ = some (.int .i64 a0_5) := (blk_cell BK217.out 5).trans rfl
       have hfz21_0 := blk_frozen BK217.out 0
       have hfz21_1 := blk_frozen BK217.out 1
       have hfz21_2 := blk_frozen BK217.out 2
       have hfz21_3 := blk_frozen BK217.out 3
       have hfz21_4 := blk_frozen BK217.out 4
       have hfz21_5 := blk_frozen BK217.out 5
       try go_wp2
       go_loopg [4] k (fun kq v4 w' => ∃ (x3_1 : List (List Int)) (x4_1 : Int), v4 = .int .i64 x4_1 ∧ Aside0 (impl_charging_costs.l0 kq x3_1 x4_1 a0_0 a0_1 a0_2 l0_3 l0_4 a0_5 = some r) ∧ Aside0 (kq ≤ k) ∧ Aside0 (Kd.S (Kd.slice 2 (Kd.int .i64)) 24 w' w.heap.size (fun _ => True) (.slice (some ⟨go10, 0, none⟩) y218.length co10) x3_1) ∧ Aside0 (w'.heap[gb217]? = some (.cells #[.int .i64 a0_0, .int .i64 a0_1, .int .i64 a0_2, (.slice A0_3 l0_3.length c0_3), (.slice A0_4 l0_4.length c0_4), .int .i64 a0_5] 55 (0, 0))) ∧ Aside0 (Below w.heap.size w w'))
       case atStart => exact ⟨(y224), (wrap64 ((l0_3.length : Int) - 1)), (by first | rfl | (simp; done) | (simp [*]; done)), H', ⟨Nat.le_refl _⟩, ⟨by (with_reducible repeat (first | apply Kd.S_alloc | apply Kd.S_drewN | apply Kd.S_drew)); exact HQ18.out⟩, ⟨by (with_reducible repeat (first | refine blk_drewN ?_ _ | refine blk_drew ?_ | refine blk_alloc ?_ _)); refine blk_far ?_ (by have h_ := Kd.S_ne HO220.out BK217.out (by decide); intro e_; exact h_ (by rw [e_]; rfl)) _; (with_reducible repeat (first | refine blk_drewN ?_ _ | refine blk_drew ?_ | refine blk_alloc ?_ _)); exact BK217.out⟩, ⟨by repeat (first | (with_reducible first | exact HB.out | apply below_alloc | apply pw_below_drewN | apply below_drew1 | refine below_set ?_ GB10.out | refine below_set ?_ GE217.out) | exact HB.out)⟩⟩
       case round =>
        clear H'
        try clear c1
        try clear p1
        try clear q1
        try clear hx1
        try clear hf1
        try clear p2
        try clear c3
        try clear c3b0
        try clear c3b1
        try clear c4
        try clear c4b0
        try clear c4b1
        try clear c5
        try clear c6
        try clear c6b0
        try clear c6b1
        try clear p6
        try clear c7
        try clear c7b0
        try clear c7b1
        try clear c8
        try clear c8b0
        try clear c8b1
        try clear c9
        try clear c9b0
        try clear c9b1
        try clear c10
        try clear p10
        try clear q10
        try clear hx10
        try clear hf10
        try clear c18
        try clear hcz12_0
        try clear hcz12_1
        try clear hcz12_2
        try clear hcz12_3
        try clear hcz12_4
        try clear hcz12_5
        try clear hcz21_0
        try clear hcz21_1
        try clear hcz21_2
        try clear hcz21_3
        try clear hcz21_4
        try clear hcz21_5
        try clear hfz12_0
        try clear hfz12_1
        try clear hfz12_2
        try clear hfz12_3
        try clear hfz12_4
        try clear hfz12_5
        try clear hfz21_0
        try clear hfz21_1
        try clear hfz21_2
        try clear hfz21_3
        try clear hfz21_4
        try clear hfz21_5
        try clear hx10_0
        try clear p10
        try clear q10
        obtain ⟨x3_1, x4_1, rfl, HA, HK1, HO_3, BK217, HB⟩ := hrel
        have hl3_1 := (Kd.S_reads' HO_3.out).1
        rw [hl3_1] at HO_3
        (try simp only [hl3_1])
        (try simp only [hl3_1] at BK217)
        cases gk with
        | zero => exact absurd HA.out (by simp [impl_charging_costs.l0])
        | succ k1 =>
         have H := HA.out
         clear HA
         simp only [impl_charging_costs.l0] at H
         by_cases c22 : x4_1 ≥ 0
         ·rw [if_pos c22] at H
          have c22b0 : decide (0 ≤ x4_1) = true := decide_eq_true c22
          clear c22
          obtain ⟨ji23, hji23⟩ : ∃ j_ : Int, (wrap64 (a0_0 + 1)) = j_ := ⟨_, rfl⟩
          replace H : (if 0 ≤ (ji23) then (if (ji23 : Int).toNat ≤ 35184372088832 then (if 0 ≤ x4_1 then (if x4_1 < (x3_1.length : Int) then ((some (x3_1.set (x4_1 : Int).toNat (List.replicate (ji23 : Int).toNat 0) : List (List Int))).bind fun y228 => (impl_charging_costs.l1 k1 y228 x4_1 ((rd_L2 y228 x4_1).length : Int) 0 a0_0 a0_1 a0_2 l0_3 l0_4 a0_5)) else (none)) else (none)) else (none)) else (none)) = some r := by first | (rw [hji23] at H; exact H) | (simp only [hji23] at H ⊢; exact H)
          have hji23w : (IntKind.i64.wrap (a0_0 + 1)) = ji23 := (i64_w _).trans hji23
          (try clear hji5w)
          by_cases c24 : 0 ≤ (ji23)
          ·rw [if_pos c24] at H
           have c24b0 := eq_true c24
           have c24b1 : decide (0 ≤ (ji23)) = true := decide_eq_true c24
           clear c24
           by_cases c25 : (ji23 : Int).toNat ≤ 35184372088832
           ·rw [if_pos c25] at H
            have c25b0 := eq_true c25
            have c25b1 : decide ((ji23 : Int).toNat ≤ 35184372088832) = true := decide_eq_true c25
            clear c25
            obtain ⟨y225, hy225⟩ : ∃ y_ : List Int, y_ = (List.replicate (ji23 : Int).toNat 0) := ⟨_, rfl⟩
            replace H : (if 0 ≤ x4_1 then (if x4_1 < (x3_1.length : Int) then ((some (x3_1.set (x4_1 : Int).toNat y225 : List (List Int))).bind fun y228 => (impl_charging_costs.l1 k1 y228 x4_1 ((rd_L2 y228 x4_1).length : Int) 0 a0_0 a0_1 a0_2 l0_3 l0_4 a0_5)) else (none)) else (none)) = some r := by first | (rw [hy225]; with_reducible exact H) | (have H2_ := (Option.bind_some _ _).symm.trans H; rw [hy225]; with_reducible exact H2_) | (have H2_ := (Option.bind_some _ _).symm.trans H; with_reducible exact H2_) | with_reducible exact H | (rw [hy225]; exact H) | exact H
            have Ny225 := Aside0.mk hy225
            clear hy225
            by_cases c26 : 0 ≤ x4_1
            ·rw [if_pos c26] at H
             have c26b0 : decide (0 ≤ x4_1) = true := decide_eq_true c26
             clear c26
             by_cases c27 : x4_1 < (x3_1.length : Int)
             ·rw [if_pos c27] at H
              have c27b0 : decide (x4_1 < (x3_1.length : Int)) = true := decide_eq_true c27
              clear c27
              obtain ⟨y228, hy228⟩ : ∃ y_ : List (List Int), y_ = (x3_1.set (x4_1 : Int).toNat y225) := ⟨_, rfl⟩
              replace H : (impl_charging_costs.l1 k1 y228 x4_1 ((rd_L2 y228 x4_1).length : Int) 0 a0_0 a0_1 a0_2 l0_3 l0_4 a0_5) = some r := by first | (rw [hy228]; with_reducible exact H) | (have H2_ := (Option.bind_some _ _).symm.trans H; rw [hy228]; with_reducible exact H2_) | (have H2_ := (Option.bind_some _ _).symm.trans H; with_reducible exact H2_) | with_reducible exact H | (rw [hy228]; exact H) | exact H
              have Ny228 := Aside0.mk hy228
              clear hy228
              have H' := Aside0.mk H
              clear H
              have hcz29_0 : wr.cell? ⟨gb217, 0, none⟩ = some (.int .i64 a0_0) := (blk_cell BK217.out 0).trans rfl
              have hcz29_1 : wr.cell? ⟨gb217, 1, none⟩ = some (.int .i64 a0_1) := (blk_cell BK217.out 1).trans rfl
              have hcz29_2 : wr.cell? ⟨gb217, 2, none⟩ = some (.int .i64 a0_2) := (blk_cell BK217.out 2).trans rfl
              have hcz29_3 : wr.cell? ⟨gb217, 3, none⟩ = some (.slice A0_3 l0_3.length c0_3) := (blk_cell BK217.out 3).trans rfl
              have hcz29_4 : wr.cell? ⟨gb217, 4, none⟩ = some (.slice A0_4 l0_4.length c0_4) := (blk_cell BK217.out 4).trans rfl
              have hcz29_5 : wr.cell? ⟨gb217, 5, none⟩ = some (.int .i64 a0_5) := (blk_cell BK217.out 5).trans rfl
              have hfz29_0 := blk_frozen BK217.out 0
              have hfz29_1 := blk_frozen BK217.out 1
              have hfz29_2 := blk_frozen BK217.out 2
              have hfz29_3 := blk_frozen BK217.out 3
              have hfz29_4 := blk_frozen BK217.out 4
              have hfz29_5 := blk_frozen BK217.out 5
              go_wp2_with (first | ((with_reducible refine gate_dst (N := 39) rfl ?_); refine Kd.R_make (Kd.int .i64) _ 2 rfl (N := 39) rfl 24 _ _ rfl ji23 rfl rfl Try.underlying24 (.int .i64 0) 8 info2 rfl (by decide) (by omega) 0 (ok := fun _ => True) (okp := fun _ => True) rfl (fun _ hk => hk) trivial (of_decide_eq_true (by first | (with_reducible assumption) | assumption)) (Nat.le_trans (Nat.mul_le_mul_right _ (of_decide_eq_true (by first | (with_reducible assumption) | assumption) : ji23.toNat ≤ 35184372088832)) (by omega)) (Below.refl _ _) (Nat.le_refl _) ?_; intro v226 w30 ho31 hb hg_ hnew_; clear hg_ hnew_; (first | rw [← Ny225.out] at ho31 | (simp only [Int.reduceToNat] at ho31; rw [← Ny225.out] at ho31)); have n0_ := Aside0.mk (Kd.S_elder' (by (with_reducible repeat (first | apply Kd.S_alloc | apply Kd.S_drewN | apply Kd.S_drew)); exact HO_3.out) (Kd.R_base ho31) hb); have n1_ := Aside0.mk (Kd.R_lower ho31 (below_size (by repeat (first | (with_reducible first | exact HB.out | apply below_alloc | apply pw_below_drewN | apply below_drew1 | refine below_set ?_ GE217.out) | exact HB.out)))); have n2_ := Aside0.mk (blk_below (g := gb217) (o := .cells #[.int .i64 a0_0, .int .i64 a0_1, .int .i64 a0_2, .slice A0_3 l0_3.length c0_3, .slice A0_4 l0_4.length c0_4, .int .i64 a0_5] 55 (0, 0)) (by (with_reducible repeat (first | refine blk_drewN ?_ _ | refine blk_drew ?_ | refine blk_alloc ?_ _)); exact BK217.out) hb); have n3_ := Aside0.mk (below_step (by repeat (first | (with_reducible first | exact HB.out | apply below_alloc | apply pw_below_drewN | apply below_drew1 | refine below_set ?_ GE217.out) | exact HB.out)) hb); clear HO_3; clear BK217; clear HB; have HO_3 := n0_; have HO227 := n1_; have BK217 := n2_; have HB := n3_; clear n0_ n1_ n2_ n3_; clear hb ho31; have p28 : 0 ≤ (x4_1 : Int) := of_decide_eq_true (by first | (with_reducible assumption) | assumption); have q28 : (x4_1 : Int) < ((x3_1.length : Int) : Int) := of_decide_eq_true (by first | (with_reducible assumption) | assumption); obtain ⟨_, ce28, hcl28, hM28, hcc28, hfr28, _, _⟩ := Kd.S_elem HO_3.out [] (x4_1 : Int) p28 q28; obtain ⟨ve28_0, rfl, ge28_0⟩ := hM28; have hx28_0 := hcc28 0 _ rfl; have hf28_0 := hfr28 0; (try simp only [show ((Kd.slice 2 (Kd.int .i64))).sz = 1 from rfl, Nat.mul_one, Nat.add_zero] at hx28_0); (try simp only [show ((Kd.slice 2 (Kd.int .i64))).sz = 1 from rfl, Nat.mul_one, Nat.add_zero] at hf28_0); (clear hcl28 hcc28 hfr28; try clear hM28); replace p28 := eq_true p28; replace q28 := eq_true q28; obtain ⟨Ao32, co32, eo32⟩ := Kd.R_slice HO227.out; subst eo32; have n_ := Aside0.mk (Kd.S_mono (ok' := (fun k_ => some k_ ≠ (.slice Ao32 y225.length co32 : Value).ownBlock)) HO_3.out (fun k_ hk => hk.2)); clear HO_3; have HO_3 := n_; clear n_; have HX33 := Aside0.mk (show Kd.S (Kd.slice 2 (Kd.int .i64)) 24 w30 w.heap.size (fun k_ => ((fun _ => True)) k_ ∧ ¬ ((fun k_ => some k_ = (.slice Ao32 y225.length co32 : Value).ownBlock)) k_) (.slice (some ⟨go10, 0, none⟩) x3_1.length co10) x3_1 from (by (with_reducible repeat (first | apply Kd.S_alloc | apply Kd.S_drewN | apply Kd.S_drew)); exact Kd.S_mono HO_3.out (fun k_ hk => ⟨trivial, fun e_ => hk e_⟩))); obtain ⟨oki33, ce33, hcl33, hM33, hcc33, hfr33, hoki33, hH33⟩ := Kd.S_elem HX33.out [] (x4_1 : Int) (of_decide_eq_true (by first | (with_reducible assumption) | assumption)) (by have h_ : (x4_1 : Int) < ((x3_1.length : Int) : Int) := of_decide_eq_true (by first | (with_reducible assumption) | assumption); first | exact h_ | (have e_ := (Kd.S_reads' HO_3.out).1; omega) | simpa using h_); obtain ⟨ve33_0, rfl, ge33_0⟩ := hM33; have HP33 := Kd.S_seg hH33 (of_decide_eq_true (by first | (with_reducible assumption) | assumption)) (by have h_ : (x4_1 : Int) < ((x3_1.length : Int) : Int) := of_decide_eq_true (by first | (with_reducible assumption) | assumption); first | exact h_ | (have e_ := (Kd.S_reads' HO_3.out).1; omega) | simpa using h_) (seg := [.slice Ao32 y225.length co32]) (j := 0) (show 1 ≤ 1 from by decide) (x' := y225) (Kd.M_row (Kd.R_mono (Kd.R_tight rfl (Kd.R_mono (ok' := fun k_ => ((fun _ => True)) k_ ∧ k_ ≠ go10) (Kd.R_apart' (HO227.out) (Kd.S_typed HO_3.out) (by decide)) (fun k_ hk => ⟨trivial, fun e_ => (hk.2) (by rw [e_]; rfl)⟩))) (fun _ h_ => Or.inr (h_)))) (fun _ hk => hk) (fun k_ hk_ => ((Kd.R_mono (ok' := fun k_ => ((fun _ => True)) k_ ∧ k_ ≠ go10) (Kd.R_apart' (HO227.out) (Kd.S_typed HO_3.out) (by decide)) (fun k_ hk => ⟨trivial, fun e_ => (hk.2) (by rw [e_]; rfl)⟩))).1 k_ hk_.symm); have hx33_0 := hcc33 0 _ rfl; (try simp only [show ((Kd.slice 2 (Kd.int .i64))).sz = 1 from rfl, Nat.mul_one, Nat.add_zero] at hx33_0); have hf33_0 := hfr33 0; (try simp only [show ((Kd.slice 2 (Kd.int .i64))).sz = 1 from rfl, Nat.mul_one, Nat.add_zero] at hf33_0); (clear hcl33 hcc33 hfr33 hoki33 hH33; try clear hM33); (try simp only [show ((Kd.slice 2 (Kd.int .i64))).sz = 1 from rfl, Nat.mul_one, Nat.add_zero] at HP33)) | ((with_reducible refine gate_store (t := 24) (p := 40) rfl ?_); refine store_event (t := 24) (p := 40) (v := ?vo_w34) (w1 := (w30.setCell ⟨go10, (x4_1 : Int).toNat, none⟩ (.slice Ao32 y225.length co32))) ?hg ?ho ?hn ?hr ?_; (case ho => rfl); (case hg => rfl); (case hn => rfl); (case hr => first | (go_simp; done) | (go_simp; rfl)); intro w34 hw; have hg : w30.grownBy w34 (some go10) := (by rw [hw]; exact HP33.2); have hp_ : Kd.S (Kd.slice 2 (Kd.int .i64)) 24 w34 w.heap.size (fun _ => True) (.slice (some ⟨go10, 0, none⟩) x3_1.length co10) y228 := (by rw [hw, Ny228.out]; exact HP33.1); clear HP33; have n0_ := Aside0.mk (hp_); have n1_ := Aside0.mk (blk_grown (g := gb217) (o := .cells #[.int .i64 a0_0, .int .i64 a0_1, .int .i64 a0_2, .slice A0_3 l0_3.length c0_3, .slice A0_4 l0_4.length c0_4, .int .i64 a0_5] 55 (0, 0)) (by (with_reducible repeat (first | refine blk_drewN ?_ _ | refine blk_drew ?_ | refine blk_alloc ?_ _)); exact BK217.out) hg (Kd.S_ne HO_3.out BK217.out (by decide))); have n2_ := Aside0.mk ((by rw [hw]; exact below_set (HB.out) GB10.out : Below w.heap.size w w34)); clear HO_3; clear BK217; clear HB; clear HO227; have HO_3 := n0_; have BK217 := n1_; have HB := n2_; clear n0_ n1_ n2_; clear hg hw hp_; have p229 : 0 ≤ (x4_1 : Int) := of_decide_eq_true (by first | (with_reducible assumption) | assumption); have q229 : x4_1 < (y228.length : Int) := (by have h_ : (x4_1 : Int) < ((x3_1.length : Int) : Int) := of_decide_eq_true (by first | (with_reducible assumption) | assumption); first | (have e_ := (Kd.S_reads' HO_3.out).1; omega) | simpa only [Ny228.out, List.length_set] using h_); have ql229 : ((x4_1 : Int) < ((x3_1.length : Int) : Int)) = True := eq_true (of_decide_eq_true (by first | (with_reducible assumption) | assumption)); obtain ⟨ad229, A229_0, c229_0, e229, hx229_0, hl229_0, hi229_0⟩ := at_L2 (Kd.S_reads' HO_3.out).2.2 x4_1 p229 q229; obtain rfl : (⟨go10, 0, none⟩ : Addr) = ad229 := (by injection e229); obtain ⟨ce229, hce229, hMe229, hcc229⟩ := Kd.S_get HO_3.out [] x4_1 p229 (by first | exact q229 | exact of_decide_eq_true (by first | (with_reducible assumption) | assumption) | (have e_ := (Kd.S_reads' HO_3.out).1; omega)); obtain ⟨ve229_0, rfl, ge229_0⟩ := hMe229; have hv229_0 := hcc229 0 _ rfl; rw [Nat.add_zero, show ((Kd.slice 2 (Kd.int .i64))).sz = 1 from rfl, Nat.mul_one] at hv229_0; replace hv229_0 := Option.some.inj (hv229_0.symm.trans hx229_0); rw [hv229_0] at ge229_0; have HL229_0 := Aside0.mk (show Kd.R (Kd.int .i64) 2 _ _ _ _ (rd_L2 y228 x4_1) from ge229_0); clear hv229_0 ge229_0; have HX229_0 := Aside0.mk hx229_0; clear hcc229 hce229; (first | simp only [add_plain] at hx229_0 | simp only [add_at] at hx229_0 | simp only [Addr.add, Nat.zero_add] at hx229_0 | skip); have HR229_0 := Aside0.mk hi229_0; have HC229_0 := Aside0.mk hl229_0; clear hi229_0 hl229_0; replace p229 := eq_true p229; replace q229 := eq_true q229))
              go_loopg [46] k1 (fun kq v46 w' => ∃ (x3_2 : List (List Int)) (x46_2 : Int), v46 = .int .i64 x46_2 ∧ Aside0 (impl_charging_costs.l1 kq x3_2 x4_1 ((rd_L2 y228 x4_1).length : Int) x46_2 a0_0 a0_1 a0_2 l0_3 l0_4 a0_5 = some r) ∧ Aside0 (kq ≤ k1) ∧ Aside0 (Kd.S (Kd.slice 2 (Kd.int .i64)) 24 w' w.heap.size (fun _ => True) (.slice (some ⟨go10, 0, none⟩) x3_1.length co10) x3_2) ∧ Aside0 (w'.heap[gb217]? = some (.cells #[.int .i64 a0_0, .int .i64 a0_1, .int .i64 a0_2, (.slice A0_3 l0_3.length c0_3), (.slice A0_4 l0_4.length c0_4), .int .i64 a0_5] 55 (0, 0))) ∧ Aside0 (Below w.heap.size w w'))
              case atStart => exact ⟨(y228), (0), (by first | rfl | (simp; done) | (simp [*]; done)), H', ⟨Nat.le_refl _⟩, ⟨by (try simp only [hl3_1]); (with_reducible repeat (first | apply Kd.S_alloc | apply Kd.S_drewN | apply Kd.S_drew)); exact HO_3.out⟩, ⟨by (try simp only [hl3_1]); (with_reducible repeat (first | refine blk_drewN ?_ _ | refine blk_drew ?_ | refine blk_alloc ?_ _)); exact BK217.out⟩, ⟨by repeat (first | (with_reducible first | exact HB.out | apply below_alloc | apply pw_below_drewN | apply below_drew1 | refine below_set ?_ GE217.out) | exact HB.out)⟩⟩
              case round =>
               clear H'
               try clear c1
               try clear p1
               try clear q1
               try clear hx1
               try clear hf1
               try clear c2
               try clear p2
               try clear q2
               try clear hx2
               try clear hf2
               try clear c3
               try clear c3b0
               try clear c3b1
               try clear hx3
               try clear hf3
               try clear c4
               try clear c4b0
               try clear c4b1
               try clear c5
               try clear c6
               try clear c6b0
               try clear c6b1
               try clear p6
               try clear c7
               try clear c7b0
               try clear c7b1
               try clear c8
               try clear c8b0
               try clear c8b1
               try clear c9
               try clear c9b0
               try clear c9b1
               try clear c10
               try clear p10
               try clear q10
               try clear hx10
               try clear hf10
               try clear c18
               try clear c22
               try clear c22b0
               try clear p22
               try clear q22
               try clear hx22
               try clear c24
               try clear c24b0
               try clear c24b1
               try clear c25
               try clear c25b0
               try clear c25b1
               try clear c26
               try clear c26b0
               try clear c27
               try clear c27b0
               try clear c28
               try clear p28
               try clear q28
               try clear hx28
               try clear hf28
               try clear c33
               try clear hx33
               try clear hf33
               try clear hcz12_0
               try clear hcz12_1
               try clear hcz12_2
               try clear hcz12_3
               try clear hcz12_4
               try clear hcz12_5
               try clear hcz21_0
               try clear hcz21_1
               try clear hcz21_2
               try clear hcz21_3
               try clear hcz21_4
               try clear hcz21_5
               try clear hcz29_0
               try clear hcz29_1
               try clear hcz29_2
               try clear hcz29_3
               try clear hcz29_4
               try clear hcz29_5
               try clear hfz12_0
               try clear hfz12_1
               try clear hfz12_2
               try clear hfz12_3
               try clear hfz12_4
               try clear hfz12_5
               try clear hfz21_0
               try clear hfz21_1
               try clear hfz21_2
               try clear hfz21_3
               try clear hfz21_4
               try clear hfz21_5
               try clear hfz29_0
               try clear hfz29_1
               try clear hfz29_2
               try clear hfz29_3
               try clear hfz29_4
               try clear hfz29_5
               try clear hx10_0
               try clear hx229_0
               try clear hx28_0
               try clear hx33_0
               try clear p1
               try clear p10
               try clear p2
               try clear p229
               try clear p28
               try clear p6
               try clear q1
               try clear q10
               try clear q229
               try clear q28
               obtain ⟨x3_2, x46_2, rfl, HA, HK2, HO_3, BK217, HB⟩ := hrel
               have hl3_2 := (Kd.S_reads' HO_3.out).1
               rw [hl3_2] at HO_3
               (try simp only [hl3_2])
               (try simp only [hl3_2] at BK217)
               cases gk with
               | zero => exact absurd HA.out (by simp [impl_charging_costs.l1])
               | succ k2 =>
                have H := HA.out
                clear HA
                simp only [impl_charging_costs.l1] at H
                by_cases c35 : x46_2 < ((rd_L2 y228 x4_1).length : Int)
                ·rw [if_pos c35] at H
                 have c35b0 : decide (x46_2 < ((rd_L2 y228 x4_1).length : Int)) = true := decide_eq_true c35
                 clear c35
                 by_cases c36 : 0 ≤ x4_1
                 ·rw [if_pos c36] at H
                  have c36b0 : decide (0 ≤ x4_1) = true := decide_eq_true c36
                  clear c36
                  by_cases c37 : x4_1 < (x3_2.length : Int)
                  ·rw [if_pos c37] at H
                   have c37b0 : decide (x4_1 < (x3_2.length : Int)) = true := decide_eq_true c37
                   clear c37
                   by_cases c38 : 0 ≤ x46_2
                   ·rw [if_pos c38] at H
                    have c38b0 : decide (0 ≤ x46_2) = true := decide_eq_true c38
                    clear c38
                    by_cases c39 : x46_2 < ((rd_L2 x3_2 x4_1).length : Int)
                    ·rw [if_pos c39] at H
                     have c39b0 : decide (x46_2 < ((rd_L2 x3_2 x4_1).length : Int)) = true := decide_eq_true c39
                     clear c39
                     obtain ⟨y231, hy231⟩ : ∃ y_ : List Int, y_ = ((rd_L2 x3_2 x4_1).set (x46_2 : Int).toNat (-1)) := ⟨_, rfl⟩
                     replace H : (impl_charging_costs.l2 k2 (x3_2.set (x4_1 : Int).toNat y231) x4_1 x46_2 (wrap64 (-a0_1)) ((rd_L2 y228 x4_1).length : Int) x46_2 a0_0 a0_1 a0_2 l0_3 l0_4 a0_5) = some r := by first | (rw [hy231]; with_reducible exact H) | (have H2_ := (Option.bind_some _ _).symm.trans H; rw [hy231]; with_reducible exact H2_) | (have H2_ := (Option.bind_some _ _).symm.trans H; with_reducible exact H2_) | with_reducible exact H | (rw [hy231]; exact H) | exact H
                     have Ny231 := Aside0.mk hy231
                     clear hy231
                     obtain ⟨y233, hy233⟩ : ∃ y_ : List (List Int), y_ = (x3_2.set (x4_1 : Int).toNat y231) := ⟨_, rfl⟩
                     replace H : (impl_charging_costs.l2 k2 y233 x4_1 x46_2 (wrap64 (-a0_1)) ((rd_L2 y228 x4_1).length : Int) x46_2 a0_0 a0_1 a0_2 l0_3 l0_4 a0_5) = some r := by first | (rw [hy233]; with_reducible exact H) | (have H2_ := (Option.bind_some _ _).symm.trans H; rw [hy233]; with_reducible exact H2_) | (have H2_ := (Option.bind_some _ _).symm.trans H; with_reducible exact H2_) | with_reducible exact H | (rw [hy233]; exact H) | exact H
                     have Ny233 := Aside0.mk hy233
                     clear hy233
                     have H' := Aside0.mk H
                     clear H
                     have p230 : 0 ≤ (x4_1 : Int) := of_decide_eq_true (by first | (with_reducible assumption) | assumption)
                     have q230 : x4_1 < (x3_2.length : Int) := of_decide_eq_true (by first | (with_reducible assumption) | assumption)
                     obtain ⟨ad230, A230_0, c230_0, e230, hx230_0, hl230_0, hi230_0⟩ := at_L2 (Kd.S_reads' HO_3.out).2.2 x4_1 p230 q230
                     obtain rfl : (⟨go10, 0, none⟩ : Addr) = ad230 := (by injection e230)
                     obtain ⟨ce230, hce230, hMe230, hcc230⟩ := Kd.S_get HO_3.out [] x4_1 p230 (by first | exact q230 | exact of_decide_eq_true (by first | (with_reducible assumption) | assumption) | (have e_ := (Kd.S_reads' HO_3.out).1; omega))
                     obtain ⟨ve230_0, rfl, ge230_0⟩ := hMe230
                     have hv230_0 := hcc230 0 _ rfl
                     rw [Nat.add_zero, show ((Kd.slice 2 (Kd.int .i64))).sz = 1 from rfl, Nat.mul_one] at hv230_0
                     replace hv230_0 := Option.some.inj (hv230_0.symm.trans hx230_0)
                     rw [hv230_0] at ge230_0
                     have HL230_0 := Aside0.mk (show Kd.R (Kd.int .i64) 2 _ _ _ _ (rd_L2 x3_2 x4_1) from ge230_0)
                     clear hv230_0 ge230_0
                     have HX230_0 := Aside0.mk hx230_0
                     clear hcc230 hce230
                     (first | simp only [add_plain] at hx230_0 | simp only [add_at] at hx230_0 | simp only [Addr.add, Nat.zero_add] at hx230_0 | skip)
                     have HR230_0 := Aside0.mk hi230_0
                     have HC230_0 := Aside0.mk hl230_0
                     clear hi230_0 hl230_0
                     replace p230 := eq_true p230
                     replace q230 := eq_true q230
                     have p40 : 0 ≤ (x46_2 : Int) := of_decide_eq_true (by first | (with_reducible assumption) | assumption)
                     have q40 : (x46_2 : Int) < (((rd_L2 x3_2 x4_1).length : Int) : Int) := of_decide_eq_true (by first | (with_reducible assumption) | assumption)
                     obtain ⟨go40, co40, eo40, gb40, gl40, cl40, HG40⟩ := Kd.R_form HL230_0.out (by omega)
                     (first | cases eo40 | (injection eo40 with ea_ en_ ec_; (first | subst ea_ | (injection ea_ with ea_; subst ea_)); subst ec_; clear en_))
                     have GB40 := Aside0.mk gb40
                     have GG40 := Aside0.mk HG40
                     clear gb40 gl40 HG40
                     obtain ⟨hx40_0, hf40_0⟩ := Kd.R_celln 0 HL230_0.out (x46_2 : Int) p40 q40
                     replace p40 := eq_true p40
                     replace q40 := eq_true q40
                     have hq41 : (x4_1 : Int) < (x3_2.length : Int) := (by have h_ : (x4_1 : Int) < ((x3_2.length : Int) : Int) := of_decide_eq_true (by first | (with_reducible assumption) | assumption); first | exact h_ | (have e_ := (Kd.S_reads' HO_3.out).1; omega) | simpa only [List.length_set, List.length_set] using h_)
                     obtain ⟨oki41, ce41, hcl41, hM41, hcc41, hok41, hbk41⟩ := Kd.S_borrow HO_3.out [] (x4_1 : Int) (of_decide_eq_true (by first | (with_reducible assumption) | assumption)) hq41
                     obtain ⟨ve41_0, rfl, ge41_0⟩ := hM41
                     have hv41 := hcc41 0 _ rfl
                     rw [Nat.add_zero, show ((Kd.slice 2 (Kd.int .i64))).sz = 1 from rfl, Nat.mul_one] at hv41
                     replace hv41 := Option.some.inj (hv41.symm.trans HX230_0.out)
                     subst hv41
                     clear hcc41 hcl41
                     replace ge41_0 := (show Kd.R (Kd.int .i64) 2 _ _ _ _ (rd_L2 x3_2 x4_1) from ge41_0)
                     have HP41 := Kd.R_putg ge41_0 (x46_2 : Int) (-1)
                     go_wp2_with (first | ((with_reducible refine gate_store (t := 2) (p := 54) rfl ?_); refine store_event (t := 2) (p := 54) (v := ?vo_w42) (w1 := (wr.setCell ⟨go40, (x46_2 : Int).toNat, none⟩ (.int .i64 (-1)))) ?hg ?ho ?hn ?hr ?_; (case ho => rfl); (case hg => rfl); (case hn => rfl); (case hr => first | (go_simp; done) | (go_simp; rfl)); intro w42 hw; have hg : wr.grownBy w42 (some go40) := (by rw [hw]; exact HP41.2); have hz_ : Kd.R (Kd.int .i64) 2 w42 w.heap.size oki41 (.slice (some ⟨go40, 0, none⟩) (rd_L2 x3_2 x4_1).length c230_0) y231 := (by rw [hw, Ny231.out]; exact HP41.1); have hp_ : Kd.S (Kd.slice 2 (Kd.int .i64)) 24 w42 w.heap.size (fun _ => True) (.slice (some ⟨go10, 0, none⟩) x3_2.length co10) y233 := (by rw [Ny233.out]; exact hbk41 hg (fun k_ e_ => by injection e_ with e_; subst e_; exact ge41_0.1 _ rfl) (Kd.M_row hz_)); have hm_ := Kd.R_mono hz_ hok41; clear HP41 hbk41; have n0_ := Aside0.mk (hp_); have n1_ := Aside0.mk (blk_grown (g := gb217) (o := .cells #[.int .i64 a0_0, .int .i64 a0_1, .int .i64 a0_2, .slice A0_3 l0_3.length c0_3, .slice A0_4 l0_4.length c0_4, .int .i64 a0_5] 55 (0, 0)) (by (with_reducible repeat (first | refine blk_drewN ?_ _ | refine blk_drew ?_ | refine blk_alloc ?_ _)); exact BK217.out) hg (Kd.R_ne HL230_0.out BK217.out (by decide))); have n2_ := Aside0.mk ((by rw [hw]; exact below_set (HB.out) GB40.out : Below w.heap.size w w42)); have n3_ := Aside0.mk (hm_); have n4_ := Aside0.mk ((Kd.R_reads' hm_).2.1); clear HO_3; clear BK217; clear HB; clear HL230_0; have HO_3 := n0_; have BK217 := n1_; have HB := n2_; have HL253 := n3_; have HC232 := n4_; clear n0_ n1_ n2_ n3_ n4_; clear hg hw hp_ hz_ hm_ hok41; have hcz43_0 : w42.cell? ⟨gb217, 0, none⟩ = some (.int .i64 a0_0) := (blk_cell BK217.out 0).trans rfl; have hcz43_1 : w42.cell? ⟨gb217, 1, none⟩ = some (.int .i64 a0_1) := (blk_cell BK217.out 1).trans rfl; have hcz43_2 : w42.cell? ⟨gb217, 2, none⟩ = some (.int .i64 a0_2) := (blk_cell BK217.out 2).trans rfl; have hcz43_3 : w42.cell? ⟨gb217, 3, none⟩ = some (.slice A0_3 l0_3.length c0_3) := (blk_cell BK217.out 3).trans rfl; have hcz43_4 : w42.cell? ⟨gb217, 4, none⟩ = some (.slice A0_4 l0_4.length c0_4) := (blk_cell BK217.out 4).trans rfl; have hcz43_5 : w42.cell? ⟨gb217, 5, none⟩ = some (.int .i64 a0_5) := (blk_cell BK217.out 5).trans rfl; have hfz43_0 := blk_frozen BK217.out 0; have hfz43_1 := blk_frozen BK217.out 1; have hfz43_2 := blk_frozen BK217.out 2; have hfz43_3 := blk_frozen BK217.out 3; have hfz43_4 := blk_frozen BK217.out 4; have hfz43_5 := blk_frozen BK217.out 5))
                     go_loopg [6] k2 (fun kq v6 w' => ∃ (x3_3 : List (List Int)) (x6_3 : Int), v6 = .int .i64 x6_3 ∧ Aside0 (impl_charging_costs.l2 kq x3_3 x4_1 x46_2 x6_3 ((rd_L2 y228 x4_1).length : Int) x46_2 a0_0 a0_1 a0_2 l0_3 l0_4 a0_5 = some r) ∧ Aside0 (kq ≤ k2) ∧ Aside0 (Kd.S (Kd.slice 2 (Kd.int .i64)) 24 w' w.heap.size (fun _ => True) (.slice (some ⟨go10, 0, none⟩) x3_2.length co10) x3_3) ∧ Aside0 (w'.heap[gb217]? = some (.cells #[.int .i64 a0_0, .int .i64 a0_1, .int .i64 a0_2, (.slice A0_3 l0_3.length c0_3), (.slice A0_4 l0_4.length c0_4), .int .i64 a0_5] 55 (0, 0))) ∧ Aside0 (Below w.heap.size w w'))
                     case atStart => exact ⟨(y233), (wrap64 (-a0_1)), (by first | rfl | (simp; done) | (simp [*]; done)), H', ⟨Nat.le_refl _⟩, ⟨by (try simp only [hl3_1]); (try simp only [hl3_2]); (with_reducible repeat (first | apply Kd.S_alloc | apply Kd.S_drewN | apply Kd.S_drew)); exact HO_3.out⟩, ⟨by (try simp only [hl3_1]); (try simp only [hl3_2]); (with_reducible repeat (first | refine blk_drewN ?_ _ | refine blk_drew ?_ | refine blk_alloc ?_ _)); exact BK217.out⟩, ⟨by repeat (first | (with_reducible first | exact HB.out | apply below_alloc | apply pw_below_drewN | apply below_drew1 | refine below_set ?_ GE217.out) | exact HB.out)⟩⟩
                     case round =>
                      clear H'
                      try clear c1
                      try clear p1
                      try clear q1
                      try clear hx1
                      try clear hf1
                      try clear c2
                      try clear p2
                      try clear q2
                      try clear hx2
                      try clear hf2
                      try clear c3
                      try clear c3b0
                      try clear c3b1
                      try clear hx3
                      try clear hf3
                      try clear c4
                      try clear c4b0
                      try clear c4b1
                      try clear p4
                      try clear q4
                      try clear hx4
                      try clear hf4
                      try clear c5
                      try clear c6
                      try clear c6b0
                      try clear c6b1
                      try clear p6
                      try clear c7
                      try clear c7b0
                      try clear c7b1
                      try clear c8
                      try clear c8b0
                      try clear c8b1
                      try clear c9
                      try clear c9b0
                      try clear c9b1
                      try clear c10
                      try clear p10
                      try clear q10
                      try clear hx10
                      try clear hf10
                      try clear c18
                      try clear c22
                      try clear c22b0
                      try clear p22
                      try clear q22
                      try clear hx22
                      try clear c23
                      try clear p23
                      try clear q23
                      try clear hx23
                      try clear c24
                      try clear c24b0
                      try clear c24b1
                      try clear c25
                      try clear c25b0
                      try clear c25b1
                      try clear c26
                      try clear c26b0
                      try clear c27
                      try clear c27b0
                      try clear c28
                      try clear p28
                      try clear q28
                      try clear hx28
                      try clear hf28
                      try clear c33
                      try clear hx33
                      try clear hf33
                      try clear c35
                      try clear c35b0
                      try clear c36
                      try clear c36b0
                      try clear c37
                      try clear c37b0
                      try clear c38
                      try clear c38b0
                      try clear c39
                      try clear c39b0
                      try clear p40
                      try clear q40
                      try clear hx40
                      try clear hf40
                      try clear c41
                      try clear q41
                      try clear hcz12_0
                      try clear hcz12_1
                      try clear hcz12_2
                      try clear hcz12_3
                      try clear hcz12_4
                      try clear hcz12_5
                      try clear hcz21_0
                      try clear hcz21_1
                      try clear hcz21_2
                      try clear hcz21_3
                      try clear hcz21_4
                      try clear hcz21_5
                      try clear hcz29_0
                      try clear hcz29_1
                      try clear hcz29_2
                      try clear hcz29_3
                      try clear hcz29_4
                      try clear hcz29_5
                      try clear hcz43_0
                      try clear hcz43_1
                      try clear hcz43_2
                      try clear hcz43_3
                      try clear hcz43_4
                      try clear hcz43_5
                      try clear hfz12_0
                      try clear hfz12_1
                      try clear hfz12_2
                      try clear hfz12_3
                      try clear hfz12_4
                      try clear hfz12_5
                      try clear hfz21_0
                      try clear hfz21_1
                      try clear hfz21_2
                      try clear hfz21_3
                      try clear hfz21_4
                      try clear hfz21_5
                      try clear hfz29_0
                      try clear hfz29_1
                      try clear hfz29_2
                      try clear hfz29_3
                      try clear hfz29_4
                      try clear hfz29_5
                      try clear hfz43_0
                      try clear hfz43_1
                      try clear hfz43_2
                      try clear hfz43_3
                      try clear hfz43_4
                      try clear hfz43_5
                      try clear hx10_0
                      try clear hx229_0
                      try clear hx230_0
                      try clear hx28_0
                      try clear hx33_0
                      try clear hx40_0
                      try clear p1
                      try clear p10
                      try clear p2
                      try clear p22
                      try clear p229
                      try clear p230
                      try clear p28
                      try clear p40
                      try clear p6
                      try clear q1
                      try clear q10
                      try clear q2
                      try clear q22
                      try clear q229
                      try clear q230
                      try clear q28
                      try clear q40
                      obtain ⟨x3_3, x6_3, rfl, HA, HK3, HO_3, BK217, HB⟩ := hrel
                      have hl3_3 := (Kd.S_reads' HO_3.out).1
                      rw [hl3_3] at HO_3
                      (try simp only [hl3_3])
                      (try simp only [hl3_3] at BK217)
                      cases gk with
                      | zero => exact absurd HA.out (by simp [impl_charging_costs.l2])
                      | succ k3 =>
                       have H := HA.out
                       clear HA
                       simp only [impl_charging_costs.l2] at H
                       by_cases c44 : x6_3 ≤ a0_1
                       ·rw [if_pos c44] at H
                        have c44b0 : decide (x6_3 ≤ a0_1) = true := decide_eq_true c44
                        clear c44
                        replace H := Option.bind_eq_some_iff.mp H
                        obtain ⟨⟨t234, t235⟩, A450, H⟩ := H
                        replace H : (if t235 = true then (if 0 ≤ (wrap64 (x4_1 + 1)) then (if (wrap64 (x4_1 + 1)) < (x3_3.length : Int) then (if 0 ≤ t234 then (if t234 < ((rd_L2 x3_3 (wrap64 (x4_1 + 1))).length : Int) then (impl_charging_costs.j3 k3 x3_3 x4_1 x46_2 x6_3 t234 ((rd_L2 y228 x4_1).length : Int) x46_2 (decide ((rd (rd_L2 x3_3 (wrap64 (x4_1 + 1))) t234) < 0)) a0_0 a0_1 a0_2 l0_3 l0_4 a0_5) else (none)) else (none)) else (none)) else (none)) else (impl_charging_costs.j3 k3 x3_3 x4_1 x46_2 x6_3 t234 ((rd_L2 y228 x4_1).length : Int) x46_2 true a0_0 a0_1 a0_2 l0_3 l0_4 a0_5)) = some r := H
                        have A45 := Aside0.mk A450
                        clear A450
                        have HC46 := Aside0.mk H
                        clear H
                        have hcz47_0 : wr.cell? ⟨gb217, 0, none⟩ = some (.int .i64 a0_0) := (blk_cell BK217.out 0).trans rfl
                        have hcz47_1 : wr.cell? ⟨gb217, 1, none⟩ = some (.int .i64 a0_1) := (blk_cell BK217.out 1).trans rfl
                        have hcz47_2 : wr.cell? ⟨gb217, 2, none⟩ = some (.int .i64 a0_2) := (blk_cell BK217.out 2).trans rfl
                        have hcz47_3 : wr.cell? ⟨gb217, 3, none⟩ = some (.slice A0_3 l0_3.length c0_3) := (blk_cell BK217.out 3).trans rfl
                        have hcz47_4 : wr.cell? ⟨gb217, 4, none⟩ = some (.slice A0_4 l0_4.length c0_4) := (blk_cell BK217.out 4).trans rfl
                        have hcz47_5 : wr.cell? ⟨gb217, 5, none⟩ = some (.int .i64 a0_5) := (blk_cell BK217.out 5).trans rfl
                        have hfz47_0 := blk_frozen BK217.out 0
                        have hfz47_1 := blk_frozen BK217.out 1
                        have hfz47_2 := blk_frozen BK217.out 2
                        have hfz47_3 := blk_frozen BK217.out 3
                        have hfz47_4 := blk_frozen BK217.out 4
                        have hfz47_5 := blk_frozen BK217.out 5
                        go_upto_region 15 with (first | ((with_reducible refine gate_callee (f := 39) rfl ?_); refine goesL_ (some 71) rfl rfl Try.func39 (by kernel_rfl) rfl #[.agg #[.int .i64 a0_0, .int .i64 a0_1, .int .i64 a0_2, .slice A0_3 l0_3.length c0_3, .slice A0_4 l0_4.length c0_4, .int .i64 a0_5], .int .i64 x4_1, .int .i64 x46_2, .int .i64 x6_3] rfl (by (try simp only [List.map_toArray, List.map_cons, List.map_nil]); first | done | rfl | (simp only [List.length_drop, List.length_take]; rfl)) ?_; (with_reducible refine (impl_charging_after.calls a0_0 a0_1 a0_2 _ _ l0_3 _ _ l0_4 a0_5 x4_1 x46_2 x6_3 t234 t235 _ ?side1 ?side2 ?side3 ?side4 A45.out).mono ?_); (case side1 => repeat (first | exact (Kd.C_below HR0_3.out HB.out) | (with_reducible refine Kd.C_alloc ?_ _) | (with_reducible refine Kd.C_drewN ?_ _) | (with_reducible refine Kd.C_drew ?_))); (case side2 => exact HC0_3.out); (case side3 => repeat (first | exact (Kd.C_below HR0_4.out HB.out) | (with_reducible refine Kd.C_alloc ?_ _) | (with_reducible refine Kd.C_drewN ?_ _) | (with_reducible refine Kd.C_drew ?_))); (case side4 => exact HC0_4.out); rintro e w48 ⟨rfl, hb⟩; refine ⟨_, rfl, ?_⟩; have n0_ := Aside0.mk (Kd.S_below (by (with_reducible repeat (first | apply Kd.S_alloc | apply Kd.S_drewN | apply Kd.S_drew)); exact HO_3.out) hb); have n1_ := Aside0.mk (blk_below (g := gb217) (o := .cells #[.int .i64 a0_0, .int .i64 a0_1, .int .i64 a0_2, .slice A0_3 l0_3.length c0_3, .slice A0_4 l0_4.length c0_4, .int .i64 a0_5] 55 (0, 0)) (by (with_reducible repeat (first | refine blk_drewN ?_ _ | refine blk_drew ?_ | refine blk_alloc ?_ _)); exact BK217.out) hb); have n2_ := Aside0.mk (below_step (by repeat (first | (with_reducible first | exact HB.out | apply below_alloc | apply pw_below_drewN | apply below_drew1 | refine below_set ?_ GE217.out) | exact HB.out)) hb); clear HO_3; clear BK217; clear HB; have HO_3 := n0_; have BK217 := n1_; have HB := n2_; clear n0_ n1_ n2_; (try clear hb); (try clear hb2); (try clear hk); (try clear hi)))
                        (try simp only [Act.put, List.setIfInBounds_toArray, List.set_cons_zero, List.set_cons_succ])
                        go_cut [86] (fun v86 wc => ∃ (kq : Nat) (x86_45 : Bool), v86 = .bool x86_45 ∧ Aside0 (impl_charging_costs.j3 kq x3_3 x4_1 x46_2 x6_3 t234 ((rd_L2 y228 x4_1).length : Int) x46_2 x86_45 a0_0 a0_1 a0_2 l0_3 l0_4 a0_5 = some r) ∧ Aside0 (kq ≤ k3) ∧ Aside0 (Kd.S (Kd.slice 2 (Kd.int .i64)) 24 wc w.heap.size (fun _ => True) (.slice (some ⟨go10, 0, none⟩) x3_3.length co10) x3_3) ∧ Aside0 (wc.heap[gb217]? = some (.cells #[.int .i64 a0_0, .int .i64 a0_1, .int .i64 a0_2, (.slice A0_3 l0_3.length c0_3), (.slice A0_4 l0_4.length c0_4), .int .i64 a0_5] 55 (0, 0))) ∧ Aside0 (Below w.heap.size w wc))
                        case first =>
                         have H := HC46.out
                         clear HC46
                         by_cases c49 : t235 = true
                         ·subst c49
                          have H1 : (if 0 ≤ (wrap64 (x4_1 + 1)) then (if (wrap64 (x4_1 + 1)) < (x3_3.length : Int) then (if 0 ≤ t234 then (if t234 < ((rd_L2 x3_3 (wrap64 (x4_1 + 1))).length : Int) then (impl_charging_costs.j3 k3 x3_3 x4_1 x46_2 x6_3 t234 ((rd_L2 y228 x4_1).length : Int) x46_2 (decide ((rd (rd_L2 x3_3 (wrap64 (x4_1 + 1))) t234) < 0)) a0_0 a0_1 a0_2 l0_3 l0_4 a0_5) else (none)) else (none)) else (none)) else (none)) = some r := by rw [if_pos rfl] at H; exact H
                          clear H
                          have H := H1
                          clear H1
                          obtain ⟨ji50, hji50⟩ : ∃ j_ : Int, (wrap64 (x4_1 + 1)) = j_ := ⟨_, rfl⟩
                          replace H : (if 0 ≤ (ji50) then (if (ji50) < (x3_3.length : Int) then (if 0 ≤ t234 then (if t234 < ((rd_L2 x3_3 (ji50)).length : Int) then (impl_charging_costs.j3 k3 x3_3 x4_1 x46_2 x6_3 t234 ((rd_L2 y228 x4_1).length : Int) x46_2 (decide ((rd (rd_L2 x3_3 (ji50)) t234) < 0)) a0_0 a0_1 a0_2 l0_3 l0_4 a0_5) else (none)) else (none)) else (none)) else (none)) = some r := by first | (rw [hji50] at H; exact H) | (simp only [hji50] at H ⊢; exact H)
                          have hji50w : (IntKind.i64.wrap (x4_1 + 1)) = ji50 := (i64_w _).trans hji50
                          by_cases c51 : 0 ≤ (ji50)
                          ·rw [if_pos c51] at H
                           have c51b0 : decide (0 ≤ (ji50)) = true := decide_eq_true c51
                           clear c51
                           (first | rw [c51b0] | (simp only [i64_w, i32_w]; rw [c51b0]) | skip)
                           by_cases c52 : (ji50) < (x3_3.length : Int)
                           ·rw [if_pos c52] at H
                            have c52b0 : decide ((ji50) < (x3_3.length : Int)) = true := decide_eq_true c52
                            clear c52
                            by_cases c53 : 0 ≤ t234
                            ·rw [if_pos c53] at H
                             have c53b0 : decide (0 ≤ t234) = true := decide_eq_true c53
                             clear c53
                             by_cases c54 : t234 < ((rd_L2 x3_3 (ji50)).length : Int)
                             ·rw [if_pos c54] at H
                              have c54b0 : decide (t234 < ((rd_L2 x3_3 (ji50)).length : Int)) = true := decide_eq_true c54
                              clear c54
                              have H' := Aside0.mk H
                              clear H
                              have p236 : 0 ≤ ((ji50) : Int) := of_decide_eq_true (by first | (with_reducible assumption) | assumption)
                              have q236 : (ji50) < (x3_3.length : Int) := of_decide_eq_true (by first | (with_reducible assumption) | assumption)
                              obtain ⟨ad236, A236_0, c236_0, e236, hx236_0, hl236_0, hi236_0⟩ := at_L2 (Kd.S_reads' HO_3.out).2.2 (ji50) p236 q236
                              obtain rfl : (⟨go10, 0, none⟩ : Addr) = ad236 := (by injection e236)
                              obtain ⟨ce236, hce236, hMe236, hcc236⟩ := Kd.S_get HO_3.out [] (ji50) p236 (by first | exact q236 | exact of_decide_eq_true (by first | (with_reducible assumption) | assumption) | (have e_ := (Kd.S_reads' HO_3.out).1; omega))
                              obtain ⟨ve236_0, rfl, ge236_0⟩ := hMe236
                              have hv236_0 := hcc236 0 _ rfl
                              rw [Nat.add_zero, show ((Kd.slice 2 (Kd.int .i64))).sz = 1 from rfl, Nat.mul_one] at hv236_0
                              replace hv236_0 := Option.some.inj (hv236_0.symm.trans hx236_0)
                              rw [hv236_0] at ge236_0
                              have HL236_0 := Aside0.mk (show Kd.R (Kd.int .i64) 2 _ _ _ _ (rd_L2 x3_3 (ji50)) from ge236_0)
                              clear hv236_0 ge236_0
                              have HX236_0 := Aside0.mk hx236_0
                              clear hcc236 hce236
                              (first | simp only [add_plain] at hx236_0 | simp only [add_at] at hx236_0 | simp only [Addr.add, Nat.zero_add] at hx236_0 | skip)
                              have HR236_0 := Aside0.mk hi236_0
                              have HC236_0 := Aside0.mk hl236_0
                              clear hi236_0 hl236_0
                              replace p236 := eq_true p236
                              replace q236 := eq_true q236
                              have p237 : 0 ≤ (t234 : Int) := of_decide_eq_true (by first | (with_reducible assumption) | assumption)
                              have q237 : t234 < ((rd_L2 x3_3 (ji50)).length : Int) := of_decide_eq_true (by first | (with_reducible assumption) | assumption)
                              obtain ⟨ad237, e237, hx237_0⟩ := Kd.at_int (by repeat (first | (with_reducible exact HR236_0.out) | (with_reducible refine Kd.C_alloc ?_ _) | (with_reducible refine Kd.C_drewN ?_ _) | (with_reducible refine Kd.C_drew ?_) | exact HR236_0.out)) t234 p237 q237
                              cases e237
                              replace p237 := eq_true p237
                              replace q237 := eq_true q237
                              go_wp2
                              go_meet
                              case rel => exact ⟨_, (decide ((rd (rd_L2 x3_3 (ji50)) t234) < 0)), (by first | rfl | (simp; done) | (simp only [← hji50] <;> (first | rfl | simp)) | (simp [*]; done)), H', ⟨by have := HK1.out; have := HK2.out; have := HK3.out; first | omega | exact Nat.le_refl _⟩, ⟨by (try simp only [hl3_1]); (try simp only [hl3_2]); (try simp only [hl3_3]); (with_reducible repeat (first | apply Kd.S_alloc | apply Kd.S_drewN | apply Kd.S_drew)); exact HO_3.out⟩, ⟨by (try simp only [hl3_1]); (try simp only [hl3_2]); (try simp only [hl3_3]); (with_reducible repeat (first | refine blk_drewN ?_ _ | refine blk_drew ?_ | refine blk_alloc ?_ _)); exact BK217.out⟩, ⟨by repeat (first | (with_reducible first | exact HB.out | apply below_alloc | apply pw_below_drewN | apply below_drew1 | refine below_set ?_ GE217.out) | exact HB.out)⟩⟩
                             ·rw [if_neg c54] at H
                              exact absurd H (by simp)
                            ·rw [if_neg c53] at H
                             exact absurd H (by simp)
                           ·rw [if_neg c52] at H
                            exact absurd H (by simp)
                          ·rw [if_neg c51] at H
                           exact absurd H (by simp)
                         ·replace c49 := Bool.eq_false_iff.mpr c49
                          subst c49
                          have H1 : (impl_charging_costs.j3 k3 x3_3 x4_1 x46_2 x6_3 t234 ((rd_L2 y228 x4_1).length : Int) x46_2 true a0_0 a0_1 a0_2 l0_3 l0_4 a0_5) = some r := by rw [if_neg (show ¬ (false = true) by decide)] at H; exact H
                          clear H
                          have H := H1
                          clear H1
                          have H' := Aside0.mk H
                          clear H
                          go_wp2
                          go_meet
                          case rel => exact ⟨_, (true), (by first | rfl | (simp; done) | (simp [*]; done)), H', ⟨by have := HK1.out; have := HK2.out; have := HK3.out; first | omega | exact Nat.le_refl _⟩, ⟨by (try simp only [hl3_1]); (try simp only [hl3_2]); (try simp only [hl3_3]); (with_reducible repeat (first | apply Kd.S_alloc | apply Kd.S_drewN | apply Kd.S_drew)); exact HO_3.out⟩, ⟨by (try simp only [hl3_1]); (try simp only [hl3_2]); (try simp only [hl3_3]); (with_reducible repeat (first | refine blk_drewN ?_ _ | refine blk_drew ?_ | refine blk_alloc ?_ _)); exact BK217.out⟩, ⟨by repeat (first | (with_reducible first | exact HB.out | apply below_alloc | apply pw_below_drewN | apply below_drew1 | refine below_set ?_ GE217.out) | exact HB.out)⟩⟩
                        case rest =>
                         clear HC46
                         try clear c1
                         try clear p1
                         try clear q1
                         try clear hx1
                         try clear hf1
                         try clear c2
                         try clear p2
                         try clear q2
                         try clear hx2
                         try clear hf2
                         try clear c3
                         try clear c3b0
                         try clear c3b1
                         try clear hx3
                         try clear hf3
                         try clear c4
                         try clear c4b0
                         try clear c4b1
                         try clear p4
                         try clear q4
                         try clear hx4
                         try clear hf4
                         try clear c5
                         try clear c6
                         try clear c6b0
                         try clear c6b1
                         try clear p6
                         try clear c7
                         try clear c7b0
                         try clear c7b1
                         try clear c8
                         try clear c8b0
                         try clear c8b1
                         try clear c9
                         try clear c9b0
                         try clear c9b1
                         try clear c10
                         try clear p10
                         try clear q10
                         try clear hx10
                         try clear hf10
                         try clear c18
                         try clear c22
                         try clear c22b0
                         try clear p22
                         try clear q22
                         try clear hx22
                         try clear c23
                         try clear p23
                         try clear q23
                         try clear hx23
                         try clear c24
                         try clear c24b0
                         try clear c24b1
                         try clear c25
                         try clear c25b0
                         try clear c25b1
                         try clear c26
                         try clear c26b0
                         try clear c27
                         try clear c27b0
                         try clear c28
                         try clear p28
                         try clear q28
                         try clear hx28
                         try clear hf28
                         try clear c33
                         try clear hx33
                         try clear hf33
                         try clear c35
                         try clear c35b0
                         try clear c36
                         try clear c36b0
                         try clear c37
                         try clear c37b0
                         try clear c38
                         try clear c38b0
                         try clear c39
                         try clear c39b0
                         try clear p40
                         try clear q40
                         try clear hx40
                         try clear hf40
                         try clear c41
                         try clear q41
                         try clear c44
                         try clear c44b0
                         try clear c49
                         try clear c51
                         try clear c51b0
                         try clear c52
                         try clear c52b0
                         try clear c53
                         try clear c53b0
                         try clear c54
                         try clear c54b0
                         try clear hcz12_0
                         try clear hcz12_1
                         try clear hcz12_2
                         try clear hcz12_3
                         try clear hcz12_4
                         try clear hcz12_5
                         try clear hcz21_0
                         try clear hcz21_1
                         try clear hcz21_2
                         try clear hcz21_3
                         try clear hcz21_4
                         try clear hcz21_5
                         try clear hcz29_0
                         try clear hcz29_1
                         try clear hcz29_2
                         try clear hcz29_3
                         try clear hcz29_4
                         try clear hcz29_5
                         try clear hcz43_0
                         try clear hcz43_1
                         try clear hcz43_2
                         try clear hcz43_3
                         try clear hcz43_4
                         try clear hcz43_5
                         try clear hcz47_0
                         try clear hcz47_1
                         try clear hcz47_2
                         try clear hcz47_3
                         try clear hcz47_4
                         try clear hcz47_5
                         try clear hfz12_0
                         try clear hfz12_1
                         try clear hfz12_2
                         try clear hfz12_3
                         try clear hfz12_4
                         try clear hfz12_5
                         try clear hfz21_0
                         try clear hfz21_1
                         try clear hfz21_2
                         try clear hfz21_3
                         try clear hfz21_4
                         try clear hfz21_5
                         try clear hfz29_0
                         try clear hfz29_1
                         try clear hfz29_2
                         try clear hfz29_3
                         try clear hfz29_4
                         try clear hfz29_5
                         try clear hfz43_0
                         try clear hfz43_1
                         try clear hfz43_2
                         try clear hfz43_3
                         try clear hfz43_4
                         try clear hfz43_5
                         try clear hfz47_0
                         try clear hfz47_1
                         try clear hfz47_2
                         try clear hfz47_3
                         try clear hfz47_4
                         try clear hfz47_5
                         try clear hx10_0
                         try clear hx229_0
                         try clear hx230_0
                         try clear hx236_0
                         try clear hx237_0
                         try clear hx28_0
                         try clear hx33_0
                         try clear hx40_0
                         try clear p1
                         try clear p10
                         try clear p2
                         try clear p22
                         try clear p229
                         try clear p23
                         try clear p230
                         try clear p236
                         try clear p237
                         try clear p28
                         try clear p4
                         try clear p40
                         try clear p6
                         try clear q1
                         try clear q10
                         try clear q2
                         try clear q22
                         try clear q229
                         try clear q23
                         try clear q230
                         try clear q236
                         try clear q237
                         try clear q28
                         try clear q4
                         try clear q40
                         try clear q41
                         obtain ⟨kq, x86_45, rfl, HA, HJ45, HO_3, BK217, HB⟩ := hcut
                         cases kq with
                         | zero => exact absurd HA.out (by simp [impl_charging_costs.j3])
                         | succ kj45 =>
                          have H := HA.out
                          clear HA
                          simp only [impl_charging_costs.j3] at H
                          by_cases c55 : x86_45 = true
                          ·subst c55
                           have H1 : (impl_charging_costs.l2 kj45 x3_3 x4_1 x46_2 (wrap64 (x6_3 + 1)) ((rd_L2 y228 x4_1).length : Int) x46_2 a0_0 a0_1 a0_2 l0_3 l0_4 a0_5) = some r := by rw [if_pos rfl] at H; exact H
                           clear H
                           have H := H1
                           clear H1
                           have H' := Aside0.mk H
                           clear H
                           go_wp2
                           (try simp only [← hl3_3])
                           go_roundg kj45
                           case measure => have := HK1.out; have := HK2.out; have := HK3.out; have := HJ45.out; omega
                           case rel => exact ⟨(x3_3), (wrap64 (x6_3 + 1)), (by first | rfl | (simp; done) | (simp [*]; done)), H', ⟨by have := HK1.out; have := HK2.out; have := HK3.out; have := HJ45.out; omega⟩, ⟨by (try simp only [hl3_1]); (try simp only [hl3_2]); (try simp only [hl3_3]); (with_reducible repeat (first | apply Kd.S_alloc | apply Kd.S_drewN | apply Kd.S_drew)); exact HO_3.out⟩, ⟨by (try simp only [hl3_1]); (try simp only [hl3_2]); (try simp only [hl3_3]); (with_reducible repeat (first | refine blk_drewN ?_ _ | refine blk_drew ?_ | refine blk_alloc ?_ _)); exact BK217.out⟩, ⟨by repeat (first | (with_reducible first | exact HB.out | apply below_alloc | apply pw_below_drewN | apply below_drew1 | refine below_set ?_ GE217.out) | exact HB.out)⟩⟩
                          ·replace c55 := Bool.eq_false_iff.mpr c55
                           subst c55
                           have H1 : ((impl_charging_price.f a0_0 a0_1 a0_2 l0_3 l0_4 a0_5 x4_1 x6_3).bind fun t238 => (if 0 ≤ (wrap64 (x4_1 + 1)) then (if (wrap64 (x4_1 + 1)) < (x3_3.length : Int) then (if 0 ≤ t234 then (if t234 < ((rd_L2 x3_3 (wrap64 (x4_1 + 1))).length : Int) then (if 0 ≤ x4_1 then (if x4_1 < (x3_3.length : Int) then (if 0 ≤ x46_2 then (if x46_2 < ((rd_L2 x3_3 x4_1).length : Int) then (if (rd (rd_L2 x3_3 x4_1) x46_2) < 0 then (impl_charging_costs.l2 kj45 (x3_3.set (x4_1 : Int).toNat ((rd_L2 x3_3 x4_1).set (x46_2 : Int).toNat (wrap64 (t238 + (rd (rd_L2 x3_3 (wrap64 (x4_1 + 1))) t234))))) x4_1 x46_2 (wrap64 (x6_3 + 1)) ((rd_L2 y228 x4_1).length : Int) x46_2 a0_0 a0_1 a0_2 l0_3 l0_4 a0_5) else (if (wrap64 (t238 + (rd (rd_L2 x3_3 (wrap64 (x4_1 + 1))) t234))) < (rd (rd_L2 x3_3 x4_1) x46_2) then (impl_charging_costs.l2 kj45 (x3_3.set (x4_1 : Int).toNat ((rd_L2 x3_3 x4_1).set (x46_2 : Int).toNat (wrap64 (t238 + (rd (rd_L2 x3_3 (wrap64 (x4_1 + 1))) t234))))) x4_1 x46_2 (wrap64 (x6_3 + 1)) ((rd_L2 y228 x4_1).length : Int) x46_2 a0_0 a0_1 a0_2 l0_3 l0_4 a0_5) else (impl_charging_costs.l2 kj45 x3_3 x4_1 x46_2 (wrap64 (x6_3 + 1)) ((rd_L2 y228 x4_1).length : Int) x46_2 a0_0 a0_1 a0_2 l0_3 l0_4 a0_5))) else (none)) else (none)) else (none)) else (none)) else (none)) else (none)) else (none)) else (none))) = some r := by rw [if_neg (show ¬ (false = true) by decide)] at H; exact H
                           clear H
                           have H := H1
                           clear H1
                           replace H := Option.bind_eq_some_iff.mp H
                           obtain ⟨t238, A560, H⟩ := H
                           replace H : (if 0 ≤ (wrap64 (x4_1 + 1)) then (if (wrap64 (x4_1 + 1)) < (x3_3.length : Int) then (if 0 ≤ t234 then (if t234 < ((rd_L2 x3_3 (wrap64 (x4_1 + 1))).length : Int) then (if 0 ≤ x4_1 then (if x4_1 < (x3_3.length : Int) then (if 0 ≤ x46_2 then (if x46_2 < ((rd_L2 x3_3 x4_1).length : Int) then (if (rd (rd_L2 x3_3 x4_1) x46_2) < 0 then (impl_charging_costs.l2 kj45 (x3_3.set (x4_1 : Int).toNat ((rd_L2 x3_3 x4_1).set (x46_2 : Int).toNat (wrap64 (t238 + (rd (rd_L2 x3_3 (wrap64 (x4_1 + 1))) t234))))) x4_1 x46_2 (wrap64 (x6_3 + 1)) ((rd_L2 y228 x4_1).length : Int) x46_2 a0_0 a0_1 a0_2 l0_3 l0_4 a0_5) else (if (wrap64 (t238 + (rd (rd_L2 x3_3 (wrap64 (x4_1 + 1))) t234))) < (rd (rd_L2 x3_3 x4_1) x46_2) then (impl_charging_costs.l2 kj45 (x3_3.set (x4_1 : Int).toNat ((rd_L2 x3_3 x4_1).set (x46_2 : Int).toNat (wrap64 (t238 + (rd (rd_L2 x3_3 (wrap64 (x4_1 + 1))) t234))))) x4_1 x46_2 (wrap64 (x6_3 + 1)) ((rd_L2 y228 x4_1).length : Int) x46_2 a0_0 a0_1 a0_2 l0_3 l0_4 a0_5) else (impl_charging_costs.l2 kj45 x3_3 x4_1 x46_2 (wrap64 (x6_3 + 1)) ((rd_L2 y228 x4_1).length : Int) x46_2 a0_0 a0_1 a0_2 l0_3 l0_4 a0_5))) else (none)) else (none)) else (none)) else (none)) else (none)) else (none)) else (none)) else (none)) = some r := H
                           have A56 := Aside0.mk A560
                           clear A560
                           obtain ⟨ji57, hji57⟩ : ∃ j_ : Int, (wrap64 (x4_1 + 1)) = j_ := ⟨_, rfl⟩
                           replace H : (if 0 ≤ (ji57) then (if (ji57) < (x3_3.length : Int) then (if 0 ≤ t234 then (if t234 < ((rd_L2 x3_3 (ji57)).length : Int) then (if 0 ≤ x4_1 then (if x4_1 < (x3_3.length : Int) then (if 0 ≤ x46_2 then (if x46_2 < ((rd_L2 x3_3 x4_1).length : Int) then (if (rd (rd_L2 x3_3 x4_1) x46_2) < 0 then (impl_charging_costs.l2 kj45 (x3_3.set (x4_1 : Int).toNat ((rd_L2 x3_3 x4_1).set (x46_2 : Int).toNat (wrap64 (t238 + (rd (rd_L2 x3_3 (ji57)) t234))))) x4_1 x46_2 (wrap64 (x6_3 + 1)) ((rd_L2 y228 x4_1).length : Int) x46_2 a0_0 a0_1 a0_2 l0_3 l0_4 a0_5) else (if (wrap64 (t238 + (rd (rd_L2 x3_3 (ji57)) t234))) < (rd (rd_L2 x3_3 x4_1) x46_2) then (impl_charging_costs.l2 kj45 (x3_3.set (x4_1 : Int).toNat ((rd_L2 x3_3 x4_1).set (x46_2 : Int).toNat (wrap64 (t238 + (rd (rd_L2 x3_3 (ji57)) t234))))) x4_1 x46_2 (wrap64 (x6_3 + 1)) ((rd_L2 y228 x4_1).length : Int) x46_2 a0_0 a0_1 a0_2 l0_3 l0_4 a0_5) else (impl_charging_costs.l2 kj45 x3_3 x4_1 x46_2 (wrap64 (x6_3 + 1)) ((rd_L2 y228 x4_1).length : Int) x46_2 a0_0 a0_1 a0_2 l0_3 l0_4 a0_5))) else (none)) else (none)) else (none)) else (none)) else (none)) else (none)) else (none)) else (none)) = some r := by first | (rw [hji57] at H; exact H) | (simp only [hji57] at H ⊢; exact H)
                           (try rw [hji57] at A56)
                           have hji57w : (IntKind.i64.wrap (x4_1 + 1)) = ji57 := (i64_w _).trans hji57
                           (try clear hji50w)
                           by_cases c58 : 0 ≤ (ji57)
                           ·rw [if_pos c58] at H
                            have c58b0 : decide (0 ≤ (ji57)) = true := decide_eq_true c58
                            clear c58
                            by_cases c59 : (ji57) < (x3_3.length : Int)
                            ·rw [if_pos c59] at H
                             have c59b0 : decide ((ji57) < (x3_3.length : Int)) = true := decide_eq_true c59
                             clear c59
                             by_cases c60 : 0 ≤ t234
                             ·rw [if_pos c60] at H
                              have c60b0 : decide (0 ≤ t234) = true := decide_eq_true c60
                              clear c60
                              by_cases c61 : t234 < ((rd_L2 x3_3 (ji57)).length : Int)
                              ·rw [if_pos c61] at H
                               have c61b0 : decide (t234 < ((rd_L2 x3_3 (ji57)).length : Int)) = true := decide_eq_true c61
                               clear c61
                               by_cases c62 : 0 ≤ x4_1
                               ·rw [if_pos c62] at H
                                have c62b0 : decide (0 ≤ x4_1) = true := decide_eq_true c62
                                clear c62
                                by_cases c63 : x4_1 < (x3_3.length : Int)
                                ·rw [if_pos c63] at H
                                 have c63b0 : decide (x4_1 < (x3_3.length : Int)) = true := decide_eq_true c63
                                 clear c63
                                 by_cases c64 : 0 ≤ x46_2
                                 ·rw [if_pos c64] at H
                                  have c64b0 : decide (0 ≤ x46_2) = true := decide_eq_true c64
                                  clear c64
                                  by_cases c65 : x46_2 < ((rd_L2 x3_3 x4_1).length : Int)
                                  ·rw [if_pos c65] at H
                                   have c65b0 : decide (x46_2 < ((rd_L2 x3_3 x4_1).length : Int)) = true := decide_eq_true c65
                                   clear c65
                                   by_cases c66 : (rd (rd_L2 x3_3 x4_1) x46_2) < 0
                                   ·rw [if_pos c66] at H
                                    have c66b0 : decide ((rd (rd_L2 x3_3 x4_1) x46_2) < 0) = true := decide_eq_true c66
                                    clear c66
                                    obtain ⟨y244, hy244⟩ : ∃ y_ : List Int, y_ = ((rd_L2 x3_3 x4_1).set (x46_2 : Int).toNat (wrap64 (t238 + (rd (rd_L2 x3_3 (ji57)) t234)))) := ⟨_, rfl⟩
                                    replace H : (impl_charging_costs.l2 kj45 (x3_3.set (x4_1 : Int).toNat y244) x4_1 x46_2 (wrap64 (x6_3 + 1)) ((rd_L2 y228 x4_1).length : Int) x46_2 a0_0 a0_1 a0_2 l0_3 l0_4 a0_5) = some r := by first | (rw [hy244]; with_reducible exact H) | (have H2_ := (Option.bind_some _ _).symm.trans H; rw [hy244]; with_reducible exact H2_) | (have H2_ := (Option.bind_some _ _).symm.trans H; with_reducible exact H2_) | with_reducible exact H | (rw [hy244]; exact H) | exact H
                                    have Ny244 := Aside0.mk hy244
                                    clear hy244
                                    obtain ⟨y246, hy246⟩ : ∃ y_ : List (List Int), y_ = (x3_3.set (x4_1 : Int).toNat y244) := ⟨_, rfl⟩
                                    replace H : (impl_charging_costs.l2 kj45 y246 x4_1 x46_2 (wrap64 (x6_3 + 1)) ((rd_L2 y228 x4_1).length : Int) x46_2 a0_0 a0_1 a0_2 l0_3 l0_4 a0_5) = some r := by first | (rw [hy246]; with_reducible exact H) | (have H2_ := (Option.bind_some _ _).symm.trans H; rw [hy246]; with_reducible exact H2_) | (have H2_ := (Option.bind_some _ _).symm.trans H; with_reducible exact H2_) | with_reducible exact H | (rw [hy246]; exact H) | exact H
                                    have Ny246 := Aside0.mk hy246
                                    clear hy246
                                    have H' := Aside0.mk H
                                    clear H
                                    try go_wp2
                                    have n0_ := Aside0.mk (Kd.S_drew HO_3.out)
                                    have n1_ := Aside0.mk (blk_drew BK217.out)
                                    have n2_ := Aside0.mk (below_drew1 HB.out)
                                    clear HO_3
                                    clear BK217
                                    clear HB
                                    have HO_3 := n0_
                                    have BK217 := n1_
                                    have HB := n2_
                                    clear n0_ n1_ n2_
                                    have p239 : 0 ≤ ((ji57) : Int) := of_decide_eq_true (by first | (with_reducible assumption) | assumption)
                                    have q239 : (ji57) < (x3_3.length : Int) := of_decide_eq_true (by first | (with_reducible assumption) | assumption)
                                    obtain ⟨ad239, A239_0, c239_0, e239, hx239_0, hl239_0, hi239_0⟩ := at_L2 (Kd.S_reads' HO_3.out).2.2 (ji57) p239 q239
                                    obtain rfl : (⟨go10, 0, none⟩ : Addr) = ad239 := (by injection e239)
                                    obtain ⟨ce239, hce239, hMe239, hcc239⟩ := Kd.S_get HO_3.out [] (ji57) p239 (by first | exact q239 | exact of_decide_eq_true (by first | (with_reducible assumption) | assumption) | (have e_ := (Kd.S_reads' HO_3.out).1; omega))
                                    obtain ⟨ve239_0, rfl, ge239_0⟩ := hMe239
                                    have hv239_0 := hcc239 0 _ rfl
                                    rw [Nat.add_zero, show ((Kd.slice 2 (Kd.int .i64))).sz = 1 from rfl, Nat.mul_one] at hv239_0
                                    replace hv239_0 := Option.some.inj (hv239_0.symm.trans hx239_0)
                                    rw [hv239_0] at ge239_0
                                    have HL239_0 := Aside0.mk (show Kd.R (Kd.int .i64) 2 _ _ _ _ (rd_L2 x3_3 (ji57)) from ge239_0)
                                    clear hv239_0 ge239_0
                                    have HX239_0 := Aside0.mk hx239_0
                                    clear hcc239 hce239
                                    (first | simp only [add_plain] at hx239_0 | simp only [add_at] at hx239_0 | simp only [Addr.add, Nat.zero_add] at hx239_0 | skip)
                                    have HR239_0 := Aside0.mk hi239_0
                                    have HC239_0 := Aside0.mk hl239_0
                                    clear hi239_0 hl239_0
                                    replace p239 := eq_true p239
                                    replace q239 := eq_true q239
                                    have p240 : 0 ≤ (t234 : Int) := of_decide_eq_true (by first | (with_reducible assumption) | assumption)
                                    have q240 : t234 < ((rd_L2 x3_3 (ji57)).length : Int) := of_decide_eq_true (by first | (with_reducible assumption) | assumption)
                                    obtain ⟨ad240, e240, hx240_0⟩ := Kd.at_int (by repeat (first | (with_reducible exact HR239_0.out) | (with_reducible refine Kd.C_alloc ?_ _) | (with_reducible refine Kd.C_drewN ?_ _) | (with_reducible refine Kd.C_drew ?_) | exact HR239_0.out)) t234 p240 q240
                                    cases e240
                                    replace p240 := eq_true p240
                                    replace q240 := eq_true q240
                                    refine start_ (n := 14) (S := fun w' => w'.cell? ⟨gb217, 0, none⟩ = some (.int .i64 a0_0) ∧ w'.cell? ⟨gb217, 1, none⟩ = some (.int .i64 a0_1) ∧ w'.cell? ⟨gb217, 2, none⟩ = some (.int .i64 a0_2) ∧ w'.cell? ⟨gb217, 3, none⟩ = some (.slice A0_3 l0_3.length c0_3) ∧ w'.cell? ⟨gb217, 4, none⟩ = some (.slice A0_4 l0_4.length c0_4) ∧ w'.cell? ⟨gb217, 5, none⟩ = some (.int .i64 a0_5) ∧ w'.cell? ⟨go10, ((ji57)).toNat, none⟩ = some (.slice (some ad240) (rd_L2 x3_3 (ji57)).length c239_0) ∧ w'.cell? (ad240.add (t234).toNat) = some (.int .i64 (rd (rd_L2 x3_3 (ji57)) t234))) (ds := []) (tf 0 14) (by kernel_rfl) rfl rfl ⟨(blk_cell BK217.out 0).trans rfl, (blk_cell BK217.out 1).trans rfl, (blk_cell BK217.out 2).trans rfl, (blk_cell BK217.out 3).trans rfl, (blk_cell BK217.out 4).trans rfl, (blk_cell BK217.out 5).trans rfl, hx239_0, hx240_0⟩ (fun hHeld => ?_); refine with_tabW impl_charging_costs.tab16 impl_charging_costs.bits16 (fun HT_ HW_ => ?_)
                                    generalize wc.drew = w68 at HO_3 BK217 HB HL239_0 HR239_0 HX239_0 hx239_0 hx240_0 hHeld ⊢
                                    refine px 1 (some 88) (tb 14 2) HT_ ?_
                                    refine px 2 (some 89) (tb 14 6) HT_ ?_
                                    refine px 4 (some 91) (tb 14 22) HT_ ?_
                                    refine px 5 (some 92) (tb 14 54) HT_ ?_
                                    refine px 6 (some 93) (tb 14 118) HT_ ?_
                                    refine px 7 (some 94) (tb 14 246) HT_ ?_
                                    refine px 9 (some 96) (tb 14 758) HT_ ?_
                                    refine tx (v := ?_) 0 (some 87) (tb 14 759) HT_ HW_ hHeld ?_ ?_
                                    rotate_left; (· rintro w' ⟨s0, s1, s2, s3, s4, s5, s6, s7⟩; go_simp; with_reducible rfl)
                                    refine tx (v := ?_) 8 (some 95) (tb 14 1015) HT_ HW_ hHeld ?_ ?_
                                    rotate_left; (· rintro w' ⟨s0, s1, s2, s3, s4, s5, s6, s7⟩; go_simp; with_reducible rfl)
                                    refine px 10 (some 97) (tb 14 2039) HT_ ?_
                                    refine tx (v := ?_) 11 (some 98) (tb 14 4087) HT_ HW_ hHeld ?_ ?_
                                    rotate_left; (· rintro w' ⟨s0, s1, s2, s3, s4, s5, s6, s7⟩; go_simp; with_reducible rfl)
                                    refine one_ (i := 3) (N := some 90) (tf 12 14) rfl rfl (one_of HT_.out (by kernel_rfl)) (by decide) (fun K hK => ?_)
                                    refine goes_ Try.func55 (by kernel_rfl) rfl #[.agg #[.int .i64 a0_0, .int .i64 a0_1, .int .i64 a0_2, .slice A0_3 l0_3.length c0_3, .slice A0_4 l0_4.length c0_4, .int .i64 a0_5], .int .i64 x4_1, .int .i64 x6_3] (by rfl) rfl rfl (by (try simp only [List.map_toArray, List.map_cons, List.map_nil]); first | done | rfl | (simp only [List.length_drop, List.length_take]; rfl)) ?_
                                    with_reducible refine (impl_charging_price.calls a0_0 a0_1 a0_2 _ _ l0_3 _ _ l0_4 a0_5 x4_1 x6_3 t238 _ ?side1 ?side2 ?side3 ?side4 A56.out).mono ?_
                                    (case side1 => repeat (first | exact (Kd.C_below HR0_3.out HB.out) | (with_reducible refine Kd.C_alloc ?_ _) | (with_reducible refine Kd.C_drewN ?_ _) | (with_reducible refine Kd.C_drew ?_)))
                                    (case side2 => exact HC0_3.out)
                                    (case side3 => repeat (first | exact (Kd.C_below HR0_4.out HB.out) | (with_reducible refine Kd.C_alloc ?_ _) | (with_reducible refine Kd.C_drewN ?_ _) | (with_reducible refine Kd.C_drew ?_)))
                                    (case side4 => exact HC0_4.out)
                                    rintro e w69 ⟨rfl, hb⟩
                                    have HS6_ := (hb.cell (World.block_lt_of_cell? _ _ (hHeld.2.2.2.2.2.2.1))).trans (hHeld.2.2.2.2.2.2.1)
                                    have HS7_ := (hb.cell (World.block_lt_of_cell? _ _ (hHeld.2.2.2.2.2.2.2))).trans (hHeld.2.2.2.2.2.2.2)
                                    refine ⟨_, rfl, ?_⟩
                                    have n0_ := Aside0.mk (Kd.S_below (by (with_reducible repeat (first | apply Kd.S_alloc | apply Kd.S_drewN | apply Kd.S_drew)); exact HO_3.out) hb)
                                    have n1_ := Aside0.mk (Kd.R_below (by (with_reducible repeat (first | apply Kd.R_alloc | apply Kd.R_drewN | apply Kd.R_drew)); exact HL239_0.out) hb)
                                    have n2_ := Aside0.mk (blk_below (g := gb217) (o := .cells #[.int .i64 a0_0, .int .i64 a0_1, .int .i64 a0_2, .slice A0_3 l0_3.length c0_3, .slice A0_4 l0_4.length c0_4, .int .i64 a0_5] 55 (0, 0)) (by (with_reducible repeat (first | refine blk_drewN ?_ _ | refine blk_drew ?_ | refine blk_alloc ?_ _)); exact BK217.out) hb)
                                    have n3_ := Aside0.mk (Kd.C_below (by repeat (first | (with_reducible exact HR239_0.out) | (with_reducible refine Kd.C_alloc ?_ _) | (with_reducible refine Kd.C_drewN ?_ _) | (with_reducible refine Kd.C_drew ?_) | exact HR239_0.out)) hb)
                                    have n4_ := Aside0.mk (pw_cell_below hb HX239_0.out)
                                    have n5_ := Aside0.mk (below_step (by repeat (first | (with_reducible first | exact HB.out | apply below_alloc | apply pw_below_drewN | apply below_drew1 | refine below_set ?_ GE217.out) | exact HB.out)) hb)
                                    clear HO_3
                                    clear HL239_0
                                    clear BK217
                                    clear HR239_0
                                    clear HX239_0
                                    clear HB
                                    have HO_3 := n0_
                                    have HL239_0 := n1_
                                    have BK217 := n2_
                                    have HR239_0 := n3_
                                    have HX239_0 := n4_
                                    have HB := n5_
                                    clear n0_ n1_ n2_ n3_ n4_ n5_
                                    (try clear hb)
                                    (try clear hb2)
                                    (try clear hk)
                                    (try clear hi)
                                    refine hK.out _ _ ⟨(blk_cell BK217.out 0).trans rfl, (blk_cell BK217.out 1).trans rfl, (blk_cell BK217.out 2).trans rfl, (blk_cell BK217.out 3).trans rfl, (blk_cell BK217.out 4).trans rfl, (blk_cell BK217.out 5).trans rfl, HS6_, HS7_⟩ (fun hHeld => ?_)
                                    clear hK K
                                    refine norm_ (a' := ?_) ?_ ?_
                                    rotate_left
                                    ·show Act.put _ (some 90) _ = _
                                     simp only [Act.put, List.setIfInBounds_toArray, List.set_cons_zero, List.set_cons_succ, i64_w, i32_w]
                                     rfl
                                    refine px 12 (some 99) (tf 13 14) HT_ ?_
                                    refine px 13 (some 9) (tf 14 14) HT_ ?_
                                    refine done_ (done_of HT_.out (by kernel_rfl)) ?_
                                    have p241 : 0 ≤ (x4_1 : Int) := of_decide_eq_true (by first | (with_reducible assumption) | assumption)
                                    have q241 : x4_1 < (x3_3.length : Int) := of_decide_eq_true (by first | (with_reducible assumption) | assumption)
                                    obtain ⟨ad241, A241_0, c241_0, e241, hx241_0, hl241_0, hi241_0⟩ := at_L2 (Kd.S_reads' HO_3.out).2.2 x4_1 p241 q241
                                    obtain rfl : (⟨go10, 0, none⟩ : Addr) = ad241 := (by injection e241)
                                    obtain ⟨ce241, hce241, hMe241, hcc241⟩ := Kd.S_get HO_3.out [] x4_1 p241 (by first | exact q241 | exact of_decide_eq_true (by first | (with_reducible assumption) | assumption) | (have e_ := (Kd.S_reads' HO_3.out).1; omega))
                                    obtain ⟨ve241_0, rfl, ge241_0⟩ := hMe241
                                    have hv241_0 := hcc241 0 _ rfl
                                    rw [Nat.add_zero, show ((Kd.slice 2 (Kd.int .i64))).sz = 1 from rfl, Nat.mul_one] at hv241_0
                                    replace hv241_0 := Option.some.inj (hv241_0.symm.trans hx241_0)
                                    rw [hv241_0] at ge241_0
                                    have HL241_0 := Aside0.mk (show Kd.R (Kd.int .i64) 2 _ _ _ _ (rd_L2 x3_3 x4_1) from ge241_0)
                                    clear hv241_0 ge241_0
                                    have HX241_0 := Aside0.mk hx241_0
                                    clear hcc241 hce241
                                    (first | simp only [add_plain] at hx241_0 | simp only [add_at] at hx241_0 | simp only [Addr.add, Nat.zero_add] at hx241_0 | skip)
                                    have HR241_0 := Aside0.mk hi241_0
                                    have HC241_0 := Aside0.mk hl241_0
                                    clear hi241_0 hl241_0
                                    replace p241 := eq_true p241
                                    replace q241 := eq_true q241
                                    have p242 : 0 ≤ (x46_2 : Int) := of_decide_eq_true (by first | (with_reducible assumption) | assumption)
                                    have q242 : x46_2 < ((rd_L2 x3_3 x4_1).length : Int) := of_decide_eq_true (by first | (with_reducible assumption) | assumption)
                                    obtain ⟨ad242, e242, hx242_0⟩ := Kd.at_int (by repeat (first | (with_reducible exact HR241_0.out) | (with_reducible refine Kd.C_alloc ?_ _) | (with_reducible refine Kd.C_drewN ?_ _) | (with_reducible refine Kd.C_drew ?_) | exact HR241_0.out)) x46_2 p242 q242
                                    cases e242
                                    replace p242 := eq_true p242
                                    replace q242 := eq_true q242
                                    have p243 : 0 ≤ (x4_1 : Int) := of_decide_eq_true (by first | (with_reducible assumption) | assumption)
                                    have q243 : x4_1 < (x3_3.length : Int) := of_decide_eq_true (by first | (with_reducible assumption) | assumption)
                                    obtain ⟨ad243, A243_0, c243_0, e243, hx243_0, hl243_0, hi243_0⟩ := at_L2 (Kd.S_reads' HO_3.out).2.2 x4_1 p243 q243
                                    obtain rfl : (⟨go10, 0, none⟩ : Addr) = ad243 := (by injection e243)
                                    obtain ⟨ce243, hce243, hMe243, hcc243⟩ := Kd.S_get HO_3.out [] x4_1 p243 (by first | exact q243 | exact of_decide_eq_true (by first | (with_reducible assumption) | assumption) | (have e_ := (Kd.S_reads' HO_3.out).1; omega))
                                    obtain ⟨ve243_0, rfl, ge243_0⟩ := hMe243
                                    have hv243_0 := hcc243 0 _ rfl
                                    rw [Nat.add_zero, show ((Kd.slice 2 (Kd.int .i64))).sz = 1 from rfl, Nat.mul_one] at hv243_0
                                    replace hv243_0 := Option.some.inj (hv243_0.symm.trans hx243_0)
                                    rw [hv243_0] at ge243_0
                                    have HL243_0 := Aside0.mk (show Kd.R (Kd.int .i64) 2 _ _ _ _ (rd_L2 x3_3 x4_1) from ge243_0)
                                    clear hv243_0 ge243_0
                                    have HX243_0 := Aside0.mk hx243_0
                                    clear hcc243 hce243
                                    (first | simp only [add_plain] at hx243_0 | simp only [add_at] at hx243_0 | simp only [Addr.add, Nat.zero_add] at hx243_0 | skip)
                                    have HR243_0 := Aside0.mk hi243_0
                                    have HC243_0 := Aside0.mk hl243_0
                                    clear hi243_0 hl243_0
                                    replace p243 := eq_true p243
                                    replace q243 := eq_true q243
                                    have ea_ := Option.some.inj (hx241_0.symm.trans hx243_0)
                                    injection ea_ with ea_ en_ ec_
                                    subst ea_
                                    subst ec_
                                    clear en_
                                    have p67 : 0 ≤ (x46_2 : Int) := of_decide_eq_true (by first | (with_reducible assumption) | assumption)
                                    have q67 : (x46_2 : Int) < (((rd_L2 x3_3 x4_1).length : Int) : Int) := of_decide_eq_true (by first | (with_reducible assumption) | assumption)
                                    obtain ⟨go67, co67, eo67, gb67, gl67, cl67, HG67⟩ := Kd.R_form HL243_0.out (by omega)
                                    (first | cases eo67 | (injection eo67 with ea_ en_ ec_; (first | subst ea_ | (injection ea_ with ea_; subst ea_)); subst ec_; clear en_))
                                    have GB67 := Aside0.mk gb67
                                    have GG67 := Aside0.mk HG67
                                    clear gb67 gl67 HG67
                                    (first | simp only [add_plain] at hx242_0 | skip)
                                    obtain ⟨hx67_0, hf67_0⟩ := Kd.R_celln 0 HL243_0.out (x46_2 : Int) p67 q67
                                    replace p67 := eq_true p67
                                    replace q67 := eq_true q67
                                    have hq70 : (x4_1 : Int) < (x3_3.length : Int) := (by have h_ : (x4_1 : Int) < ((x3_3.length : Int) : Int) := of_decide_eq_true (by first | (with_reducible assumption) | assumption); first | exact h_ | (have e_ := (Kd.S_reads' HO_3.out).1; omega) | simpa only [List.length_set, List.length_set] using h_)
                                    obtain ⟨oki70, ce70, hcl70, hM70, hcc70, hok70, hbk70⟩ := Kd.S_borrow HO_3.out [] (x4_1 : Int) (of_decide_eq_true (by first | (with_reducible assumption) | assumption)) hq70
                                    obtain ⟨ve70_0, rfl, ge70_0⟩ := hM70
                                    have hv70 := hcc70 0 _ rfl
                                    rw [Nat.add_zero, show ((Kd.slice 2 (Kd.int .i64))).sz = 1 from rfl, Nat.mul_one] at hv70
                                    replace hv70 := Option.some.inj (hv70.symm.trans HX243_0.out)
                                    subst hv70
                                    clear hcc70 hcl70
                                    replace ge70_0 := (show Kd.R (Kd.int .i64) 2 _ _ _ _ (rd_L2 x3_3 x4_1) from ge70_0)
                                    have HP70 := Kd.R_putg ge70_0 (x46_2 : Int) (wrap64 (t238 + (rd (rd_L2 x3_3 (ji57)) t234)))
                                    try go_wp2_with (first | ((with_reducible refine gate_store (t := 2) (p := 125) rfl ?_); refine store_event (t := 2) (p := 125) (v := ?vo_w71) (w1 := (w69.setCell ⟨go67, (x46_2 : Int).toNat, none⟩ (.int .i64 (wrap64 (t238 + (rd (rd_L2 x3_3 (ji57)) t234)))))) ?hg ?ho ?hn ?hr ?_; (case ho => rfl); (case hg => rfl); (case hn => rfl); (case hr => first | (go_simp; done) | (go_simp; rfl)); intro w71 hw; have hg : w69.grownBy w71 (some go67) := (by rw [hw]; exact HP70.2); have hz_ : Kd.R (Kd.int .i64) 2 w71 w.heap.size oki70 (.slice (some ⟨go67, 0, none⟩) (rd_L2 x3_3 x4_1).length c241_0) y244 := (by rw [hw, Ny244.out]; exact HP70.1); have hp_ : Kd.S (Kd.slice 2 (Kd.int .i64)) 24 w71 w.heap.size (fun _ => True) (.slice (some ⟨go10, 0, none⟩) x3_3.length co10) y246 := (by rw [Ny246.out]; exact hbk70 hg (fun k_ e_ => by injection e_ with e_; subst e_; exact ge70_0.1 _ rfl) (Kd.M_row hz_)); have hm_ := Kd.R_mono hz_ hok70; clear HP70 hbk70; have n0_ := Aside0.mk (hp_); have n1_ := Aside0.mk (blk_grown (g := gb217) (o := .cells #[.int .i64 a0_0, .int .i64 a0_1, .int .i64 a0_2, .slice A0_3 l0_3.length c0_3, .slice A0_4 l0_4.length c0_4, .int .i64 a0_5] 55 (0, 0)) (by (with_reducible repeat (first | refine blk_drewN ?_ _ | refine blk_drew ?_ | refine blk_alloc ?_ _)); exact BK217.out) hg (Kd.R_ne HL243_0.out BK217.out (by decide))); have n2_ := Aside0.mk ((by rw [hw]; exact below_set (HB.out) GB67.out : Below w.heap.size w w71)); have n3_ := Aside0.mk (hm_); have n4_ := Aside0.mk ((Kd.R_reads' hm_).2.1); clear HO_3; clear BK217; clear HB; clear HL239_0; clear HL241_0; clear HL243_0; have HO_3 := n0_; have BK217 := n1_; have HB := n2_; have HL254 := n3_; have HC245 := n4_; clear n0_ n1_ n2_ n3_ n4_; clear hg hw hp_ hz_ hm_ hok70))
                                    (try simp only [← hl3_3])
                                    go_roundg kj45
                                    case measure => have := HK1.out; have := HK2.out; have := HK3.out; have := HJ45.out; omega
                                    case rel => exact ⟨(y246), (wrap64 (x6_3 + 1)), (by first | rfl | (simp; done) | (simp [*]; done)), H', ⟨by have := HK1.out; have := HK2.out; have := HK3.out; have := HJ45.out; omega⟩, ⟨by (try simp only [hl3_1]); (try simp only [hl3_2]); (try simp only [hl3_3]); (with_reducible repeat (first | apply Kd.S_alloc | apply Kd.S_drewN | apply Kd.S_drew)); exact HO_3.out⟩, ⟨by (try simp only [hl3_1]); (try simp only [hl3_2]); (try simp only [hl3_3]); (with_reducible repeat (first | refine blk_drewN ?_ _ | refine blk_drew ?_ | refine blk_alloc ?_ _)); exact BK217.out⟩, ⟨by repeat (first | (with_reducible first | exact HB.out | apply below_alloc | apply pw_below_drewN | apply below_drew1 | refine below_set ?_ GE217.out) | exact HB.out)⟩⟩
                                   ·rw [if_neg c66] at H
                                    have c66b0 : decide ((rd (rd_L2 x3_3 x4_1) x46_2) < 0) = false := decide_eq_false c66
                                    clear c66
                                    by_cases c72 : (wrap64 (t238 + (rd (rd_L2 x3_3 (ji57)) t234))) < (rd (rd_L2 x3_3 x4_1) x46_2)
                                    ·rw [if_pos c72] at H
                                     have c72b0 : decide ((wrap64 (t238 + (rd (rd_L2 x3_3 (ji57)) t234))) < (rd (rd_L2 x3_3 x4_1) x46_2)) = true := decide_eq_true c72
                                     clear c72
                                     obtain ⟨y250, hy250⟩ : ∃ y_ : List Int, y_ = ((rd_L2 x3_3 x4_1).set (x46_2 : Int).toNat (wrap64 (t238 + (rd (rd_L2 x3_3 (ji57)) t234)))) := ⟨_, rfl⟩
                                     replace H : (impl_charging_costs.l2 kj45 (x3_3.set (x4_1 : Int).toNat y250) x4_1 x46_2 (wrap64 (x6_3 + 1)) ((rd_L2 y228 x4_1).length : Int) x46_2 a0_0 a0_1 a0_2 l0_3 l0_4 a0_5) = some r := by first | (rw [hy250]; with_reducible exact H) | (have H2_ := (Option.bind_some _ _).symm.trans H; rw [hy250]; with_reducible exact H2_) | (have H2_ := (Option.bind_some _ _).symm.trans H; with_reducible exact H2_) | with_reducible exact H | (rw [hy250]; exact H) | exact H
                                     have Ny250 := Aside0.mk hy250
                                     clear hy250
                                     obtain ⟨y252, hy252⟩ : ∃ y_ : List (List Int), y_ = (x3_3.set (x4_1 : Int).toNat y250) := ⟨_, rfl⟩
                                     replace H : (impl_charging_costs.l2 kj45 y252 x4_1 x46_2 (wrap64 (x6_3 + 1)) ((rd_L2 y228 x4_1).length : Int) x46_2 a0_0 a0_1 a0_2 l0_3 l0_4 a0_5) = some r := by first | (rw [hy252]; with_reducible exact H) | (have H2_ := (Option.bind_some _ _).symm.trans H; rw [hy252]; with_reducible exact H2_) | (have H2_ := (Option.bind_some _ _).symm.trans H; with_reducible exact H2_) | with_reducible exact H | (rw [hy252]; exact H) | exact H
                                     have Ny252 := Aside0.mk hy252
                                     clear hy252
                                     have H' := Aside0.mk H
                                     clear H
                                     try go_wp2
                                     have n0_ := Aside0.mk (Kd.S_drew HO_3.out)
                                     have n1_ := Aside0.mk (blk_drew BK217.out)
                                     have n2_ := Aside0.mk (below_drew1 HB.out)
                                     clear HO_3
                                     clear BK217
                                     clear HB
                                     have HO_3 := n0_
                                     have BK217 := n1_
                                     have HB := n2_
                                     clear n0_ n1_ n2_
                                     have p239 : 0 ≤ ((ji57) : Int) := of_decide_eq_true (by first | (with_reducible assumption) | assumption)
                                     have q239 : (ji57) < (x3_3.length : Int) := of_decide_eq_true (by first | (with_reducible assumption) | assumption)
                                     obtain ⟨ad239, A239_0, c239_0, e239, hx239_0, hl239_0, hi239_0⟩ := at_L2 (Kd.S_reads' HO_3.out).2.2 (ji57) p239 q239
                                     obtain rfl : (⟨go10, 0, none⟩ : Addr) = ad239 := (by injection e239)
                                     obtain ⟨ce239, hce239, hMe239, hcc239⟩ := Kd.S_get HO_3.out [] (ji57) p239 (by first | exact q239 | exact of_decide_eq_true (by first | (with_reducible assumption) | assumption) | (have e_ := (Kd.S_reads' HO_3.out).1; omega))
                                     obtain ⟨ve239_0, rfl, ge239_0⟩ := hMe239
                                     have hv239_0 := hcc239 0 _ rfl
                                     rw [Nat.add_zero, show ((Kd.slice 2 (Kd.int .i64))).sz = 1 from rfl, Nat.mul_one] at hv239_0
                                     replace hv239_0 := Option.some.inj (hv239_0.symm.trans hx239_0)
                                     rw [hv239_0] at ge239_0
                                     have HL239_0 := Aside0.mk (show Kd.R (Kd.int .i64) 2 _ _ _ _ (rd_L2 x3_3 (ji57)) from ge239_0)
                                     clear hv239_0 ge239_0
                                     have HX239_0 := Aside0.mk hx239_0
                                     clear hcc239 hce239
                                     (first | simp only [add_plain] at hx239_0 | simp only [add_at] at hx239_0 | simp only [Addr.add, Nat.zero_add] at hx239_0 | skip)
                                     have HR239_0 := Aside0.mk hi239_0
                                     have HC239_0 := Aside0.mk hl239_0
                                     clear hi239_0 hl239_0
                                     replace p239 := eq_true p239
                                     replace q239 := eq_true q239
                                     have p240 : 0 ≤ (t234 : Int) := of_decide_eq_true (by first | (with_reducible assumption) | assumption)
                                     have q240 : t234 < ((rd_L2 x3_3 (ji57)).length : Int) := of_decide_eq_true (by first | (with_reducible assumption) | assumption)
                                     obtain ⟨ad240, e240, hx240_0⟩ := Kd.at_int (by repeat (first | (with_reducible exact HR239_0.out) | (with_reducible refine Kd.C_alloc ?_ _) | (with_reducible refine Kd.C_drewN ?_ _) | (with_reducible refine Kd.C_drew ?_) | exact HR239_0.out)) t234 p240 q240
                                     cases e240
                                     replace p240 := eq_true p240
                                     replace q240 := eq_true q240
                                     refine start_ (n := 14) (S := fun w' => w'.cell? ⟨gb217, 0, none⟩ = some (.int .i64 a0_0) ∧ w'.cell? ⟨gb217, 1, none⟩ = some (.int .i64 a0_1) ∧ w'.cell? ⟨gb217, 2, none⟩ = some (.int .i64 a0_2) ∧ w'.cell? ⟨gb217, 3, none⟩ = some (.slice A0_3 l0_3.length c0_3) ∧ w'.cell? ⟨gb217, 4, none⟩ = some (.slice A0_4 l0_4.length c0_4) ∧ w'.cell? ⟨gb217, 5, none⟩ = some (.int .i64 a0_5) ∧ w'.cell? ⟨go10, ((ji57)).toNat, none⟩ = some (.slice (some ad240) (rd_L2 x3_3 (ji57)).length c239_0) ∧ w'.cell? (ad240.add (t234).toNat) = some (.int .i64 (rd (rd_L2 x3_3 (ji57)) t234))) (ds := []) (tf 0 14) (by kernel_rfl) rfl rfl ⟨(blk_cell BK217.out 0).trans rfl, (blk_cell BK217.out 1).trans rfl, (blk_cell BK217.out 2).trans rfl, (blk_cell BK217.out 3).trans rfl, (blk_cell BK217.out 4).trans rfl, (blk_cell BK217.out 5).trans rfl, hx239_0, hx240_0⟩ (fun hHeld => ?_); refine with_tabW impl_charging_costs.tab16 impl_charging_costs.bits16 (fun HT_ HW_ => ?_)
                                     generalize wc.drew = w74 at HO_3 BK217 HB HL239_0 HR239_0 HX239_0 hx239_0 hx240_0 hHeld ⊢
                                     refine px 1 (some 88) (tb 14 2) HT_ ?_
                                     refine px 2 (some 89) (tb 14 6) HT_ ?_
                                     refine px 4 (some 91) (tb 14 22) HT_ ?_
                                     refine px 5 (some 92) (tb 14 54) HT_ ?_
                                     refine px 6 (some 93) (tb 14 118) HT_ ?_
                                     refine px 7 (some 94) (tb 14 246) HT_ ?_
                                     refine px 9 (some 96) (tb 14 758) HT_ ?_
                                     refine tx (v := ?_) 0 (some 87) (tb 14 759) HT_ HW_ hHeld ?_ ?_
                                     rotate_left; (· rintro w' ⟨s0, s1, s2, s3, s4, s5, s6, s7⟩; go_simp; with_reducible rfl)
                                     refine tx (v := ?_) 8 (some 95) (tb 14 1015) HT_ HW_ hHeld ?_ ?_
                                     rotate_left; (· rintro w' ⟨s0, s1, s2, s3, s4, s5, s6, s7⟩; go_simp; with_reducible rfl)
                                     refine px 10 (some 97) (tb 14 2039) HT_ ?_
                                     refine tx (v := ?_) 11 (some 98) (tb 14 4087) HT_ HW_ hHeld ?_ ?_
                                     rotate_left; (· rintro w' ⟨s0, s1, s2, s3, s4, s5, s6, s7⟩; go_simp; with_reducible rfl)
                                     refine one_ (i := 3) (N := some 90) (tf 12 14) rfl rfl (one_of HT_.out (by kernel_rfl)) (by decide) (fun K hK => ?_)
                                     refine goes_ Try.func55 (by kernel_rfl) rfl #[.agg #[.int .i64 a0_0, .int .i64 a0_1, .int .i64 a0_2, .slice A0_3 l0_3.length c0_3, .slice A0_4 l0_4.length c0_4, .int .i64 a0_5], .int .i64 x4_1, .int .i64 x6_3] (by rfl) rfl rfl (by (try simp only [List.map_toArray, List.map_cons, List.map_nil]); first | done | rfl | (simp only [List.length_drop, List.length_take]; rfl)) ?_
                                     with_reducible refine (impl_charging_price.calls a0_0 a0_1 a0_2 _ _ l0_3 _ _ l0_4 a0_5 x4_1 x6_3 t238 _ ?side1 ?side2 ?side3 ?side4 A56.out).mono ?_
                                     (case side1 => repeat (first | exact (Kd.C_below HR0_3.out HB.out) | (with_reducible refine Kd.C_alloc ?_ _) | (with_reducible refine Kd.C_drewN ?_ _) | (with_reducible refine Kd.C_drew ?_)))
                                     (case side2 => exact HC0_3.out)
                                     (case side3 => repeat (first | exact (Kd.C_below HR0_4.out HB.out) | (with_reducible refine Kd.C_alloc ?_ _) | (with_reducible refine Kd.C_drewN ?_ _) | (with_reducible refine Kd.C_drew ?_)))
                                     (case side4 => exact HC0_4.out)
                                     rintro e w75 ⟨rfl, hb⟩
                                     have HS6_ := (hb.cell (World.block_lt_of_cell? _ _ (hHeld.2.2.2.2.2.2.1))).trans (hHeld.2.2.2.2.2.2.1)
                                     have HS7_ := (hb.cell (World.block_lt_of_cell? _ _ (hHeld.2.2.2.2.2.2.2))).trans (hHeld.2.2.2.2.2.2.2)
                                     refine ⟨_, rfl, ?_⟩
                                     have n0_ := Aside0.mk (Kd.S_below (by (with_reducible repeat (first | apply Kd.S_alloc | apply Kd.S_drewN | apply Kd.S_drew)); exact HO_3.out) hb)
                                     have n1_ := Aside0.mk (Kd.R_below (by (with_reducible repeat (first | apply Kd.R_alloc | apply Kd.R_drewN | apply Kd.R_drew)); exact HL239_0.out) hb)
                                     have n2_ := Aside0.mk (blk_below (g := gb217) (o := .cells #[.int .i64 a0_0, .int .i64 a0_1, .int .i64 a0_2, .slice A0_3 l0_3.length c0_3, .slice A0_4 l0_4.length c0_4, .int .i64 a0_5] 55 (0, 0)) (by (with_reducible repeat (first | refine blk_drewN ?_ _ | refine blk_drew ?_ | refine blk_alloc ?_ _)); exact BK217.out) hb)
                                     have n3_ := Aside0.mk (Kd.C_below (by repeat (first | (with_reducible exact HR239_0.out) | (with_reducible refine Kd.C_alloc ?_ _) | (with_reducible refine Kd.C_drewN ?_ _) | (with_reducible refine Kd.C_drew ?_) | exact HR239_0.out)) hb)
                                     have n4_ := Aside0.mk (pw_cell_below hb HX239_0.out)
                                     have n5_ := Aside0.mk (below_step (by repeat (first | (with_reducible first | exact HB.out | apply below_alloc | apply pw_below_drewN | apply below_drew1 | refine below_set ?_ GE217.out) | exact HB.out)) hb)
                                     clear HO_3
                                     clear HL239_0
                                     clear BK217
                                     clear HR239_0
                                     clear HX239_0
                                     clear HB
                                     have HO_3 := n0_
                                     have HL239_0 := n1_
                                     have BK217 := n2_
                                     have HR239_0 := n3_
                                     have HX239_0 := n4_
                                     have HB := n5_
                                     clear n0_ n1_ n2_ n3_ n4_ n5_
                                     (try clear hb)
                                     (try clear hb2)
                                     (try clear hk)
                                     (try clear hi)
                                     refine hK.out _ _ ⟨(blk_cell BK217.out 0).trans rfl, (blk_cell BK217.out 1).trans rfl, (blk_cell BK217.out 2).trans rfl, (blk_cell BK217.out 3).trans rfl, (blk_cell BK217.out 4).trans rfl, (blk_cell BK217.out 5).trans rfl, HS6_, HS7_⟩ (fun hHeld => ?_)
                                     clear hK K
                                     refine norm_ (a' := ?_) ?_ ?_
                                     rotate_left
                                     ·show Act.put _ (some 90) _ = _
                                      simp only [Act.put, List.setIfInBounds_toArray, List.set_cons_zero, List.set_cons_succ, i64_w, i32_w]
                                      rfl
                                     refine px 12 (some 99) (tf 13 14) HT_ ?_
                                     refine px 13 (some 9) (tf 14 14) HT_ ?_
                                     refine done_ (done_of HT_.out (by kernel_rfl)) ?_
                                     have p241 : 0 ≤ (x4_1 : Int) := of_decide_eq_true (by first | (with_reducible assumption) | assumption)
                                     have q241 : x4_1 < (x3_3.length : Int) := of_decide_eq_true (by first | (with_reducible assumption) | assumption)
                                     obtain ⟨ad241, A241_0, c241_0, e241, hx241_0, hl241_0, hi241_0⟩ := at_L2 (Kd.S_reads' HO_3.out).2.2 x4_1 p241 q241
                                     obtain rfl : (⟨go10, 0, none⟩ : Addr) = ad241 := (by injection e241)
                                     obtain ⟨ce241, hce241, hMe241, hcc241⟩ := Kd.S_get HO_3.out [] x4_1 p241 (by first | exact q241 | exact of_decide_eq_true (by first | (with_reducible assumption) | assumption) | (have e_ := (Kd.S_reads' HO_3.out).1; omega))
                                     obtain ⟨ve241_0, rfl, ge241_0⟩ := hMe241
                                     have hv241_0 := hcc241 0 _ rfl
                                     rw [Nat.add_zero, show ((Kd.slice 2 (Kd.int .i64))).sz = 1 from rfl, Nat.mul_one] at hv241_0
                                     replace hv241_0 := Option.some.inj (hv241_0.symm.trans hx241_0)
                                     rw [hv241_0] at ge241_0
                                     have HL241_0 := Aside0.mk (show Kd.R (Kd.int .i64) 2 _ _ _ _ (rd_L2 x3_3 x4_1) from ge241_0)
                                     clear hv241_0 ge241_0
                                     have HX241_0 := Aside0.mk hx241_0
                                     clear hcc241 hce241
                                     (first | simp only [add_plain] at hx241_0 | simp only [add_at] at hx241_0 | simp only [Addr.add, Nat.zero_add] at hx241_0 | skip)
                                     have HR241_0 := Aside0.mk hi241_0
                                     have HC241_0 := Aside0.mk hl241_0
                                     clear hi241_0 hl241_0
                                     replace p241 := eq_true p241
                                     replace q241 := eq_true q241
                                     have p242 : 0 ≤ (x46_2 : Int) := of_decide_eq_true (by first | (with_reducible assumption) | assumption)
                                     have q242 : x46_2 < ((rd_L2 x3_3 x4_1).length : Int) := of_decide_eq_true (by first | (with_reducible assumption) | assumption)
                                     obtain ⟨ad242, e242, hx242_0⟩ := Kd.at_int (by repeat (first | (with_reducible exact HR241_0.out) | (with_reducible refine Kd.C_alloc ?_ _) | (with_reducible refine Kd.C_drewN ?_ _) | (with_reducible refine Kd.C_drew ?_) | exact HR241_0.out)) x46_2 p242 q242
                                     cases e242
                                     replace p242 := eq_true p242
                                     replace q242 := eq_true q242
                                     have p247 : 0 ≤ (x4_1 : Int) := of_decide_eq_true (by first | (with_reducible assumption) | assumption)
                                     have q247 : x4_1 < (x3_3.length : Int) := of_decide_eq_true (by first | (with_reducible assumption) | assumption)
                                     obtain ⟨ad247, A247_0, c247_0, e247, hx247_0, hl247_0, hi247_0⟩ := at_L2 (Kd.S_reads' HO_3.out).2.2 x4_1 p247 q247
                                     obtain rfl : (⟨go10, 0, none⟩ : Addr) = ad247 := (by injection e247)
                                     obtain ⟨ce247, hce247, hMe247, hcc247⟩ := Kd.S_get HO_3.out [] x4_1 p247 (by first | exact q247 | exact of_decide_eq_true (by first | (with_reducible assumption) | assumption) | (have e_ := (Kd.S_reads' HO_3.out).1; omega))
                                     obtain ⟨ve247_0, rfl, ge247_0⟩ := hMe247
                                     have hv247_0 := hcc247 0 _ rfl
                                     rw [Nat.add_zero, show ((Kd.slice 2 (Kd.int .i64))).sz = 1 from rfl, Nat.mul_one] at hv247_0
                                     replace hv247_0 := Option.some.inj (hv247_0.symm.trans hx247_0)
                                     rw [hv247_0] at ge247_0
                                     have HL247_0 := Aside0.mk (show Kd.R (Kd.int .i64) 2 _ _ _ _ (rd_L2 x3_3 x4_1) from ge247_0)
                                     clear hv247_0 ge247_0
                                     have HX247_0 := Aside0.mk hx247_0
                                     clear hcc247 hce247
                                     (first | simp only [add_plain] at hx247_0 | simp only [add_at] at hx247_0 | simp only [Addr.add, Nat.zero_add] at hx247_0 | skip)
                                     have HR247_0 := Aside0.mk hi247_0
                                     have HC247_0 := Aside0.mk hl247_0
                                     clear hi247_0 hl247_0
                                     replace p247 := eq_true p247
                                     replace q247 := eq_true q247
                                     have ea_ := Option.some.inj (hx241_0.symm.trans hx247_0)
                                     injection ea_ with ea_ en_ ec_
                                     subst ea_
                                     subst ec_
                                     clear en_
                                     have p248 : 0 ≤ (x46_2 : Int) := of_decide_eq_true (by first | (with_reducible assumption) | assumption)
                                     have q248 : x46_2 < ((rd_L2 x3_3 x4_1).length : Int) := of_decide_eq_true (by first | (with_reducible assumption) | assumption)
                                     obtain ⟨ad248, e248, hx248_0⟩ := Kd.at_int (by repeat (first | (with_reducible exact HR247_0.out) | (with_reducible refine Kd.C_alloc ?_ _) | (with_reducible refine Kd.C_drewN ?_ _) | (with_reducible refine Kd.C_drew ?_) | exact HR247_0.out)) x46_2 p248 q248
                                     cases e248
                                     replace p248 := eq_true p248
                                     replace q248 := eq_true q248
                                     have p249 : 0 ≤ (x4_1 : Int) := of_decide_eq_true (by first | (with_reducible assumption) | assumption)
                                     have q249 : x4_1 < (x3_3.length : Int) := of_decide_eq_true (by first | (with_reducible assumption) | assumption)
                                     obtain ⟨ad249, A249_0, c249_0, e249, hx249_0, hl249_0, hi249_0⟩ := at_L2 (Kd.S_reads' HO_3.out).2.2 x4_1 p249 q249
                                     obtain rfl : (⟨go10, 0, none⟩ : Addr) = ad249 := (by injection e249)
                                     obtain ⟨ce249, hce249, hMe249, hcc249⟩ := Kd.S_get HO_3.out [] x4_1 p249 (by first | exact q249 | exact of_decide_eq_true (by first | (with_reducible assumption) | assumption) | (have e_ := (Kd.S_reads' HO_3.out).1; omega))
                                     obtain ⟨ve249_0, rfl, ge249_0⟩ := hMe249
                                     have hv249_0 := hcc249 0 _ rfl
                                     rw [Nat.add_zero, show ((Kd.slice 2 (Kd.int .i64))).sz = 1 from rfl, Nat.mul_one] at hv249_0
                                     replace hv249_0 := Option.some.inj (hv249_0.symm.trans hx249_0)
                                     rw [hv249_0] at ge249_0
                                     have HL249_0 := Aside0.mk (show Kd.R (Kd.int .i64) 2 _ _ _ _ (rd_L2 x3_3 x4_1) from ge249_0)
                                     clear hv249_0 ge249_0
                                     have HX249_0 := Aside0.mk hx249_0
                                     clear hcc249 hce249
                                     (first | simp only [add_plain] at hx249_0 | simp only [add_at] at hx249_0 | simp only [Addr.add, Nat.zero_add] at hx249_0 | skip)
                                     have HR249_0 := Aside0.mk hi249_0
                                     have HC249_0 := Aside0.mk hl249_0
                                     clear hi249_0 hl249_0
                                     replace p249 := eq_true p249
                                     replace q249 := eq_true q249
                                     have ea_ := Option.some.inj (hx241_0.symm.trans hx249_0)
                                     injection ea_ with ea_ en_ ec_
                                     subst ea_
                                     subst ec_
                                     clear en_
                                     have p73 : 0 ≤ (x46_2 : Int) := of_decide_eq_true (by first | (with_reducible assumption) | assumption)
                                     have q73 : (x46_2 : Int) < (((rd_L2 x3_3 x4_1).length : Int) : Int) := of_decide_eq_true (by first | (with_reducible assumption) | assumption)
                                     obtain ⟨go73, co73, eo73, gb73, gl73, cl73, HG73⟩ := Kd.R_form HL249_0.out (by omega)
                                     (first | cases eo73 | (injection eo73 with ea_ en_ ec_; (first | subst ea_ | (injection ea_ with ea_; subst ea_)); subst ec_; clear en_))
                                     have GB73 := Aside0.mk gb73
                                     have GG73 := Aside0.mk HG73
                                     clear gb73 gl73 HG73
                                     (first | simp only [add_plain] at hx248_0 | skip)
                                     obtain ⟨hx73_0, hf73_0⟩ := Kd.R_celln 0 HL249_0.out (x46_2 : Int) p73 q73
                                     replace p73 := eq_true p73
                                     replace q73 := eq_true q73
                                     have hq76 : (x4_1 : Int) < (x3_3.length : Int) := (by have h_ : (x4_1 : Int) < ((x3_3.length : Int) : Int) := of_decide_eq_true (by first | (with_reducible assumption) | assumption); first | exact h_ | (have e_ := (Kd.S_reads' HO_3.out).1; omega) | simpa only [List.length_set, List.length_set] using h_)
                                     obtain ⟨oki76, ce76, hcl76, hM76, hcc76, hok76, hbk76⟩ := Kd.S_borrow HO_3.out [] (x4_1 : Int) (of_decide_eq_true (by first | (with_reducible assumption) | assumption)) hq76
                                     obtain ⟨ve76_0, rfl, ge76_0⟩ := hM76
                                     have hv76 := hcc76 0 _ rfl
                                     rw [Nat.add_zero, show ((Kd.slice 2 (Kd.int .i64))).sz = 1 from rfl, Nat.mul_one] at hv76
                                     replace hv76 := Option.some.inj (hv76.symm.trans HX249_0.out)
                                     subst hv76
                                     clear hcc76 hcl76
                                     replace ge76_0 := (show Kd.R (Kd.int .i64) 2 _ _ _ _ (rd_L2 x3_3 x4_1) from ge76_0)
                                     have HP76 := Kd.R_putg ge76_0 (x46_2 : Int) (wrap64 (t238 + (rd (rd_L2 x3_3 (ji57)) t234)))
                                     try go_wp2_with (first | ((with_reducible refine gate_store (t := 2) (p := 125) rfl ?_); refine store_event (t := 2) (p := 125) (v := ?vo_w77) (w1 := (w75.setCell ⟨go73, (x46_2 : Int).toNat, none⟩ (.int .i64 (wrap64 (t238 + (rd (rd_L2 x3_3 (ji57)) t234)))))) ?hg ?ho ?hn ?hr ?_; (case ho => rfl); (case hg => rfl); (case hn => rfl); (case hr => first | (go_simp; done) | (go_simp; rfl)); intro w77 hw; have hg : w75.grownBy w77 (some go73) := (by rw [hw]; exact HP76.2); have hz_ : Kd.R (Kd.int .i64) 2 w77 w.heap.size oki76 (.slice (some ⟨go73, 0, none⟩) (rd_L2 x3_3 x4_1).length c241_0) y250 := (by rw [hw, Ny250.out]; exact HP76.1); have hp_ : Kd.S (Kd.slice 2 (Kd.int .i64)) 24 w77 w.heap.size (fun _ => True) (.slice (some ⟨go10, 0, none⟩) x3_3.length co10) y252 := (by rw [Ny252.out]; exact hbk76 hg (fun k_ e_ => by injection e_ with e_; subst e_; exact ge76_0.1 _ rfl) (Kd.M_row hz_)); have hm_ := Kd.R_mono hz_ hok76; clear HP76 hbk76; have n0_ := Aside0.mk (hp_); have n1_ := Aside0.mk (blk_grown (g := gb217) (o := .cells #[.int .i64 a0_0, .int .i64 a0_1, .int .i64 a0_2, .slice A0_3 l0_3.length c0_3, .slice A0_4 l0_4.length c0_4, .int .i64 a0_5] 55 (0, 0)) (by (with_reducible repeat (first | refine blk_drewN ?_ _ | refine blk_drew ?_ | refine blk_alloc ?_ _)); exact BK217.out) hg (Kd.R_ne HL249_0.out BK217.out (by decide))); have n2_ := Aside0.mk ((by rw [hw]; exact below_set (HB.out) GB73.out : Below w.heap.size w w77)); have n3_ := Aside0.mk (hm_); have n4_ := Aside0.mk ((Kd.R_reads' hm_).2.1); clear HO_3; clear BK217; clear HB; clear HL239_0; clear HL241_0; clear HL247_0; clear HL249_0; have HO_3 := n0_; have BK217 := n1_; have HB := n2_; have HL255 := n3_; have HC251 := n4_; clear n0_ n1_ n2_ n3_ n4_; clear hg hw hp_ hz_ hm_ hok76))
                                     (try simp only [← hl3_3])
                                     go_roundg kj45
                                     case measure => have := HK1.out; have := HK2.out; have := HK3.out; have := HJ45.out; omega
                                     case rel => exact ⟨(y252), (wrap64 (x6_3 + 1)), (by first | rfl | (simp; done) | (simp [*]; done)), H', ⟨by have := HK1.out; have := HK2.out; have := HK3.out; have := HJ45.out; omega⟩, ⟨by (try simp only [hl3_1]); (try simp only [hl3_2]); (try simp only [hl3_3]); (with_reducible repeat (first | apply Kd.S_alloc | apply Kd.S_drewN | apply Kd.S_drew)); exact HO_3.out⟩, ⟨by (try simp only [hl3_1]); (try simp only [hl3_2]); (try simp only [hl3_3]); (with_reducible repeat (first | refine blk_drewN ?_ _ | refine blk_drew ?_ | refine blk_alloc ?_ _)); exact BK217.out⟩, ⟨by repeat (first | (with_reducible first | exact HB.out | apply below_alloc | apply pw_below_drewN | apply below_drew1 | refine below_set ?_ GE217.out) | exact HB.out)⟩⟩
                                    ·rw [if_neg c72] at H
                                     have c72b0 : decide ((wrap64 (t238 + (rd (rd_L2 x3_3 (ji57)) t234))) < (rd (rd_L2 x3_3 x4_1) x46_2)) = false := decide_eq_false c72
                                     clear c72
                                     have H' := Aside0.mk H
                                     clear H
                                     try go_wp2
                                     have n0_ := Aside0.mk (Kd.S_drew HO_3.out)
                                     have n1_ := Aside0.mk (blk_drew BK217.out)
                                     have n2_ := Aside0.mk (below_drew1 HB.out)
                                     clear HO_3
                                     clear BK217
                                     clear HB
                                     have HO_3 := n0_
                                     have BK217 := n1_
                                     have HB := n2_
                                     clear n0_ n1_ n2_
                                     have p239 : 0 ≤ ((ji57) : Int) := of_decide_eq_true (by first | (with_reducible assumption) | assumption)
                                     have q239 : (ji57) < (x3_3.length : Int) := of_decide_eq_true (by first | (with_reducible assumption) | assumption)
                                     obtain ⟨ad239, A239_0, c239_0, e239, hx239_0, hl239_0, hi239_0⟩ := at_L2 (Kd.S_reads' HO_3.out).2.2 (ji57) p239 q239
                                     obtain rfl : (⟨go10, 0, none⟩ : Addr) = ad239 := (by injection e239)
                                     obtain ⟨ce239, hce239, hMe239, hcc239⟩ := Kd.S_get HO_3.out [] (ji57) p239 (by first | exact q239 | exact of_decide_eq_true (by first | (with_reducible assumption) | assumption) | (have e_ := (Kd.S_reads' HO_3.out).1; omega))
                                     obtain ⟨ve239_0, rfl, ge239_0⟩ := hMe239
                                     have hv239_0 := hcc239 0 _ rfl
                                     rw [Nat.add_zero, show ((Kd.slice 2 (Kd.int .i64))).sz = 1 from rfl, Nat.mul_one] at hv239_0
                                     replace hv239_0 := Option.some.inj (hv239_0.symm.trans hx239_0)
                                     rw [hv239_0] at ge239_0
                                     have HL239_0 := Aside0.mk (show Kd.R (Kd.int .i64) 2 _ _ _ _ (rd_L2 x3_3 (ji57)) from ge239_0)
                                     clear hv239_0 ge239_0
                                     have HX239_0 := Aside0.mk hx239_0
                                     clear hcc239 hce239
                                     (first | simp only [add_plain] at hx239_0 | simp only [add_at] at hx239_0 | simp only [Addr.add, Nat.zero_add] at hx239_0 | skip)
                                     have HR239_0 := Aside0.mk hi239_0
                                     have HC239_0 := Aside0.mk hl239_0
                                     clear hi239_0 hl239_0
                                     replace p239 := eq_true p239
                                     replace q239 := eq_true q239
                                     have p240 : 0 ≤ (t234 : Int) := of_decide_eq_true (by first | (with_reducible assumption) | assumption)
                                     have q240 : t234 < ((rd_L2 x3_3 (ji57)).length : Int) := of_decide_eq_true (by first | (with_reducible assumption) | assumption)
                                     obtain ⟨ad240, e240, hx240_0⟩ := Kd.at_int (by repeat (first | (with_reducible exact HR239_0.out) | (with_reducible refine Kd.C_alloc ?_ _) | (with_reducible refine Kd.C_drewN ?_ _) | (with_reducible refine Kd.C_drew ?_) | exact HR239_0.out)) t234 p240 q240
                                     cases e240
                                     replace p240 := eq_true p240
                                     replace q240 := eq_true q240
                                     refine start_ (n := 14) (S := fun w' => w'.cell? ⟨gb217, 0, none⟩ = some (.int .i64 a0_0) ∧ w'.cell? ⟨gb217, 1, none⟩ = some (.int .i64 a0_1) ∧ w'.cell? ⟨gb217, 2, none⟩ = some (.int .i64 a0_2) ∧ w'.cell? ⟨gb217, 3, none⟩ = some (.slice A0_3 l0_3.length c0_3) ∧ w'.cell? ⟨gb217, 4, none⟩ = some (.slice A0_4 l0_4.length c0_4) ∧ w'.cell? ⟨gb217, 5, none⟩ = some (.int .i64 a0_5) ∧ w'.cell? ⟨go10, ((ji57)).toNat, none⟩ = some (.slice (some ad240) (rd_L2 x3_3 (ji57)).length c239_0) ∧ w'.cell? (ad240.add (t234).toNat) = some (.int .i64 (rd (rd_L2 x3_3 (ji57)) t234))) (ds := []) (tf 0 14) (by kernel_rfl) rfl rfl ⟨(blk_cell BK217.out 0).trans rfl, (blk_cell BK217.out 1).trans rfl, (blk_cell BK217.out 2).trans rfl, (blk_cell BK217.out 3).trans rfl, (blk_cell BK217.out 4).trans rfl, (blk_cell BK217.out 5).trans rfl, hx239_0, hx240_0⟩ (fun hHeld => ?_); refine with_tabW impl_charging_costs.tab16 impl_charging_costs.bits16 (fun HT_ HW_ => ?_)
                                     generalize wc.drew = w78 at HO_3 BK217 HB HL239_0 HR239_0 HX239_0 hx239_0 hx240_0 hHeld ⊢
                                     refine px 1 (some 88) (tb 14 2) HT_ ?_
                                     refine px 2 (some 89) (tb 14 6) HT_ ?_
                                     refine px 4 (some 91) (tb 14 22) HT_ ?_
                                     refine px 5 (some 92) (tb 14 54) HT_ ?_
                                     refine px 6 (some 93) (tb 14 118) HT_ ?_
                                     refine px 7 (some 94) (tb 14 246) HT_ ?_
                                     refine px 9 (some 96) (tb 14 758) HT_ ?_
                                     refine tx (v := ?_) 0 (some 87) (tb 14 759) HT_ HW_ hHeld ?_ ?_
                                     rotate_left; (· rintro w' ⟨s0, s1, s2, s3, s4, s5, s6, s7⟩; go_simp; with_reducible rfl)
                                     refine tx (v := ?_) 8 (some 95) (tb 14 1015) HT_ HW_ hHeld ?_ ?_
                                     rotate_left; (· rintro w' ⟨s0, s1, s2, s3, s4, s5, s6, s7⟩; go_simp; with_reducible rfl)
                                     refine px 10 (some 97) (tb 14 2039) HT_ ?_
                                     refine tx (v := ?_) 11 (some 98) (tb 14 4087) HT_ HW_ hHeld ?_ ?_
                                     rotate_left; (· rintro w' ⟨s0, s1, s2, s3, s4, s5, s6, s7⟩; go_simp; with_reducible rfl)
                                     refine one_ (i := 3) (N := some 90) (tf 12 14) rfl rfl (one_of HT_.out (by kernel_rfl)) (by decide) (fun K hK => ?_)
                                     refine goes_ Try.func55 (by kernel_rfl) rfl #[.agg #[.int .i64 a0_0, .int .i64 a0_1, .int .i64 a0_2, .slice A0_3 l0_3.length c0_3, .slice A0_4 l0_4.length c0_4, .int .i64 a0_5], .int .i64 x4_1, .int .i64 x6_3] (by rfl) rfl rfl (by (try simp only [List.map_toArray, List.map_cons, List.map_nil]); first | done | rfl | (simp only [List.length_drop, List.length_take]; rfl)) ?_
                                     with_reducible refine (impl_charging_price.calls a0_0 a0_1 a0_2 _ _ l0_3 _ _ l0_4 a0_5 x4_1 x6_3 t238 _ ?side1 ?side2 ?side3 ?side4 A56.out).mono ?_
                                     (case side1 => repeat (first | exact (Kd.C_below HR0_3.out HB.out) | (with_reducible refine Kd.C_alloc ?_ _) | (with_reducible refine Kd.C_drewN ?_ _) | (with_reducible refine Kd.C_drew ?_)))
                                     (case side2 => exact HC0_3.out)
                                     (case side3 => repeat (first | exact (Kd.C_below HR0_4.out HB.out) | (with_reducible refine Kd.C_alloc ?_ _) | (with_reducible refine Kd.C_drewN ?_ _) | (with_reducible refine Kd.C_drew ?_)))
                                     (case side4 => exact HC0_4.out)
                                     rintro e w79 ⟨rfl, hb⟩
                                     have HS6_ := (hb.cell (World.block_lt_of_cell? _ _ (hHeld.2.2.2.2.2.2.1))).trans (hHeld.2.2.2.2.2.2.1)
                                     have HS7_ := (hb.cell (World.block_lt_of_cell? _ _ (hHeld.2.2.2.2.2.2.2))).trans (hHeld.2.2.2.2.2.2.2)
                                     refine ⟨_, rfl, ?_⟩
                                     have n0_ := Aside0.mk (Kd.S_below (by (with_reducible repeat (first | apply Kd.S_alloc | apply Kd.S_drewN | apply Kd.S_drew)); exact HO_3.out) hb)
                                     have n1_ := Aside0.mk (Kd.R_below (by (with_reducible repeat (first | apply Kd.R_alloc | apply Kd.R_drewN | apply Kd.R_drew)); exact HL239_0.out) hb)
                                     have n2_ := Aside0.mk (blk_below (g := gb217) (o := .cells #[.int .i64 a0_0, .int .i64 a0_1, .int .i64 a0_2, .slice A0_3 l0_3.length c0_3, .slice A0_4 l0_4.length c0_4, .int .i64 a0_5] 55 (0, 0)) (by (with_reducible repeat (first | refine blk_drewN ?_ _ | refine blk_drew ?_ | refine blk_alloc ?_ _)); exact BK217.out) hb)
                                     have n3_ := Aside0.mk (Kd.C_below (by repeat (first | (with_reducible exact HR239_0.out) | (with_reducible refine Kd.C_alloc ?_ _) | (with_reducible refine Kd.C_drewN ?_ _) | (with_reducible refine Kd.C_drew ?_) | exact HR239_0.out)) hb)
                                     have n4_ := Aside0.mk (pw_cell_below hb HX239_0.out)
                                     have n5_ := Aside0.mk (below_step (by repeat (first | (with_reducible first | exact HB.out | apply below_alloc | apply pw_below_drewN | apply below_drew1 | refine below_set ?_ GE217.out) | exact HB.out)) hb)
                                     clear HO_3
                                     clear HL239_0
                                     clear BK217
                                     clear HR239_0
                                     clear HX239_0
                                     clear HB
                                     have HO_3 := n0_
                                     have HL239_0 := n1_
                                     have BK217 := n2_
                                     have HR239_0 := n3_
                                     have HX239_0 := n4_
                                     have HB := n5_
                                     clear n0_ n1_ n2_ n3_ n4_ n5_
                                     (try clear hb)
                                     (try clear hb2)
                                     (try clear hk)
                                     (try clear hi)
                                     refine hK.out _ _ ⟨(blk_cell BK217.out 0).trans rfl, (blk_cell BK217.out 1).trans rfl, (blk_cell BK217.out 2).trans rfl, (blk_cell BK217.out 3).trans rfl, (blk_cell BK217.out 4).trans rfl, (blk_cell BK217.out 5).trans rfl, HS6_, HS7_⟩ (fun hHeld => ?_)
                                     clear hK K
                                     refine norm_ (a' := ?_) ?_ ?_
                                     rotate_left
                                     ·show Act.put _ (some 90) _ = _
                                      simp only [Act.put, List.setIfInBounds_toArray, List.set_cons_zero, List.set_cons_succ, i64_w, i32_w]
                                      rfl
                                     refine px 12 (some 99) (tf 13 14) HT_ ?_
                                     refine px 13 (some 9) (tf 14 14) HT_ ?_
                                     refine done_ (done_of HT_.out (by kernel_rfl)) ?_
                                     have p241 : 0 ≤ (x4_1 : Int) := of_decide_eq_true (by first | (with_reducible assumption) | assumption)
                                     have q241 : x4_1 < (x3_3.length : Int) := of_decide_eq_true (by first | (with_reducible assumption) | assumption)
                                     obtain ⟨ad241, A241_0, c241_0, e241, hx241_0, hl241_0, hi241_0⟩ := at_L2 (Kd.S_reads' HO_3.out).2.2 x4_1 p241 q241
                                     obtain rfl : (⟨go10, 0, none⟩ : Addr) = ad241 := (by injection e241)
                                     obtain ⟨ce241, hce241, hMe241, hcc241⟩ := Kd.S_get HO_3.out [] x4_1 p241 (by first | exact q241 | exact of_decide_eq_true (by first | (with_reducible assumption) | assumption) | (have e_ := (Kd.S_reads' HO_3.out).1; omega))
                                     obtain ⟨ve241_0, rfl, ge241_0⟩ := hMe241
                                     have hv241_0 := hcc241 0 _ rfl
                                     rw [Nat.add_zero, show ((Kd.slice 2 (Kd.int .i64))).sz = 1 from rfl, Nat.mul_one] at hv241_0
                                     replace hv241_0 := Option.some.inj (hv241_0.symm.trans hx241_0)
                                     rw [hv241_0] at ge241_0
                                     have HL241_0 := Aside0.mk (show Kd.R (Kd.int .i64) 2 _ _ _ _ (rd_L2 x3_3 x4_1) from ge241_0)
                                     clear hv241_0 ge241_0
                                     have HX241_0 := Aside0.mk hx241_0
                                     clear hcc241 hce241
                                     (first | simp only [add_plain] at hx241_0 | simp only [add_at] at hx241_0 | simp only [Addr.add, Nat.zero_add] at hx241_0 | skip)
                                     have HR241_0 := Aside0.mk hi241_0
                                     have HC241_0 := Aside0.mk hl241_0
                                     clear hi241_0 hl241_0
                                     replace p241 := eq_true p241
                                     replace q241 := eq_true q241
                                     have p242 : 0 ≤ (x46_2 : Int) := of_decide_eq_true (by first | (with_reducible assumption) | assumption)
                                     have q242 : x46_2 < ((rd_L2 x3_3 x4_1).length : Int) := of_decide_eq_true (by first | (with_reducible assumption) | assumption)
                                     obtain ⟨ad242, e242, hx242_0⟩ := Kd.at_int (by repeat (first | (with_reducible exact HR241_0.out) | (with_reducible refine Kd.C_alloc ?_ _) | (with_reducible refine Kd.C_drewN ?_ _) | (with_reducible refine Kd.C_drew ?_) | exact HR241_0.out)) x46_2 p242 q242
                                     cases e242
                                     replace p242 := eq_true p242
                                     replace q242 := eq_true q242
                                     have p247 : 0 ≤ (x4_1 : Int) := of_decide_eq_true (by first | (with_reducible assumption) | assumption)
                                     have q247 : x4_1 < (x3_3.length : Int) := of_decide_eq_true (by first | (with_reducible assumption) | assumption)
                                     obtain ⟨ad247, A247_0, c247_0, e247, hx247_0, hl247_0, hi247_0⟩ := at_L2 (Kd.S_reads' HO_3.out).2.2 x4_1 p247 q247
                                     obtain rfl : (⟨go10, 0, none⟩ : Addr) = ad247 := (by injection e247)
                                     obtain ⟨ce247, hce247, hMe247, hcc247⟩ := Kd.S_get HO_3.out [] x4_1 p247 (by first | exact q247 | exact of_decide_eq_true (by first | (with_reducible assumption) | assumption) | (have e_ := (Kd.S_reads' HO_3.out).1; omega))
                                     obtain ⟨ve247_0, rfl, ge247_0⟩ := hMe247
                                     have hv247_0 := hcc247 0 _ rfl
                                     rw [Nat.add_zero, show ((Kd.slice 2 (Kd.int .i64))).sz = 1 from rfl, Nat.mul_one] at hv247_0
                                     replace hv247_0 := Option.some.inj (hv247_0.symm.trans hx247_0)
                                     rw [hv247_0] at ge247_0
                                     have HL247_0 := Aside0.mk (show Kd.R (Kd.int .i64) 2 _ _ _ _ (rd_L2 x3_3 x4_1) from ge247_0)
                                     clear hv247_0 ge247_0
                                     have HX247_0 := Aside0.mk hx247_0
                                     clear hcc247 hce247
                                     (first | simp only [add_plain] at hx247_0 | simp only [add_at] at hx247_0 | simp only [Addr.add, Nat.zero_add] at hx247_0 | skip)
                                     have HR247_0 := Aside0.mk hi247_0
                                     have HC247_0 := Aside0.mk hl247_0
                                     clear hi247_0 hl247_0
                                     replace p247 := eq_true p247
                                     replace q247 := eq_true q247
                                     have ea_ := Option.some.inj (hx241_0.symm.trans hx247_0)
                                     injection ea_ with ea_ en_ ec_
                                     subst ea_
                                     subst ec_
                                     clear en_
                                     have p248 : 0 ≤ (x46_2 : Int) := of_decide_eq_true (by first | (with_reducible assumption) | assumption)
                                     have q248 : x46_2 < ((rd_L2 x3_3 x4_1).length : Int) := of_decide_eq_true (by first | (with_reducible assumption) | assumption)
                                     obtain ⟨ad248, e248, hx248_0⟩ := Kd.at_int (by repeat (first | (with_reducible exact HR247_0.out) | (with_reducible refine Kd.C_alloc ?_ _) | (with_reducible refine Kd.C_drewN ?_ _) | (with_reducible refine Kd.C_drew ?_) | exact HR247_0.out)) x46_2 p248 q248
                                     cases e248
                                     replace p248 := eq_true p248
                                     replace q248 := eq_true q248
                                     try go_wp2
                                     (try simp only [← hl3_3])
                                     go_roundg kj45
                                     case measure => have := HK1.out; have := HK2.out; have := HK3.out; have := HJ45.out; omega
                                     case rel => exact ⟨(x3_3), (wrap64 (x6_3 + 1)), (by first | rfl | (simp; done) | (simp [*]; done)), H', ⟨by have := HK1.out; have := HK2.out; have := HK3.out; have := HJ45.out; omega⟩, ⟨by (try simp only [hl3_1]); (try simp only [hl3_2]); (try simp only [hl3_3]); (with_reducible repeat (first | apply Kd.S_alloc | apply Kd.S_drewN | apply Kd.S_drew)); exact HO_3.out⟩, ⟨by (try simp only [hl3_1]); (try simp only [hl3_2]); (try simp only [hl3_3]); (with_reducible repeat (first | refine blk_drewN ?_ _ | refine blk_drew ?_ | refine blk_alloc ?_ _)); exact BK217.out⟩, ⟨by repeat (first | (with_reducible first | exact HB.out | apply below_alloc | apply pw_below_drewN | apply below_drew1 | refine below_set ?_ GE217.out) | exact HB.out)⟩⟩
                                  ·rw [if_neg c65] at H
                                   exact absurd H (by simp)
                                 ·rw [if_neg c64] at H
                                  exact absurd H (by simp)
                                ·rw [if_neg c63] at H
                                 exact absurd H (by simp)
                               ·rw [if_neg c62] at H
                                exact absurd H (by simp)
                              ·rw [if_neg c61] at H
                               exact absurd H (by simp)
                             ·rw [if_neg c60] at H
                              exact absurd H (by simp)
                            ·rw [if_neg c59] at H
                             exact absurd H (by simp)
                           ·rw [if_neg c58] at H
                            exact absurd H (by simp)
                       ·rw [if_neg c44] at H
                        have c44b0 : decide (x6_3 ≤ a0_1) = false := decide_eq_false c44
                        clear c44
                        have H' := Aside0.mk H
                        clear H
                        have hcz80_0 : wr.cell? ⟨gb217, 0, none⟩ = some (.int .i64 a0_0) := (blk_cell BK217.out 0).trans rfl
                        have hcz80_1 : wr.cell? ⟨gb217, 1, none⟩ = some (.int .i64 a0_1) := (blk_cell BK217.out 1).trans rfl
                        have hcz80_2 : wr.cell? ⟨gb217, 2, none⟩ = some (.int .i64 a0_2) := (blk_cell BK217.out 2).trans rfl
                        have hcz80_3 : wr.cell? ⟨gb217, 3, none⟩ = some (.slice A0_3 l0_3.length c0_3) := (blk_cell BK217.out 3).trans rfl
                        have hcz80_4 : wr.cell? ⟨gb217, 4, none⟩ = some (.slice A0_4 l0_4.length c0_4) := (blk_cell BK217.out 4).trans rfl
                        have hcz80_5 : wr.cell? ⟨gb217, 5, none⟩ = some (.int .i64 a0_5) := (blk_cell BK217.out 5).trans rfl
                        have hfz80_0 := blk_frozen BK217.out 0
                        have hfz80_1 := blk_frozen BK217.out 1
                        have hfz80_2 := blk_frozen BK217.out 2
                        have hfz80_3 := blk_frozen BK217.out 3
                        have hfz80_4 := blk_frozen BK217.out 4
                        have hfz80_5 := blk_frozen BK217.out 5
                        go_wp2
                        (try simp only [← hl3_2, ← hl3_3])
                        go_roundg k3
                        case measure => have := HK1.out; have := HK2.out; have := HK3.out; omega
                        case rel => exact ⟨(x3_3), (wrap64 (x46_2 + 1)), (by first | rfl | (simp; done) | (simp [*]; done)), H', ⟨by have := HK1.out; have := HK2.out; have := HK3.out; omega⟩, ⟨by (try simp only [hl3_1]); (try simp only [hl3_2]); (try simp only [hl3_3]); (with_reducible repeat (first | apply Kd.S_alloc | apply Kd.S_drewN | apply Kd.S_drew)); exact HO_3.out⟩, ⟨by (try simp only [hl3_1]); (try simp only [hl3_2]); (try simp only [hl3_3]); (with_reducible repeat (first | refine blk_drewN ?_ _ | refine blk_drew ?_ | refine blk_alloc ?_ _)); exact BK217.out⟩, ⟨by repeat (first | (with_reducible first | exact HB.out | apply below_alloc | apply pw_below_drewN | apply below_drew1 | refine below_set ?_ GE217.out) | exact HB.out)⟩⟩
                    ·rw [if_neg c39] at H
                     exact absurd H (by simp)
                   ·rw [if_neg c38] at H
                    exact absurd H (by simp)
                  ·rw [if_neg c37] at H
                   exact absurd H (by simp)
                 ·rw [if_neg c36] at H
                  exact absurd H (by simp)
                ·rw [if_neg c35] at H
                 have c35b0 : decide (x46_2 < ((rd_L2 y228 x4_1).length : Int)) = false := decide_eq_false c35
                 clear c35
                 have H' := Aside0.mk H
                 clear H
                 go_wp2
                 (try simp only [← hl3_1, ← hl3_2])
                 go_roundg k2
                 case measure => have := HK1.out; have := HK2.out; omega
                 case rel => exact ⟨(x3_2), (wrap64 (x4_1 - 1)), (by first | rfl | (simp; done) | (simp [*]; done)), H', ⟨by have := HK1.out; have := HK2.out; omega⟩, ⟨by (try simp only [hl3_1]); (try simp only [hl3_2]); (with_reducible repeat (first | apply Kd.S_alloc | apply Kd.S_drewN | apply Kd.S_drew)); exact HO_3.out⟩, ⟨by (try simp only [hl3_1]); (try simp only [hl3_2]); (with_reducible repeat (first | refine blk_drewN ?_ _ | refine blk_drew ?_ | refine blk_alloc ?_ _)); exact BK217.out⟩, ⟨by repeat (first | (with_reducible first | exact HB.out | apply below_alloc | apply pw_below_drewN | apply below_drew1 | refine below_set ?_ GE217.out) | exact HB.out)⟩⟩
             ·rw [if_neg c27] at H
              exact absurd H (by simp)
            ·rw [if_neg c26] at H
             exact absurd H (by simp)
           ·rw [if_neg c25] at H
            exact absurd H (by simp)
          ·rw [if_neg c24] at H
           exact absurd H (by simp)
         ·rw [if_neg c22] at H
          have c22b0 : decide (0 ≤ x4_1) = false := decide_eq_false c22
          clear c22
          obtain rfl := Option.some.inj H
          go_wp2
          go_ret
          exact ⟨_, by first | rfl | (simp [errW_none, errW_some] <;> rfl) | (simp only [← hji2, ← hji5]; first | rfl | (simp [errW_none, errW_some] <;> rfl)) | (simp [*, errW_none, errW_some] <;> rfl), by (with_reducible repeat (first | apply Kd.S_alloc | apply Kd.S_drewN | apply Kd.S_drew)); exact HO_3.out, by repeat (first | (with_reducible first | exact HB.out | apply below_alloc | apply pw_below_drewN | apply below_drew1 | refine below_set ?_ GE217.out) | exact HB.out)⟩
      ·rw [if_neg c9] at H
       exact absurd H (by simp)
     ·rw [if_neg c8] at H
      exact absurd H (by simp)
    ·rw [if_neg c7] at H
     exact absurd H (by simp)
   ·rw [if_neg c6] at H
    exact absurd H (by simp)
  ·rw [if_neg c4] at H
   exact absurd H (by simp)
 ·rw [if_neg c3] at H
  exact absurd H (by simp)

end Go.Proofs.Ytpdgicpgjmibgaa.PFnExactBestCharging
