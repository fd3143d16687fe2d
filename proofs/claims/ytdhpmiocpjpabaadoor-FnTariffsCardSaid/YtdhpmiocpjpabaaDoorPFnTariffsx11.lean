-- written by wip/xprint.py, a program of this session, for this claim; not trusted: Lean checks it.
import Derived.Test.YtdhpmiocpjpabaaDoorPFnTariffsx0
import Derived.Test.YtdhpmiocpjpabaaDoorPFnTariffsx1
import Derived.Test.YtdhpmiocpjpabaaDoorPFnTariffsx4
import Derived.Test.YtdhpmiocpjpabaaDoorPFnTariffsx5
import Derived.Test.YtdhpmiocpjpabaaDoorPFnTariffsx7
import Derived.Test.YtdhpmiocpjpabaaDoorPFnTariffsx8
import Derived.Test.YtdhpmiocpjpabaaDoorPFnTariffsx10
namespace Go.Proofs.YtdhpmiocpjpabaaDoor.PFnTariffs
open Go.RowKit Go.Proofs.YtdhpmiocpjpabaaDoorW.PrintWords Go.Proofs.YtdhpmiocpjpabaaDoorW.PrintLast Go.Proofs.YtdhpmiocpjpabaaDoorW.PrintMore
attribute [local go_sem] leq_less_ max2_int min2_int max_two min_two max_three min_three max_four min_four   -- for this text's walks alone
set_option linter.unusedVariables false
set_option linter.unusedSimpArgs false

/-! ### laws_FnTariffs: function 3 -/
mutual
def laws_FnTariffs.j0 : Nat → List Int → List Int → Option (Bool)
 | 0, _, _ => none
 | k + 1, x0, x1 => (spec_R8Tariff.f k x0).bind fun bt340 => ((laws_r8Wide.f x1 0 4000).bind fun t347 => ((laws_r8At.f x1 2 60).bind fun t348 => ((impl_BillOf.f k bt340.1 bt340.2.1 bt340.2.2.1 bt340.2.2.2 t347 t348).bind fun bt349 => ((impl_BillOf.f k bt340.1 bt340.2.1 bt340.2.2.1 bt340.2.2.2 (wrap64 (t347 + 1)) t348).bind fun bt351 => ((impl_BillOf.f k bt340.1 bt340.2.1 bt340.2.2.1 bt340.2.2.2 t347 (wrap64 (t348 + 1))).bind fun bt353 => ((impl_HeatCost.f k bt340.1 bt340.2.1 bt340.2.2.1 bt340.2.2.2 t347).bind fun bt355 => ((impl_HeatCost.f k bt340.1 bt340.2.1 bt340.2.2.1 bt340.2.2.2 (wrap64 (t347 + 1))).bind fun bt357 => ((impl_NextPrice.f k bt340.1 bt340.2.1 bt340.2.2.1 bt340.2.2.2 t347).bind fun bt359 => ((impl_TariffText.f k bt340.1 bt340.2.1 bt340.2.2.1 bt340.2.2.2).bind fun t361 => ((impl_ReadTariff.f k t361).bind fun bt362 => (if bt349.2 = 0 then (if bt351.2 = 0 then (if bt353.2 = 0 then (if bt351.1 < bt349.1 then (laws_FnTariffs.j1 k x1 t348 true bt340.1 bt340.2.1 bt340.2.2.1 bt340.2.2.2) else (if bt353.1 = (wrap64 (bt349.1 + bt340.2.2.1)) then (if bt355.2 = 0 then (if bt357.2 = 0 then (if bt359.2 = 0 then (if (wrap64 (bt357.1 - bt355.1)) = bt359.1 then (if bt362.2.2.2.2 = true then ((impl_TariffText.f k bt362.1 bt362.2.1 bt362.2.2.1 bt362.2.2.2.1).bind fun t370 => ((impl_TariffText.f k bt340.1 bt340.2.1 bt340.2.2.1 bt340.2.2.2).bind fun t371 => (if t370.toList = t371.toList then ((spec_DivRound.f bt355.1 100).bind fun t372 => (laws_FnTariffs.j1 k x1 t348 (bt349.1 != (wrap64 ((wrap64 (bt340.2.1 + (wrap64 (bt340.2.2.1 * t348)))) + t372))) bt340.1 bt340.2.1 bt340.2.2.1 bt340.2.2.2)) else (laws_FnTariffs.j1 k x1 t348 true bt340.1 bt340.2.1 bt340.2.2.1 bt340.2.2.2)))) else (laws_FnTariffs.j1 k x1 t348 true bt340.1 bt340.2.1 bt340.2.2.1 bt340.2.2.2)) else (laws_FnTariffs.j1 k x1 t348 true bt340.1 bt340.2.1 bt340.2.2.1 bt340.2.2.2)) else (laws_FnTariffs.j1 k x1 t348 true bt340.1 bt340.2.1 bt340.2.2.1 bt340.2.2.2)) else (laws_FnTariffs.j1 k x1 t348 true bt340.1 bt340.2.1 bt340.2.2.1 bt340.2.2.2)) else (laws_FnTariffs.j1 k x1 t348 true bt340.1 bt340.2.1 bt340.2.2.1 bt340.2.2.2)) else (laws_FnTariffs.j1 k x1 t348 true bt340.1 bt340.2.1 bt340.2.2.1 bt340.2.2.2))) else (laws_FnTariffs.j1 k x1 t348 true bt340.1 bt340.2.1 bt340.2.2.1 bt340.2.2.2)) else (laws_FnTariffs.j1 k x1 t348 true bt340.1 bt340.2.1 bt340.2.2.1 bt340.2.2.2)) else (laws_FnTariffs.j1 k x1 t348 true bt340.1 bt340.2.1 bt340.2.2.1 bt340.2.2.2))))))))))))
def laws_FnTariffs.j1 : Nat → List Int → Int → Bool → ByteArray → Int → Int → List (List Int) → Option (Bool)
 | 0, _, _, _, _, _, _, _ => none
 | k + 1, x1, x7, x154, x347000, x347001, x347002, x347003 => if x154 = true then (some false) else (laws_FnTariffs.j2 k x1 x7 x347000 x347001 x347002 x347003)
def laws_FnTariffs.j2 : Nat → List Int → Int → ByteArray → Int → Int → List (List Int) → Option (Bool)
 | 0, _, _, _, _, _, _ => none
 | k + 1, x1, x7, x347000, x347001, x347002, x347003 => (laws_r8Wide.f x1 3 60000).bind fun t373 => ((impl_HeatWithin.f k x347000 x347001 x347002 x347003 t373 x7).bind fun bt374 => (if bt374.2 = 0 then (laws_FnTariffs.j3 k x7 t373 bt374.1 x347000 x347001 x347002 x347003) else ((spec_BillOf.f k x347000 x347001 x347002 x347003 0 x7).bind fun bt376 => (if bt374.2 = 3 then (if bt376.2 = 0 then (some (decide (bt376.1 > t373))) else (some false)) else (some false)))))
def laws_FnTariffs.j3 : Nat → Int → Int → Int → ByteArray → Int → Int → List (List Int) → Option (Bool)
 | 0, _, _, _, _, _, _, _ => none
 | k + 1, x7, x22, x23, x347000, x347001, x347002, x347003 => (spec_BillOf.f k x347000 x347001 x347002 x347003 x23 x7).bind fun bt378 => (if bt378.2 = 0 then (if bt378.1 > x22 then (laws_FnTariffs.j4 k x7 x22 x23 true x347000 x347001 x347002 x347003) else (if x23 < 0 then (laws_FnTariffs.j4 k x7 x22 x23 true x347000 x347001 x347002 x347003) else (laws_FnTariffs.j4 k x7 x22 x23 (decide (x23 > 1000000)) x347000 x347001 x347002 x347003))) else (laws_FnTariffs.j4 k x7 x22 x23 true x347000 x347001 x347002 x347003))
def laws_FnTariffs.j4 : Nat → Int → Int → Int → Bool → ByteArray → Int → Int → List (List Int) → Option (Bool)
 | 0, _, _, _, _, _, _, _, _ => none
 | k + 1, x7, x22, x23, x204, x347000, x347001, x347002, x347003 => if x204 = true then (some false) else (laws_FnTariffs.j5 k x7 x22 x23 x347000 x347001 x347002 x347003)
def laws_FnTariffs.j5 : Nat → Int → Int → Int → ByteArray → Int → Int → List (List Int) → Option (Bool)
 | 0, _, _, _, _, _, _, _ => none
 | k + 1, x7, x22, x23, x347000, x347001, x347002, x347003 => if x23 = 1000000 then (some true) else (laws_FnTariffs.j6 k x7 x22 x23 x347000 x347001 x347002 x347003)
def laws_FnTariffs.j6 : Nat → Int → Int → Int → ByteArray → Int → Int → List (List Int) → Option (Bool)
 | 0, _, _, _, _, _, _, _ => none
 | k + 1, x7, x22, x23, x347000, x347001, x347002, x347003 => (spec_BillOf.f k x347000 x347001 x347002 x347003 (wrap64 (x23 + 1)) x7).bind fun bt380 => (if bt380.2 = 0 then (some (decide (bt380.1 > x22))) else (some false))
end
def laws_FnTariffs.f (k : Nat) (l0 : List Int) (l1 : List Int) : Option (Bool) := (laws_r8Long.f l0 l1).bind fun t339 => (if t339 = true then (some true) else (laws_FnTariffs.j0 k l0 l1))
theorem laws_FnTariffs.mono_l : ∀ k, (∀ y0 y1, LeO (laws_FnTariffs.j0 k y0 y1) (laws_FnTariffs.j0 (k + 1) y0 y1)) ∧ (∀ y0 y1 y2 y3 y4 y5 y6, LeO (laws_FnTariffs.j1 k y0 y1 y2 y3 y4 y5 y6) (laws_FnTariffs.j1 (k + 1) y0 y1 y2 y3 y4 y5 y6)) ∧ (∀ y0 y1 y2 y3 y4 y5, LeO (laws_FnTariffs.j2 k y0 y1 y2 y3 y4 y5) (laws_FnTariffs.j2 (k + 1) y0 y1 y2 y3 y4 y5)) ∧ (∀ y0 y1 y2 y3 y4 y5 y6, LeO (laws_FnTariffs.j3 k y0 y1 y2 y3 y4 y5 y6) (laws_FnTariffs.j3 (k + 1) y0 y1 y2 y3 y4 y5 y6)) ∧ (∀ y0 y1 y2 y3 y4 y5 y6 y7, LeO (laws_FnTariffs.j4 k y0 y1 y2 y3 y4 y5 y6 y7) (laws_FnTariffs.j4 (k + 1) y0 y1 y2 y3 y4 y5 y6 y7)) ∧ (∀ y0 y1 y2 y3 y4 y5 y6, LeO (laws_FnTariffs.j5 k y0 y1 y2 y3 y4 y5 y6) (laws_FnTariffs.j5 (k + 1) y0 y1 y2 y3 y4 y5 y6)) ∧ (∀ y0 y1 y2 y3 y4 y5 y6, LeO (laws_FnTariffs.j6 k y0 y1 y2 y3 y4 y5 y6) (laws_FnTariffs.j6 (k + 1) y0 y1 y2 y3 y4 y5 y6))
 | 0 => ⟨fun _ _ r h => by simp [laws_FnTariffs.j0] at h, fun _ _ _ _ _ _ _ r h => by simp [laws_FnTariffs.j1] at h, fun _ _ _ _ _ _ r h => by simp [laws_FnTariffs.j2] at h, fun _ _ _ _ _ _ _ r h => by simp [laws_FnTariffs.j3] at h, fun _ _ _ _ _ _ _ _ r h => by simp [laws_FnTariffs.j4] at h, fun _ _ _ _ _ _ _ r h => by simp [laws_FnTariffs.j5] at h, fun _ _ _ _ _ _ _ r h => by simp [laws_FnTariffs.j6] at h⟩
 | k + 1 => by
  obtain ⟨ih0, ih1, ih2, ih3, ih4, ih5, ih6⟩ := laws_FnTariffs.mono_l k
  refine ⟨?_, ?_, ?_, ?_, ?_, ?_, ?_⟩
  ·intro y0 y1
   unfold laws_FnTariffs.j0
   repeat' first
   | (with_reducible exact ih0 _ _)
   | (with_reducible exact ih1 _ _ _ _ _ _ _)
   | (with_reducible exact ih2 _ _ _ _ _ _)
   | (with_reducible exact ih3 _ _ _ _ _ _ _)
   | (with_reducible exact ih4 _ _ _ _ _ _ _ _)
   | (with_reducible exact ih5 _ _ _ _ _ _ _)
   | (with_reducible exact ih6 _ _ _ _ _ _ _)
   | (with_reducible exact impl_BillOf.mono _ _ _ _ _ _ _)
   | (with_reducible exact impl_HeatCost.mono _ _ _ _ _ _)
   | (with_reducible exact impl_HeatWithin.mono _ _ _ _ _ _ _)
   | (with_reducible exact impl_NextPrice.mono _ _ _ _ _ _)
   | (with_reducible exact impl_ReadTariff.mono _ _)
   | (with_reducible exact impl_TariffText.mono _ _ _ _ _)
   | (with_reducible exact spec_BillOf.mono _ _ _ _ _ _ _)
   | (with_reducible exact spec_R8Tariff.mono _ _)
   | (with_reducible exact LeO.refl _)
   | (with_reducible exact LeO.none _)
   | (with_reducible refine LeO.ite ?_ ?_)
   | (with_reducible refine LeO.bind ?_ (fun _ => ?_))
   | exact ih0 _ _
   | exact ih1 _ _ _ _ _ _ _
   | exact ih2 _ _ _ _ _ _
   | exact ih3 _ _ _ _ _ _ _
   | exact ih4 _ _ _ _ _ _ _ _
   | exact ih5 _ _ _ _ _ _ _
   | exact ih6 _ _ _ _ _ _ _
   | exact impl_BillOf.mono _ _ _ _ _ _ _
   | exact impl_HeatCost.mono _ _ _ _ _ _
   | exact impl_HeatWithin.mono _ _ _ _ _ _ _
   | exact impl_NextPrice.mono _ _ _ _ _ _
   | exact impl_ReadTariff.mono _ _
   | exact impl_TariffText.mono _ _ _ _ _
   | exact spec_BillOf.mono _ _ _ _ _ _ _
   | exact spec_R8Tariff.mono _ _
   | exact LeO.none _
   | refine LeO.ite ?_ ?_
   | refine LeO.bind ?_ (fun _ => ?_)
  ·intro y0 y1 y2 y3 y4 y5 y6
   unfold laws_FnTariffs.j1
   repeat' first
   | (with_reducible exact ih0 _ _)
   | (with_reducible exact ih1 _ _ _ _ _ _ _)
   | (with_reducible exact ih2 _ _ _ _ _ _)
   | (with_reducible exact ih3 _ _ _ _ _ _ _)
   | (with_reducible exact ih4 _ _ _ _ _ _ _ _)
   | (with_reducible exact ih5 _ _ _ _ _ _ _)
   | (with_reducible exact ih6 _ _ _ _ _ _ _)
   | (with_reducible exact impl_BillOf.mono _ _ _ _ _ _ _)
   | (with_reducible exact impl_HeatCost.mono _ _ _ _ _ _)
   | (with_reducible exact impl_HeatWithin.mono _ _ _ _ _ _ _)
   | (with_reducible exact impl_NextPrice.mono _ _ _ _ _ _)
   | (with_reducible exact impl_ReadTariff.mono _ _)
   | (with_reducible exact impl_TariffText.mono _ _ _ _ _)
   | (with_reducible exact spec_BillOf.mono _ _ _ _ _ _ _)
   | (with_reducible exact spec_R8Tariff.mono _ _)
   | (with_reducible exact LeO.refl _)
   | (with_reducible exact LeO.none _)
   | (with_reducible refine LeO.ite ?_ ?_)
   | (with_reducible refine LeO.bind ?_ (fun _ => ?_))
   | exact ih0 _ _
   | exact ih1 _ _ _ _ _ _ _
   | exact ih2 _ _ _ _ _ _
   | exact ih3 _ _ _ _ _ _ _
   | exact ih4 _ _ _ _ _ _ _ _
   | exact ih5 _ _ _ _ _ _ _
   | exact ih6 _ _ _ _ _ _ _
   | exact impl_BillOf.mono _ _ _ _ _ _ _
   | exact impl_HeatCost.mono _ _ _ _ _ _
   | exact impl_HeatWithin.mono _ _ _ _ _ _ _
   | exact impl_NextPrice.mono _ _ _ _ _ _
   | exact impl_ReadTariff.mono _ _
   | exact impl_TariffText.mono _ _ _ _ _
   | exact spec_BillOf.mono _ _ _ _ _ _ _
   | exact spec_R8Tariff.mono _ _
   | exact LeO.none _
   | refine LeO.ite ?_ ?_
   | refine LeO.bind ?_ (fun _ => ?_)
  ·intro y0 y1 y2 y3 y4 y5
   unfold laws_FnTariffs.j2
   repeat' first
   | (with_reducible exact ih0 _ _)
   | (with_reducible exact ih1 _ _ _ _ _ _ _)
   | (with_reducible exact ih2 _ _ _ _ _ _)
   | (with_reducible exact ih3 _ _ _ _ _ _ _)
   | (with_reducible exact ih4 _ _ _ _ _ _ _ _)
   | (with_reducible exact ih5 _ _ _ _ _ _ _)
   | (with_reducible exact ih6 _ _ _ _ _ _ _)
   | (with_reducible exact impl_BillOf.mono _ _ _ _ _ _ _)
   | (with_reducible exact impl_HeatCost.mono _ _ _ _ _ _)
   | (with_reducible exact impl_HeatWithin.mono _ _ _ _ _ _ _)
   | (with_reducible exact impl_NextPrice.mono _ _ _ _ _ _)
   | (with_reducible exact impl_ReadTariff.mono _ _)
   | (with_reducible exact impl_TariffText.mono _ _ _ _ _)
   | (with_reducible exact spec_BillOf.mono _ _ _ _ _ _ _)
   | (with_reducible exact spec_R8Tariff.mono _ _)
   | (with_reducible exact LeO.refl _)
   | (with_reducible exact LeO.none _)
   | (with_reducible refine LeO.ite ?_ ?_)
   | (with_reducible refine LeO.bind ?_ (fun _ => ?_))
   | exact ih0 _ _
   | exact ih1 _ _ _ _ _ _ _
   | exact ih2 _ _ _ _ _ _
   | exact ih3 _ _ _ _ _ _ _
   | exact ih4 _ _ _ _ _ _ _ _
   | exact ih5 _ _ _ _ _ _ _
   | exact ih6 _ _ _ _ _ _ _
   | exact impl_BillOf.mono _ _ _ _ _ _ _
   | exact impl_HeatCost.mono _ _ _ _ _ _
   | exact impl_HeatWithin.mono _ _ _ _ _ _ _
   | exact impl_NextPrice.mono _ _ _ _ _ _
   | exact impl_ReadTariff.mono _ _
   | exact impl_TariffText.mono _ _ _ _ _
   | exact spec_BillOf.mono _ _ _ _ _ _ _
   | exact spec_R8Tariff.mono _ _
   | exact LeO.none _
   | refine LeO.ite ?_ ?_
   | refine LeO.bind ?_ (fun _ => ?_)
  ·intro y0 y1 y2 y3 y4 y5 y6
   unfold laws_FnTariffs.j3
   repeat' first
   | (with_reducible exact ih0 _ _)
   | (with_reducible exact ih1 _ _ _ _ _ _ _)
   | (with_reducible exact ih2 _ _ _ _ _ _)
   | (with_reducible exact ih3 _ _ _ _ _ _ _)
   | (with_reducible exact ih4 _ _ _ _ _ _ _ _)
   | (with_reducible exact ih5 _ _ _ _ _ _ _)
   | (with_reducible exact ih6 _ _ _ _ _ _ _)
   | (with_reducible exact impl_BillOf.mono _ _ _ _ _ _ _)
   | (with_reducible exact impl_HeatCost.mono _ _ _ _ _ _)
   | (with_reducible exact impl_HeatWithin.mono _ _ _ _ _ _ _)
   | (with_reducible exact impl_NextPrice.mono _ _ _ _ _ _)
   | (with_reducible exact impl_ReadTariff.mono _ _)
   | (with_reducible exact impl_TariffText.mono _ _ _ _ _)
   | (with_reducible exact spec_BillOf.mono _ _ _ _ _ _ _)
   | (with_reducible exact spec_R8Tariff.mono _ _)
   | (with_reducible exact LeO.refl _)
   | (with_reducible exact LeO.none _)
   | (with_reducible refine LeO.ite ?_ ?_)
   | (with_reducible refine LeO.bind ?_ (fun _ => ?_))
   | exact ih0 _ _
   | exact ih1 _ _ _ _ _ _ _
   | exact ih2 _ _ _ _ _ _
   | exact ih3 _ _ _ _ _ _ _
   | exact ih4 _ _ _ _ _ _ _ _
   | exact ih5 _ _ _ _ _ _ _
   | exact ih6 _ _ _ _ _ _ _
   | exact impl_BillOf.mono _ _ _ _ _ _ _
   | exact impl_HeatCost.mono _ _ _ _ _ _
   | exact impl_HeatWithin.mono _ _ _ _ _ _ _
   | exact impl_NextPrice.mono _ _ _ _ _ _
   | exact impl_ReadTariff.mono _ _
   | exact impl_TariffText.mono _ _ _ _ _
   | exact spec_BillOf.mono _ _ _ _ _ _ _
   | exact spec_R8Tariff.mono _ _
   | exact LeO.none _
   | refine LeO.ite ?_ ?_
   | refine LeO.bind ?_ (fun _ => ?_)
  ·intro y0 y1 y2 y3 y4 y5 y6 y7
   unfold laws_FnTariffs.j4
   repeat' first
   | (with_reducible exact ih0 _ _)
   | (with_reducible exact ih1 _ _ _ _ _ _ _)
   | (with_reducible exact ih2 _ _ _ _ _ _)
   | (with_reducible exact ih3 _ _ _ _ _ _ _)
   | (with_reducible exact ih4 _ _ _ _ _ _ _ _)
   | (with_reducible exact ih5 _ _ _ _ _ _ _)
   | (with_reducible exact ih6 _ _ _ _ _ _ _)
   | (with_reducible exact impl_BillOf.mono _ _ _ _ _ _ _)
   | (with_reducible exact impl_HeatCost.mono _ _ _ _ _ _)
   | (with_reducible exact impl_HeatWithin.mono _ _ _ _ _ _ _)
   | (with_reducible exact impl_NextPrice.mono _ _ _ _ _ _)
   | (with_reducible exact impl_ReadTariff.mono _ _)
   | (with_reducible exact impl_TariffText.mono _ _ _ _ _)
   | (with_reducible exact spec_BillOf.mono _ _ _ _ _ _ _)
   | (with_reducible exact spec_R8Tariff.mono _ _)
   | (with_reducible exact LeO.refl _)
   | (with_reducible exact LeO.none _)
   | (with_reducible refine LeO.ite ?_ ?_)
   | (with_reducible refine LeO.bind ?_ (fun _ => ?_))
   | exact ih0 _ _
   | exact ih1 _ _ _ _ _ _ _
   | exact ih2 _ _ _ _ _ _
   | exact ih3 _ _ _ _ _ _ _
   | exact ih4 _ _ _ _ _ _ _ _
   | exact ih5 _ _ _ _ _ _ _
   | exact ih6 _ _ _ _ _ _ _
   | exact impl_BillOf.mono _ _ _ _ _ _ _
   | exact impl_HeatCost.mono _ _ _ _ _ _
   | exact impl_HeatWithin.mono _ _ _ _ _ _ _
   | exact impl_NextPrice.mono _ _ _ _ _ _
   | exact impl_ReadTariff.mono _ _
   | exact impl_TariffText.mono _ _ _ _ _
   | exact spec_BillOf.mono _ _ _ _ _ _ _
   | exact spec_R8Tariff.mono _ _
   | exact LeO.none _
   | refine LeO.ite ?_ ?_
   | refine LeO.bind ?_ (fun _ => ?_)
  ·intro y0 y1 y2 y3 y4 y5 y6
   unfold laws_FnTariffs.j5
   repeat' first
   | (with_reducible exact ih0 _ _)
   | (with_reducible exact ih1 _ _ _ _ _ _ _)
   | (with_reducible exact ih2 _ _ _ _ _ _)
   | (with_reducible exact ih3 _ _ _ _ _ _ _)
   | (with_reducible exact ih4 _ _ _ _ _ _ _ _)
   | (with_reducible exact ih5 _ _ _ _ _ _ _)
   | (with_reducible exact ih6 _ _ _ _ _ _ _)
   | (with_reducible exact impl_BillOf.mono _ _ _ _ _ _ _)
   | (with_reducible exact impl_HeatCost.mono _ _ _ _ _ _)
   | (with_reducible exact impl_HeatWithin.mono _ _ _ _ _ _ _)
   | (with_reducible exact impl_NextPrice.mono _ _ _ _ _ _)
   | (with_reducible exact impl_ReadTariff.mono _ _)
   | (with_reducible exact impl_TariffText.mono _ _ _ _ _)
   | (with_reducible exact spec_BillOf.mono _ _ _ _ _ _ _)
   | (with_reducible exact spec_R8Tariff.mono _ _)
   | (with_reducible exact LeO.refl _)
   | (with_reducible exact LeO.none _)
   | (with_reducible refine LeO.ite ?_ ?_)
   | (with_reducible refine LeO.bind ?_ (fun _ => ?_))
   | exact ih0 _ _
   | exact ih1 _ _ _ _ _ _ _
   | exact ih2 _ _ _ _ _ _
   | exact ih3 _ _ _ _ _ _ _
   | exact ih4 _ _ _ _ _ _ _ _
   | exact ih5 _ _ _ _ _ _ _
   | exact ih6 _ _ _ _ _ _ _
   | exact impl_BillOf.mono _ _ _ _ _ _ _
   | exact impl_HeatCost.mono _ _ _ _ _ _
   | exact impl_HeatWithin.mono _ _ _ _ _ _ _
   | exact impl_NextPrice.mono _ _ _ _ _ _
   | exact impl_ReadTariff.mono _ _
   | exact impl_TariffText.mono _ _ _ _ _
   | exact spec_BillOf.mono _ _ _ _ _ _ _
   | exact spec_R8Tariff.mono _ _
   | exact LeO.none _
   | refine LeO.ite ?_ ?_
   | refine LeO.bind ?_ (fun _ => ?_)
  ·intro y0 y1 y2 y3 y4 y5 y6
   unfold laws_FnTariffs.j6
   repeat' first
   | (with_reducible exact ih0 _ _)
   | (with_reducible exact ih1 _ _ _ _ _ _ _)
   | (with_reducible exact ih2 _ _ _ _ _ _)
   | (with_reducible exact ih3 _ _ _ _ _ _ _)
   | (with_reducible exact ih4 _ _ _ _ _ _ _ _)
   | (with_reducible exact ih5 _ _ _ _ _ _ _)
   | (with_reducible exact ih6 _ _ _ _ _ _ _)
   | (with_reducible exact impl_BillOf.mono _ _ _ _ _ _ _)
   | (with_reducible exact impl_HeatCost.mono _ _ _ _ _ _)
   | (with_reducible exact impl_HeatWithin.mono _ _ _ _ _ _ _)
   | (with_reducible exact impl_NextPrice.mono _ _ _ _ _ _)
   | (with_reducible exact impl_ReadTariff.mono _ _)
   | (with_reducible exact impl_TariffText.mono _ _ _ _ _)
   | (with_reducible exact spec_BillOf.mono _ _ _ _ _ _ _)
   | (with_reducible exact spec_R8Tariff.mono _ _)
   | (with_reducible exact LeO.refl _)
   | (with_reducible exact LeO.none _)
   | (with_reducible refine LeO.ite ?_ ?_)
   | (with_reducible refine LeO.bind ?_ (fun _ => ?_))
   | exact ih0 _ _
   | exact ih1 _ _ _ _ _ _ _
   | exact ih2 _ _ _ _ _ _
   | exact ih3 _ _ _ _ _ _ _
   | exact ih4 _ _ _ _ _ _ _ _
   | exact ih5 _ _ _ _ _ _ _
   | exact ih6 _ _ _ _ _ _ _
   | exact impl_BillOf.mono _ _ _ _ _ _ _
   | exact impl_HeatCost.mono _ _ _ _ _ _
   | exact impl_HeatWithin.mono _ _ _ _ _ _ _
   | exact impl_NextPrice.mono _ _ _ _ _ _
   | exact impl_ReadTariff.mono _ _
   | exact impl_TariffText.mono _ _ _ _ _
   | exact spec_BillOf.mono _ _ _ _ _ _ _
   | exact spec_R8Tariff.mono _ _
   | exact LeO.none _
   | refine LeO.ite ?_ ?_
   | refine LeO.bind ?_ (fun _ => ?_)
theorem laws_FnTariffs.mono : ∀ a0 a1 k, LeO (laws_FnTariffs.f k a0 a1) (laws_FnTariffs.f (k + 1) a0 a1) := by
 intro a0 a1 k
 obtain ⟨ih0, ih1, ih2, ih3, ih4, ih5, ih6⟩ := laws_FnTariffs.mono_l k
 unfold laws_FnTariffs.f
 repeat' first
   | (with_reducible exact ih0 _ _)
   | (with_reducible exact ih1 _ _ _ _ _ _ _)
   | (with_reducible exact ih2 _ _ _ _ _ _)
   | (with_reducible exact ih3 _ _ _ _ _ _ _)
   | (with_reducible exact ih4 _ _ _ _ _ _ _ _)
   | (with_reducible exact ih5 _ _ _ _ _ _ _)
   | (with_reducible exact ih6 _ _ _ _ _ _ _)
   | (with_reducible exact impl_BillOf.mono _ _ _ _ _ _ _)
   | (with_reducible exact impl_HeatCost.mono _ _ _ _ _ _)
   | (with_reducible exact impl_HeatWithin.mono _ _ _ _ _ _ _)
   | (with_reducible exact impl_NextPrice.mono _ _ _ _ _ _)
   | (with_reducible exact impl_ReadTariff.mono _ _)
   | (with_reducible exact impl_TariffText.mono _ _ _ _ _)
   | (with_reducible exact spec_BillOf.mono _ _ _ _ _ _ _)
   | (with_reducible exact spec_R8Tariff.mono _ _)
   | (with_reducible exact LeO.refl _)
   | (with_reducible exact LeO.none _)
   | (with_reducible refine LeO.ite ?_ ?_)
   | (with_reducible refine LeO.bind ?_ (fun _ => ?_))
   | exact ih0 _ _
   | exact ih1 _ _ _ _ _ _ _
   | exact ih2 _ _ _ _ _ _
   | exact ih3 _ _ _ _ _ _ _
   | exact ih4 _ _ _ _ _ _ _ _
   | exact ih5 _ _ _ _ _ _ _
   | exact ih6 _ _ _ _ _ _ _
   | exact impl_BillOf.mono _ _ _ _ _ _ _
   | exact impl_HeatCost.mono _ _ _ _ _ _
   | exact impl_HeatWithin.mono _ _ _ _ _ _ _
   | exact impl_NextPrice.mono _ _ _ _ _ _
   | exact impl_ReadTariff.mono _ _
   | exact impl_TariffText.mono _ _ _ _ _
   | exact spec_BillOf.mono _ _ _ _ _ _ _
   | exact spec_R8Tariff.mono _ _
   | exact LeO.none _
   | refine LeO.ite ?_ ?_
   | refine LeO.bind ?_ (fun _ => ?_)
def laws_FnTariffs.T13 : Bool × List (List Nat × List Nat) := (true, [([], []), ([0], [0]), ([1], [1]), ([2], [2]), ([3, 2], [2, 3]), ([2, 4], [2, 4]), ([5, 2], [5]), ([6], [6]), ([7, 6], [6, 7]), ([6, 8], [6, 8]), ([9, 6], [9]), ([10], [10]), ([10], [10]), ([11, 12, 10], [10, 11, 12]), ([10, 13], [10, 13]), ([14, 10], [14]), ([15], [15]), ([15], [15]), ([15], [15]), ([18, 15], [15, 18]), ([17, 19, 15], [15, 17, 19]), ([16, 20, 15], [15, 16, 20]), ([15, 21], [15, 21]), ([22, 15], [22]), ([23], [23]), ([24, 23], [23, 24]), ([23, 25], [23, 25]), ([26, 23], [26]), ([27], [27]), ([28, 27], [27, 28]), ([27, 29], [27, 29]), ([30, 27], [30]), ([31], [31]), ([32, 31], [31, 32]), ([31, 33], [31, 33]), ([34, 31], [34]), ([35], [35]), ([35], [35]), ([36, 37, 35], [35, 36, 37]), ([35], [35]), ([38, 39, 35], [35, 38, 39]), ([35, 40], [35, 40]), ([41, 35], [41]), ([42], [42]), ([43, 42], [42, 43]), ([42, 44], [42, 44]), ([45, 42], [45]), ([46], [46]), ([47, 46, 46], [46, 47]), ([46], [46]), ([49, 48, 46], [46, 49]), ([48, 50, 46], [46, 48, 50]), ([46, 51], [46, 51]), ([52, 50], [52]), ([53], [53]), ([53], [53]), ([55, 53], [53, 55]), ([53], [53]), ([57, 53], [53, 57]), ([53], [53]), ([58, 59, 53], [53, 58, 59]), ([56, 60, 53], [53, 56, 60]), ([53], [53]), ([62, 53, 53], [53, 62]), ([61, 63, 53], [53, 61, 63]), ([54, 64, 53], [53, 54, 64]), ([53, 65], [53, 65])])
def laws_FnTariffs.B13 : List Nat := [0, 1, 3, 7, 15, 31, 63, 127, 255, 511, 1023, 2047, 2047, 8191, 16383, 32767, 65535, 65535, 65535, 327679, 983039, 2097151, 4194303, 8388607, 16777215, 33554431, 67108863, 134217727, 268435455, 536870911, 1073741823, 2147483647, 4294967295, 8589934591, 17179869183, 34359738367, 68719476735, 68719476735, 274877906943, 68719476735, 1099511627775, 2199023255551, 4398046511103, 8796093022207, 17592186044415, 35184372088831, 70368744177663, 140737488355327, 281474976710655, 140737488355327, 1125899906842623, 2251799813685247, 4503599627370495, 9007199254740991, 18014398509481983, 18014398509481983, 54043195528445951, 18014398509481983, 162129586585337855, 18014398509481983, 1026820715040473087, 2287828610704211967, 18014398509481983, 4629700416936869887, 18428729675200069631, 36893488147419103231, 73786976294838206463]
theorem laws_FnTariffs.tab13 : rtab .any (opsOf Tryd.f3 13) = laws_FnTariffs.T13 := by kernel_rfl
theorem laws_FnTariffs.bits13 : waitsOk laws_FnTariffs.T13.2 laws_FnTariffs.B13 = true := by kernel_rfl
theorem laws_FnTariffs.j1_no : ∀ k y0 y1 y3 y4 y5 y6, laws_FnTariffs.j1 k y0 y1 true y3 y4 y5 y6 ≠ some true := by
 intro k
 cases k <;> intros <;> simp [laws_FnTariffs.j1]
theorem laws_FnTariffs.j4_no : ∀ k y0 y1 y2 y4 y5 y6 y7, laws_FnTariffs.j4 k y0 y1 y2 true y4 y5 y6 y7 ≠ some true := by
 intro k
 cases k <;> intros <;> simp [laws_FnTariffs.j4]
set_option maxHeartbeats 8000000 in
set_option maxRecDepth 100000 in
theorem laws_FnTariffs.calls (k : Nat) (A0 : Option Addr) (c0 : Nat) (l0 : List Int) (A1 : Option Addr) (c1 : Nat) (l1 : List Int) (r : Bool) (w : World) (hr0 : Kd.C (Kd.int .u8) w A0 l0.length l0) (hc0 : l0.length ≤ c0) (hr1 : Kd.C (Kd.int .u8) w A1 l1.length l1) (hc1 : l1.length ≤ c1) (h : laws_FnTariffs.f k l0 l1 = some r) (hT_ : Tab_ w) (hr_ : r = true) :
  Calls Tryd.prog 3 #[.slice A0 l0.length c0, .slice A1 l1.length c1] w fun e w' => e = .returned (.bool r) ∧ Below w.heap.size w w' := by
 have hu26 := Tryd.underlying26
 have HR0 := Aside0.mk hr0
 have HC0 := Aside0.mk hc0
 clear hr0 hc0
 have HR1 := Aside0.mk hr1
 have HC1 := Aside0.mk hc1
 clear hr1 hc1
 have HB := Aside0.mk (Below.refl w.heap.size w)
 have H : ((laws_r8Long.f l0 l1).bind fun t339 => (if t339 = true then (some true) else (laws_FnTariffs.j0 k l0 l1))) = some r := h
 clear h
 replace H := Option.bind_eq_some_iff.mp H
 obtain ⟨t339, A30, H⟩ := H
 replace H : (if t339 = true then (some true) else (laws_FnTariffs.j0 k l0 l1)) = some r := H
 have A3 := Aside0.mk A30
 clear A30
 have HC4 := Aside0.mk H
 clear H
 go_enter Tryd.func3, Tryd.ntmps3
 go_upto_if 33 with (first | ((with_reducible refine gate_callee (f := 4) rfl ?_); refine goesL_ (some 33) rfl rfl Tryd.func4 (by kernel_rfl) rfl #[.slice A0 l0.length c0, .slice A1 l1.length c1] rfl (by (try simp only [List.map_toArray, List.map_cons, List.map_nil]); first | done | rfl | (simp only [List.length_drop, List.length_take]; rfl)) ?_; (with_reducible refine (laws_r8Long.calls _ _ l0 _ _ l1 t339 _ ?side1 ?side2 ?side3 ?side4 A3.out).mono ?_); (case side1 => repeat (first | exact HR0.out | (with_reducible refine Kd.C_alloc ?_ _) | (with_reducible refine Kd.C_drewN ?_ _) | (with_reducible refine Kd.C_drew ?_))); (case side2 => exact HC0.out); (case side3 => repeat (first | exact HR1.out | (with_reducible refine Kd.C_alloc ?_ _) | (with_reducible refine Kd.C_drewN ?_ _) | (with_reducible refine Kd.C_drew ?_))); (case side4 => exact HC1.out); rintro e w' ⟨rfl, ⟨nd, rfl⟩⟩; refine ⟨_, rfl, ?_⟩))
 (try simp only [Act.put, List.setIfInBounds_toArray, List.set_cons_zero, List.set_cons_succ])
 go_cut [] (fun wc => ∃ (kq : Nat), Aside0 (laws_FnTariffs.j0 kq l0 l1 = some r) ∧ Aside0 (kq ≤ k) ∧ Aside0 (Below w.heap.size w wc))
 case first =>
  as_aux_lemma =>
   have H := HC4.out
   clear HC4
   by_cases c5 : t339 = true
   ·subst c5
    have H1 : (some true) = some r := by rw [if_pos rfl] at H; exact H
    clear H
    have H := H1
    clear H1
    obtain rfl := Option.some.inj H
    all_goals try exact absurd hr_ Bool.false_ne_true
    all_goals go_wp2
    all_goals go_ret
    all_goals exact ⟨by first | rfl | (rw [Int.tdiv_eq_ediv_of_nonneg (by omega)]; rfl) | (simp [errW_none, errW_some] <;> rfl) | (simp [*, errW_none, errW_some] <;> rfl), by repeat (first | (with_reducible first | exact HB.out | apply below_alloc | apply pw_below_drewN | apply below_drew1) | exact HB.out)⟩
   ·as_aux_lemma =>
     replace c5 := Bool.eq_false_iff.mpr c5
     subst c5
     have H1 : (laws_FnTariffs.j0 k l0 l1) = some r := by rw [if_neg (show ¬ (false = true) by decide)] at H; exact H
     clear H
     have H := H1
     clear H1
     have H' := Aside0.mk H
     clear H
     go_wp2
     go_meet
     case rel => exact ⟨_, H', ⟨by first | omega | exact Nat.le_refl _⟩, ⟨by repeat (first | (with_reducible first | exact HB.out | apply below_alloc | apply pw_below_drewN | apply below_drew1) | exact HB.out)⟩⟩
 case rest =>
  clear HC4
  try clear c1
  try clear p2
  try clear c3
  try clear c4
  try clear c5
  obtain ⟨kq, HA, HJ3, HB⟩ := hcut
  cases kq with
  | zero => exact absurd HA.out (by simp [laws_FnTariffs.j0])
  | succ kj3 =>
   have H := HA.out
   clear HA
   simp only [laws_FnTariffs.j0] at H
   replace H := Option.bind_eq_some_iff.mp H
   obtain ⟨⟨t340, t341, t342, t343⟩, A60, H⟩ := H
   replace H : ((laws_r8Wide.f l1 0 4000).bind fun t347 => ((laws_r8At.f l1 2 60).bind fun t348 => ((impl_BillOf.f kj3 t340 t341 t342 t343 t347 t348).bind fun bt349 => ((impl_BillOf.f kj3 t340 t341 t342 t343 (wrap64 (t347 + 1)) t348).bind fun bt351 => ((impl_BillOf.f kj3 t340 t341 t342 t343 t347 (wrap64 (t348 + 1))).bind fun bt353 => ((impl_HeatCost.f kj3 t340 t341 t342 t343 t347).bind fun bt355 => ((impl_HeatCost.f kj3 t340 t341 t342 t343 (wrap64 (t347 + 1))).bind fun bt357 => ((impl_NextPrice.f kj3 t340 t341 t342 t343 t347).bind fun bt359 => ((impl_TariffText.f kj3 t340 t341 t342 t343).bind fun t361 => ((impl_ReadTariff.f kj3 t361).bind fun bt362 => (if bt349.2 = 0 then (if bt351.2 = 0 then (if bt353.2 = 0 then (if bt351.1 < bt349.1 then (laws_FnTariffs.j1 kj3 l1 t348 true t340 t341 t342 t343) else (if bt353.1 = (wrap64 (bt349.1 + t342)) then (if bt355.2 = 0 then (if bt357.2 = 0 then (if bt359.2 = 0 then (if (wrap64 (bt357.1 - bt355.1)) = bt359.1 then (if bt362.2.2.2.2 = true then ((impl_TariffText.f kj3 bt362.1 bt362.2.1 bt362.2.2.1 bt362.2.2.2.1).bind fun t370 => ((impl_TariffText.f kj3 t340 t341 t342 t343).bind fun t371 => (if t370.toList = t371.toList then ((spec_DivRound.f bt355.1 100).bind fun t372 => (laws_FnTariffs.j1 kj3 l1 t348 (bt349.1 != (wrap64 ((wrap64 (t341 + (wrap64 (t342 * t348)))) + t372))) t340 t341 t342 t343)) else (laws_FnTariffs.j1 kj3 l1 t348 true t340 t341 t342 t343)))) else (laws_FnTariffs.j1 kj3 l1 t348 true t340 t341 t342 t343)) else (laws_FnTariffs.j1 kj3 l1 t348 true t340 t341 t342 t343)) else (laws_FnTariffs.j1 kj3 l1 t348 true t340 t341 t342 t343)) else (laws_FnTariffs.j1 kj3 l1 t348 true t340 t341 t342 t343)) else (laws_FnTariffs.j1 kj3 l1 t348 true t340 t341 t342 t343)) else (laws_FnTariffs.j1 kj3 l1 t348 true t340 t341 t342 t343))) else (laws_FnTariffs.j1 kj3 l1 t348 true t340 t341 t342 t343)) else (laws_FnTariffs.j1 kj3 l1 t348 true t340 t341 t342 t343)) else (laws_FnTariffs.j1 kj3 l1 t348 true t340 t341 t342 t343)))))))))))) = some r := H
   have A6 := Aside0.mk A60
   clear A60
   replace H := Option.bind_eq_some_iff.mp H
   obtain ⟨t347, A70, H⟩ := H
   replace H : ((laws_r8At.f l1 2 60).bind fun t348 => ((impl_BillOf.f kj3 t340 t341 t342 t343 t347 t348).bind fun bt349 => ((impl_BillOf.f kj3 t340 t341 t342 t343 (wrap64 (t347 + 1)) t348).bind fun bt351 => ((impl_BillOf.f kj3 t340 t341 t342 t343 t347 (wrap64 (t348 + 1))).bind fun bt353 => ((impl_HeatCost.f kj3 t340 t341 t342 t343 t347).bind fun bt355 => ((impl_HeatCost.f kj3 t340 t341 t342 t343 (wrap64 (t347 + 1))).bind fun bt357 => ((impl_NextPrice.f kj3 t340 t341 t342 t343 t347).bind fun bt359 => ((impl_TariffText.f kj3 t340 t341 t342 t343).bind fun t361 => ((impl_ReadTariff.f kj3 t361).bind fun bt362 => (if bt349.2 = 0 then (if bt351.2 = 0 then (if bt353.2 = 0 then (if bt351.1 < bt349.1 then (laws_FnTariffs.j1 kj3 l1 t348 true t340 t341 t342 t343) else (if bt353.1 = (wrap64 (bt349.1 + t342)) then (if bt355.2 = 0 then (if bt357.2 = 0 then (if bt359.2 = 0 then (if (wrap64 (bt357.1 - bt355.1)) = bt359.1 then (if bt362.2.2.2.2 = true then ((impl_TariffText.f kj3 bt362.1 bt362.2.1 bt362.2.2.1 bt362.2.2.2.1).bind fun t370 => ((impl_TariffText.f kj3 t340 t341 t342 t343).bind fun t371 => (if t370.toList = t371.toList then ((spec_DivRound.f bt355.1 100).bind fun t372 => (laws_FnTariffs.j1 kj3 l1 t348 (bt349.1 != (wrap64 ((wrap64 (t341 + (wrap64 (t342 * t348)))) + t372))) t340 t341 t342 t343)) else (laws_FnTariffs.j1 kj3 l1 t348 true t340 t341 t342 t343)))) else (laws_FnTariffs.j1 kj3 l1 t348 true t340 t341 t342 t343)) else (laws_FnTariffs.j1 kj3 l1 t348 true t340 t341 t342 t343)) else (laws_FnTariffs.j1 kj3 l1 t348 true t340 t341 t342 t343)) else (laws_FnTariffs.j1 kj3 l1 t348 true t340 t341 t342 t343)) else (laws_FnTariffs.j1 kj3 l1 t348 true t340 t341 t342 t343)) else (laws_FnTariffs.j1 kj3 l1 t348 true t340 t341 t342 t343))) else (laws_FnTariffs.j1 kj3 l1 t348 true t340 t341 t342 t343)) else (laws_FnTariffs.j1 kj3 l1 t348 true t340 t341 t342 t343)) else (laws_FnTariffs.j1 kj3 l1 t348 true t340 t341 t342 t343))))))))))) = some r := H
   have A7 := Aside0.mk A70
   clear A70
   replace H := Option.bind_eq_some_iff.mp H
   obtain ⟨t348, A80, H⟩ := H
   replace H : ((impl_BillOf.f kj3 t340 t341 t342 t343 t347 t348).bind fun bt349 => ((impl_BillOf.f kj3 t340 t341 t342 t343 (wrap64 (t347 + 1)) t348).bind fun bt351 => ((impl_BillOf.f kj3 t340 t341 t342 t343 t347 (wrap64 (t348 + 1))).bind fun bt353 => ((impl_HeatCost.f kj3 t340 t341 t342 t343 t347).bind fun bt355 => ((impl_HeatCost.f kj3 t340 t341 t342 t343 (wrap64 (t347 + 1))).bind fun bt357 => ((impl_NextPrice.f kj3 t340 t341 t342 t343 t347).bind fun bt359 => ((impl_TariffText.f kj3 t340 t341 t342 t343).bind fun t361 => ((impl_ReadTariff.f kj3 t361).bind fun bt362 => (if bt349.2 = 0 then (if bt351.2 = 0 then (if bt353.2 = 0 then (if bt351.1 < bt349.1 then (laws_FnTariffs.j1 kj3 l1 t348 true t340 t341 t342 t343) else (if bt353.1 = (wrap64 (bt349.1 + t342)) then (if bt355.2 = 0 then (if bt357.2 = 0 then (if bt359.2 = 0 then (if (wrap64 (bt357.1 - bt355.1)) = bt359.1 then (if bt362.2.2.2.2 = true then ((impl_TariffText.f kj3 bt362.1 bt362.2.1 bt362.2.2.1 bt362.2.2.2.1).bind fun t370 => ((impl_TariffText.f kj3 t340 t341 t342 t343).bind fun t371 => (if t370.toList = t371.toList then ((spec_DivRound.f bt355.1 100).bind fun t372 => (laws_FnTariffs.j1 kj3 l1 t348 (bt349.1 != (wrap64 ((wrap64 (t341 + (wrap64 (t342 * t348)))) + t372))) t340 t341 t342 t343)) else (laws_FnTariffs.j1 kj3 l1 t348 true t340 t341 t342 t343)))) else (laws_FnTariffs.j1 kj3 l1 t348 true t340 t341 t342 t343)) else (laws_FnTariffs.j1 kj3 l1 t348 true t340 t341 t342 t343)) else (laws_FnTariffs.j1 kj3 l1 t348 true t340 t341 t342 t343)) else (laws_FnTariffs.j1 kj3 l1 t348 true t340 t341 t342 t343)) else (laws_FnTariffs.j1 kj3 l1 t348 true t340 t341 t342 t343)) else (laws_FnTariffs.j1 kj3 l1 t348 true t340 t341 t342 t343))) else (laws_FnTariffs.j1 kj3 l1 t348 true t340 t341 t342 t343)) else (laws_FnTariffs.j1 kj3 l1 t348 true t340 t341 t342 t343)) else (laws_FnTariffs.j1 kj3 l1 t348 true t340 t341 t342 t343)))))))))) = some r := H
   have A8 := Aside0.mk A80
   clear A80
   replace H := Option.bind_eq_some_iff.mp H
   obtain ⟨⟨t349, t350⟩, A90, H⟩ := H
   replace H : ((impl_BillOf.f kj3 t340 t341 t342 t343 (wrap64 (t347 + 1)) t348).bind fun bt351 => ((impl_BillOf.f kj3 t340 t341 t342 t343 t347 (wrap64 (t348 + 1))).bind fun bt353 => ((impl_HeatCost.f kj3 t340 t341 t342 t343 t347).bind fun bt355 => ((impl_HeatCost.f kj3 t340 t341 t342 t343 (wrap64 (t347 + 1))).bind fun bt357 => ((impl_NextPrice.f kj3 t340 t341 t342 t343 t347).bind fun bt359 => ((impl_TariffText.f kj3 t340 t341 t342 t343).bind fun t361 => ((impl_ReadTariff.f kj3 t361).bind fun bt362 => (if t350 = 0 then (if bt351.2 = 0 then (if bt353.2 = 0 then (if bt351.1 < t349 then (laws_FnTariffs.j1 kj3 l1 t348 true t340 t341 t342 t343) else (if bt353.1 = (wrap64 (t349 + t342)) then (if bt355.2 = 0 then (if bt357.2 = 0 then (if bt359.2 = 0 then (if (wrap64 (bt357.1 - bt355.1)) = bt359.1 then (if bt362.2.2.2.2 = true then ((impl_TariffText.f kj3 bt362.1 bt362.2.1 bt362.2.2.1 bt362.2.2.2.1).bind fun t370 => ((impl_TariffText.f kj3 t340 t341 t342 t343).bind fun t371 => (if t370.toList = t371.toList then ((spec_DivRound.f bt355.1 100).bind fun t372 => (laws_FnTariffs.j1 kj3 l1 t348 (t349 != (wrap64 ((wrap64 (t341 + (wrap64 (t342 * t348)))) + t372))) t340 t341 t342 t343)) else (laws_FnTariffs.j1 kj3 l1 t348 true t340 t341 t342 t343)))) else (laws_FnTariffs.j1 kj3 l1 t348 true t340 t341 t342 t343)) else (laws_FnTariffs.j1 kj3 l1 t348 true t340 t341 t342 t343)) else (laws_FnTariffs.j1 kj3 l1 t348 true t340 t341 t342 t343)) else (laws_FnTariffs.j1 kj3 l1 t348 true t340 t341 t342 t343)) else (laws_FnTariffs.j1 kj3 l1 t348 true t340 t341 t342 t343)) else (laws_FnTariffs.j1 kj3 l1 t348 true t340 t341 t342 t343))) else (laws_FnTariffs.j1 kj3 l1 t348 true t340 t341 t342 t343)) else (laws_FnTariffs.j1 kj3 l1 t348 true t340 t341 t342 t343)) else (laws_FnTariffs.j1 kj3 l1 t348 true t340 t341 t342 t343))))))))) = some r := H
   have A9 := Aside0.mk A90
   clear A90
   replace H := Option.bind_eq_some_iff.mp H
   obtain ⟨⟨t351, t352⟩, A100, H⟩ := H
   replace H : ((impl_BillOf.f kj3 t340 t341 t342 t343 t347 (wrap64 (t348 + 1))).bind fun bt353 => ((impl_HeatCost.f kj3 t340 t341 t342 t343 t347).bind fun bt355 => ((impl_HeatCost.f kj3 t340 t341 t342 t343 (wrap64 (t347 + 1))).bind fun bt357 => ((impl_NextPrice.f kj3 t340 t341 t342 t343 t347).bind fun bt359 => ((impl_TariffText.f kj3 t340 t341 t342 t343).bind fun t361 => ((impl_ReadTariff.f kj3 t361).bind fun bt362 => (if t350 = 0 then (if t352 = 0 then (if bt353.2 = 0 then (if t351 < t349 then (laws_FnTariffs.j1 kj3 l1 t348 true t340 t341 t342 t343) else (if bt353.1 = (wrap64 (t349 + t342)) then (if bt355.2 = 0 then (if bt357.2 = 0 then (if bt359.2 = 0 then (if (wrap64 (bt357.1 - bt355.1)) = bt359.1 then (if bt362.2.2.2.2 = true then ((impl_TariffText.f kj3 bt362.1 bt362.2.1 bt362.2.2.1 bt362.2.2.2.1).bind fun t370 => ((impl_TariffText.f kj3 t340 t341 t342 t343).bind fun t371 => (if t370.toList = t371.toList then ((spec_DivRound.f bt355.1 100).bind fun t372 => (laws_FnTariffs.j1 kj3 l1 t348 (t349 != (wrap64 ((wrap64 (t341 + (wrap64 (t342 * t348)))) + t372))) t340 t341 t342 t343)) else (laws_FnTariffs.j1 kj3 l1 t348 true t340 t341 t342 t343)))) else (laws_FnTariffs.j1 kj3 l1 t348 true t340 t341 t342 t343)) else (laws_FnTariffs.j1 kj3 l1 t348 true t340 t341 t342 t343)) else (laws_FnTariffs.j1 kj3 l1 t348 true t340 t341 t342 t343)) else (laws_FnTariffs.j1 kj3 l1 t348 true t340 t341 t342 t343)) else (laws_FnTariffs.j1 kj3 l1 t348 true t340 t341 t342 t343)) else (laws_FnTariffs.j1 kj3 l1 t348 true t340 t341 t342 t343))) else (laws_FnTariffs.j1 kj3 l1 t348 true t340 t341 t342 t343)) else (laws_FnTariffs.j1 kj3 l1 t348 true t340 t341 t342 t343)) else (laws_FnTariffs.j1 kj3 l1 t348 true t340 t341 t342 t343)))))))) = some r := H
   have A10 := Aside0.mk A100
   clear A100
   replace H := Option.bind_eq_some_iff.mp H
   obtain ⟨⟨t353, t354⟩, A110, H⟩ := H
   replace H : ((impl_HeatCost.f kj3 t340 t341 t342 t343 t347).bind fun bt355 => ((impl_HeatCost.f kj3 t340 t341 t342 t343 (wrap64 (t347 + 1))).bind fun bt357 => ((impl_NextPrice.f kj3 t340 t341 t342 t343 t347).bind fun bt359 => ((impl_TariffText.f kj3 t340 t341 t342 t343).bind fun t361 => ((impl_ReadTariff.f kj3 t361).bind fun bt362 => (if t350 = 0 then (if t352 = 0 then (if t354 = 0 then (if t351 < t349 then (laws_FnTariffs.j1 kj3 l1 t348 true t340 t341 t342 t343) else (if t353 = (wrap64 (t349 + t342)) then (if bt355.2 = 0 then (if bt357.2 = 0 then (if bt359.2 = 0 then (if (wrap64 (bt357.1 - bt355.1)) = bt359.1 then (if bt362.2.2.2.2 = true then ((impl_TariffText.f kj3 bt362.1 bt362.2.1 bt362.2.2.1 bt362.2.2.2.1).bind fun t370 => ((impl_TariffText.f kj3 t340 t341 t342 t343).bind fun t371 => (if t370.toList = t371.toList then ((spec_DivRound.f bt355.1 100).bind fun t372 => (laws_FnTariffs.j1 kj3 l1 t348 (t349 != (wrap64 ((wrap64 (t341 + (wrap64 (t342 * t348)))) + t372))) t340 t341 t342 t343)) else (laws_FnTariffs.j1 kj3 l1 t348 true t340 t341 t342 t343)))) else (laws_FnTariffs.j1 kj3 l1 t348 true t340 t341 t342 t343)) else (laws_FnTariffs.j1 kj3 l1 t348 true t340 t341 t342 t343)) else (laws_FnTariffs.j1 kj3 l1 t348 true t340 t341 t342 t343)) else (laws_FnTariffs.j1 kj3 l1 t348 true t340 t341 t342 t343)) else (laws_FnTariffs.j1 kj3 l1 t348 true t340 t341 t342 t343)) else (laws_FnTariffs.j1 kj3 l1 t348 true t340 t341 t342 t343))) else (laws_FnTariffs.j1 kj3 l1 t348 true t340 t341 t342 t343)) else (laws_FnTariffs.j1 kj3 l1 t348 true t340 t341 t342 t343)) else (laws_FnTariffs.j1 kj3 l1 t348 true t340 t341 t342 t343))))))) = some r := H
   have A11 := Aside0.mk A110
   clear A110
   replace H := Option.bind_eq_some_iff.mp H
   obtain ⟨⟨t355, t356⟩, A120, H⟩ := H
   replace H : ((impl_HeatCost.f kj3 t340 t341 t342 t343 (wrap64 (t347 + 1))).bind fun bt357 => ((impl_NextPrice.f kj3 t340 t341 t342 t343 t347).bind fun bt359 => ((impl_TariffText.f kj3 t340 t341 t342 t343).bind fun t361 => ((impl_ReadTariff.f kj3 t361).bind fun bt362 => (if t350 = 0 then (if t352 = 0 then (if t354 = 0 then (if t351 < t349 then (laws_FnTariffs.j1 kj3 l1 t348 true t340 t341 t342 t343) else (if t353 = (wrap64 (t349 + t342)) then (if t356 = 0 then (if bt357.2 = 0 then (if bt359.2 = 0 then (if (wrap64 (bt357.1 - t355)) = bt359.1 then (if bt362.2.2.2.2 = true then ((impl_TariffText.f kj3 bt362.1 bt362.2.1 bt362.2.2.1 bt362.2.2.2.1).bind fun t370 => ((impl_TariffText.f kj3 t340 t341 t342 t343).bind fun t371 => (if t370.toList = t371.toList then ((spec_DivRound.f t355 100).bind fun t372 => (laws_FnTariffs.j1 kj3 l1 t348 (t349 != (wrap64 ((wrap64 (t341 + (wrap64 (t342 * t348)))) + t372))) t340 t341 t342 t343)) else (laws_FnTariffs.j1 kj3 l1 t348 true t340 t341 t342 t343)))) else (laws_FnTariffs.j1 kj3 l1 t348 true t340 t341 t342 t343)) else (laws_FnTariffs.j1 kj3 l1 t348 true t340 t341 t342 t343)) else (laws_FnTariffs.j1 kj3 l1 t348 true t340 t341 t342 t343)) else (laws_FnTariffs.j1 kj3 l1 t348 true t340 t341 t342 t343)) else (laws_FnTariffs.j1 kj3 l1 t348 true t340 t341 t342 t343)) else (laws_FnTariffs.j1 kj3 l1 t348 true t340 t341 t342 t343))) else (laws_FnTariffs.j1 kj3 l1 t348 true t340 t341 t342 t343)) else (laws_FnTariffs.j1 kj3 l1 t348 true t340 t341 t342 t343)) else (laws_FnTariffs.j1 kj3 l1 t348 true t340 t341 t342 t343)))))) = some r := H
   have A12 := Aside0.mk A120
   clear A120
   replace H := Option.bind_eq_some_iff.mp H
   obtain ⟨⟨t357, t358⟩, A130, H⟩ := H
   replace H : ((impl_NextPrice.f kj3 t340 t341 t342 t343 t347).bind fun bt359 => ((impl_TariffText.f kj3 t340 t341 t342 t343).bind fun t361 => ((impl_ReadTariff.f kj3 t361).bind fun bt362 => (if t350 = 0 then (if t352 = 0 then (if t354 = 0 then (if t351 < t349 then (laws_FnTariffs.j1 kj3 l1 t348 true t340 t341 t342 t343) else (if t353 = (wrap64 (t349 + t342)) then (if t356 = 0 then (if t358 = 0 then (if bt359.2 = 0 then (if (wrap64 (t357 - t355)) = bt359.1 then (if bt362.2.2.2.2 = true then ((impl_TariffText.f kj3 bt362.1 bt362.2.1 bt362.2.2.1 bt362.2.2.2.1).bind fun t370 => ((impl_TariffText.f kj3 t340 t341 t342 t343).bind fun t371 => (if t370.toList = t371.toList then ((spec_DivRound.f t355 100).bind fun t372 => (laws_FnTariffs.j1 kj3 l1 t348 (t349 != (wrap64 ((wrap64 (t341 + (wrap64 (t342 * t348)))) + t372))) t340 t341 t342 t343)) else (laws_FnTariffs.j1 kj3 l1 t348 true t340 t341 t342 t343)))) else (laws_FnTariffs.j1 kj3 l1 t348 true t340 t341 t342 t343)) else (laws_FnTariffs.j1 kj3 l1 t348 true t340 t341 t342 t343)) else (laws_FnTariffs.j1 kj3 l1 t348 true t340 t341 t342 t343)) else (laws_FnTariffs.j1 kj3 l1 t348 true t340 t341 t342 t343)) else (laws_FnTariffs.j1 kj3 l1 t348 true t340 t341 t342 t343)) else (laws_FnTariffs.j1 kj3 l1 t348 true t340 t341 t342 t343))) else (laws_FnTariffs.j1 kj3 l1 t348 true t340 t341 t342 t343)) else (laws_FnTariffs.j1 kj3 l1 t348 true t340 t341 t342 t343)) else (laws_FnTariffs.j1 kj3 l1 t348 true t340 t341 t342 t343))))) = some r := H
   have A13 := Aside0.mk A130
   clear A130
   replace H := Option.bind_eq_some_iff.mp H
   obtain ⟨⟨t359, t360⟩, A140, H⟩ := H
   replace H : ((impl_TariffText.f kj3 t340 t341 t342 t343).bind fun t361 => ((impl_ReadTariff.f kj3 t361).bind fun bt362 => (if t350 = 0 then (if t352 = 0 then (if t354 = 0 then (if t351 < t349 then (laws_FnTariffs.j1 kj3 l1 t348 true t340 t341 t342 t343) else (if t353 = (wrap64 (t349 + t342)) then (if t356 = 0 then (if t358 = 0 then (if t360 = 0 then (if (wrap64 (t357 - t355)) = t359 then (if bt362.2.2.2.2 = true then ((impl_TariffText.f kj3 bt362.1 bt362.2.1 bt362.2.2.1 bt362.2.2.2.1).bind fun t370 => ((impl_TariffText.f kj3 t340 t341 t342 t343).bind fun t371 => (if t370.toList = t371.toList then ((spec_DivRound.f t355 100).bind fun t372 => (laws_FnTariffs.j1 kj3 l1 t348 (t349 != (wrap64 ((wrap64 (t341 + (wrap64 (t342 * t348)))) + t372))) t340 t341 t342 t343)) else (laws_FnTariffs.j1 kj3 l1 t348 true t340 t341 t342 t343)))) else (laws_FnTariffs.j1 kj3 l1 t348 true t340 t341 t342 t343)) else (laws_FnTariffs.j1 kj3 l1 t348 true t340 t341 t342 t343)) else (laws_FnTariffs.j1 kj3 l1 t348 true t340 t341 t342 t343)) else (laws_FnTariffs.j1 kj3 l1 t348 true t340 t341 t342 t343)) else (laws_FnTariffs.j1 kj3 l1 t348 true t340 t341 t342 t343)) else (laws_FnTariffs.j1 kj3 l1 t348 true t340 t341 t342 t343))) else (laws_FnTariffs.j1 kj3 l1 t348 true t340 t341 t342 t343)) else (laws_FnTariffs.j1 kj3 l1 t348 true t340 t341 t342 t343)) else (laws_FnTariffs.j1 kj3 l1 t348 true t340 t341 t342 t343)))) = some r := H
   have A14 := Aside0.mk A140
   clear A140
   replace H := Option.bind_eq_some_iff.mp H
   obtain ⟨t361, A150, H⟩ := H
   replace H : ((impl_ReadTariff.f kj3 t361).bind fun bt362 => (if t350 = 0 then (if t352 = 0 then (if t354 = 0 then (if t351 < t349 then (laws_FnTariffs.j1 kj3 l1 t348 true t340 t341 t342 t343) else (if t353 = (wrap64 (t349 + t342)) then (if t356 = 0 then (if t358 = 0 then (if t360 = 0 then (if (wrap64 (t357 - t355)) = t359 then (if bt362.2.2.2.2 = true then ((impl_TariffText.f kj3 bt362.1 bt362.2.1 bt362.2.2.1 bt362.2.2.2.1).bind fun t370 => ((impl_TariffText.f kj3 t340 t341 t342 t343).bind fun t371 => (if t370.toList = t371.toList then ((spec_DivRound.f t355 100).bind fun t372 => (laws_FnTariffs.j1 kj3 l1 t348 (t349 != (wrap64 ((wrap64 (t341 + (wrap64 (t342 * t348)))) + t372))) t340 t341 t342 t343)) else (laws_FnTariffs.j1 kj3 l1 t348 true t340 t341 t342 t343)))) else (laws_FnTariffs.j1 kj3 l1 t348 true t340 t341 t342 t343)) else (laws_FnTariffs.j1 kj3 l1 t348 true t340 t341 t342 t343)) else (laws_FnTariffs.j1 kj3 l1 t348 true t340 t341 t342 t343)) else (laws_FnTariffs.j1 kj3 l1 t348 true t340 t341 t342 t343)) else (laws_FnTariffs.j1 kj3 l1 t348 true t340 t341 t342 t343)) else (laws_FnTariffs.j1 kj3 l1 t348 true t340 t341 t342 t343))) else (laws_FnTariffs.j1 kj3 l1 t348 true t340 t341 t342 t343)) else (laws_FnTariffs.j1 kj3 l1 t348 true t340 t341 t342 t343)) else (laws_FnTariffs.j1 kj3 l1 t348 true t340 t341 t342 t343))) = some r := H
   have A15 := Aside0.mk A150
   clear A150
   replace H := Option.bind_eq_some_iff.mp H
   obtain ⟨⟨t362, t363, t364, t365, t368⟩, A160, H⟩ := H
   replace H : (if t350 = 0 then (if t352 = 0 then (if t354 = 0 then (if t351 < t349 then (laws_FnTariffs.j1 kj3 l1 t348 true t340 t341 t342 t343) else (if t353 = (wrap64 (t349 + t342)) then (if t356 = 0 then (if t358 = 0 then (if t360 = 0 then (if (wrap64 (t357 - t355)) = t359 then (if t368 = true then ((impl_TariffText.f kj3 t362 t363 t364 t365).bind fun t370 => ((impl_TariffText.f kj3 t340 t341 t342 t343).bind fun t371 => (if t370.toList = t371.toList then ((spec_DivRound.f t355 100).bind fun t372 => (laws_FnTariffs.j1 kj3 l1 t348 (t349 != (wrap64 ((wrap64 (t341 + (wrap64 (t342 * t348)))) + t372))) t340 t341 t342 t343)) else (laws_FnTariffs.j1 kj3 l1 t348 true t340 t341 t342 t343)))) else (laws_FnTariffs.j1 kj3 l1 t348 true t340 t341 t342 t343)) else (laws_FnTariffs.j1 kj3 l1 t348 true t340 t341 t342 t343)) else (laws_FnTariffs.j1 kj3 l1 t348 true t340 t341 t342 t343)) else (laws_FnTariffs.j1 kj3 l1 t348 true t340 t341 t342 t343)) else (laws_FnTariffs.j1 kj3 l1 t348 true t340 t341 t342 t343)) else (laws_FnTariffs.j1 kj3 l1 t348 true t340 t341 t342 t343))) else (laws_FnTariffs.j1 kj3 l1 t348 true t340 t341 t342 t343)) else (laws_FnTariffs.j1 kj3 l1 t348 true t340 t341 t342 t343)) else (laws_FnTariffs.j1 kj3 l1 t348 true t340 t341 t342 t343)) = some r := H
   have A16 := Aside0.mk A160
   clear A160
   have HC17 := Aside0.mk H
   clear H
   go_upto_region 13 with (first | ((with_reducible refine gate_callee (f := 5) rfl ?_); refine goesL_ (some 35) rfl rfl Tryd.func5 (by kernel_rfl) rfl #[.slice A0 l0.length c0] rfl (by (try simp only [List.map_toArray, List.map_cons, List.map_nil]); first | done | rfl | (simp only [List.length_drop, List.length_take]; rfl)) ?_; (with_reducible refine (spec_R8Tariff.calls kj3 _ _ l0 t340 t341 t342 t343 _ ?side1 ?side2 A6.out).mono ?_); (case side1 => repeat (first | exact (Kd.C_below HR0.out HB.out) | (with_reducible refine Kd.C_alloc ?_ _) | (with_reducible refine Kd.C_drewN ?_ _) | (with_reducible refine Kd.C_drew ?_))); (case side2 => exact HC0.out); rintro e w18 ⟨v344, rfl, ho0, hb⟩; refine ⟨_, rfl, ?_⟩; have n0_ := Aside0.mk (Kd.S_lower ho0 (below_size (by repeat (first | (with_reducible first | exact HB.out | apply below_alloc | apply pw_below_drewN | apply below_drew1) | exact HB.out)))); have n1_ := Aside0.mk (below_step (by repeat (first | (with_reducible first | exact HB.out | apply below_alloc | apply pw_below_drewN | apply below_drew1) | exact HB.out)) hb); clear HB; have HO345 := n0_; have HB := n1_; clear n0_ n1_; (try clear hb); (try clear hb2); (try clear hk); (try clear hi); (try clear ho0)) | ((with_reducible refine gate_dst (N := 5) rfl ?_); refine box_event ?hg (N := 5) ?hd (cs := #[.string (⟨#[]⟩ : ByteArray), .int .i64 0, .int .i64 0, .slice none 0 0]) (t := 26) ?hr ?_; (case hd => rfl); (case hg => rfl); (case hr => first | (go_simp; done) | (go_simp; rfl)); intro gb346 hg w19 hbox hb; have n0_ := Aside0.mk (Kd.S_below (by (with_reducible repeat (first | apply Kd.S_alloc | apply Kd.S_drewN | apply Kd.S_drew)); exact HO345.out) hb); have n1_ := Aside0.mk (below_step (by repeat (first | (with_reducible first | exact HB.out | apply below_alloc | apply pw_below_drewN | apply below_drew1) | exact HB.out)) hb); have n2_ := Aside0.mk (hbox); have n3_ := Aside0.mk ((by rw [hg]; exact (below_size (by repeat (first | (with_reducible first | exact HB.out | apply below_alloc | apply pw_below_drewN | apply below_drew1) | exact HB.out))) : w.heap.size ≤ gb346)); have n4_ := Aside0.mk ((by rw [hg]; exact (below_size (by repeat (first | (with_reducible first | exact HB.out | apply below_alloc | apply pw_below_drewN | apply below_drew1) | exact HB.out))) : w.heap.size ≤ gb346)); clear HO345; clear HB; have HO345 := n0_; have HB := n1_; have BK346 := n2_; have GW346 := n3_; have GE346 := n4_; clear n0_ n1_ n2_ n3_ n4_; clear hb hbox hg; have hcz20_0 : w19.cell? ⟨gb346, 0, none⟩ = some (.string (⟨#[]⟩ : ByteArray)) := (blk_cell BK346.out 0).trans rfl; have hcz20_1 : w19.cell? ⟨gb346, 1, none⟩ = some (.int .i64 0) := (blk_cell BK346.out 1).trans rfl; have hcz20_2 : w19.cell? ⟨gb346, 2, none⟩ = some (.int .i64 0) := (blk_cell BK346.out 2).trans rfl; have hcz20_3 : w19.cell? ⟨gb346, 3, none⟩ = some (.slice none 0 0) := (blk_cell BK346.out 3).trans rfl; have hfz20_0 := blk_frozen BK346.out 0; have hfz20_1 := blk_frozen BK346.out 1; have hfz20_2 := blk_frozen BK346.out 2; have hfz20_3 := blk_frozen BK346.out 3; obtain ⟨Ao21, co21, eo21⟩ := Kd.S_slice HO345.out; subst eo21) | ((with_reducible refine gate_callee (f := 6) rfl ?_); refine goesL_ (some 37) rfl rfl Tryd.func6 (by kernel_rfl) rfl #[.slice A1 l1.length c1, .int .i64 0, .int .i64 4000] rfl (by (try simp only [List.map_toArray, List.map_cons, List.map_nil]); first | done | rfl | (simp only [List.length_drop, List.length_take]; rfl)) ?_; (with_reducible refine (laws_r8Wide.calls _ _ l1 0 4000 t347 _ ?side1 ?side2 A7.out).mono ?_); (case side1 => exact Kd.C_below HR1.out (by repeat (first | (with_reducible first | exact HB.out | apply below_alloc | apply pw_below_drewN | apply below_drew1 | refine below_set ?_ GE346.out) | exact HB.out))); (case side2 => exact HC1.out); rintro e w' ⟨rfl, ⟨nd, rfl⟩⟩; refine ⟨_, rfl, ?_⟩) | ((with_reducible refine gate_callee (f := 7) rfl ?_); refine goesL_ (some 39) rfl rfl Tryd.func7 (by kernel_rfl) rfl #[.slice A1 l1.length c1, .int .i64 2, .int .i64 60] rfl (by (try simp only [List.map_toArray, List.map_cons, List.map_nil]); first | done | rfl | (simp only [List.length_drop, List.length_take]; rfl)) ?_; (with_reducible refine (laws_r8At.calls _ _ l1 2 60 t348 _ ?side1 ?side2 A8.out).mono ?_); (case side1 => exact Kd.C_below HR1.out (by repeat (first | (with_reducible first | exact HB.out | apply below_alloc | apply pw_below_drewN | apply below_drew1 | refine below_set ?_ GE346.out) | exact HB.out))); (case side2 => exact HC1.out); rintro e w' ⟨rfl, ⟨nd, rfl⟩⟩; refine ⟨_, rfl, ?_⟩) | ((with_reducible refine gate_callee (f := 8) rfl ?_); refine goesL_ (some 44) rfl rfl Tryd.func8 (by kernel_rfl) rfl #[.agg #[.string t340, .int .i64 t341, .int .i64 t342, .slice Ao21 t343.length co21], .int .i64 t347, .int .i64 t348] rfl (by (try simp only [List.map_toArray, List.map_cons, List.map_nil]); first | done | rfl | (simp only [List.length_drop, List.length_take]; rfl)) ?_; (with_reducible refine (impl_BillOf.calls kj3 t340 t341 t342 _ _ t343 t347 t348 t349 t350 _ ?side1 ?side2 A9.out).mono ?_); (case side1 => refine (Kd.S_reads' (e := 40) (base := w.heap.size) (ok := fun k_ => True) (n := t343.length) (c := co21) ?_).2.2; exact (by (with_reducible repeat (first | apply Kd.S_alloc | apply Kd.S_drewN | apply Kd.S_drew)); exact (Kd.S_mono (Kd.S_far (p := ⟨gb346, 3, none⟩) (Kd.S_far (p := ⟨gb346, 2, none⟩) (Kd.S_far (p := ⟨gb346, 1, none⟩) (Kd.S_far (p := ⟨gb346, 0, none⟩) (Kd.S_types HO345.out BK346.out (by decide)) (fun _ hk => hk.2) (.string t340)) (fun _ hk => hk.2) (.int .i64 t341)) (fun _ hk => hk.2) (.int .i64 t342)) (fun _ hk => hk.2) (.slice Ao21 t343.length co21)) (fun _ h_ => h_.1)))); (case side2 => exact (Kd.S_reads' HO345.out).2.1); rintro e w22 ⟨rfl, hb⟩; refine ⟨_, rfl, ?_⟩; have n0_ := Aside0.mk (Kd.S_below (by (with_reducible repeat (first | apply Kd.S_alloc | apply Kd.S_drewN | apply Kd.S_drew)); exact (Kd.S_mono (Kd.S_far (p := ⟨gb346, 3, none⟩) (Kd.S_far (p := ⟨gb346, 2, none⟩) (Kd.S_far (p := ⟨gb346, 1, none⟩) (Kd.S_far (p := ⟨gb346, 0, none⟩) (Kd.S_types HO345.out BK346.out (by decide)) (fun _ hk => hk.2) (.string t340)) (fun _ hk => hk.2) (.int .i64 t341)) (fun _ hk => hk.2) (.int .i64 t342)) (fun _ hk => hk.2) (.slice Ao21 t343.length co21)) (fun _ h_ => h_.1))) hb); have n1_ := Aside0.mk (blk_below (g := gb346) (o := .cells #[.string t340, .int .i64 t341, .int .i64 t342, .slice Ao21 t343.length co21] 26 (0, 0)) (by (with_reducible repeat (first | refine blk_drewN ?_ _ | refine blk_drew ?_ | refine blk_alloc ?_ _)); refine blk_put (cs := #[.string t340, .int .i64 t341, .int .i64 t342, .slice none 0 0]) ?_ 3 _ rfl; (with_reducible repeat (first | refine blk_drewN ?_ _ | refine blk_drew ?_ | refine blk_alloc ?_ _)); refine blk_put (cs := #[.string t340, .int .i64 t341, .int .i64 0, .slice none 0 0]) ?_ 2 _ rfl; (with_reducible repeat (first | refine blk_drewN ?_ _ | refine blk_drew ?_ | refine blk_alloc ?_ _)); refine blk_put (cs := #[.string t340, .int .i64 0, .int .i64 0, .slice none 0 0]) ?_ 1 _ rfl; (with_reducible repeat (first | refine blk_drewN ?_ _ | refine blk_drew ?_ | refine blk_alloc ?_ _)); refine blk_put (cs := #[.string (⟨#[]⟩ : ByteArray), .int .i64 0, .int .i64 0, .slice none 0 0]) ?_ 0 _ rfl; (with_reducible repeat (first | refine blk_drewN ?_ _ | refine blk_drew ?_ | refine blk_alloc ?_ _)); exact BK346.out) hb); have n2_ := Aside0.mk (below_step (by repeat (first | (with_reducible first | exact HB.out | apply below_alloc | apply pw_below_drewN | apply below_drew1 | refine below_set ?_ GE346.out) | exact HB.out)) hb); clear HO345; clear BK346; clear HB; have HO345 := n0_; have BK346 := n1_; have HB := n2_; clear n0_ n1_ n2_; (try clear hb); (try clear hb2); (try clear hk); (try clear hi); have hcz23_0 : w22.cell? ⟨gb346, 0, none⟩ = some (.string t340) := (blk_cell BK346.out 0).trans rfl; have hcz23_1 : w22.cell? ⟨gb346, 1, none⟩ = some (.int .i64 t341) := (blk_cell BK346.out 1).trans rfl; have hcz23_2 : w22.cell? ⟨gb346, 2, none⟩ = some (.int .i64 t342) := (blk_cell BK346.out 2).trans rfl; have hcz23_3 : w22.cell? ⟨gb346, 3, none⟩ = some (.slice Ao21 t343.length co21) := (blk_cell BK346.out 3).trans rfl; have hfz23_0 := blk_frozen BK346.out 0; have hfz23_1 := blk_frozen BK346.out 1; have hfz23_2 := blk_frozen BK346.out 2; have hfz23_3 := blk_frozen BK346.out 3) | ((with_reducible refine gate_callee (f := 8) rfl ?_); refine goesL_ (some 52) rfl rfl Tryd.func8 (by kernel_rfl) rfl #[.agg #[.string t340, .int .i64 t341, .int .i64 t342, .slice Ao21 t343.length co21], .int .i64 (wrap64 (t347 + 1)), .int .i64 t348] rfl (by (try simp only [List.map_toArray, List.map_cons, List.map_nil]); first | done | rfl | (simp only [List.length_drop, List.length_take]; rfl)) ?_; (with_reducible refine (impl_BillOf.calls kj3 t340 t341 t342 _ _ t343 (wrap64 (t347 + 1)) t348 t351 t352 _ ?side1 ?side2 A10.out).mono ?_); (case side1 => repeat (first | exact (Kd.S_reads' HO345.out).2.2 | (with_reducible refine Kd.C_alloc ?_ _) | (with_reducible refine Kd.C_drewN ?_ _) | (with_reducible refine Kd.C_drew ?_))); (case side2 => exact (Kd.S_reads' HO345.out).2.1); rintro e w24 ⟨rfl, hb⟩; refine ⟨_, rfl, ?_⟩; have n0_ := Aside0.mk (Kd.S_below (by (with_reducible repeat (first | apply Kd.S_alloc | apply Kd.S_drewN | apply Kd.S_drew)); exact HO345.out) hb); have n1_ := Aside0.mk (blk_below (g := gb346) (o := .cells #[.string t340, .int .i64 t341, .int .i64 t342, .slice Ao21 t343.length co21] 26 (0, 0)) (by (with_reducible repeat (first | refine blk_drewN ?_ _ | refine blk_drew ?_ | refine blk_alloc ?_ _)); exact BK346.out) hb); have n2_ := Aside0.mk (below_step (by repeat (first | (with_reducible first | exact HB.out | apply below_alloc | apply pw_below_drewN | apply below_drew1 | refine below_set ?_ GE346.out) | exact HB.out)) hb); clear HO345; clear BK346; clear HB; have HO345 := n0_; have BK346 := n1_; have HB := n2_; clear n0_ n1_ n2_; (try clear hb); (try clear hb2); (try clear hk); (try clear hi); have hcz25_0 : w24.cell? ⟨gb346, 0, none⟩ = some (.string t340) := (blk_cell BK346.out 0).trans rfl; have hcz25_1 : w24.cell? ⟨gb346, 1, none⟩ = some (.int .i64 t341) := (blk_cell BK346.out 1).trans rfl; have hcz25_2 : w24.cell? ⟨gb346, 2, none⟩ = some (.int .i64 t342) := (blk_cell BK346.out 2).trans rfl; have hcz25_3 : w24.cell? ⟨gb346, 3, none⟩ = some (.slice Ao21 t343.length co21) := (blk_cell BK346.out 3).trans rfl; have hfz25_0 := blk_frozen BK346.out 0; have hfz25_1 := blk_frozen BK346.out 1; have hfz25_2 := blk_frozen BK346.out 2; have hfz25_3 := blk_frozen BK346.out 3) | ((with_reducible refine gate_callee (f := 8) rfl ?_); refine goesL_ (some 60) rfl rfl Tryd.func8 (by kernel_rfl) rfl #[.agg #[.string t340, .int .i64 t341, .int .i64 t342, .slice Ao21 t343.length co21], .int .i64 t347, .int .i64 (wrap64 (t348 + 1))] rfl (by (try simp only [List.map_toArray, List.map_cons, List.map_nil]); first | done | rfl | (simp only [List.length_drop, List.length_take]; rfl)) ?_; (with_reducible refine (impl_BillOf.calls kj3 t340 t341 t342 _ _ t343 t347 (wrap64 (t348 + 1)) t353 t354 _ ?side1 ?side2 A11.out).mono ?_); (case side1 => repeat (first | exact (Kd.S_reads' HO345.out).2.2 | (with_reducible refine Kd.C_alloc ?_ _) | (with_reducible refine Kd.C_drewN ?_ _) | (with_reducible refine Kd.C_drew ?_))); (case side2 => exact (Kd.S_reads' HO345.out).2.1); rintro e w26 ⟨rfl, hb⟩; refine ⟨_, rfl, ?_⟩; have n0_ := Aside0.mk (Kd.S_below (by (with_reducible repeat (first | apply Kd.S_alloc | apply Kd.S_drewN | apply Kd.S_drew)); exact HO345.out) hb); have n1_ := Aside0.mk (blk_below (g := gb346) (o := .cells #[.string t340, .int .i64 t341, .int .i64 t342, .slice Ao21 t343.length co21] 26 (0, 0)) (by (with_reducible repeat (first | refine blk_drewN ?_ _ | refine blk_drew ?_ | refine blk_alloc ?_ _)); exact BK346.out) hb); have n2_ := Aside0.mk (below_step (by repeat (first | (with_reducible first | exact HB.out | apply below_alloc | apply pw_below_drewN | apply below_drew1 | refine below_set ?_ GE346.out) | exact HB.out)) hb); clear HO345; clear BK346; clear HB; have HO345 := n0_; have BK346 := n1_; have HB := n2_; clear n0_ n1_ n2_; (try clear hb); (try clear hb2); (try clear hk); (try clear hi); have hcz27_0 : w26.cell? ⟨gb346, 0, none⟩ = some (.string t340) := (blk_cell BK346.out 0).trans rfl; have hcz27_1 : w26.cell? ⟨gb346, 1, none⟩ = some (.int .i64 t341) := (blk_cell BK346.out 1).trans rfl; have hcz27_2 : w26.cell? ⟨gb346, 2, none⟩ = some (.int .i64 t342) := (blk_cell BK346.out 2).trans rfl; have hcz27_3 : w26.cell? ⟨gb346, 3, none⟩ = some (.slice Ao21 t343.length co21) := (blk_cell BK346.out 3).trans rfl; have hfz27_0 := blk_frozen BK346.out 0; have hfz27_1 := blk_frozen BK346.out 1; have hfz27_2 := blk_frozen BK346.out 2; have hfz27_3 := blk_frozen BK346.out 3) | ((with_reducible refine gate_callee (f := 9) rfl ?_); refine goesL_ (some 66) rfl rfl Tryd.func9 (by kernel_rfl) rfl #[.agg #[.string t340, .int .i64 t341, .int .i64 t342, .slice Ao21 t343.length co21], .int .i64 t347] rfl (by (try simp only [List.map_toArray, List.map_cons, List.map_nil]); first | done | rfl | (simp only [List.length_drop, List.length_take]; rfl)) ?_; (with_reducible refine (impl_HeatCost.calls kj3 t340 t341 t342 _ _ t343 t347 t355 t356 _ ?side1 ?side2 A12.out).mono ?_); (case side1 => repeat (first | exact (Kd.S_reads' HO345.out).2.2 | (with_reducible refine Kd.C_alloc ?_ _) | (with_reducible refine Kd.C_drewN ?_ _) | (with_reducible refine Kd.C_drew ?_))); (case side2 => exact (Kd.S_reads' HO345.out).2.1); rintro e w28 ⟨rfl, hb⟩; refine ⟨_, rfl, ?_⟩; have n0_ := Aside0.mk (Kd.S_below (by (with_reducible repeat (first | apply Kd.S_alloc | apply Kd.S_drewN | apply Kd.S_drew)); exact HO345.out) hb); have n1_ := Aside0.mk (blk_below (g := gb346) (o := .cells #[.string t340, .int .i64 t341, .int .i64 t342, .slice Ao21 t343.length co21] 26 (0, 0)) (by (with_reducible repeat (first | refine blk_drewN ?_ _ | refine blk_drew ?_ | refine blk_alloc ?_ _)); exact BK346.out) hb); have n2_ := Aside0.mk (below_step (by repeat (first | (with_reducible first | exact HB.out | apply below_alloc | apply pw_below_drewN | apply below_drew1 | refine below_set ?_ GE346.out) | exact HB.out)) hb); clear HO345; clear BK346; clear HB; have HO345 := n0_; have BK346 := n1_; have HB := n2_; clear n0_ n1_ n2_; (try clear hb); (try clear hb2); (try clear hk); (try clear hi); have hcz29_0 : w28.cell? ⟨gb346, 0, none⟩ = some (.string t340) := (blk_cell BK346.out 0).trans rfl; have hcz29_1 : w28.cell? ⟨gb346, 1, none⟩ = some (.int .i64 t341) := (blk_cell BK346.out 1).trans rfl; have hcz29_2 : w28.cell? ⟨gb346, 2, none⟩ = some (.int .i64 t342) := (blk_cell BK346.out 2).trans rfl; have hcz29_3 : w28.cell? ⟨gb346, 3, none⟩ = some (.slice Ao21 t343.length co21) := (blk_cell BK346.out 3).trans rfl; have hfz29_0 := blk_frozen BK346.out 0; have hfz29_1 := blk_frozen BK346.out 1; have hfz29_2 := blk_frozen BK346.out 2; have hfz29_3 := blk_frozen BK346.out 3) | ((with_reducible refine gate_callee (f := 9) rfl ?_); refine goesL_ (some 73) rfl rfl Tryd.func9 (by kernel_rfl) rfl #[.agg #[.string t340, .int .i64 t341, .int .i64 t342, .slice Ao21 t343.length co21], .int .i64 (wrap64 (t347 + 1))] rfl (by (try simp only [List.map_toArray, List.map_cons, List.map_nil]); first | done | rfl | (simp only [List.length_drop, List.length_take]; rfl)) ?_; (with_reducible refine (impl_HeatCost.calls kj3 t340 t341 t342 _ _ t343 (wrap64 (t347 + 1)) t357 t358 _ ?side1 ?side2 A13.out).mono ?_); (case side1 => repeat (first | exact (Kd.S_reads' HO345.out).2.2 | (with_reducible refine Kd.C_alloc ?_ _) | (with_reducible refine Kd.C_drewN ?_ _) | (with_reducible refine Kd.C_drew ?_))); (case side2 => exact (Kd.S_reads' HO345.out).2.1); rintro e w30 ⟨rfl, hb⟩; refine ⟨_, rfl, ?_⟩; have n0_ := Aside0.mk (Kd.S_below (by (with_reducible repeat (first | apply Kd.S_alloc | apply Kd.S_drewN | apply Kd.S_drew)); exact HO345.out) hb); have n1_ := Aside0.mk (blk_below (g := gb346) (o := .cells #[.string t340, .int .i64 t341, .int .i64 t342, .slice Ao21 t343.length co21] 26 (0, 0)) (by (with_reducible repeat (first | refine blk_drewN ?_ _ | refine blk_drew ?_ | refine blk_alloc ?_ _)); exact BK346.out) hb); have n2_ := Aside0.mk (below_step (by repeat (first | (with_reducible first | exact HB.out | apply below_alloc | apply pw_below_drewN | apply below_drew1 | refine below_set ?_ GE346.out) | exact HB.out)) hb); clear HO345; clear BK346; clear HB; have HO345 := n0_; have BK346 := n1_; have HB := n2_; clear n0_ n1_ n2_; (try clear hb); (try clear hb2); (try clear hk); (try clear hi); have hcz31_0 : w30.cell? ⟨gb346, 0, none⟩ = some (.string t340) := (blk_cell BK346.out 0).trans rfl; have hcz31_1 : w30.cell? ⟨gb346, 1, none⟩ = some (.int .i64 t341) := (blk_cell BK346.out 1).trans rfl; have hcz31_2 : w30.cell? ⟨gb346, 2, none⟩ = some (.int .i64 t342) := (blk_cell BK346.out 2).trans rfl; have hcz31_3 : w30.cell? ⟨gb346, 3, none⟩ = some (.slice Ao21 t343.length co21) := (blk_cell BK346.out 3).trans rfl; have hfz31_0 := blk_frozen BK346.out 0; have hfz31_1 := blk_frozen BK346.out 1; have hfz31_2 := blk_frozen BK346.out 2; have hfz31_3 := blk_frozen BK346.out 3) | ((with_reducible refine gate_callee (f := 10) rfl ?_); refine goesL_ (some 79) rfl rfl Tryd.func10 (by kernel_rfl) rfl #[.agg #[.string t340, .int .i64 t341, .int .i64 t342, .slice Ao21 t343.length co21], .int .i64 t347] rfl (by (try simp only [List.map_toArray, List.map_cons, List.map_nil]); first | done | rfl | (simp only [List.length_drop, List.length_take]; rfl)) ?_; (with_reducible refine (impl_NextPrice.calls kj3 t340 t341 t342 _ _ t343 t347 t359 t360 _ ?side1 ?side2 A14.out).mono ?_); (case side1 => repeat (first | exact (Kd.S_reads' HO345.out).2.2 | (with_reducible refine Kd.C_alloc ?_ _) | (with_reducible refine Kd.C_drewN ?_ _) | (with_reducible refine Kd.C_drew ?_))); (case side2 => exact (Kd.S_reads' HO345.out).2.1); rintro e w32 ⟨rfl, hb⟩; refine ⟨_, rfl, ?_⟩; have n0_ := Aside0.mk (Kd.S_below (by (with_reducible repeat (first | apply Kd.S_alloc | apply Kd.S_drewN | apply Kd.S_drew)); exact HO345.out) hb); have n1_ := Aside0.mk (blk_below (g := gb346) (o := .cells #[.string t340, .int .i64 t341, .int .i64 t342, .slice Ao21 t343.length co21] 26 (0, 0)) (by (with_reducible repeat (first | refine blk_drewN ?_ _ | refine blk_drew ?_ | refine blk_alloc ?_ _)); exact BK346.out) hb); have n2_ := Aside0.mk (below_step (by repeat (first | (with_reducible first | exact HB.out | apply below_alloc | apply pw_below_drewN | apply below_drew1 | refine below_set ?_ GE346.out) | exact HB.out)) hb); clear HO345; clear BK346; clear HB; have HO345 := n0_; have BK346 := n1_; have HB := n2_; clear n0_ n1_ n2_; (try clear hb); (try clear hb2); (try clear hk); (try clear hi); have hcz33_0 : w32.cell? ⟨gb346, 0, none⟩ = some (.string t340) := (blk_cell BK346.out 0).trans rfl; have hcz33_1 : w32.cell? ⟨gb346, 1, none⟩ = some (.int .i64 t341) := (blk_cell BK346.out 1).trans rfl; have hcz33_2 : w32.cell? ⟨gb346, 2, none⟩ = some (.int .i64 t342) := (blk_cell BK346.out 2).trans rfl; have hcz33_3 : w32.cell? ⟨gb346, 3, none⟩ = some (.slice Ao21 t343.length co21) := (blk_cell BK346.out 3).trans rfl; have hfz33_0 := blk_frozen BK346.out 0; have hfz33_1 := blk_frozen BK346.out 1; have hfz33_2 := blk_frozen BK346.out 2; have hfz33_3 := blk_frozen BK346.out 3) | ((with_reducible refine gate_callee (f := 12) rfl ?_); refine goesL_ (some 84) rfl rfl Tryd.func12 (by kernel_rfl) rfl #[.agg #[.string t340, .int .i64 t341, .int .i64 t342, .slice Ao21 t343.length co21]] rfl (by (try simp only [List.map_toArray, List.map_cons, List.map_nil]); first | done | rfl | (simp only [List.length_drop, List.length_take]; rfl)) ?_; (with_reducible refine (impl_TariffText.calls kj3 t340 t341 t342 _ _ t343 t361 _ ?side1 ?side2 A15.out ?T_).mono ?_); (case T_ => exact tab_ hT_ (by repeat (first | (with_reducible first | exact HB.out | apply below_alloc | apply pw_below_drewN | apply below_drew1 | refine below_set ?_ GE346.out) | exact HB.out))); (case side1 => repeat (first | exact (Kd.S_reads' HO345.out).2.2 | (with_reducible refine Kd.C_alloc ?_ _) | (with_reducible refine Kd.C_drewN ?_ _) | (with_reducible refine Kd.C_drew ?_))); (case side2 => exact (Kd.S_reads' HO345.out).2.1); rintro e w34 ⟨rfl, hb⟩; refine ⟨_, rfl, ?_⟩; have n0_ := Aside0.mk (Kd.S_below (by (with_reducible repeat (first | apply Kd.S_alloc | apply Kd.S_drewN | apply Kd.S_drew)); exact HO345.out) hb); have n1_ := Aside0.mk (blk_below (g := gb346) (o := .cells #[.string t340, .int .i64 t341, .int .i64 t342, .slice Ao21 t343.length co21] 26 (0, 0)) (by (with_reducible repeat (first | refine blk_drewN ?_ _ | refine blk_drew ?_ | refine blk_alloc ?_ _)); exact BK346.out) hb); have n2_ := Aside0.mk (below_step (by repeat (first | (with_reducible first | exact HB.out | apply below_alloc | apply pw_below_drewN | apply below_drew1 | refine below_set ?_ GE346.out) | exact HB.out)) hb); clear HO345; clear BK346; clear HB; have HO345 := n0_; have BK346 := n1_; have HB := n2_; clear n0_ n1_ n2_; (try clear hb); (try clear hb2); (try clear hk); (try clear hi)) | ((with_reducible refine gate_callee (f := 11) rfl ?_); refine goesL_ (some 85) rfl rfl Tryd.func11 (by kernel_rfl) rfl #[.string t361] rfl (by (try simp only [List.map_toArray, List.map_cons, List.map_nil]); first | done | rfl | (simp only [List.length_drop, List.length_take]; rfl)) ?_; (with_reducible refine (impl_ReadTariff.calls kj3 t361 t362 t363 t364 t365 t368 _ A16.out ?T_).mono ?_); (case T_ => exact tab_ hT_ (by repeat (first | (with_reducible first | exact HB.out | apply below_alloc | apply pw_below_drewN | apply below_drew1 | refine below_set ?_ GE346.out) | exact HB.out))); rintro e w35 ⟨v366, rfl, ho0, hb⟩; refine ⟨_, rfl, ?_⟩; have n0_ := Aside0.mk (Kd.S_elder' (by (with_reducible repeat (first | apply Kd.S_alloc | apply Kd.S_drewN | apply Kd.S_drew)); exact HO345.out) (Kd.S_base ho0) hb); have n1_ := Aside0.mk (Kd.S_lower (Kd.S_new' ho0 (Kd.S_lt (by (with_reducible repeat (first | apply Kd.S_alloc | apply Kd.S_drewN | apply Kd.S_drew)); exact HO345.out))) (below_size (by repeat (first | (with_reducible first | exact HB.out | apply below_alloc | apply pw_below_drewN | apply below_drew1 | refine below_set ?_ GE346.out) | exact HB.out)))); have n2_ := Aside0.mk (blk_below (g := gb346) (o := .cells #[.string t340, .int .i64 t341, .int .i64 t342, .slice Ao21 t343.length co21] 26 (0, 0)) (by (with_reducible repeat (first | refine blk_drewN ?_ _ | refine blk_drew ?_ | refine blk_alloc ?_ _)); exact BK346.out) hb); have n3_ := Aside0.mk (below_step (by repeat (first | (with_reducible first | exact HB.out | apply below_alloc | apply pw_below_drewN | apply below_drew1 | refine below_set ?_ GE346.out) | exact HB.out)) hb); clear HO345; clear BK346; clear HB; have HO345 := n0_; have HO367 := n1_; have BK346 := n2_; have HB := n3_; clear n0_ n1_ n2_ n3_; (try clear hb); (try clear hb2); (try clear hk); (try clear hi); (try clear ho0)) | ((with_reducible refine gate_dst (N := 20) rfl ?_); refine box_event ?hg (N := 20) ?hd (cs := #[.string (⟨#[]⟩ : ByteArray), .int .i64 0, .int .i64 0, .slice none 0 0]) (t := 26) ?hr ?_; (case hd => rfl); (case hg => rfl); (case hr => first | (go_simp; done) | (go_simp; rfl)); intro gb369 hg w36 hbox hb; have n0_ := Aside0.mk (Kd.S_below (by (with_reducible repeat (first | apply Kd.S_alloc | apply Kd.S_drewN | apply Kd.S_drew)); exact HO345.out) hb); have n1_ := Aside0.mk (Kd.S_below (by (with_reducible repeat (first | apply Kd.S_alloc | apply Kd.S_drewN | apply Kd.S_drew)); exact HO367.out) hb); have n2_ := Aside0.mk (blk_below (g := gb346) (o := .cells #[.string t340, .int .i64 t341, .int .i64 t342, .slice Ao21 t343.length co21] 26 (0, 0)) (by (with_reducible repeat (first | refine blk_drewN ?_ _ | refine blk_drew ?_ | refine blk_alloc ?_ _)); exact BK346.out) hb); have n3_ := Aside0.mk (below_step (by repeat (first | (with_reducible first | exact HB.out | apply below_alloc | apply pw_below_drewN | apply below_drew1 | refine below_set ?_ GE346.out) | exact HB.out)) hb); have n4_ := Aside0.mk (hbox); have n5_ := Aside0.mk ((by rw [hg]; exact (below_size (by repeat (first | (with_reducible first | exact HB.out | apply below_alloc | apply pw_below_drewN | apply below_drew1 | refine below_set ?_ GE346.out) | exact HB.out))) : w.heap.size ≤ gb369)); have n6_ := Aside0.mk ((by rw [hg]; exact (below_size (by repeat (first | (with_reducible first | exact HB.out | apply below_alloc | apply pw_below_drewN | apply below_drew1 | refine below_set ?_ GE346.out) | exact HB.out))) : w.heap.size ≤ gb369)); have n7_ := Aside0.mk ((by rw [hg]; exact Nat.ne_of_lt (blk_lt (g := gb346) (o := .cells #[.string t340, .int .i64 t341, .int .i64 t342, .slice Ao21 t343.length co21] 26 (0, 0)) (by (with_reducible repeat (first | refine blk_drewN ?_ _ | refine blk_drew ?_ | refine blk_alloc ?_ _)); exact BK346.out)) : gb346 ≠ gb369)); have n8_ := Aside0.mk ((by rw [hg]; exact Nat.ne_of_gt (blk_lt (g := gb346) (o := .cells #[.string t340, .int .i64 t341, .int .i64 t342, .slice Ao21 t343.length co21] 26 (0, 0)) (by (with_reducible repeat (first | refine blk_drewN ?_ _ | refine blk_drew ?_ | refine blk_alloc ?_ _)); exact BK346.out)) : gb369 ≠ gb346)); clear HO345; clear HO367; clear BK346; clear HB; have HO345 := n0_; have HO367 := n1_; have BK346 := n2_; have HB := n3_; have BK369 := n4_; have GW369 := n5_; have GE369 := n6_; have NB346_369 := n7_; have NB369_346 := n8_; clear n0_ n1_ n2_ n3_ n4_ n5_ n6_ n7_ n8_; clear hb hbox hg; have hnb37 := NB369_346.out; have hnc37 := NB346_369.out; have hcz38_0 : w36.cell? ⟨gb369, 0, none⟩ = some (.string (⟨#[]⟩ : ByteArray)) := (blk_cell BK369.out 0).trans rfl; have hcz38_1 : w36.cell? ⟨gb369, 1, none⟩ = some (.int .i64 0) := (blk_cell BK369.out 1).trans rfl; have hcz38_2 : w36.cell? ⟨gb369, 2, none⟩ = some (.int .i64 0) := (blk_cell BK369.out 2).trans rfl; have hcz38_3 : w36.cell? ⟨gb369, 3, none⟩ = some (.slice none 0 0) := (blk_cell BK369.out 3).trans rfl; have hfz38_0 := blk_frozen BK369.out 0; have hfz38_1 := blk_frozen BK369.out 1; have hfz38_2 := blk_frozen BK369.out 2; have hfz38_3 := blk_frozen BK369.out 3; obtain ⟨Ao39, co39, eo39⟩ := Kd.S_slice HO367.out; subst eo39))
   (try simp only [Act.put, List.setIfInBounds_toArray, List.set_cons_zero, List.set_cons_succ])
   go_cut [154] (fun v154 wc => ∃ (kq : Nat) (x154_16 : Bool), v154 = .bool x154_16 ∧ Aside0 (laws_FnTariffs.j1 kq l1 t348 x154_16 t340 t341 t342 t343 = some r) ∧ Aside0 (kq ≤ kj3) ∧ Aside0 (Kd.S (Kd.slice 2 (Kd.int .i64)) 40 wc w.heap.size (fun k_ => some k_ ≠ ((.slice Ao39 t365.length co39) : Value).ownBlock) (.slice Ao21 t343.length co21) t343) ∧ Aside0 (Kd.S (Kd.slice 2 (Kd.int .i64)) 40 wc w.heap.size (fun k_ => some k_ ≠ ((.slice Ao21 t343.length co21) : Value).ownBlock) (.slice Ao39 t365.length co39) t365) ∧ Aside0 (wc.heap[gb346]? = some (.cells #[.string t340, .int .i64 t341, .int .i64 t342, (.slice Ao21 t343.length co21)] 26 (0, 0))) ∧ Aside0 (wc.heap[gb369]? = some (.cells #[.string t362, .int .i64 t363, .int .i64 t364, (.slice Ao39 t365.length co39)] 26 (0, 0))) ∧ Aside0 (Below w.heap.size w wc))
   case first =>
    as_aux_lemma =>
     have H := HC17.out
     clear HC17
     by_cases c40 : t350 = 0
     ·rw [if_pos c40] at H
      have c40b0 : (t350 == 0) = true := beq_iff_eq.mpr c40
      have c40b1 : (t350 != 0) = false := bne_eq_false_iff_eq.mpr c40
      clear c40
      (first | rw [c40b0] | (simp only [i64_w, i32_w]; rw [c40b0]) | skip)
      by_cases c41 : t352 = 0
      ·rw [if_pos c41] at H
       have c41b0 : (t352 == 0) = true := beq_iff_eq.mpr c41
       have c41b1 : (t352 != 0) = false := bne_eq_false_iff_eq.mpr c41
       clear c41
       by_cases c42 : t354 = 0
       ·rw [if_pos c42] at H
        have c42b0 : (t354 == 0) = true := beq_iff_eq.mpr c42
        have c42b1 : (t354 != 0) = false := bne_eq_false_iff_eq.mpr c42
        clear c42
        by_cases c43 : t351 < t349
        ·rw [if_pos c43] at H
         have c43b0 : decide (t351 < t349) = true := decide_eq_true c43
         clear c43
         exact absurd (H.trans (congrArg some hr_)) (by first | exact laws_FnTariffs.j1_no _ _ _ _ _ _ _ | exact laws_FnTariffs.j4_no _ _ _ _ _ _ _ _)
        ·rw [if_neg c43] at H
         have c43b0 : decide (t351 < t349) = false := decide_eq_false c43
         clear c43
         by_cases c46 : t353 = (wrap64 (t349 + t342))
         ·rw [if_pos c46] at H
          have c46b0 : (t353 == (wrap64 (t349 + t342))) = true := beq_iff_eq.mpr c46
          have c46b1 : (t353 != (wrap64 (t349 + t342))) = false := bne_eq_false_iff_eq.mpr c46
          clear c46
          by_cases c47 : t356 = 0
          ·rw [if_pos c47] at H
           have c47b0 : (t356 == 0) = true := beq_iff_eq.mpr c47
           have c47b1 : (t356 != 0) = false := bne_eq_false_iff_eq.mpr c47
           clear c47
           by_cases c48 : t358 = 0
           ·rw [if_pos c48] at H
            have c48b0 : (t358 == 0) = true := beq_iff_eq.mpr c48
            have c48b1 : (t358 != 0) = false := bne_eq_false_iff_eq.mpr c48
            clear c48
            by_cases c49 : t360 = 0
            ·rw [if_pos c49] at H
             have c49b0 : (t360 == 0) = true := beq_iff_eq.mpr c49
             have c49b1 : (t360 != 0) = false := bne_eq_false_iff_eq.mpr c49
             clear c49
             by_cases c50 : (wrap64 (t357 - t355)) = t359
             ·rw [if_pos c50] at H
              have c50b0 : ((wrap64 (t357 - t355)) == t359) = true := beq_iff_eq.mpr c50
              have c50b1 : ((wrap64 (t357 - t355)) != t359) = false := bne_eq_false_iff_eq.mpr c50
              clear c50
              by_cases c51 : t368 = true
              ·subst c51
               have H1 : ((impl_TariffText.f kj3 t362 t363 t364 t365).bind fun t370 => ((impl_TariffText.f kj3 t340 t341 t342 t343).bind fun t371 => (if t370.toList = t371.toList then ((spec_DivRound.f t355 100).bind fun t372 => (laws_FnTariffs.j1 kj3 l1 t348 (t349 != (wrap64 ((wrap64 (t341 + (wrap64 (t342 * t348)))) + t372))) t340 t341 t342 t343)) else (laws_FnTariffs.j1 kj3 l1 t348 true t340 t341 t342 t343)))) = some r := by rw [if_pos rfl] at H; exact H
               clear H
               have H := H1
               clear H1
               replace H := Option.bind_eq_some_iff.mp H
               obtain ⟨t370, A520, H⟩ := H
               replace H : ((impl_TariffText.f kj3 t340 t341 t342 t343).bind fun t371 => (if t370.toList = t371.toList then ((spec_DivRound.f t355 100).bind fun t372 => (laws_FnTariffs.j1 kj3 l1 t348 (t349 != (wrap64 ((wrap64 (t341 + (wrap64 (t342 * t348)))) + t372))) t340 t341 t342 t343)) else (laws_FnTariffs.j1 kj3 l1 t348 true t340 t341 t342 t343))) = some r := H
               have A52 := Aside0.mk A520
               clear A520
               replace H := Option.bind_eq_some_iff.mp H
               obtain ⟨t371, A530, H⟩ := H
               replace H : (if t370.toList = t371.toList then ((spec_DivRound.f t355 100).bind fun t372 => (laws_FnTariffs.j1 kj3 l1 t348 (t349 != (wrap64 ((wrap64 (t341 + (wrap64 (t342 * t348)))) + t372))) t340 t341 t342 t343)) else (laws_FnTariffs.j1 kj3 l1 t348 true t340 t341 t342 t343)) = some r := H
               have A53 := Aside0.mk A530
               clear A530
               by_cases c54 : t370.toList = t371.toList
               ·as_aux_lemma =>
                 rw [if_pos c54] at H
                 have c54b0 : (t370.toList == t371.toList) = true := beq_iff_eq.mpr c54
                 have c54b1 : (t370.toList != t371.toList) = false := bne_eq_false_iff_eq.mpr c54
                 clear c54
                 replace H := Option.bind_eq_some_iff.mp H
                 obtain ⟨t372, A550, H⟩ := H
                 replace H : (laws_FnTariffs.j1 kj3 l1 t348 (t349 != (wrap64 ((wrap64 (t341 + (wrap64 (t342 * t348)))) + t372))) t340 t341 t342 t343) = some r := H
                 have A55 := Aside0.mk A550
                 clear A550
                 have H' := Aside0.mk H
                 clear H
                 try go_wp2
                 have n0_ : Aside0 (Kd.S (Kd.slice 2 (Kd.int .i64)) 40 ((((w36.setCell ⟨gb369, 0, none⟩ (.string t362)).setCell ⟨gb369, 1, none⟩ (.int .i64 t363)).setCell ⟨gb369, 2, none⟩ (.int .i64 t364)).setCell ⟨gb369, 3, none⟩ (.slice Ao39 t365.length co39)) w.heap.size (fun k_ => some k_ ≠ (.slice Ao39 t365.length co39 : Value).ownBlock) (.slice Ao21 t343.length co21) t343) := ⟨by (with_reducible repeat (first | apply Kd.S_alloc | apply Kd.S_drewN | apply Kd.S_drew)); exact Kd.S_mono (Kd.S_far (p := ⟨gb369, 3, none⟩) (Kd.S_far (p := ⟨gb369, 2, none⟩) (Kd.S_far (p := ⟨gb369, 1, none⟩) (Kd.S_far (p := ⟨gb369, 0, none⟩) (Kd.S_types HO345.out BK369.out (by decide)) (fun _ hk => hk.2) (.string t362)) (fun _ hk => hk.2) (.int .i64 t363)) (fun _ hk => hk.2) (.int .i64 t364)) (fun _ hk => hk.2) (.slice Ao39 t365.length co39)) (fun _ hk => hk.1.2)⟩
                 have n1_ : Aside0 (Kd.S (Kd.slice 2 (Kd.int .i64)) 40 ((((w36.setCell ⟨gb369, 0, none⟩ (.string t362)).setCell ⟨gb369, 1, none⟩ (.int .i64 t363)).setCell ⟨gb369, 2, none⟩ (.int .i64 t364)).setCell ⟨gb369, 3, none⟩ (.slice Ao39 t365.length co39)) w.heap.size (fun k_ => some k_ ≠ (.slice Ao21 t343.length co21 : Value).ownBlock) (.slice Ao39 t365.length co39) t365) := ⟨by (with_reducible repeat (first | apply Kd.S_alloc | apply Kd.S_drewN | apply Kd.S_drew)); exact Kd.S_mono (Kd.S_far (p := ⟨gb369, 3, none⟩) (Kd.S_far (p := ⟨gb369, 2, none⟩) (Kd.S_far (p := ⟨gb369, 1, none⟩) (Kd.S_far (p := ⟨gb369, 0, none⟩) (Kd.S_types HO367.out BK369.out (by decide)) (fun _ hk => hk.2) (.string t362)) (fun _ hk => hk.2) (.int .i64 t363)) (fun _ hk => hk.2) (.int .i64 t364)) (fun _ hk => hk.2) (.slice Ao39 t365.length co39)) (fun _ hk => hk.1.2)⟩
                 have n2_ : Aside0 (((((w36.setCell ⟨gb369, 0, none⟩ (.string t362)).setCell ⟨gb369, 1, none⟩ (.int .i64 t363)).setCell ⟨gb369, 2, none⟩ (.int .i64 t364)).setCell ⟨gb369, 3, none⟩ (.slice Ao39 t365.length co39)).heap[gb346]? = some (.cells #[.string t340, .int .i64 t341, .int .i64 t342, .slice Ao21 t343.length co21] 26 (0, 0))) := ⟨by (with_reducible repeat (first | refine blk_drewN ?_ _ | refine blk_drew ?_ | refine blk_alloc ?_ _)); refine blk_far ?_ NB346_369.out _; (with_reducible repeat (first | refine blk_drewN ?_ _ | refine blk_drew ?_ | refine blk_alloc ?_ _)); refine blk_far ?_ NB346_369.out _; (with_reducible repeat (first | refine blk_drewN ?_ _ | refine blk_drew ?_ | refine blk_alloc ?_ _)); refine blk_far ?_ NB346_369.out _; (with_reducible repeat (first | refine blk_drewN ?_ _ | refine blk_drew ?_ | refine blk_alloc ?_ _)); refine blk_far ?_ NB346_369.out _; (with_reducible repeat (first | refine blk_drewN ?_ _ | refine blk_drew ?_ | refine blk_alloc ?_ _)); exact BK346.out⟩
                 have n3_ : Aside0 (((((w36.setCell ⟨gb369, 0, none⟩ (.string t362)).setCell ⟨gb369, 1, none⟩ (.int .i64 t363)).setCell ⟨gb369, 2, none⟩ (.int .i64 t364)).setCell ⟨gb369, 3, none⟩ (.slice Ao39 t365.length co39)).heap[gb369]? = some (.cells #[.string t362, .int .i64 t363, .int .i64 t364, .slice Ao39 t365.length co39] 26 (0, 0))) := ⟨by (with_reducible repeat (first | refine blk_drewN ?_ _ | refine blk_drew ?_ | refine blk_alloc ?_ _)); refine blk_put (cs := #[.string t362, .int .i64 t363, .int .i64 t364, .slice none 0 0]) ?_ 3 _ rfl; (with_reducible repeat (first | refine blk_drewN ?_ _ | refine blk_drew ?_ | refine blk_alloc ?_ _)); refine blk_put (cs := #[.string t362, .int .i64 t363, .int .i64 0, .slice none 0 0]) ?_ 2 _ rfl; (with_reducible repeat (first | refine blk_drewN ?_ _ | refine blk_drew ?_ | refine blk_alloc ?_ _)); refine blk_put (cs := #[.string t362, .int .i64 0, .int .i64 0, .slice none 0 0]) ?_ 1 _ rfl; (with_reducible repeat (first | refine blk_drewN ?_ _ | refine blk_drew ?_ | refine blk_alloc ?_ _)); refine blk_put (cs := #[.string (⟨#[]⟩ : ByteArray), .int .i64 0, .int .i64 0, .slice none 0 0]) ?_ 0 _ rfl; (with_reducible repeat (first | refine blk_drewN ?_ _ | refine blk_drew ?_ | refine blk_alloc ?_ _)); exact BK369.out⟩
                 have n4_ : Aside0 (Below w.heap.size w ((((w36.setCell ⟨gb369, 0, none⟩ (.string t362)).setCell ⟨gb369, 1, none⟩ (.int .i64 t363)).setCell ⟨gb369, 2, none⟩ (.int .i64 t364)).setCell ⟨gb369, 3, none⟩ (.slice Ao39 t365.length co39))) := ⟨by repeat (first | (with_reducible first | exact HB.out | apply below_alloc | apply pw_below_drewN | apply below_drew1 | refine below_set ?_ GE346.out | refine below_set ?_ GE369.out) | exact HB.out)⟩
                 (try clear HO345)
                 (try clear HO367)
                 (try clear BK346)
                 (try clear BK369)
                 (try clear HB)
                 generalize ((((w36.setCell ⟨gb369, 0, none⟩ (.string t362)).setCell ⟨gb369, 1, none⟩ (.int .i64 t363)).setCell ⟨gb369, 2, none⟩ (.int .i64 t364)).setCell ⟨gb369, 3, none⟩ (.slice Ao39 t365.length co39)) = w56 at n0_ n1_ n2_ n3_ n4_ ⊢
                 have HO345 := n0_
                 have HO367 := n1_
                 have BK346 := n2_
                 have BK369 := n3_
                 have HB := n4_
                 clear n0_ n1_ n2_ n3_ n4_
                 have n0_ := Aside0.mk (Kd.S_drew HO345.out)
                 have n1_ := Aside0.mk (Kd.S_drew HO367.out)
                 have n2_ := Aside0.mk (blk_drew BK346.out)
                 have n3_ := Aside0.mk (blk_drew BK369.out)
                 have n4_ := Aside0.mk (below_drew1 HB.out)
                 clear HO345
                 clear HO367
                 clear BK346
                 clear BK369
                 clear HB
                 have HO345 := n0_
                 have HO367 := n1_
                 have BK346 := n2_
                 have BK369 := n3_
                 have HB := n4_
                 clear n0_ n1_ n2_ n3_ n4_
                 refine start_ (n := 67) (S := fun w' => w'.cell? ⟨gb346, 0, none⟩ = some (.string t340) ∧ w'.cell? ⟨gb346, 1, none⟩ = some (.int .i64 t341) ∧ w'.cell? ⟨gb346, 2, none⟩ = some (.int .i64 t342) ∧ w'.cell? ⟨gb346, 3, none⟩ = some (.slice Ao21 t343.length co21) ∧ w'.cell? ⟨gb369, 0, none⟩ = some (.string t362) ∧ w'.cell? ⟨gb369, 1, none⟩ = some (.int .i64 t363) ∧ w'.cell? ⟨gb369, 2, none⟩ = some (.int .i64 t364) ∧ w'.cell? ⟨gb369, 3, none⟩ = some (.slice Ao39 t365.length co39)) (ds := []) (tf 0 67) (by kernel_rfl) rfl rfl ⟨(blk_cell BK346.out 0).trans rfl, (blk_cell BK346.out 1).trans rfl, (blk_cell BK346.out 2).trans rfl, (blk_cell BK346.out 3).trans rfl, (blk_cell BK369.out 0).trans rfl, (blk_cell BK369.out 1).trans rfl, (blk_cell BK369.out 2).trans rfl, (blk_cell BK369.out 3).trans rfl⟩ (fun hHeld => ?_); refine with_tabW laws_FnTariffs.tab13 laws_FnTariffs.bits13 (fun HT_ HW_ => ?_)
                 generalize w56.drew = w57 at HO345 HO367 BK346 BK369 HB hHeld ⊢
                 refine px 0 (some 88) (tf 1 67) HT_ ?_
                 refine px 1 (some 89) (tf 2 67) HT_ ?_
                 refine px 2 (some 90) (tf 3 67) HT_ ?_
                 refine px 3 (some 91) (tf 4 67) HT_ ?_
                 refine px 4 (some 92) (tf 5 67) HT_ ?_
                 refine px 5 (some 93) (tf 6 67) HT_ ?_
                 refine px 6 (some 94) (tf 7 67) HT_ ?_
                 refine px 7 (some 95) (tf 8 67) HT_ ?_
                 refine px 8 (some 96) (tf 9 67) HT_ ?_
                 refine px 9 (some 97) (tf 10 67) HT_ ?_
                 refine px 10 (some 98) (tf 11 67) HT_ ?_
                 refine px 11 (some 99) (tf 12 67) HT_ ?_
                 refine px 12 (some 100) (tf 13 67) HT_ ?_
                 refine px 13 (some 101) (tf 14 67) HT_ ?_
                 refine px 14 (some 102) (tf 15 67) HT_ ?_
                 refine px 15 (some 103) (tf 16 67) HT_ ?_
                 refine px 16 (some 104) (tf 17 67) HT_ ?_
                 refine px 17 (some 105) (tf 18 67) HT_ ?_
                 refine px 18 (some 106) (tf 19 67) HT_ ?_
                 refine tx (v := ?_) 19 (some 107) (tf 20 67) HT_ HW_ hHeld ?_ ?_
                 rotate_left; (· rintro w' ⟨s0, s1, s2, s3, s4, s5, s6, s7⟩; go_simp; with_reducible rfl)
                 refine px 20 (some 108) (tf 21 67) HT_ ?_
                 refine px 21 (some 109) (tf 22 67) HT_ ?_
                 refine px 22 (some 110) (tf 23 67) HT_ ?_
                 refine px 23 (some 111) (tf 24 67) HT_ ?_
                 refine px 24 (some 112) (tf 25 67) HT_ ?_
                 refine px 25 (some 113) (tf 26 67) HT_ ?_
                 refine px 26 (some 114) (tf 27 67) HT_ ?_
                 refine px 27 (some 115) (tf 28 67) HT_ ?_
                 refine px 28 (some 116) (tf 29 67) HT_ ?_
                 refine px 29 (some 117) (tf 30 67) HT_ ?_
                 refine px 30 (some 118) (tf 31 67) HT_ ?_
                 refine px 31 (some 119) (tf 32 67) HT_ ?_
                 refine px 32 (some 120) (tf 33 67) HT_ ?_
                 refine px 33 (some 121) (tf 34 67) HT_ ?_
                 refine px 34 (some 122) (tf 35 67) HT_ ?_
                 refine px 35 (some 123) (tf 36 67) HT_ ?_
                 refine px 36 (some 124) (tf 37 67) HT_ ?_
                 refine px 37 (some 125) (tf 38 67) HT_ ?_
                 refine px 38 (some 126) (tf 39 67) HT_ ?_
                 refine px 39 (some 127) (tf 40 67) HT_ ?_
                 refine px 40 (some 128) (tf 41 67) HT_ ?_
                 refine px 41 (some 129) (tf 42 67) HT_ ?_
                 refine px 42 (some 130) (tf 43 67) HT_ ?_
                 refine px 43 (some 131) (tf 44 67) HT_ ?_
                 refine px 44 (some 132) (tf 45 67) HT_ ?_
                 refine px 45 (some 133) (tf 46 67) HT_ ?_
                 refine px 46 (some 134) (tf 47 67) HT_ ?_
                 refine tx (v := ?_) 47 (some 135) (tf 48 67) HT_ HW_ hHeld ?_ ?_
                 rotate_left; (· rintro w' ⟨s0, s1, s2, s3, s4, s5, s6, s7⟩; go_simp; with_reducible rfl)
                 refine tx (v := ?_) 49 (some 137) (tb 67 844424930131967) HT_ HW_ hHeld ?_ ?_
                 rotate_left; (· rintro w' ⟨s0, s1, s2, s3, s4, s5, s6, s7⟩; go_simp; with_reducible rfl)
                 refine one_ (i := 48) (N := some 136) (tf 50 67) rfl rfl (one_of HT_.out (by kernel_rfl)) (by decide) (fun K hK => ?_)
                 refine goes_ Tryd.func12 (by kernel_rfl) rfl #[.agg #[.string t362, .int .i64 t363, .int .i64 t364, .slice Ao39 t365.length co39]] (by rfl) rfl rfl (by (try simp only [List.map_toArray, List.map_cons, List.map_nil]); first | done | rfl | (simp only [List.length_drop, List.length_take]; rfl)) ?_
                 with_reducible refine (impl_TariffText.calls kj3 t362 t363 t364 _ _ t365 t370 _ ?side1 ?side2 A52.out ?T_).mono ?_
                 (case T_ => exact tab_ hT_ (by repeat (first | (with_reducible first | exact HB.out | apply below_alloc | apply pw_below_drewN | apply below_drew1 | refine below_set ?_ GE346.out | refine below_set ?_ GE369.out) | exact HB.out)))
                 (case side1 => repeat (first | exact (Kd.S_reads' HO367.out).2.2 | (with_reducible refine Kd.C_alloc ?_ _) | (with_reducible refine Kd.C_drewN ?_ _) | (with_reducible refine Kd.C_drew ?_)))
                 (case side2 => exact (Kd.S_reads' HO367.out).2.1)
                 rintro e w58 ⟨rfl, hb⟩
                 refine ⟨_, rfl, ?_⟩
                 have n0_ := Aside0.mk (Kd.S_below (by (with_reducible repeat (first | apply Kd.S_alloc | apply Kd.S_drewN | apply Kd.S_drew)); exact HO345.out) hb)
                 have n1_ := Aside0.mk (Kd.S_below (by (with_reducible repeat (first | apply Kd.S_alloc | apply Kd.S_drewN | apply Kd.S_drew)); exact HO367.out) hb)
                 have n2_ := Aside0.mk (blk_below (g := gb346) (o := .cells #[.string t340, .int .i64 t341, .int .i64 t342, .slice Ao21 t343.length co21] 26 (0, 0)) (by (with_reducible repeat (first | refine blk_drewN ?_ _ | refine blk_drew ?_ | refine blk_alloc ?_ _)); exact BK346.out) hb)
                 have n3_ := Aside0.mk (blk_below (g := gb369) (o := .cells #[.string t362, .int .i64 t363, .int .i64 t364, .slice Ao39 t365.length co39] 26 (0, 0)) (by (with_reducible repeat (first | refine blk_drewN ?_ _ | refine blk_drew ?_ | refine blk_alloc ?_ _)); exact BK369.out) hb)
                 have n4_ := Aside0.mk (below_step (by repeat (first | (with_reducible first | exact HB.out | apply below_alloc | apply pw_below_drewN | apply below_drew1 | refine below_set ?_ GE346.out | refine below_set ?_ GE369.out) | exact HB.out)) hb)
                 clear HO345
                 clear HO367
                 clear BK346
                 clear BK369
                 clear HB
                 have HO345 := n0_
                 have HO367 := n1_
                 have BK346 := n2_
                 have BK369 := n3_
                 have HB := n4_
                 clear n0_ n1_ n2_ n3_ n4_
                 (try clear hb)
                 (try clear hb2)
                 (try clear hk)
                 (try clear hi)
                 refine hK.out _ _ ⟨(blk_cell BK346.out 0).trans rfl, (blk_cell BK346.out 1).trans rfl, (blk_cell BK346.out 2).trans rfl, (blk_cell BK346.out 3).trans rfl, (blk_cell BK369.out 0).trans rfl, (blk_cell BK369.out 1).trans rfl, (blk_cell BK369.out 2).trans rfl, (blk_cell BK369.out 3).trans rfl⟩ (fun hHeld => ?_)
                 clear hK K
                 refine norm_ (a' := ?_) ?_ ?_
                 rotate_left
                 ·show Act.put _ (some 136) _ = _
                  simp only [Act.put, List.setIfInBounds_toArray, List.set_cons_zero, List.set_cons_succ, i64_w, i32_w]
                  rfl
                 refine one_ (i := 50) (N := some 138) (tf 51 67) rfl rfl (one_of HT_.out (by kernel_rfl)) (by decide) (fun K hK => ?_)
                 refine goes_ Tryd.func12 (by kernel_rfl) rfl #[.agg #[.string t340, .int .i64 t341, .int .i64 t342, .slice Ao21 t343.length co21]] (by rfl) rfl rfl (by (try simp only [List.map_toArray, List.map_cons, List.map_nil]); first | done | rfl | (simp only [List.length_drop, List.length_take]; rfl)) ?_
                 with_reducible refine (impl_TariffText.calls kj3 t340 t341 t342 _ _ t343 t371 _ ?side1 ?side2 A53.out ?T_).mono ?_
                 (case T_ => exact tab_ hT_ (by repeat (first | (with_reducible first | exact HB.out | apply below_alloc | apply pw_below_drewN | apply below_drew1 | refine below_set ?_ GE346.out | refine below_set ?_ GE369.out) | exact HB.out)))
                 (case side1 => repeat (first | exact (Kd.S_reads' HO345.out).2.2 | (with_reducible refine Kd.C_alloc ?_ _) | (with_reducible refine Kd.C_drewN ?_ _) | (with_reducible refine Kd.C_drew ?_)))
                 (case side2 => exact (Kd.S_reads' HO345.out).2.1)
                 rintro e w59 ⟨rfl, hb⟩
                 refine ⟨_, rfl, ?_⟩
                 have n0_ := Aside0.mk (Kd.S_below (by (with_reducible repeat (first | apply Kd.S_alloc | apply Kd.S_drewN | apply Kd.S_drew)); exact HO345.out) hb)
                 have n1_ := Aside0.mk (Kd.S_below (by (with_reducible repeat (first | apply Kd.S_alloc | apply Kd.S_drewN | apply Kd.S_drew)); exact HO367.out) hb)
                 have n2_ := Aside0.mk (blk_below (g := gb346) (o := .cells #[.string t340, .int .i64 t341, .int .i64 t342, .slice Ao21 t343.length co21] 26 (0, 0)) (by (with_reducible repeat (first | refine blk_drewN ?_ _ | refine blk_drew ?_ | refine blk_alloc ?_ _)); exact BK346.out) hb)
                 have n3_ := Aside0.mk (blk_below (g := gb369) (o := .cells #[.string t362, .int .i64 t363, .int .i64 t364, .slice Ao39 t365.length co39] 26 (0, 0)) (by (with_reducible repeat (first | refine blk_drewN ?_ _ | refine blk_drew ?_ | refine blk_alloc ?_ _)); exact BK369.out) hb)
                 have n4_ := Aside0.mk (below_step (by repeat (first | (with_reducible first | exact HB.out | apply below_alloc | apply pw_below_drewN | apply below_drew1 | refine below_set ?_ GE346.out | refine below_set ?_ GE369.out) | exact HB.out)) hb)
                 clear HO345
                 clear HO367
                 clear BK346
                 clear BK369
                 clear HB
                 have HO345 := n0_
                 have HO367 := n1_
                 have BK346 := n2_
                 have BK369 := n3_
                 have HB := n4_
                 clear n0_ n1_ n2_ n3_ n4_
                 (try clear hb)
                 (try clear hb2)
                 (try clear hk)
                 (try clear hi)
                 refine hK.out _ _ ⟨(blk_cell BK346.out 0).trans rfl, (blk_cell BK346.out 1).trans rfl, (blk_cell BK346.out 2).trans rfl, (blk_cell BK346.out 3).trans rfl, (blk_cell BK369.out 0).trans rfl, (blk_cell BK369.out 1).trans rfl, (blk_cell BK369.out 2).trans rfl, (blk_cell BK369.out 3).trans rfl⟩ (fun hHeld => ?_)
                 clear hK K
                 refine norm_ (a' := ?_) ?_ ?_
                 rotate_left
                 ·show Act.put _ (some 138) _ = _
                  simp only [Act.put, List.setIfInBounds_toArray, List.set_cons_zero, List.set_cons_succ, i64_w, i32_w]
                  rfl
                 refine px 51 (some 139) (tf 52 67) HT_ ?_
                 refine px 52 (some 140) (tf 53 67) HT_ ?_
                 refine px 53 (some 141) (tf 54 67) HT_ ?_
                 refine px 54 (some 142) (tf 55 67) HT_ ?_
                 refine px 55 (some 143) (tf 56 67) HT_ ?_
                 refine px 57 (some 145) (tb 67 216172782113783807) HT_ ?_
                 refine px 59 (some 147) (tb 67 792633534417207295) HT_ ?_
                 refine px 62 (some 150) (tb 67 5404319552844595199) HT_ ?_
                 refine tx (v := ?_) 56 (some 144) (tb 67 5476377146882523135) HT_ HW_ hHeld ?_ ?_
                 rotate_left; (· rintro w' ⟨s0, s1, s2, s3, s4, s5, s6, s7⟩; go_simp; with_reducible rfl)
                 refine tx (v := ?_) 58 (some 146) (tb 67 5764607523034234879) HT_ HW_ hHeld ?_ ?_
                 rotate_left; (· rintro w' ⟨s0, s1, s2, s3, s4, s5, s6, s7⟩; go_simp; with_reducible rfl)
                 refine px 60 (some 148) (tb 67 6917529027641081855) HT_ ?_
                 refine px 61 (some 149) (tf 63 67) HT_ ?_
                 refine one_ (i := 63) (N := some 151) (tf 64 67) rfl rfl (one_of HT_.out (by kernel_rfl)) (by decide) (fun K hK => ?_)
                 refine goes_ Tryd.func13 (by kernel_rfl) rfl #[.int .i64 t355, .int .i64 100] (by rfl) rfl rfl (by (try simp only [List.map_toArray, List.map_cons, List.map_nil]); first | done | rfl | (simp only [List.length_drop, List.length_take]; rfl)) ?_
                 with_reducible refine (spec_DivRound.calls t355 100 t372 _ A55.out).mono ?_
                 rintro e w' ⟨rfl, ⟨nd, rfl⟩⟩
                 refine ⟨_, rfl, ?_⟩
                 refine hK.out _ _ ⟨(blk_cell BK346.out 0).trans rfl, (blk_cell BK346.out 1).trans rfl, (blk_cell BK346.out 2).trans rfl, (blk_cell BK346.out 3).trans rfl, (blk_cell BK369.out 0).trans rfl, (blk_cell BK369.out 1).trans rfl, (blk_cell BK369.out 2).trans rfl, (blk_cell BK369.out 3).trans rfl⟩ (fun hHeld => ?_)
                 clear hK K
                 refine norm_ (a' := ?_) ?_ ?_
                 rotate_left
                 ·show Act.put _ (some 151) _ = _
                  simp only [Act.put, List.setIfInBounds_toArray, List.set_cons_zero, List.set_cons_succ, i64_w, i32_w]
                  rfl
                 refine px 64 (some 152) (tf 65 67) HT_ ?_
                 refine px 65 (some 153) (tf 66 67) HT_ ?_
                 refine px 66 (some 154) (tf 67 67) HT_ ?_
                 refine done_ (done_of HT_.out (by kernel_rfl)) ?_
                 try go_wp2
                 go_meet
                 case rel => exact ⟨_, ((t349 != (wrap64 ((wrap64 (t341 + (wrap64 (t342 * t348)))) + t372)))), (by first | rfl | (simp; done) | (simp [*]; done)), H', ⟨by have := HJ3.out; first | omega | exact Nat.le_refl _⟩, ⟨by (with_reducible repeat (first | apply Kd.S_alloc | apply Kd.S_drewN | apply Kd.S_drew)); exact HO345.out⟩, ⟨by (with_reducible repeat (first | apply Kd.S_alloc | apply Kd.S_drewN | apply Kd.S_drew)); exact HO367.out⟩, ⟨by (with_reducible repeat (first | refine blk_drewN ?_ _ | refine blk_drew ?_ | refine blk_alloc ?_ _)); exact BK346.out⟩, ⟨by (with_reducible repeat (first | refine blk_drewN ?_ _ | refine blk_drew ?_ | refine blk_alloc ?_ _)); exact BK369.out⟩, ⟨by repeat (first | (with_reducible first | exact HB.out | apply below_alloc | apply pw_below_drewN | apply below_drew1 | refine below_set ?_ GE346.out | refine below_set ?_ GE369.out) | exact HB.out)⟩⟩
               ·rw [if_neg c54] at H
                have c54b0 : (t370.toList == t371.toList) = false := beq_eq_false_iff_ne.mpr c54
                have c54b1 : (t370.toList != t371.toList) = true := bne_iff_ne.mpr c54
                exact absurd (H.trans (congrArg some hr_)) (by first | exact laws_FnTariffs.j1_no _ _ _ _ _ _ _ | exact laws_FnTariffs.j4_no _ _ _ _ _ _ _ _)
              ·replace c51 := Bool.eq_false_iff.mpr c51
               subst c51
               have H1 : (laws_FnTariffs.j1 kj3 l1 t348 true t340 t341 t342 t343) = some r := by rw [if_neg (show ¬ (false = true) by decide)] at H; exact H
               clear H
               have H := H1
               clear H1
               exact absurd (H.trans (congrArg some hr_)) (by first | exact laws_FnTariffs.j1_no _ _ _ _ _ _ _ | exact laws_FnTariffs.j4_no _ _ _ _ _ _ _ _)
             ·rw [if_neg c50] at H
              have c50b0 : ((wrap64 (t357 - t355)) == t359) = false := beq_eq_false_iff_ne.mpr c50
              have c50b1 : ((wrap64 (t357 - t355)) != t359) = true := bne_iff_ne.mpr c50
              exact absurd (H.trans (congrArg some hr_)) (by first | exact laws_FnTariffs.j1_no _ _ _ _ _ _ _ | exact laws_FnTariffs.j4_no _ _ _ _ _ _ _ _)
            ·rw [if_neg c49] at H
             have c49b0 : (t360 == 0) = false := beq_eq_false_iff_ne.mpr c49
             have c49b1 : (t360 != 0) = true := bne_iff_ne.mpr c49
             exact absurd (H.trans (congrArg some hr_)) (by first | exact laws_FnTariffs.j1_no _ _ _ _ _ _ _ | exact laws_FnTariffs.j4_no _ _ _ _ _ _ _ _)
           ·rw [if_neg c48] at H
            have c48b0 : (t358 == 0) = false := beq_eq_false_iff_ne.mpr c48
            have c48b1 : (t358 != 0) = true := bne_iff_ne.mpr c48
            exact absurd (H.trans (congrArg some hr_)) (by first | exact laws_FnTariffs.j1_no _ _ _ _ _ _ _ | exact laws_FnTariffs.j4_no _ _ _ _ _ _ _ _)
          ·rw [if_neg c47] at H
           have c47b0 : (t356 == 0) = false := beq_eq_false_iff_ne.mpr c47
           have c47b1 : (t356 != 0) = true := bne_iff_ne.mpr c47
           exact absurd (H.trans (congrArg some hr_)) (by first | exact laws_FnTariffs.j1_no _ _ _ _ _ _ _ | exact laws_FnTariffs.j4_no _ _ _ _ _ _ _ _)
         ·rw [if_neg c46] at H
          have c46b0 : (t353 == (wrap64 (t349 + t342))) = false := beq_eq_false_iff_ne.mpr c46
          have c46b1 : (t353 != (wrap64 (t349 + t342))) = true := bne_iff_ne.mpr c46
          exact absurd (H.trans (congrArg some hr_)) (by first | exact laws_FnTariffs.j1_no _ _ _ _ _ _ _ | exact laws_FnTariffs.j4_no _ _ _ _ _ _ _ _)
       ·rw [if_neg c42] at H
        have c42b0 : (t354 == 0) = false := beq_eq_false_iff_ne.mpr c42
        have c42b1 : (t354 != 0) = true := bne_iff_ne.mpr c42
        exact absurd (H.trans (congrArg some hr_)) (by first | exact laws_FnTariffs.j1_no _ _ _ _ _ _ _ | exact laws_FnTariffs.j4_no _ _ _ _ _ _ _ _)
      ·rw [if_neg c41] at H
       have c41b0 : (t352 == 0) = false := beq_eq_false_iff_ne.mpr c41
       have c41b1 : (t352 != 0) = true := bne_iff_ne.mpr c41
       exact absurd (H.trans (congrArg some hr_)) (by first | exact laws_FnTariffs.j1_no _ _ _ _ _ _ _ | exact laws_FnTariffs.j4_no _ _ _ _ _ _ _ _)
     ·rw [if_neg c40] at H
      have c40b0 : (t350 == 0) = false := beq_eq_false_iff_ne.mpr c40
      have c40b1 : (t350 != 0) = true := bne_iff_ne.mpr c40
      (first | rw [c40b0] | (simp only [i64_w, i32_w]; rw [c40b0]) | skip)
      exact absurd (H.trans (congrArg some hr_)) (by first | exact laws_FnTariffs.j1_no _ _ _ _ _ _ _ | exact laws_FnTariffs.j4_no _ _ _ _ _ _ _ _)
   case rest =>
    clear HC17
    try clear p2
    try clear c4
    try clear c40
    try clear c40b0
    try clear c40b1
    obtain ⟨kq, x154_16, rfl, HA, HJ16, HO_347003, HO_370003, BK346, BK369, HB⟩ := hcut
    cases kq with
    | zero => exact absurd HA.out (by simp [laws_FnTariffs.j1])
    | succ kj16 =>
     have H := HA.out
     clear HA
     simp only [laws_FnTariffs.j1] at H
     have HC82 := Aside0.mk H
     clear H
     go_upto_if 154 with (fail)
     go_cut [] (fun wc => ∃ (kq : Nat), Aside0 (laws_FnTariffs.j2 kq l1 t348 t340 t341 t342 t343 = some r) ∧ Aside0 (kq ≤ kj16) ∧ Aside0 (Kd.S (Kd.slice 2 (Kd.int .i64)) 40 wc w.heap.size (fun k_ => some k_ ≠ ((.slice Ao39 t365.length co39) : Value).ownBlock) (.slice Ao21 t343.length co21) t343) ∧ Aside0 (Kd.S (Kd.slice 2 (Kd.int .i64)) 40 wc w.heap.size (fun k_ => some k_ ≠ ((.slice Ao21 t343.length co21) : Value).ownBlock) (.slice Ao39 t365.length co39) t365) ∧ Aside0 (wc.heap[gb346]? = some (.cells #[.string t340, .int .i64 t341, .int .i64 t342, (.slice Ao21 t343.length co21)] 26 (0, 0))) ∧ Aside0 (wc.heap[gb369]? = some (.cells #[.string t362, .int .i64 t363, .int .i64 t364, (.slice Ao39 t365.length co39)] 26 (0, 0))) ∧ Aside0 (Below w.heap.size w wc))
     case first =>
      as_aux_lemma =>
       have H := HC82.out
       clear HC82
       by_cases c83 : x154_16 = true
       ·subst c83
        have H1 : (some false) = some r := by rw [if_pos rfl] at H; exact H
        clear H
        have H := H1
        clear H1
        obtain rfl := Option.some.inj H
        all_goals try exact absurd hr_ Bool.false_ne_true
        all_goals go_wp2
        all_goals go_ret
        all_goals exact ⟨by first | rfl | (rw [Int.tdiv_eq_ediv_of_nonneg (by omega)]; rfl) | (simp [errW_none, errW_some] <;> rfl) | (simp [*, errW_none, errW_some] <;> rfl), by repeat (first | (with_reducible first | exact HB.out | apply below_alloc | apply pw_below_drewN | apply below_drew1 | refine below_set ?_ GE346.out | refine below_set ?_ GE369.out) | exact HB.out)⟩
       ·as_aux_lemma =>
         replace c83 := Bool.eq_false_iff.mpr c83
         subst c83
         have H1 : (laws_FnTariffs.j2 kj16 l1 t348 t340 t341 t342 t343) = some r := by rw [if_neg (show ¬ (false = true) by decide)] at H; exact H
         clear H
         have H := H1
         clear H1
         have H' := Aside0.mk H
         clear H
         go_wp2
         go_meet
         case rel => exact ⟨_, H', ⟨by have := HJ3.out; have := HJ16.out; first | omega | exact Nat.le_refl _⟩, ⟨by (with_reducible repeat (first | apply Kd.S_alloc | apply Kd.S_drewN | apply Kd.S_drew)); exact HO_347003.out⟩, ⟨by (with_reducible repeat (first | apply Kd.S_alloc | apply Kd.S_drewN | apply Kd.S_drew)); exact HO_370003.out⟩, ⟨by (with_reducible repeat (first | refine blk_drewN ?_ _ | refine blk_drew ?_ | refine blk_alloc ?_ _)); exact BK346.out⟩, ⟨by (with_reducible repeat (first | refine blk_drewN ?_ _ | refine blk_drew ?_ | refine blk_alloc ?_ _)); exact BK369.out⟩, ⟨by repeat (first | (with_reducible first | exact HB.out | apply below_alloc | apply pw_below_drewN | apply below_drew1 | refine below_set ?_ GE346.out | refine below_set ?_ GE369.out) | exact HB.out)⟩⟩
     case rest =>
      clear HC82
      try clear p2
      try clear c4
      try clear c8
      try clear c40
      try clear c40b0
      try clear c40b1
      try clear c83
      try clear p2
      obtain ⟨kq, HA, HJ81, HO_347003, HO_370003, BK346, BK369, HB⟩ := hcut
      cases kq with
      | zero => exact absurd HA.out (by simp [laws_FnTariffs.j2])
      | succ kj81 =>
       have H := HA.out
       clear HA
       simp only [laws_FnTariffs.j2] at H
       replace H := Option.bind_eq_some_iff.mp H
       obtain ⟨t373, A840, H⟩ := H
       replace H : ((impl_HeatWithin.f kj81 t340 t341 t342 t343 t373 t348).bind fun bt374 => (if bt374.2 = 0 then (laws_FnTariffs.j3 kj81 t348 t373 bt374.1 t340 t341 t342 t343) else ((spec_BillOf.f kj81 t340 t341 t342 t343 0 t348).bind fun bt376 => (if bt374.2 = 3 then (if bt376.2 = 0 then (some (decide (bt376.1 > t373))) else (some false)) else (some false))))) = some r := H
       have A84 := Aside0.mk A840
       clear A840
       replace H := Option.bind_eq_some_iff.mp H
       obtain ⟨⟨t374, t375⟩, A850, H⟩ := H
       replace H : (if t375 = 0 then (laws_FnTariffs.j3 kj81 t348 t373 t374 t340 t341 t342 t343) else ((spec_BillOf.f kj81 t340 t341 t342 t343 0 t348).bind fun bt376 => (if t375 = 3 then (if bt376.2 = 0 then (some (decide (bt376.1 > t373))) else (some false)) else (some false)))) = some r := H
       have A85 := Aside0.mk A850
       clear A850
       have HC86 := Aside0.mk H
       clear H
       go_upto_if 165 with (first | ((with_reducible refine gate_callee (f := 6) rfl ?_); refine goesL_ (some 156) rfl rfl Tryd.func6 (by kernel_rfl) rfl #[.slice A1 l1.length c1, .int .i64 3, .int .i64 60000] rfl (by (try simp only [List.map_toArray, List.map_cons, List.map_nil]); first | done | rfl | (simp only [List.length_drop, List.length_take]; rfl)) ?_; (with_reducible refine (laws_r8Wide.calls _ _ l1 3 60000 t373 _ ?side1 ?side2 A84.out).mono ?_); (case side1 => repeat (first | exact (Kd.C_below HR1.out HB.out) | (with_reducible refine Kd.C_alloc ?_ _) | (with_reducible refine Kd.C_drewN ?_ _) | (with_reducible refine Kd.C_drew ?_))); (case side2 => exact HC1.out); rintro e w' ⟨rfl, ⟨nd, rfl⟩⟩; refine ⟨_, rfl, ?_⟩; have hnb87 := NB346_369.out; have hnc87 := NB369_346.out; have hcz88_0 : wc.cell? ⟨gb346, 0, none⟩ = some (.string t340) := (blk_cell BK346.out 0).trans rfl; have hcz88_1 : wc.cell? ⟨gb346, 1, none⟩ = some (.int .i64 t341) := (blk_cell BK346.out 1).trans rfl; have hcz88_2 : wc.cell? ⟨gb346, 2, none⟩ = some (.int .i64 t342) := (blk_cell BK346.out 2).trans rfl; have hcz88_3 : wc.cell? ⟨gb346, 3, none⟩ = some (.slice Ao21 t343.length co21) := (blk_cell BK346.out 3).trans rfl; have hfz88_0 := blk_frozen BK346.out 0; have hfz88_1 := blk_frozen BK346.out 1; have hfz88_2 := blk_frozen BK346.out 2; have hfz88_3 := blk_frozen BK346.out 3) | ((with_reducible refine gate_callee (f := 14) rfl ?_); refine goesL_ (some 161) rfl rfl Tryd.func14 (by kernel_rfl) rfl #[.agg #[.string t340, .int .i64 t341, .int .i64 t342, .slice Ao21 t343.length co21], .int .i64 t373, .int .i64 t348] rfl (by (try simp only [List.map_toArray, List.map_cons, List.map_nil]); first | done | rfl | (simp only [List.length_drop, List.length_take]; rfl)) ?_; (with_reducible refine (impl_HeatWithin.calls kj81 t340 t341 t342 _ _ t343 t373 t348 t374 t375 _ ?side1 ?side2 A85.out).mono ?_); (case side1 => repeat (first | exact (Kd.S_reads' HO_347003.out).2.2 | (with_reducible refine Kd.C_alloc ?_ _) | (with_reducible refine Kd.C_drewN ?_ _) | (with_reducible refine Kd.C_drew ?_))); (case side2 => exact (Kd.S_reads' HO_347003.out).2.1); rintro e w89 ⟨rfl, hb⟩; refine ⟨_, rfl, ?_⟩; have n0_ := Aside0.mk (Kd.S_below (by (with_reducible repeat (first | apply Kd.S_alloc | apply Kd.S_drewN | apply Kd.S_drew)); exact HO_347003.out) hb); have n1_ := Aside0.mk (Kd.S_below (by (with_reducible repeat (first | apply Kd.S_alloc | apply Kd.S_drewN | apply Kd.S_drew)); exact HO_370003.out) hb); have n2_ := Aside0.mk (blk_below (g := gb346) (o := .cells #[.string t340, .int .i64 t341, .int .i64 t342, .slice Ao21 t343.length co21] 26 (0, 0)) (by (with_reducible repeat (first | refine blk_drewN ?_ _ | refine blk_drew ?_ | refine blk_alloc ?_ _)); exact BK346.out) hb); have n3_ := Aside0.mk (blk_below (g := gb369) (o := .cells #[.string t362, .int .i64 t363, .int .i64 t364, .slice Ao39 t365.length co39] 26 (0, 0)) (by (with_reducible repeat (first | refine blk_drewN ?_ _ | refine blk_drew ?_ | refine blk_alloc ?_ _)); exact BK369.out) hb); have n4_ := Aside0.mk (below_step (by repeat (first | (with_reducible first | exact HB.out | apply below_alloc | apply pw_below_drewN | apply below_drew1 | refine below_set ?_ GE346.out | refine below_set ?_ GE369.out) | exact HB.out)) hb); clear HO_347003; clear HO_370003; clear BK346; clear BK369; clear HB; have HO_347003 := n0_; have HO_370003 := n1_; have BK346 := n2_; have BK369 := n3_; have HB := n4_; clear n0_ n1_ n2_ n3_ n4_; (try clear hb); (try clear hb2); (try clear hk); (try clear hi)))
       (try simp only [Act.put, List.setIfInBounds_toArray, List.set_cons_zero, List.set_cons_succ])
       go_cut [] (fun wc => ∃ (kq : Nat), Aside0 (laws_FnTariffs.j3 kq t348 t373 t374 t340 t341 t342 t343 = some r) ∧ Aside0 (kq ≤ kj81) ∧ Aside0 (Kd.S (Kd.slice 2 (Kd.int .i64)) 40 wc w.heap.size (fun k_ => some k_ ≠ ((.slice Ao39 t365.length co39) : Value).ownBlock) (.slice Ao21 t343.length co21) t343) ∧ Aside0 (Kd.S (Kd.slice 2 (Kd.int .i64)) 40 wc w.heap.size (fun k_ => some k_ ≠ ((.slice Ao21 t343.length co21) : Value).ownBlock) (.slice Ao39 t365.length co39) t365) ∧ Aside0 (wc.heap[gb346]? = some (.cells #[.string t340, .int .i64 t341, .int .i64 t342, (.slice Ao21 t343.length co21)] 26 (0, 0))) ∧ Aside0 (wc.heap[gb369]? = some (.cells #[.string t362, .int .i64 t363, .int .i64 t364, (.slice Ao39 t365.length co39)] 26 (0, 0))) ∧ Aside0 (Below w.heap.size w wc))
       case first =>
        as_aux_lemma =>
         have H := HC86.out
         clear HC86
         by_cases c90 : t375 = 0
         ·as_aux_lemma =>
           rw [if_pos c90] at H
           have c90b0 : (t375 == 0) = true := beq_iff_eq.mpr c90
           have c90b1 : (t375 != 0) = false := bne_eq_false_iff_eq.mpr c90
           clear c90
           (first | rw [c90b0] | (simp only [i64_w, i32_w]; rw [c90b0]) | skip)
           have H' := Aside0.mk H
           clear H
           go_wp2
           go_meet
           case rel => exact ⟨_, H', ⟨by have := HJ3.out; have := HJ16.out; have := HJ81.out; first | omega | exact Nat.le_refl _⟩, ⟨by (with_reducible repeat (first | apply Kd.S_alloc | apply Kd.S_drewN | apply Kd.S_drew)); exact HO_347003.out⟩, ⟨by (with_reducible repeat (first | apply Kd.S_alloc | apply Kd.S_drewN | apply Kd.S_drew)); exact HO_370003.out⟩, ⟨by (with_reducible repeat (first | refine blk_drewN ?_ _ | refine blk_drew ?_ | refine blk_alloc ?_ _)); exact BK346.out⟩, ⟨by (with_reducible repeat (first | refine blk_drewN ?_ _ | refine blk_drew ?_ | refine blk_alloc ?_ _)); exact BK369.out⟩, ⟨by repeat (first | (with_reducible first | exact HB.out | apply below_alloc | apply pw_below_drewN | apply below_drew1 | refine below_set ?_ GE346.out | refine below_set ?_ GE369.out) | exact HB.out)⟩⟩
         ·rw [if_neg c90] at H
          have c90b0 : (t375 == 0) = false := beq_eq_false_iff_ne.mpr c90
          have c90b1 : (t375 != 0) = true := bne_iff_ne.mpr c90
          (first | rw [c90b0] | (simp only [i64_w, i32_w]; rw [c90b0]) | skip)
          replace H := Option.bind_eq_some_iff.mp H
          obtain ⟨⟨t376, t377⟩, A910, H⟩ := H
          replace H : (if t375 = 3 then (if t377 = 0 then (some (decide (t376 > t373))) else (some false)) else (some false)) = some r := H
          have A91 := Aside0.mk A910
          clear A910
          by_cases c92 : t375 = 3
          ·rw [if_pos c92] at H
           have c92b0 : (t375 == 3) = true := beq_iff_eq.mpr c92
           have c92b1 : (t375 != 3) = false := bne_eq_false_iff_eq.mpr c92
           clear c92
           by_cases c93 : t377 = 0
           ·rw [if_pos c93] at H
            have c93b0 : (t377 == 0) = true := beq_iff_eq.mpr c93
            have c93b1 : (t377 != 0) = false := bne_eq_false_iff_eq.mpr c93
            clear c93
            obtain rfl := Option.some.inj H
            all_goals try exact absurd hr_ Bool.false_ne_true
            all_goals have hnb94 := NB346_369.out
            all_goals have hnc94 := NB369_346.out
            all_goals have hcz95_0 : w89.cell? ⟨gb346, 0, none⟩ = some (.string t340) := (blk_cell BK346.out 0).trans rfl
            all_goals have hcz95_1 : w89.cell? ⟨gb346, 1, none⟩ = some (.int .i64 t341) := (blk_cell BK346.out 1).trans rfl
            all_goals have hcz95_2 : w89.cell? ⟨gb346, 2, none⟩ = some (.int .i64 t342) := (blk_cell BK346.out 2).trans rfl
            all_goals have hcz95_3 : w89.cell? ⟨gb346, 3, none⟩ = some (.slice Ao21 t343.length co21) := (blk_cell BK346.out 3).trans rfl
            all_goals have hfz95_0 := blk_frozen BK346.out 0
            all_goals have hfz95_1 := blk_frozen BK346.out 1
            all_goals have hfz95_2 := blk_frozen BK346.out 2
            all_goals have hfz95_3 := blk_frozen BK346.out 3
            all_goals go_wp2_with (first | ((with_reducible refine gate_callee (f := 15) rfl ?_); refine goesL_ (some 169) rfl rfl Tryd.func15 (by kernel_rfl) rfl #[.agg #[.string t340, .int .i64 t341, .int .i64 t342, .slice Ao21 t343.length co21], .int .i64 0, .int .i64 t348] rfl (by (try simp only [List.map_toArray, List.map_cons, List.map_nil]); first | done | rfl | (simp only [List.length_drop, List.length_take]; rfl)) ?_; (with_reducible refine (spec_BillOf.calls kj81 t340 t341 t342 _ _ t343 0 t348 t376 t377 _ ?side1 ?side2 A91.out).mono ?_); (case side1 => repeat (first | exact (Kd.S_reads' HO_347003.out).2.2 | (with_reducible refine Kd.C_alloc ?_ _) | (with_reducible refine Kd.C_drewN ?_ _) | (with_reducible refine Kd.C_drew ?_))); (case side2 => exact (Kd.S_reads' HO_347003.out).2.1); rintro e w96 ⟨rfl, hb⟩; refine ⟨_, rfl, ?_⟩; have n0_ := Aside0.mk (Kd.S_below (by (with_reducible repeat (first | apply Kd.S_alloc | apply Kd.S_drewN | apply Kd.S_drew)); exact HO_347003.out) hb); have n1_ := Aside0.mk (Kd.S_below (by (with_reducible repeat (first | apply Kd.S_alloc | apply Kd.S_drewN | apply Kd.S_drew)); exact HO_370003.out) hb); have n2_ := Aside0.mk (blk_below (g := gb346) (o := .cells #[.string t340, .int .i64 t341, .int .i64 t342, .slice Ao21 t343.length co21] 26 (0, 0)) (by (with_reducible repeat (first | refine blk_drewN ?_ _ | refine blk_drew ?_ | refine blk_alloc ?_ _)); exact BK346.out) hb); have n3_ := Aside0.mk (blk_below (g := gb369) (o := .cells #[.string t362, .int .i64 t363, .int .i64 t364, .slice Ao39 t365.length co39] 26 (0, 0)) (by (with_reducible repeat (first | refine blk_drewN ?_ _ | refine blk_drew ?_ | refine blk_alloc ?_ _)); exact BK369.out) hb); have n4_ := Aside0.mk (below_step (by repeat (first | (with_reducible first | exact HB.out | apply below_alloc | apply pw_below_drewN | apply below_drew1 | refine below_set ?_ GE346.out | refine below_set ?_ GE369.out) | exact HB.out)) hb); clear HO_347003; clear HO_370003; clear BK346; clear BK369; clear HB; have HO_347003 := n0_; have HO_370003 := n1_; have BK346 := n2_; have BK369 := n3_; have HB := n4_; clear n0_ n1_ n2_ n3_ n4_; (try clear hb); (try clear hb2); (try clear hk); (try clear hi)))
            all_goals go_ret
            all_goals exact ⟨by first | rfl | (rw [Int.tdiv_eq_ediv_of_nonneg (by omega)]; rfl) | (simp [errW_none, errW_some] <;> rfl) | (simp [*, errW_none, errW_some] <;> rfl), by repeat (first | (with_reducible first | exact HB.out | apply below_alloc | apply pw_below_drewN | apply below_drew1 | refine below_set ?_ GE346.out | refine below_set ?_ GE369.out) | exact HB.out)⟩
           ·rw [if_neg c93] at H
            have c93b0 : (t377 == 0) = false := beq_eq_false_iff_ne.mpr c93
            have c93b1 : (t377 != 0) = true := bne_iff_ne.mpr c93
            obtain rfl := Option.some.inj H
            all_goals try exact absurd hr_ Bool.false_ne_true
            all_goals have hnb97 := NB346_369.out
            all_goals have hnc97 := NB369_346.out
            all_goals have hcz98_0 : w89.cell? ⟨gb346, 0, none⟩ = some (.string t340) := (blk_cell BK346.out 0).trans rfl
            all_goals have hcz98_1 : w89.cell? ⟨gb346, 1, none⟩ = some (.int .i64 t341) := (blk_cell BK346.out 1).trans rfl
            all_goals have hcz98_2 : w89.cell? ⟨gb346, 2, none⟩ = some (.int .i64 t342) := (blk_cell BK346.out 2).trans rfl
            all_goals have hcz98_3 : w89.cell? ⟨gb346, 3, none⟩ = some (.slice Ao21 t343.length co21) := (blk_cell BK346.out 3).trans rfl
            all_goals have hfz98_0 := blk_frozen BK346.out 0
            all_goals have hfz98_1 := blk_frozen BK346.out 1
            all_goals have hfz98_2 := blk_frozen BK346.out 2
            all_goals have hfz98_3 := blk_frozen BK346.out 3
            all_goals go_wp2_with (first | ((with_reducible refine gate_callee (f := 15) rfl ?_); refine goesL_ (some 169) rfl rfl Tryd.func15 (by kernel_rfl) rfl #[.agg #[.string t340, .int .i64 t341, .int .i64 t342, .slice Ao21 t343.length co21], .int .i64 0, .int .i64 t348] rfl (by (try simp only [List.map_toArray, List.map_cons, List.map_nil]); first | done | rfl | (simp only [List.length_drop, List.length_take]; rfl)) ?_; (with_reducible refine (spec_BillOf.calls kj81 t340 t341 t342 _ _ t343 0 t348 t376 t377 _ ?side1 ?side2 A91.out).mono ?_); (case side1 => repeat (first | exact (Kd.S_reads' HO_347003.out).2.2 | (with_reducible refine Kd.C_alloc ?_ _) | (with_reducible refine Kd.C_drewN ?_ _) | (with_reducible refine Kd.C_drew ?_))); (case side2 => exact (Kd.S_reads' HO_347003.out).2.1); rintro e w99 ⟨rfl, hb⟩; refine ⟨_, rfl, ?_⟩; have n0_ := Aside0.mk (Kd.S_below (by (with_reducible repeat (first | apply Kd.S_alloc | apply Kd.S_drewN | apply Kd.S_drew)); exact HO_347003.out) hb); have n1_ := Aside0.mk (Kd.S_below (by (with_reducible repeat (first | apply Kd.S_alloc | apply Kd.S_drewN | apply Kd.S_drew)); exact HO_370003.out) hb); have n2_ := Aside0.mk (blk_below (g := gb346) (o := .cells #[.string t340, .int .i64 t341, .int .i64 t342, .slice Ao21 t343.length co21] 26 (0, 0)) (by (with_reducible repeat (first | refine blk_drewN ?_ _ | refine blk_drew ?_ | refine blk_alloc ?_ _)); exact BK346.out) hb); have n3_ := Aside0.mk (blk_below (g := gb369) (o := .cells #[.string t362, .int .i64 t363, .int .i64 t364, .slice Ao39 t365.length co39] 26 (0, 0)) (by (with_reducible repeat (first | refine blk_drewN ?_ _ | refine blk_drew ?_ | refine blk_alloc ?_ _)); exact BK369.out) hb); have n4_ := Aside0.mk (below_step (by repeat (first | (with_reducible first | exact HB.out | apply below_alloc | apply pw_below_drewN | apply below_drew1 | refine below_set ?_ GE346.out | refine below_set ?_ GE369.out) | exact HB.out)) hb); clear HO_347003; clear HO_370003; clear BK346; clear BK369; clear HB; have HO_347003 := n0_; have HO_370003 := n1_; have BK346 := n2_; have BK369 := n3_; have HB := n4_; clear n0_ n1_ n2_ n3_ n4_; (try clear hb); (try clear hb2); (try clear hk); (try clear hi)))
            all_goals go_ret
            all_goals exact ⟨by first | rfl | (rw [Int.tdiv_eq_ediv_of_nonneg (by omega)]; rfl) | (simp [errW_none, errW_some] <;> rfl) | (simp [*, errW_none, errW_some] <;> rfl), by repeat (first | (with_reducible first | exact HB.out | apply below_alloc | apply pw_below_drewN | apply below_drew1 | refine below_set ?_ GE346.out | refine below_set ?_ GE369.out) | exact HB.out)⟩
          ·rw [if_neg c92] at H
           have c92b0 : (t375 == 3) = false := beq_eq_false_iff_ne.mpr c92
           have c92b1 : (t375 != 3) = true := bne_iff_ne.mpr c92
           obtain rfl := Option.some.inj H
           all_goals try exact absurd hr_ Bool.false_ne_true
           all_goals have hnb100 := NB346_369.out
           all_goals have hnc100 := NB369_346.out
           all_goals have hcz101_0 : w89.cell? ⟨gb346, 0, none⟩ = some (.string t340) := (blk_cell BK346.out 0).trans rfl
           all_goals have hcz101_1 : w89.cell? ⟨gb346, 1, none⟩ = some (.int .i64 t341) := (blk_cell BK346.out 1).trans rfl
           all_goals have hcz101_2 : w89.cell? ⟨gb346, 2, none⟩ = some (.int .i64 t342) := (blk_cell BK346.out 2).trans rfl
           all_goals have hcz101_3 : w89.cell? ⟨gb346, 3, none⟩ = some (.slice Ao21 t343.length co21) := (blk_cell BK346.out 3).trans rfl
           all_goals have hfz101_0 := blk_frozen BK346.out 0
           all_goals have hfz101_1 := blk_frozen BK346.out 1
           all_goals have hfz101_2 := blk_frozen BK346.out 2
           all_goals have hfz101_3 := blk_frozen BK346.out 3
           all_goals go_wp2_with (first | ((with_reducible refine gate_callee (f := 15) rfl ?_); refine goesL_ (some 169) rfl rfl Tryd.func15 (by kernel_rfl) rfl #[.agg #[.string t340, .int .i64 t341, .int .i64 t342, .slice Ao21 t343.length co21], .int .i64 0, .int .i64 t348] rfl (by (try simp only [List.map_toArray, List.map_cons, List.map_nil]); first | done | rfl | (simp only [List.length_drop, List.length_take]; rfl)) ?_; (with_reducible refine (spec_BillOf.calls kj81 t340 t341 t342 _ _ t343 0 t348 t376 t377 _ ?side1 ?side2 A91.out).mono ?_); (case side1 => repeat (first | exact (Kd.S_reads' HO_347003.out).2.2 | (with_reducible refine Kd.C_alloc ?_ _) | (with_reducible refine Kd.C_drewN ?_ _) | (with_reducible refine Kd.C_drew ?_))); (case side2 => exact (Kd.S_reads' HO_347003.out).2.1); rintro e w102 ⟨rfl, hb⟩; refine ⟨_, rfl, ?_⟩; have n0_ := Aside0.mk (Kd.S_below (by (with_reducible repeat (first | apply Kd.S_alloc | apply Kd.S_drewN | apply Kd.S_drew)); exact HO_347003.out) hb); have n1_ := Aside0.mk (Kd.S_below (by (with_reducible repeat (first | apply Kd.S_alloc | apply Kd.S_drewN | apply Kd.S_drew)); exact HO_370003.out) hb); have n2_ := Aside0.mk (blk_below (g := gb346) (o := .cells #[.string t340, .int .i64 t341, .int .i64 t342, .slice Ao21 t343.length co21] 26 (0, 0)) (by (with_reducible repeat (first | refine blk_drewN ?_ _ | refine blk_drew ?_ | refine blk_alloc ?_ _)); exact BK346.out) hb); have n3_ := Aside0.mk (blk_below (g := gb369) (o := .cells #[.string t362, .int .i64 t363, .int .i64 t364, .slice Ao39 t365.length co39] 26 (0, 0)) (by (with_reducible repeat (first | refine blk_drewN ?_ _ | refine blk_drew ?_ | refine blk_alloc ?_ _)); exact BK369.out) hb); have n4_ := Aside0.mk (below_step (by repeat (first | (with_reducible first | exact HB.out | apply below_alloc | apply pw_below_drewN | apply below_drew1 | refine below_set ?_ GE346.out | refine below_set ?_ GE369.out) | exact HB.out)) hb); clear HO_347003; clear HO_370003; clear BK346; clear BK369; clear HB; have HO_347003 := n0_; have HO_370003 := n1_; have BK346 := n2_; have BK369 := n3_; have HB := n4_; clear n0_ n1_ n2_ n3_ n4_; (try clear hb); (try clear hb2); (try clear hk); (try clear hi)))
           all_goals go_ret
           all_goals exact ⟨by first | rfl | (rw [Int.tdiv_eq_ediv_of_nonneg (by omega)]; rfl) | (simp [errW_none, errW_some] <;> rfl) | (simp [*, errW_none, errW_some] <;> rfl), by repeat (first | (with_reducible first | exact HB.out | apply below_alloc | apply pw_below_drewN | apply below_drew1 | refine below_set ?_ GE346.out | refine below_set ?_ GE369.out) | exact HB.out)⟩
       case rest =>
        clear HC86
        try clear c1
        try clear p2
        try clear c4
        try clear c6
        try clear c8
        try clear c9
        try clear c10
        try clear c14
        try clear c15
        try clear c40
        try clear c40b0
        try clear c40b1
        try clear c83
        try clear c87
        try clear c90
        try clear c90b0
        try clear c90b1
        try clear c92
        try clear c92b0
        try clear c92b1
        try clear c93
        try clear c93b0
        try clear c93b1
        try clear c94
        try clear c97
        try clear c100
        try clear hcz101_0
        try clear hcz101_1
        try clear hcz101_2
        try clear hcz101_3
        try clear hcz88_0
        try clear hcz88_1
        try clear hcz88_2
        try clear hcz88_3
        try clear hcz95_0
        try clear hcz95_1
        try clear hcz95_2
        try clear hcz95_3
        try clear hcz98_0
        try clear hcz98_1
        try clear hcz98_2
        try clear hcz98_3
        try clear hfz101_0
        try clear hfz101_1
        try clear hfz101_2
        try clear hfz101_3
        try clear hfz88_0
        try clear hfz88_1
        try clear hfz88_2
        try clear hfz88_3
        try clear hfz95_0
        try clear hfz95_1
        try clear hfz95_2
        try clear hfz95_3
        try clear hfz98_0
        try clear hfz98_1
        try clear hfz98_2
        try clear hfz98_3
        try clear p2
        obtain ⟨kq, HA, HJ85, HO_347003, HO_370003, BK346, BK369, HB⟩ := hcut
        cases kq with
        | zero => exact absurd HA.out (by simp [laws_FnTariffs.j3])
        | succ kj85 =>
         have H := HA.out
         clear HA
         simp only [laws_FnTariffs.j3] at H
         replace H := Option.bind_eq_some_iff.mp H
         obtain ⟨⟨t378, t379⟩, A1030, H⟩ := H
         replace H : (if t379 = 0 then (if t378 > t373 then (laws_FnTariffs.j4 kj85 t348 t373 t374 true t340 t341 t342 t343) else (if t374 < 0 then (laws_FnTariffs.j4 kj85 t348 t373 t374 true t340 t341 t342 t343) else (laws_FnTariffs.j4 kj85 t348 t373 t374 (decide (t374 > 1000000)) t340 t341 t342 t343))) else (laws_FnTariffs.j4 kj85 t348 t373 t374 true t340 t341 t342 t343)) = some r := H
         have A103 := Aside0.mk A1030
         clear A1030
         have HC104 := Aside0.mk H
         clear H
         have hnb105 := NB346_369.out
         have hnc105 := NB369_346.out
         have hcz106_0 : wc.cell? ⟨gb346, 0, none⟩ = some (.string t340) := (blk_cell BK346.out 0).trans rfl
         have hcz106_1 : wc.cell? ⟨gb346, 1, none⟩ = some (.int .i64 t341) := (blk_cell BK346.out 1).trans rfl
         have hcz106_2 : wc.cell? ⟨gb346, 2, none⟩ = some (.int .i64 t342) := (blk_cell BK346.out 2).trans rfl
         have hcz106_3 : wc.cell? ⟨gb346, 3, none⟩ = some (.slice Ao21 t343.length co21) := (blk_cell BK346.out 3).trans rfl
         have hfz106_0 := blk_frozen BK346.out 0
         have hfz106_1 := blk_frozen BK346.out 1
         have hfz106_2 := blk_frozen BK346.out 2
         have hfz106_3 := blk_frozen BK346.out 3
         go_upto_region 21 with (first | ((with_reducible refine gate_callee (f := 15) rfl ?_); refine goesL_ (some 187) rfl rfl Tryd.func15 (by kernel_rfl) rfl #[.agg #[.string t340, .int .i64 t341, .int .i64 t342, .slice Ao21 t343.length co21], .int .i64 t374, .int .i64 t348] rfl (by (try simp only [List.map_toArray, List.map_cons, List.map_nil]); first | done | rfl | (simp only [List.length_drop, List.length_take]; rfl)) ?_; (with_reducible refine (spec_BillOf.calls kj85 t340 t341 t342 _ _ t343 t374 t348 t378 t379 _ ?side1 ?side2 A103.out).mono ?_); (case side1 => repeat (first | exact (Kd.S_reads' HO_347003.out).2.2 | (with_reducible refine Kd.C_alloc ?_ _) | (with_reducible refine Kd.C_drewN ?_ _) | (with_reducible refine Kd.C_drew ?_))); (case side2 => exact (Kd.S_reads' HO_347003.out).2.1); rintro e w107 ⟨rfl, hb⟩; refine ⟨_, rfl, ?_⟩; have n0_ := Aside0.mk (Kd.S_below (by (with_reducible repeat (first | apply Kd.S_alloc | apply Kd.S_drewN | apply Kd.S_drew)); exact HO_347003.out) hb); have n1_ := Aside0.mk (Kd.S_below (by (with_reducible repeat (first | apply Kd.S_alloc | apply Kd.S_drewN | apply Kd.S_drew)); exact HO_370003.out) hb); have n2_ := Aside0.mk (blk_below (g := gb346) (o := .cells #[.string t340, .int .i64 t341, .int .i64 t342, .slice Ao21 t343.length co21] 26 (0, 0)) (by (with_reducible repeat (first | refine blk_drewN ?_ _ | refine blk_drew ?_ | refine blk_alloc ?_ _)); exact BK346.out) hb); have n3_ := Aside0.mk (blk_below (g := gb369) (o := .cells #[.string t362, .int .i64 t363, .int .i64 t364, .slice Ao39 t365.length co39] 26 (0, 0)) (by (with_reducible repeat (first | refine blk_drewN ?_ _ | refine blk_drew ?_ | refine blk_alloc ?_ _)); exact BK369.out) hb); have n4_ := Aside0.mk (below_step (by repeat (first | (with_reducible first | exact HB.out | apply below_alloc | apply pw_below_drewN | apply below_drew1 | refine below_set ?_ GE346.out | refine below_set ?_ GE369.out) | exact HB.out)) hb); clear HO_347003; clear HO_370003; clear BK346; clear BK369; clear HB; have HO_347003 := n0_; have HO_370003 := n1_; have BK346 := n2_; have BK369 := n3_; have HB := n4_; clear n0_ n1_ n2_ n3_ n4_; (try clear hb); (try clear hb2); (try clear hk); (try clear hi)))
         (try simp only [Act.put, List.setIfInBounds_toArray, List.set_cons_zero, List.set_cons_succ])
         go_cut [204] (fun v204 wc => ∃ (kq : Nat) (x204_103 : Bool), v204 = .bool x204_103 ∧ Aside0 (laws_FnTariffs.j4 kq t348 t373 t374 x204_103 t340 t341 t342 t343 = some r) ∧ Aside0 (kq ≤ kj85) ∧ Aside0 (Kd.S (Kd.slice 2 (Kd.int .i64)) 40 wc w.heap.size (fun k_ => some k_ ≠ ((.slice Ao39 t365.length co39) : Value).ownBlock) (.slice Ao21 t343.length co21) t343) ∧ Aside0 (Kd.S (Kd.slice 2 (Kd.int .i64)) 40 wc w.heap.size (fun k_ => some k_ ≠ ((.slice Ao21 t343.length co21) : Value).ownBlock) (.slice Ao39 t365.length co39) t365) ∧ Aside0 (wc.heap[gb346]? = some (.cells #[.string t340, .int .i64 t341, .int .i64 t342, (.slice Ao21 t343.length co21)] 26 (0, 0))) ∧ Aside0 (wc.heap[gb369]? = some (.cells #[.string t362, .int .i64 t363, .int .i64 t364, (.slice Ao39 t365.length co39)] 26 (0, 0))) ∧ Aside0 (Below w.heap.size w wc))
         case first =>
          as_aux_lemma =>
           have H := HC104.out
           clear HC104
           by_cases c108 : t379 = 0
           ·rw [if_pos c108] at H
            have c108b0 : (t379 == 0) = true := beq_iff_eq.mpr c108
            have c108b1 : (t379 != 0) = false := bne_eq_false_iff_eq.mpr c108
            clear c108
            (first | rw [c108b0] | (simp only [i64_w, i32_w]; rw [c108b0]) | skip)
            by_cases c109 : t378 > t373
            ·rw [if_pos c109] at H
             have c109b0 : decide (t373 < t378) = true := decide_eq_true c109
             clear c109
             exact absurd (H.trans (congrArg some hr_)) (by first | exact laws_FnTariffs.j1_no _ _ _ _ _ _ _ | exact laws_FnTariffs.j4_no _ _ _ _ _ _ _ _)
            ·rw [if_neg c109] at H
             have c109b0 : decide (t373 < t378) = false := decide_eq_false c109
             clear c109
             by_cases c110 : t374 < 0
             ·rw [if_pos c110] at H
              have c110b0 : decide (t374 < 0) = true := decide_eq_true c110
              clear c110
              exact absurd (H.trans (congrArg some hr_)) (by first | exact laws_FnTariffs.j1_no _ _ _ _ _ _ _ | exact laws_FnTariffs.j4_no _ _ _ _ _ _ _ _)
             ·as_aux_lemma =>
               rw [if_neg c110] at H
               have c110b0 : decide (t374 < 0) = false := decide_eq_false c110
               clear c110
               have H' := Aside0.mk H
               clear H
               go_wp2
               go_meet
               case rel => exact ⟨_, (decide (t374 > 1000000)), (by first | rfl | (simp; done) | (simp [*]; done)), H', ⟨by have := HJ3.out; have := HJ16.out; have := HJ81.out; have := HJ85.out; first | omega | exact Nat.le_refl _⟩, ⟨by (with_reducible repeat (first | apply Kd.S_alloc | apply Kd.S_drewN | apply Kd.S_drew)); exact HO_347003.out⟩, ⟨by (with_reducible repeat (first | apply Kd.S_alloc | apply Kd.S_drewN | apply Kd.S_drew)); exact HO_370003.out⟩, ⟨by (with_reducible repeat (first | refine blk_drewN ?_ _ | refine blk_drew ?_ | refine blk_alloc ?_ _)); exact BK346.out⟩, ⟨by (with_reducible repeat (first | refine blk_drewN ?_ _ | refine blk_drew ?_ | refine blk_alloc ?_ _)); exact BK369.out⟩, ⟨by repeat (first | (with_reducible first | exact HB.out | apply below_alloc | apply pw_below_drewN | apply below_drew1 | refine below_set ?_ GE346.out | refine below_set ?_ GE369.out) | exact HB.out)⟩⟩
           ·rw [if_neg c108] at H
            have c108b0 : (t379 == 0) = false := beq_eq_false_iff_ne.mpr c108
            have c108b1 : (t379 != 0) = true := bne_iff_ne.mpr c108
            (first | rw [c108b0] | (simp only [i64_w, i32_w]; rw [c108b0]) | skip)
            exact absurd (H.trans (congrArg some hr_)) (by first | exact laws_FnTariffs.j1_no _ _ _ _ _ _ _ | exact laws_FnTariffs.j4_no _ _ _ _ _ _ _ _)
         case rest =>
          clear HC104
          try clear c1
          try clear p2
          try clear c4
          try clear c6
          try clear c8
          try clear c9
          try clear c10
          try clear c11
          try clear c14
          try clear c15
          try clear c40
          try clear c40b0
          try clear c40b1
          try clear c83
          try clear c87
          try clear c90
          try clear c90b0
          try clear c90b1
          try clear c92
          try clear c92b0
          try clear c92b1
          try clear c93
          try clear c93b0
          try clear c93b1
          try clear c94
          try clear c97
          try clear c100
          try clear c105
          try clear c108
          try clear c108b0
          try clear c108b1
          try clear c109
          try clear c109b0
          try clear c110
          try clear c110b0
          try clear hcz101_0
          try clear hcz101_1
          try clear hcz101_2
          try clear hcz101_3
          try clear hcz106_0
          try clear hcz106_1
          try clear hcz106_2
          try clear hcz106_3
          try clear hcz88_0
          try clear hcz88_1
          try clear hcz88_2
          try clear hcz88_3
          try clear hcz95_0
          try clear hcz95_1
          try clear hcz95_2
          try clear hcz95_3
          try clear hcz98_0
          try clear hcz98_1
          try clear hcz98_2
          try clear hcz98_3
          try clear hfz101_0
          try clear hfz101_1
          try clear hfz101_2
          try clear hfz101_3
          try clear hfz106_0
          try clear hfz106_1
          try clear hfz106_2
          try clear hfz106_3
          try clear hfz88_0
          try clear hfz88_1
          try clear hfz88_2
          try clear hfz88_3
          try clear hfz95_0
          try clear hfz95_1
          try clear hfz95_2
          try clear hfz95_3
          try clear hfz98_0
          try clear hfz98_1
          try clear hfz98_2
          try clear hfz98_3
          try clear p2
          obtain ⟨kq, x204_103, rfl, HA, HJ103, HO_347003, HO_370003, BK346, BK369, HB⟩ := hcut
          cases kq with
          | zero => exact absurd HA.out (by simp [laws_FnTariffs.j4])
          | succ kj103 =>
           have H := HA.out
           clear HA
           simp only [laws_FnTariffs.j4] at H
           have HC111 := Aside0.mk H
           clear H
           go_upto_if 204 with (fail)
           go_cut [] (fun wc => ∃ (kq : Nat), Aside0 (laws_FnTariffs.j5 kq t348 t373 t374 t340 t341 t342 t343 = some r) ∧ Aside0 (kq ≤ kj103) ∧ Aside0 (Kd.S (Kd.slice 2 (Kd.int .i64)) 40 wc w.heap.size (fun k_ => some k_ ≠ ((.slice Ao39 t365.length co39) : Value).ownBlock) (.slice Ao21 t343.length co21) t343) ∧ Aside0 (Kd.S (Kd.slice 2 (Kd.int .i64)) 40 wc w.heap.size (fun k_ => some k_ ≠ ((.slice Ao21 t343.length co21) : Value).ownBlock) (.slice Ao39 t365.length co39) t365) ∧ Aside0 (wc.heap[gb346]? = some (.cells #[.string t340, .int .i64 t341, .int .i64 t342, (.slice Ao21 t343.length co21)] 26 (0, 0))) ∧ Aside0 (wc.heap[gb369]? = some (.cells #[.string t362, .int .i64 t363, .int .i64 t364, (.slice Ao39 t365.length co39)] 26 (0, 0))) ∧ Aside0 (Below w.heap.size w wc))
           case first =>
            as_aux_lemma =>
             have H := HC111.out
             clear HC111
             by_cases c112 : x204_103 = true
             ·subst c112
              have H1 : (some false) = some r := by rw [if_pos rfl] at H; exact H
              clear H
              have H := H1
              clear H1
              obtain rfl := Option.some.inj H
              all_goals try exact absurd hr_ Bool.false_ne_true
              all_goals go_wp2
              all_goals go_ret
              all_goals exact ⟨by first | rfl | (rw [Int.tdiv_eq_ediv_of_nonneg (by omega)]; rfl) | (simp [errW_none, errW_some] <;> rfl) | (simp [*, errW_none, errW_some] <;> rfl), by repeat (first | (with_reducible first | exact HB.out | apply below_alloc | apply pw_below_drewN | apply below_drew1 | refine below_set ?_ GE346.out | refine below_set ?_ GE369.out) | exact HB.out)⟩
             ·as_aux_lemma =>
               replace c112 := Bool.eq_false_iff.mpr c112
               subst c112
               have H1 : (laws_FnTariffs.j5 kj103 t348 t373 t374 t340 t341 t342 t343) = some r := by rw [if_neg (show ¬ (false = true) by decide)] at H; exact H
               clear H
               have H := H1
               clear H1
               have H' := Aside0.mk H
               clear H
               go_wp2
               go_meet
               case rel => exact ⟨_, H', ⟨by have := HJ3.out; have := HJ16.out; have := HJ81.out; have := HJ85.out; have := HJ103.out; first | omega | exact Nat.le_refl _⟩, ⟨by (with_reducible repeat (first | apply Kd.S_alloc | apply Kd.S_drewN | apply Kd.S_drew)); exact HO_347003.out⟩, ⟨by (with_reducible repeat (first | apply Kd.S_alloc | apply Kd.S_drewN | apply Kd.S_drew)); exact HO_370003.out⟩, ⟨by (with_reducible repeat (first | refine blk_drewN ?_ _ | refine blk_drew ?_ | refine blk_alloc ?_ _)); exact BK346.out⟩, ⟨by (with_reducible repeat (first | refine blk_drewN ?_ _ | refine blk_drew ?_ | refine blk_alloc ?_ _)); exact BK369.out⟩, ⟨by repeat (first | (with_reducible first | exact HB.out | apply below_alloc | apply pw_below_drewN | apply below_drew1 | refine below_set ?_ GE346.out | refine below_set ?_ GE369.out) | exact HB.out)⟩⟩
           case rest =>
            clear HC111
            try clear c1
            try clear p2
            try clear c4
            try clear c6
            try clear c8
            try clear c9
            try clear c10
            try clear c11
            try clear c14
            try clear c15
            try clear c40
            try clear c40b0
            try clear c40b1
            try clear c83
            try clear c87
            try clear c90
            try clear c90b0
            try clear c90b1
            try clear c92
            try clear c92b0
            try clear c92b1
            try clear c93
            try clear c93b0
            try clear c93b1
            try clear c94
            try clear c97
            try clear c100
            try clear c105
            try clear c108
            try clear c108b0
            try clear c108b1
            try clear c109
            try clear c109b0
            try clear c110
            try clear c110b0
            try clear c112
            try clear hcz101_0
            try clear hcz101_1
            try clear hcz101_2
            try clear hcz101_3
            try clear hcz106_0
            try clear hcz106_1
            try clear hcz106_2
            try clear hcz106_3
            try clear hcz88_0
            try clear hcz88_1
            try clear hcz88_2
            try clear hcz88_3
            try clear hcz95_0
            try clear hcz95_1
            try clear hcz95_2
            try clear hcz95_3
            try clear hcz98_0
            try clear hcz98_1
            try clear hcz98_2
            try clear hcz98_3
            try clear hfz101_0
            try clear hfz101_1
            try clear hfz101_2
            try clear hfz101_3
            try clear hfz106_0
            try clear hfz106_1
            try clear hfz106_2
            try clear hfz106_3
            try clear hfz88_0
            try clear hfz88_1
            try clear hfz88_2
            try clear hfz88_3
            try clear hfz95_0
            try clear hfz95_1
            try clear hfz95_2
            try clear hfz95_3
            try clear hfz98_0
            try clear hfz98_1
            try clear hfz98_2
            try clear hfz98_3
            try clear p2
            obtain ⟨kq, HA, HJ110, HO_347003, HO_370003, BK346, BK369, HB⟩ := hcut
            cases kq with
            | zero => exact absurd HA.out (by simp [laws_FnTariffs.j5])
            | succ kj110 =>
             have H := HA.out
             clear HA
             simp only [laws_FnTariffs.j5] at H
             have HC113 := Aside0.mk H
             clear H
             go_upto_if 206 with (fail)
             go_cut [] (fun wc => ∃ (kq : Nat), Aside0 (laws_FnTariffs.j6 kq t348 t373 t374 t340 t341 t342 t343 = some r) ∧ Aside0 (kq ≤ kj110) ∧ Aside0 (Kd.S (Kd.slice 2 (Kd.int .i64)) 40 wc w.heap.size (fun k_ => some k_ ≠ ((.slice Ao39 t365.length co39) : Value).ownBlock) (.slice Ao21 t343.length co21) t343) ∧ Aside0 (Kd.S (Kd.slice 2 (Kd.int .i64)) 40 wc w.heap.size (fun k_ => some k_ ≠ ((.slice Ao21 t343.length co21) : Value).ownBlock) (.slice Ao39 t365.length co39) t365) ∧ Aside0 (wc.heap[gb346]? = some (.cells #[.string t340, .int .i64 t341, .int .i64 t342, (.slice Ao21 t343.length co21)] 26 (0, 0))) ∧ Aside0 (wc.heap[gb369]? = some (.cells #[.string t362, .int .i64 t363, .int .i64 t364, (.slice Ao39 t365.length co39)] 26 (0, 0))) ∧ Aside0 (Below w.heap.size w wc))
             case first =>
              as_aux_lemma =>
               have H := HC113.out
               clear HC113
               by_cases c114 : t374 = 1000000
               ·rw [if_pos c114] at H
                have c114b0 : (t374 == 1000000) = true := beq_iff_eq.mpr c114
                have c114b1 : (t374 != 1000000) = false := bne_eq_false_iff_eq.mpr c114
                clear c114
                (first | rw [c114b0] | (simp only [i64_w, i32_w]; rw [c114b0]) | skip)
                obtain rfl := Option.some.inj H
                all_goals try exact absurd hr_ Bool.false_ne_true
                all_goals go_wp2
                all_goals go_ret
                all_goals exact ⟨by first | rfl | (rw [Int.tdiv_eq_ediv_of_nonneg (by omega)]; rfl) | (simp [errW_none, errW_some] <;> rfl) | (simp [*, errW_none, errW_some] <;> rfl), by repeat (first | (with_reducible first | exact HB.out | apply below_alloc | apply pw_below_drewN | apply below_drew1 | refine below_set ?_ GE346.out | refine below_set ?_ GE369.out) | exact HB.out)⟩
               ·as_aux_lemma =>
                 rw [if_neg c114] at H
                 have c114b0 : (t374 == 1000000) = false := beq_eq_false_iff_ne.mpr c114
                 have c114b1 : (t374 != 1000000) = true := bne_iff_ne.mpr c114
                 (first | rw [c114b0] | (simp only [i64_w, i32_w]; rw [c114b0]) | skip)
                 have H' := Aside0.mk H
                 clear H
                 go_wp2
                 go_meet
                 case rel => exact ⟨_, H', ⟨by have := HJ3.out; have := HJ16.out; have := HJ81.out; have := HJ85.out; have := HJ103.out; have := HJ110.out; first | omega | exact Nat.le_refl _⟩, ⟨by (with_reducible repeat (first | apply Kd.S_alloc | apply Kd.S_drewN | apply Kd.S_drew)); exact HO_347003.out⟩, ⟨by (with_reducible repeat (first | apply Kd.S_alloc | apply Kd.S_drewN | apply Kd.S_drew)); exact HO_370003.out⟩, ⟨by (with_reducible repeat (first | refine blk_drewN ?_ _ | refine blk_drew ?_ | refine blk_alloc ?_ _)); exact BK346.out⟩, ⟨by (with_reducible repeat (first | refine blk_drewN ?_ _ | refine blk_drew ?_ | refine blk_alloc ?_ _)); exact BK369.out⟩, ⟨by repeat (first | (with_reducible first | exact HB.out | apply below_alloc | apply pw_below_drewN | apply below_drew1 | refine below_set ?_ GE346.out | refine below_set ?_ GE369.out) | exact HB.out)⟩⟩
             case rest =>
              clear HC113
              try clear c1
              try clear p2
              try clear c4
              try clear c6
              try clear c8
              try clear c9
              try clear c10
              try clear c11
              try clear c14
              try clear c15
              try clear c40
              try clear c40b0
              try clear c40b1
              try clear c83
              try clear c87
              try clear c90
              try clear c90b0
              try clear c90b1
              try clear c92
              try clear c92b0
              try clear c92b1
              try clear c93
              try clear c93b0
              try clear c93b1
              try clear c94
              try clear c97
              try clear c100
              try clear c105
              try clear c108
              try clear c108b0
              try clear c108b1
              try clear c109
              try clear c109b0
              try clear c110
              try clear c110b0
              try clear c112
              try clear c114
              try clear c114b0
              try clear c114b1
              try clear hcz101_0
              try clear hcz101_1
              try clear hcz101_2
              try clear hcz101_3
              try clear hcz106_0
              try clear hcz106_1
              try clear hcz106_2
              try clear hcz106_3
              try clear hcz88_0
              try clear hcz88_1
              try clear hcz88_2
              try clear hcz88_3
              try clear hcz95_0
              try clear hcz95_1
              try clear hcz95_2
              try clear hcz95_3
              try clear hcz98_0
              try clear hcz98_1
              try clear hcz98_2
              try clear hcz98_3
              try clear hfz101_0
              try clear hfz101_1
              try clear hfz101_2
              try clear hfz101_3
              try clear hfz106_0
              try clear hfz106_1
              try clear hfz106_2
              try clear hfz106_3
              try clear hfz88_0
              try clear hfz88_1
              try clear hfz88_2
              try clear hfz88_3
              try clear hfz95_0
              try clear hfz95_1
              try clear hfz95_2
              try clear hfz95_3
              try clear hfz98_0
              try clear hfz98_1
              try clear hfz98_2
              try clear hfz98_3
              try clear p2
              obtain ⟨kq, HA, HJ112, HO_347003, HO_370003, BK346, BK369, HB⟩ := hcut
              cases kq with
              | zero => exact absurd HA.out (by simp [laws_FnTariffs.j6])
              | succ kj112 =>
               have H := HA.out
               clear HA
               simp only [laws_FnTariffs.j6] at H
               replace H := Option.bind_eq_some_iff.mp H
               obtain ⟨⟨t380, t381⟩, A1150, H⟩ := H
               replace H : (if t381 = 0 then (some (decide (t380 > t373))) else (some false)) = some r := H
               have A115 := Aside0.mk A1150
               clear A1150
               by_cases c116 : t381 = 0
               ·rw [if_pos c116] at H
                have c116b0 : (t381 == 0) = true := beq_iff_eq.mpr c116
                have c116b1 : (t381 != 0) = false := bne_eq_false_iff_eq.mpr c116
                clear c116
                obtain rfl := Option.some.inj H
                all_goals try exact absurd hr_ Bool.false_ne_true
                all_goals have hnb117 := NB346_369.out
                all_goals have hnc117 := NB369_346.out
                all_goals have hcz118_0 : wc.cell? ⟨gb346, 0, none⟩ = some (.string t340) := (blk_cell BK346.out 0).trans rfl
                all_goals have hcz118_1 : wc.cell? ⟨gb346, 1, none⟩ = some (.int .i64 t341) := (blk_cell BK346.out 1).trans rfl
                all_goals have hcz118_2 : wc.cell? ⟨gb346, 2, none⟩ = some (.int .i64 t342) := (blk_cell BK346.out 2).trans rfl
                all_goals have hcz118_3 : wc.cell? ⟨gb346, 3, none⟩ = some (.slice Ao21 t343.length co21) := (blk_cell BK346.out 3).trans rfl
                all_goals have hfz118_0 := blk_frozen BK346.out 0
                all_goals have hfz118_1 := blk_frozen BK346.out 1
                all_goals have hfz118_2 := blk_frozen BK346.out 2
                all_goals have hfz118_3 := blk_frozen BK346.out 3
                all_goals go_wp2_with (first | ((with_reducible refine gate_callee (f := 15) rfl ?_); refine goesL_ (some 212) rfl rfl Tryd.func15 (by kernel_rfl) rfl #[.agg #[.string t340, .int .i64 t341, .int .i64 t342, .slice Ao21 t343.length co21], .int .i64 (wrap64 (t374 + 1)), .int .i64 t348] rfl (by (try simp only [List.map_toArray, List.map_cons, List.map_nil]); first | done | rfl | (simp only [List.length_drop, List.length_take]; rfl)) ?_; (with_reducible refine (spec_BillOf.calls kj112 t340 t341 t342 _ _ t343 (wrap64 (t374 + 1)) t348 t380 t381 _ ?side1 ?side2 A115.out).mono ?_); (case side1 => repeat (first | exact (Kd.S_reads' HO_347003.out).2.2 | (with_reducible refine Kd.C_alloc ?_ _) | (with_reducible refine Kd.C_drewN ?_ _) | (with_reducible refine Kd.C_drew ?_))); (case side2 => exact (Kd.S_reads' HO_347003.out).2.1); rintro e w119 ⟨rfl, hb⟩; refine ⟨_, rfl, ?_⟩; have n0_ := Aside0.mk (Kd.S_below (by (with_reducible repeat (first | apply Kd.S_alloc | apply Kd.S_drewN | apply Kd.S_drew)); exact HO_347003.out) hb); have n1_ := Aside0.mk (Kd.S_below (by (with_reducible repeat (first | apply Kd.S_alloc | apply Kd.S_drewN | apply Kd.S_drew)); exact HO_370003.out) hb); have n2_ := Aside0.mk (blk_below (g := gb346) (o := .cells #[.string t340, .int .i64 t341, .int .i64 t342, .slice Ao21 t343.length co21] 26 (0, 0)) (by (with_reducible repeat (first | refine blk_drewN ?_ _ | refine blk_drew ?_ | refine blk_alloc ?_ _)); exact BK346.out) hb); have n3_ := Aside0.mk (blk_below (g := gb369) (o := .cells #[.string t362, .int .i64 t363, .int .i64 t364, .slice Ao39 t365.length co39] 26 (0, 0)) (by (with_reducible repeat (first | refine blk_drewN ?_ _ | refine blk_drew ?_ | refine blk_alloc ?_ _)); exact BK369.out) hb); have n4_ := Aside0.mk (below_step (by repeat (first | (with_reducible first | exact HB.out | apply below_alloc | apply pw_below_drewN | apply below_drew1 | refine below_set ?_ GE346.out | refine below_set ?_ GE369.out) | exact HB.out)) hb); clear HO_347003; clear HO_370003; clear BK346; clear BK369; clear HB; have HO_347003 := n0_; have HO_370003 := n1_; have BK346 := n2_; have BK369 := n3_; have HB := n4_; clear n0_ n1_ n2_ n3_ n4_; (try clear hb); (try clear hb2); (try clear hk); (try clear hi)))
                all_goals go_ret
                all_goals exact ⟨by first | rfl | (rw [Int.tdiv_eq_ediv_of_nonneg (by omega)]; rfl) | (simp [errW_none, errW_some] <;> rfl) | (simp [*, errW_none, errW_some] <;> rfl), by repeat (first | (with_reducible first | exact HB.out | apply below_alloc | apply pw_below_drewN | apply below_drew1 | refine below_set ?_ GE346.out | refine below_set ?_ GE369.out) | exact HB.out)⟩
               ·rw [if_neg c116] at H
                have c116b0 : (t381 == 0) = false := beq_eq_false_iff_ne.mpr c116
                have c116b1 : (t381 != 0) = true := bne_iff_ne.mpr c116
                obtain rfl := Option.some.inj H
                all_goals try exact absurd hr_ Bool.false_ne_true
                all_goals have hnb120 := NB346_369.out
                all_goals have hnc120 := NB369_346.out
                all_goals have hcz121_0 : wc.cell? ⟨gb346, 0, none⟩ = some (.string t340) := (blk_cell BK346.out 0).trans rfl
                all_goals have hcz121_1 : wc.cell? ⟨gb346, 1, none⟩ = some (.int .i64 t341) := (blk_cell BK346.out 1).trans rfl
                all_goals have hcz121_2 : wc.cell? ⟨gb346, 2, none⟩ = some (.int .i64 t342) := (blk_cell BK346.out 2).trans rfl
                all_goals have hcz121_3 : wc.cell? ⟨gb346, 3, none⟩ = some (.slice Ao21 t343.length co21) := (blk_cell BK346.out 3).trans rfl
                all_goals have hfz121_0 := blk_frozen BK346.out 0
                all_goals have hfz121_1 := blk_frozen BK346.out 1
                all_goals have hfz121_2 := blk_frozen BK346.out 2
                all_goals have hfz121_3 := blk_frozen BK346.out 3
                all_goals go_wp2_with (first | ((with_reducible refine gate_callee (f := 15) rfl ?_); refine goesL_ (some 212) rfl rfl Tryd.func15 (by kernel_rfl) rfl #[.agg #[.string t340, .int .i64 t341, .int .i64 t342, .slice Ao21 t343.length co21], .int .i64 (wrap64 (t374 + 1)), .int .i64 t348] rfl (by (try simp only [List.map_toArray, List.map_cons, List.map_nil]); first | done | rfl | (simp only [List.length_drop, List.length_take]; rfl)) ?_; (with_reducible refine (spec_BillOf.calls kj112 t340 t341 t342 _ _ t343 (wrap64 (t374 + 1)) t348 t380 t381 _ ?side1 ?side2 A115.out).mono ?_); (case side1 => repeat (first | exact (Kd.S_reads' HO_347003.out).2.2 | (with_reducible refine Kd.C_alloc ?_ _) | (with_reducible refine Kd.C_drewN ?_ _) | (with_reducible refine Kd.C_drew ?_))); (case side2 => exact (Kd.S_reads' HO_347003.out).2.1); rintro e w122 ⟨rfl, hb⟩; refine ⟨_, rfl, ?_⟩; have n0_ := Aside0.mk (Kd.S_below (by (with_reducible repeat (first | apply Kd.S_alloc | apply Kd.S_drewN | apply Kd.S_drew)); exact HO_347003.out) hb); have n1_ := Aside0.mk (Kd.S_below (by (with_reducible repeat (first | apply Kd.S_alloc | apply Kd.S_drewN | apply Kd.S_drew)); exact HO_370003.out) hb); have n2_ := Aside0.mk (blk_below (g := gb346) (o := .cells #[.string t340, .int .i64 t341, .int .i64 t342, .slice Ao21 t343.length co21] 26 (0, 0)) (by (with_reducible repeat (first | refine blk_drewN ?_ _ | refine blk_drew ?_ | refine blk_alloc ?_ _)); exact BK346.out) hb); have n3_ := Aside0.mk (blk_below (g := gb369) (o := .cells #[.string t362, .int .i64 t363, .int .i64 t364, .slice Ao39 t365.length co39] 26 (0, 0)) (by (with_reducible repeat (first | refine blk_drewN ?_ _ | refine blk_drew ?_ | refine blk_alloc ?_ _)); exact BK369.out) hb); have n4_ := Aside0.mk (below_step (by repeat (first | (with_reducible first | exact HB.out | apply below_alloc | apply pw_below_drewN | apply below_drew1 | refine below_set ?_ GE346.out | refine below_set ?_ GE369.out) | exact HB.out)) hb); clear HO_347003; clear HO_370003; clear BK346; clear BK369; clear HB; have HO_347003 := n0_; have HO_370003 := n1_; have BK346 := n2_; have BK369 := n3_; have HB := n4_; clear n0_ n1_ n2_ n3_ n4_; (try clear hb); (try clear hb2); (try clear hk); (try clear hi)))
                all_goals go_ret
                all_goals exact ⟨by first | rfl | (rw [Int.tdiv_eq_ediv_of_nonneg (by omega)]; rfl) | (simp [errW_none, errW_some] <;> rfl) | (simp [*, errW_none, errW_some] <;> rfl), by repeat (first | (with_reducible first | exact HB.out | apply below_alloc | apply pw_below_drewN | apply below_drew1 | refine below_set ?_ GE346.out | refine below_set ?_ GE369.out) | exact HB.out)⟩

/-- THE ONE PURE STATEMENT of laws_FnTariffs: yours. -/
def laws_FnTariffs.Pure : Prop := ∀ (l0 : List Int) (l1 : List Int), l0.length ≤ maxLen → l0.length * 1 ≤ 140737488351232 → (∀ x ∈ l0, (Lit.int .u8 x).wf = true) → l1.length ≤ maxLen → l1.length * 1 ≤ 140737488351232 → (∀ x ∈ l1, (Lit.int .u8 x).wf = true) → ∃ k, laws_FnTariffs.f k l0 l1 = some true
theorem laws_FnTariffs.walk (P : laws_FnTariffs.Pure) (a0 : Option Addr) (len0 cap0 : Nat) (z0 : List Int) (a1 : Option Addr) (len1 cap1 : Nat) (z1 : List Int) (w : World) (w0 : (a0 = none ∧ len0 = 0 ∧ cap0 = 0 ∧ z0 = []) ∨ ∃ x, a0 = some x ∧ len0 ≤ cap0 ∧ cap0 ≤ maxLen ∧ z0.length = cap0 ∧ (∀ i, i < z0.length → w.cell? (x.add i) = some (.int .u8 (z0.getD i 0))) ∧ ∀ n ∈ z0, (Lit.int .u8 n).wf = true) (y0 : len0 * 1 ≤ 140737488351232) (w1 : (a1 = none ∧ len1 = 0 ∧ cap1 = 0 ∧ z1 = []) ∨ ∃ x, a1 = some x ∧ len1 ≤ cap1 ∧ cap1 ≤ maxLen ∧ z1.length = cap1 ∧ (∀ i, i < z1.length → w.cell? (x.add i) = some (.int .u8 (z1.getD i 0))) ∧ ∀ n ∈ z1, (Lit.int .u8 n).wf = true) (y1 : len1 * 1 ≤ 140737488351232) (hT_ : Tab_ w) :
  Calls Tryd.prog 3 #[.slice a0 len0 cap0, .slice a1 len1 cap1] w fun e w' => e = .returned (.bool true) ∧ Below w.heap.size w w' := by
 obtain ⟨l0, rfl, hr0, hm0, hw0, hc0⟩ := ReadsInt.ofRowC w0
 obtain ⟨l1, rfl, hr1, hm1, hw1, hc1⟩ := ReadsInt.ofRowC w1
 obtain ⟨k, h⟩ := P l0 l1 hm0 y0 hw0 hm1 y1 hw1
 refine (laws_FnTariffs.calls k _ _ l0 _ _ l1 true w (Kd.C_of_reads (d := (0 : Int)) (h1 := fun _ => rfl) hr0) hc0 (Kd.C_of_reads (d := (0 : Int)) (h1 := fun _ => rfl) hr1) hc1 h ?T_ rfl).mono ?_
 (case T_ => first | exact hT_ | exact tab_ hT_ HB.out)
 rintro e w' ⟨rfl, hd⟩
 exact ⟨rfl, hd⟩

end Go.Proofs.YtdhpmiocpjpabaaDoor.PFnTariffs
