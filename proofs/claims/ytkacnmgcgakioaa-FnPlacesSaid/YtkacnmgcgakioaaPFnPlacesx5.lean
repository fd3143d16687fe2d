-- written by wip/xprint.py, a program of this session, for this claim; not trusted: Lean checks it.
import Derived.Test.YtkacnmgcgakioaaPFnPlacesx0
import Derived.Test.YtkacnmgcgakioaaPFnPlacesx1
import Derived.Test.YtkacnmgcgakioaaPFnPlacesx2
import Derived.Test.YtkacnmgcgakioaaPFnPlacesx3
import Derived.Test.YtkacnmgcgakioaaPFnPlacesx4
namespace Go.Proofs.Ytkacnmgcgakioaa.PFnPlaces
open Go.RowKit Go.Proofs.YtkacnmgcgakioaaW.PrintWords Go.Proofs.YtkacnmgcgakioaaW.PrintLast Go.Proofs.YtkacnmgcgakioaaW.PrintMore
attribute [local go_sem] max2_int min2_int max_two min_two max_three min_three max_four min_four   -- for this text's walks alone
set_option linter.unusedVariables false
set_option linter.unusedSimpArgs false

/-! ### laws_FnPlaces: function 9 -/
mutual
def laws_FnPlaces.j0 : Nat → List Int → List Int → Int → Int → Bool → Option (Bool)
  | 0, _, _, _, _, _ => none
  | k + 1, x0, x1, x10, x11, x108 => if x108 = true then (some false) else (laws_FnPlaces.l0 k x0 x1 (([(([x10, x11] : List Int))] : List (List Int))) 0)
def laws_FnPlaces.l0 : Nat → List Int → List Int → List (List Int) → Int → Option (Bool)
  | 0, _, _, _, _ => none
  | k + 1, x0, x1, x16, x17 => (laws_r8At.f k x0 0 5).bind fun t157 => (if x17 < t157 then ((laws_r8Wide.f k x0 (wrap64 (1 + (wrap64 (4 * x17)))) 400).bind fun t158 => ((laws_r8Wide.f k x0 (wrap64 (3 + (wrap64 (4 * x17)))) 300).bind fun t159 => (if x16.length < 5864062014805 then (laws_FnPlaces.l0 k x0 x1 (x16 ++ [(([t158, wrap64 (t158 + t159)] : List Int))]) (wrap64 (x17 + 1))) else (none)))) else ((impl_MeetPlaces.f k x16).bind fun bt166 => ((impl_DigPlace.f k x16).bind fun bt169 => (if bt169.2.2 = 0 then (if bt169.2.1 < 1 then (laws_FnPlaces.j2 k x1 x16 bt166.1 bt166.2.1 bt166.2.2 bt169.1 bt169.2.1 true) else (if bt169.2.1 > (x16.length : Int) then (laws_FnPlaces.j2 k x1 x16 bt166.1 bt166.2.1 bt166.2.2 bt169.1 bt169.2.1 true) else (laws_FnPlaces.j2 k x1 x16 bt166.1 bt166.2.1 bt166.2.2 bt169.1 bt169.2.1 ((bt166.2.2 == 0) != (bt169.2.1 == (x16.length : Int)))))) else (laws_FnPlaces.j2 k x1 x16 bt166.1 bt166.2.1 bt166.2.2 bt169.1 bt169.2.1 true)))))
def laws_FnPlaces.j2 : Nat → List Int → List (List Int) → Int → Int → Int → Int → Int → Bool → Option (Bool)
  | 0, _, _, _, _, _, _, _, _ => none
  | k + 1, x1, x16, x19, x20, x21, x22, x23, x168 => if x168 = true then (some false) else (laws_FnPlaces.l1 k x1 x16 x19 x20 x21 x22 x23 0 0)
def laws_FnPlaces.l1 : Nat → List Int → List (List Int) → Int → Int → Int → Int → Int → Int → Int → Option (Bool)
  | 0, _, _, _, _, _, _, _, _, _ => none
  | k + 1, x1, x16, x19, x20, x21, x22, x23, x25, x26 => if x26 < (x16.length : Int) then (if 0 ≤ x26 then (if 0 < ((rd_L2 x16 x26).length : Int) then (if (rd (rd_L2 x16 x26) 0) ≤ x22 then (if 1 < ((rd_L2 x16 x26).length : Int) then (laws_FnPlaces.j4 k x1 x16 x19 x20 x21 x22 x23 x25 x26 (decide (x22 ≤ (rd (rd_L2 x16 x26) 1)))) else (none)) else (laws_FnPlaces.j4 k x1 x16 x19 x20 x21 x22 x23 x25 x26 false)) else (none)) else (none)) else (if x25 = x23 then ((laws_r8Wide.f k x1 6 400).bind fun t180 => ((impl_PressureTest.f k (([3, 20, 63] : List Int)) (([wrap64 (1000 * t180), wrap64 ((wrap64 (1000 * t180)) + 7), wrap64 (1000 * t180)] : List Int))).bind fun bt187 => ((impl_PressureTest.f k (([0, 60] : List Int)) (([wrap64 ((wrap64 (1000 * t180)) + 500), wrap64 (1000 * t180)] : List Int))).bind fun bt195 => (if bt187.2 = 0 then (if bt187.1 = 0 then (if bt195.2 = 0 then (some (bt195.1 == 500)) else (some false)) else (some false)) else (some false))))) else (some false))
def laws_FnPlaces.j4 : Nat → List Int → List (List Int) → Int → Int → Int → Int → Int → Int → Int → Bool → Option (Bool)
  | 0, _, _, _, _, _, _, _, _, _, _ => none
  | k + 1, x1, x16, x19, x20, x21, x22, x23, x25, x26, x192 => if x192 = true then (laws_FnPlaces.j5 k x1 x16 x19 x20 x21 x22 x23 (wrap64 (x25 + 1)) x26) else (laws_FnPlaces.j5 k x1 x16 x19 x20 x21 x22 x23 x25 x26)
def laws_FnPlaces.j5 : Nat → List Int → List (List Int) → Int → Int → Int → Int → Int → Int → Int → Option (Bool)
  | 0, _, _, _, _, _, _, _, _, _ => none
  | k + 1, x1, x16, x19, x20, x21, x22, x23, x25, x26 => if x21 = 0 then (if 0 ≤ x26 then (if x26 < (x16.length : Int) then (if 0 < ((rd_L2 x16 x26).length : Int) then (if x19 < (rd (rd_L2 x16 x26) 0) then (laws_FnPlaces.j6 k x1 x16 x19 x20 x21 x22 x23 x25 x26 true) else (if 1 < ((rd_L2 x16 x26).length : Int) then (laws_FnPlaces.j6 k x1 x16 x19 x20 x21 x22 x23 x25 x26 (decide (x20 > (rd (rd_L2 x16 x26) 1)))) else (none))) else (none)) else (none)) else (none)) else (laws_FnPlaces.j6 k x1 x16 x19 x20 x21 x22 x23 x25 x26 false)
def laws_FnPlaces.j6 : Nat → List Int → List (List Int) → Int → Int → Int → Int → Int → Int → Int → Bool → Option (Bool)
  | 0, _, _, _, _, _, _, _, _, _, _ => none
  | k + 1, x1, x16, x19, x20, x21, x22, x23, x25, x26, x216 => if x216 = true then (some false) else (laws_FnPlaces.l1 k x1 x16 x19 x20 x21 x22 x23 x25 (wrap64 (x26 + 1)))
end
def laws_FnPlaces.f (k : Nat) (l0 : List Int) (l1 : List Int) : Option (Bool) := (laws_r8Long.f l0 l1).bind fun t141 => (if t141 = true then (some true) else ((laws_r8Wide.f k l1 0 900).bind fun t142 => ((laws_r8Wide.f k l1 2 500).bind fun t143 => ((laws_r8Wide.f k l1 4 900).bind fun t144 => (if (wrap64 ((wrap64 (50 + t142)) + 1)) = 0 then (none) else (if (wrap64 (900 + t143)) = 0 then (none) else ((impl_PlaceOf.f k (wrap64 (50 + t142)) (wrap64 (900 + t143)) (wrap64 (Int.tdiv (wrap64 ((Int.tmod t144 (wrap64 ((wrap64 (50 + t142)) + 1))) * 1000)) (wrap64 (900 + t143)))) (wrap64 (Int.tdiv (wrap64 ((wrap64 ((wrap64 (50 + t142)) - (Int.tmod t144 (wrap64 ((wrap64 (50 + t142)) + 1))))) * 1000)) (wrap64 (900 + t143)))) 1).bind fun bt145 => ((impl_PlaceOf.f k (wrap64 (50 + t142)) (wrap64 (900 + t143)) (wrap64 (Int.tdiv (wrap64 ((Int.tmod t144 (wrap64 ((wrap64 (50 + t142)) + 1))) * 1000)) (wrap64 (900 + t143)))) (wrap64 (Int.tdiv (wrap64 ((wrap64 ((wrap64 (50 + t142)) - (Int.tmod t144 (wrap64 ((wrap64 (50 + t142)) + 1))))) * 1000)) (wrap64 (900 + t143)))) 40).bind fun bt148 => (if bt145.2.2 = 0 then (if bt145.1 > (Int.tmod t144 (wrap64 ((wrap64 (50 + t142)) + 1))) then (laws_FnPlaces.j0 k l0 l1 bt145.1 bt145.2.1 true) else (if bt145.2.1 < (Int.tmod t144 (wrap64 ((wrap64 (50 + t142)) + 1))) then (laws_FnPlaces.j0 k l0 l1 bt145.1 bt145.2.1 true) else (if bt145.1 < 0 then (laws_FnPlaces.j0 k l0 l1 bt145.1 bt145.2.1 true) else (if bt145.2.1 > (wrap64 (50 + t142)) then (laws_FnPlaces.j0 k l0 l1 bt145.1 bt145.2.1 true) else (if bt148.2.2 = 0 then (if bt148.1 > bt145.1 then (laws_FnPlaces.j0 k l0 l1 bt145.1 bt145.2.1 true) else (laws_FnPlaces.j0 k l0 l1 bt145.1 bt145.2.1 (decide (bt148.2.1 < bt145.2.1)))) else (laws_FnPlaces.j0 k l0 l1 bt145.1 bt145.2.1 true)))))) else (laws_FnPlaces.j0 k l0 l1 bt145.1 bt145.2.1 true))))))))))
theorem laws_FnPlaces.mono_l : ∀ k, (∀ y0 y1 y2 y3 y4, LeO (laws_FnPlaces.j0 k y0 y1 y2 y3 y4) (laws_FnPlaces.j0 (k + 1) y0 y1 y2 y3 y4)) ∧ (∀ y0 y1 y2 y3, LeO (laws_FnPlaces.l0 k y0 y1 y2 y3) (laws_FnPlaces.l0 (k + 1) y0 y1 y2 y3)) ∧ (∀ y0 y1 y2 y3 y4 y5 y6 y7, LeO (laws_FnPlaces.j2 k y0 y1 y2 y3 y4 y5 y6 y7) (laws_FnPlaces.j2 (k + 1) y0 y1 y2 y3 y4 y5 y6 y7)) ∧ (∀ y0 y1 y2 y3 y4 y5 y6 y7 y8, LeO (laws_FnPlaces.l1 k y0 y1 y2 y3 y4 y5 y6 y7 y8) (laws_FnPlaces.l1 (k + 1) y0 y1 y2 y3 y4 y5 y6 y7 y8)) ∧ (∀ y0 y1 y2 y3 y4 y5 y6 y7 y8 y9, LeO (laws_FnPlaces.j4 k y0 y1 y2 y3 y4 y5 y6 y7 y8 y9) (laws_FnPlaces.j4 (k + 1) y0 y1 y2 y3 y4 y5 y6 y7 y8 y9)) ∧ (∀ y0 y1 y2 y3 y4 y5 y6 y7 y8, LeO (laws_FnPlaces.j5 k y0 y1 y2 y3 y4 y5 y6 y7 y8) (laws_FnPlaces.j5 (k + 1) y0 y1 y2 y3 y4 y5 y6 y7 y8)) ∧ (∀ y0 y1 y2 y3 y4 y5 y6 y7 y8 y9, LeO (laws_FnPlaces.j6 k y0 y1 y2 y3 y4 y5 y6 y7 y8 y9) (laws_FnPlaces.j6 (k + 1) y0 y1 y2 y3 y4 y5 y6 y7 y8 y9))
  | 0 => ⟨fun _ _ _ _ _ r h => by simp [laws_FnPlaces.j0] at h, fun _ _ _ _ r h => by simp [laws_FnPlaces.l0] at h, fun _ _ _ _ _ _ _ _ r h => by simp [laws_FnPlaces.j2] at h, fun _ _ _ _ _ _ _ _ _ r h => by simp [laws_FnPlaces.l1] at h, fun _ _ _ _ _ _ _ _ _ _ r h => by simp [laws_FnPlaces.j4] at h, fun _ _ _ _ _ _ _ _ _ r h => by simp [laws_FnPlaces.j5] at h, fun _ _ _ _ _ _ _ _ _ _ r h => by simp [laws_FnPlaces.j6] at h⟩
  | k + 1 => by
    obtain ⟨ih0, ih1, ih2, ih3, ih4, ih5, ih6⟩ := laws_FnPlaces.mono_l k
    refine ⟨?_, ?_, ?_, ?_, ?_, ?_, ?_⟩
    · intro y0 y1 y2 y3 y4
      unfold laws_FnPlaces.j0
      repeat' first
      | (with_reducible exact ih0 _ _ _ _ _)
      | (with_reducible exact ih1 _ _ _ _)
      | (with_reducible exact ih2 _ _ _ _ _ _ _ _)
      | (with_reducible exact ih3 _ _ _ _ _ _ _ _ _)
      | (with_reducible exact ih4 _ _ _ _ _ _ _ _ _ _)
      | (with_reducible exact ih5 _ _ _ _ _ _ _ _ _)
      | (with_reducible exact ih6 _ _ _ _ _ _ _ _ _ _)
      | (with_reducible exact impl_DigPlace.mono _ _)
      | (with_reducible exact impl_MeetPlaces.mono _ _)
      | (with_reducible exact impl_PlaceOf.mono _ _ _ _ _ _)
      | (with_reducible exact impl_PressureTest.mono _ _ _)
      | (with_reducible exact laws_r8At.mono _ _ _ _)
      | (with_reducible exact laws_r8Wide.mono _ _ _ _)
      | (with_reducible exact LeO.refl _)
      | (with_reducible exact LeO.none _)
      | (with_reducible refine LeO.ite ?_ ?_)
      | (with_reducible refine LeO.bind ?_ (fun _ => ?_))
      | exact ih0 _ _ _ _ _
      | exact ih1 _ _ _ _
      | exact ih2 _ _ _ _ _ _ _ _
      | exact ih3 _ _ _ _ _ _ _ _ _
      | exact ih4 _ _ _ _ _ _ _ _ _ _
      | exact ih5 _ _ _ _ _ _ _ _ _
      | exact ih6 _ _ _ _ _ _ _ _ _ _
      | exact impl_DigPlace.mono _ _
      | exact impl_MeetPlaces.mono _ _
      | exact impl_PlaceOf.mono _ _ _ _ _ _
      | exact impl_PressureTest.mono _ _ _
      | exact laws_r8At.mono _ _ _ _
      | exact laws_r8Wide.mono _ _ _ _
      | exact LeO.none _
      | refine LeO.ite ?_ ?_
      | refine LeO.bind ?_ (fun _ => ?_)
    · intro y0 y1 y2 y3
      unfold laws_FnPlaces.l0
      repeat' first
      | (with_reducible exact ih0 _ _ _ _ _)
      | (with_reducible exact ih1 _ _ _ _)
      | (with_reducible exact ih2 _ _ _ _ _ _ _ _)
      | (with_reducible exact ih3 _ _ _ _ _ _ _ _ _)
      | (with_reducible exact ih4 _ _ _ _ _ _ _ _ _ _)
      | (with_reducible exact ih5 _ _ _ _ _ _ _ _ _)
      | (with_reducible exact ih6 _ _ _ _ _ _ _ _ _ _)
      | (with_reducible exact impl_DigPlace.mono _ _)
      | (with_reducible exact impl_MeetPlaces.mono _ _)
      | (with_reducible exact impl_PlaceOf.mono _ _ _ _ _ _)
      | (with_reducible exact impl_PressureTest.mono _ _ _)
      | (with_reducible exact laws_r8At.mono _ _ _ _)
      | (with_reducible exact laws_r8Wide.mono _ _ _ _)
      | (with_reducible exact LeO.refl _)
      | (with_reducible exact LeO.none _)
      | (with_reducible refine LeO.ite ?_ ?_)
      | (with_reducible refine LeO.bind ?_ (fun _ => ?_))
      | exact ih0 _ _ _ _ _
      | exact ih1 _ _ _ _
      | exact ih2 _ _ _ _ _ _ _ _
      | exact ih3 _ _ _ _ _ _ _ _ _
      | exact ih4 _ _ _ _ _ _ _ _ _ _
      | exact ih5 _ _ _ _ _ _ _ _ _
      | exact ih6 _ _ _ _ _ _ _ _ _ _
      | exact impl_DigPlace.mono _ _
      | exact impl_MeetPlaces.mono _ _
      | exact impl_PlaceOf.mono _ _ _ _ _ _
      | exact impl_PressureTest.mono _ _ _
      | exact laws_r8At.mono _ _ _ _
      | exact laws_r8Wide.mono _ _ _ _
      | exact LeO.none _
      | refine LeO.ite ?_ ?_
      | refine LeO.bind ?_ (fun _ => ?_)
    · intro y0 y1 y2 y3 y4 y5 y6 y7
      unfold laws_FnPlaces.j2
      repeat' first
      | (with_reducible exact ih0 _ _ _ _ _)
      | (with_reducible exact ih1 _ _ _ _)
      | (with_reducible exact ih2 _ _ _ _ _ _ _ _)
      | (with_reducible exact ih3 _ _ _ _ _ _ _ _ _)
      | (with_reducible exact ih4 _ _ _ _ _ _ _ _ _ _)
      | (with_reducible exact ih5 _ _ _ _ _ _ _ _ _)
      | (with_reducible exact ih6 _ _ _ _ _ _ _ _ _ _)
      | (with_reducible exact impl_DigPlace.mono _ _)
      | (with_reducible exact impl_MeetPlaces.mono _ _)
      | (with_reducible exact impl_PlaceOf.mono _ _ _ _ _ _)
      | (with_reducible exact impl_PressureTest.mono _ _ _)
      | (with_reducible exact laws_r8At.mono _ _ _ _)
      | (with_reducible exact laws_r8Wide.mono _ _ _ _)
      | (with_reducible exact LeO.refl _)
      | (with_reducible exact LeO.none _)
      | (with_reducible refine LeO.ite ?_ ?_)
      | (with_reducible refine LeO.bind ?_ (fun _ => ?_))
      | exact ih0 _ _ _ _ _
      | exact ih1 _ _ _ _
      | exact ih2 _ _ _ _ _ _ _ _
      | exact ih3 _ _ _ _ _ _ _ _ _
      | exact ih4 _ _ _ _ _ _ _ _ _ _
      | exact ih5 _ _ _ _ _ _ _ _ _
      | exact ih6 _ _ _ _ _ _ _ _ _ _
      | exact impl_DigPlace.mono _ _
      | exact impl_MeetPlaces.mono _ _
      | exact impl_PlaceOf.mono _ _ _ _ _ _
      | exact impl_PressureTest.mono _ _ _
      | exact laws_r8At.mono _ _ _ _
      | exact laws_r8Wide.mono _ _ _ _
      | exact LeO.none _
      | refine LeO.ite ?_ ?_
      | refine LeO.bind ?_ (fun _ => ?_)
    · intro y0 y1 y2 y3 y4 y5 y6 y7 y8
      unfold laws_FnPlaces.l1
      repeat' first
      | (with_reducible exact ih0 _ _ _ _ _)
      | (with_reducible exact ih1 _ _ _ _)
      | (with_reducible exact ih2 _ _ _ _ _ _ _ _)
      | (with_reducible exact ih3 _ _ _ _ _ _ _ _ _)
      | (with_reducible exact ih4 _ _ _ _ _ _ _ _ _ _)
      | (with_reducible exact ih5 _ _ _ _ _ _ _ _ _)
      | (with_reducible exact ih6 _ _ _ _ _ _ _ _ _ _)
      | (with_reducible exact impl_DigPlace.mono _ _)
      | (with_reducible exact impl_MeetPlaces.mono _ _)
      | (with_reducible exact impl_PlaceOf.mono _ _ _ _ _ _)
      | (with_reducible exact impl_PressureTest.mono _ _ _)
      | (with_reducible exact laws_r8At.mono _ _ _ _)
      | (with_reducible exact laws_r8Wide.mono _ _ _ _)
      | (with_reducible exact LeO.refl _)
      | (with_reducible exact LeO.none _)
      | (with_reducible refine LeO.ite ?_ ?_)
      | (with_reducible refine LeO.bind ?_ (fun _ => ?_))
      | exact ih0 _ _ _ _ _
      | exact ih1 _ _ _ _
      | exact ih2 _ _ _ _ _ _ _ _
      | exact ih3 _ _ _ _ _ _ _ _ _
      | exact ih4 _ _ _ _ _ _ _ _ _ _
      | exact ih5 _ _ _ _ _ _ _ _ _
      | exact ih6 _ _ _ _ _ _ _ _ _ _
      | exact impl_DigPlace.mono _ _
      | exact impl_MeetPlaces.mono _ _
      | exact impl_PlaceOf.mono _ _ _ _ _ _
      | exact impl_PressureTest.mono _ _ _
      | exact laws_r8At.mono _ _ _ _
      | exact laws_r8Wide.mono _ _ _ _
      | exact LeO.none _
      | refine LeO.ite ?_ ?_
      | refine LeO.bind ?_ (fun _ => ?_)
    · intro y0 y1 y2 y3 y4 y5 y6 y7 y8 y9
      unfold laws_FnPlaces.j4
      repeat' first
      | (with_reducible exact ih0 _ _ _ _ _)
      | (with_reducible exact ih1 _ _ _ _)
      | (with_reducible exact ih2 _ _ _ _ _ _ _ _)
      | (with_reducible exact ih3 _ _ _ _ _ _ _ _ _)
      | (with_reducible exact ih4 _ _ _ _ _ _ _ _ _ _)
      | (with_reducible exact ih5 _ _ _ _ _ _ _ _ _)
      | (with_reducible exact ih6 _ _ _ _ _ _ _ _ _ _)
      | (with_reducible exact impl_DigPlace.mono _ _)
      | (with_reducible exact impl_MeetPlaces.mono _ _)
      | (with_reducible exact impl_PlaceOf.mono _ _ _ _ _ _)
      | (with_reducible exact impl_PressureTest.mono _ _ _)
      | (with_reducible exact laws_r8At.mono _ _ _ _)
      | (with_reducible exact laws_r8Wide.mono _ _ _ _)
      | (with_reducible exact LeO.refl _)
      | (with_reducible exact LeO.none _)
      | (with_reducible refine LeO.ite ?_ ?_)
      | (with_reducible refine LeO.bind ?_ (fun _ => ?_))
      | exact ih0 _ _ _ _ _
      | exact ih1 _ _ _ _
      | exact ih2 _ _ _ _ _ _ _ _
      | exact ih3 _ _ _ _ _ _ _ _ _
      | exact ih4 _ _ _ _ _ _ _ _ _ _
      | exact ih5 _ _ _ _ _ _ _ _ _
      | exact ih6 _ _ _ _ _ _ _ _ _ _
      | exact impl_DigPlace.mono _ _
      | exact impl_MeetPlaces.mono _ _
      | exact impl_PlaceOf.mono _ _ _ _ _ _
      | exact impl_PressureTest.mono _ _ _
      | exact laws_r8At.mono _ _ _ _
      | exact laws_r8Wide.mono _ _ _ _
      | exact LeO.none _
      | refine LeO.ite ?_ ?_
      | refine LeO.bind ?_ (fun _ => ?_)
    · intro y0 y1 y2 y3 y4 y5 y6 y7 y8
      unfold laws_FnPlaces.j5
      repeat' first
      | (with_reducible exact ih0 _ _ _ _ _)
      | (with_reducible exact ih1 _ _ _ _)
      | (with_reducible exact ih2 _ _ _ _ _ _ _ _)
      | (with_reducible exact ih3 _ _ _ _ _ _ _ _ _)
      | (with_reducible exact ih4 _ _ _ _ _ _ _ _ _ _)
      | (with_reducible exact ih5 _ _ _ _ _ _ _ _ _)
      | (with_reducible exact ih6 _ _ _ _ _ _ _ _ _ _)
      | (with_reducible exact impl_DigPlace.mono _ _)
      | (with_reducible exact impl_MeetPlaces.mono _ _)
      | (with_reducible exact impl_PlaceOf.mono _ _ _ _ _ _)
      | (with_reducible exact impl_PressureTest.mono _ _ _)
      | (with_reducible exact laws_r8At.mono _ _ _ _)
      | (with_reducible exact laws_r8Wide.mono _ _ _ _)
      | (with_reducible exact LeO.refl _)
      | (with_reducible exact LeO.none _)
      | (with_reducible refine LeO.ite ?_ ?_)
      | (with_reducible refine LeO.bind ?_ (fun _ => ?_))
      | exact ih0 _ _ _ _ _
      | exact ih1 _ _ _ _
      | exact ih2 _ _ _ _ _ _ _ _
      | exact ih3 _ _ _ _ _ _ _ _ _
      | exact ih4 _ _ _ _ _ _ _ _ _ _
      | exact ih5 _ _ _ _ _ _ _ _ _
      | exact ih6 _ _ _ _ _ _ _ _ _ _
      | exact impl_DigPlace.mono _ _
      | exact impl_MeetPlaces.mono _ _
      | exact impl_PlaceOf.mono _ _ _ _ _ _
      | exact impl_PressureTest.mono _ _ _
      | exact laws_r8At.mono _ _ _ _
      | exact laws_r8Wide.mono _ _ _ _
      | exact LeO.none _
      | refine LeO.ite ?_ ?_
      | refine LeO.bind ?_ (fun _ => ?_)
    · intro y0 y1 y2 y3 y4 y5 y6 y7 y8 y9
      unfold laws_FnPlaces.j6
      repeat' first
      | (with_reducible exact ih0 _ _ _ _ _)
      | (with_reducible exact ih1 _ _ _ _)
      | (with_reducible exact ih2 _ _ _ _ _ _ _ _)
      | (with_reducible exact ih3 _ _ _ _ _ _ _ _ _)
      | (with_reducible exact ih4 _ _ _ _ _ _ _ _ _ _)
      | (with_reducible exact ih5 _ _ _ _ _ _ _ _ _)
      | (with_reducible exact ih6 _ _ _ _ _ _ _ _ _ _)
      | (with_reducible exact impl_DigPlace.mono _ _)
      | (with_reducible exact impl_MeetPlaces.mono _ _)
      | (with_reducible exact impl_PlaceOf.mono _ _ _ _ _ _)
      | (with_reducible exact impl_PressureTest.mono _ _ _)
      | (with_reducible exact laws_r8At.mono _ _ _ _)
      | (with_reducible exact laws_r8Wide.mono _ _ _ _)
      | (with_reducible exact LeO.refl _)
      | (with_reducible exact LeO.none _)
      | (with_reducible refine LeO.ite ?_ ?_)
      | (with_reducible refine LeO.bind ?_ (fun _ => ?_))
      | exact ih0 _ _ _ _ _
      | exact ih1 _ _ _ _
      | exact ih2 _ _ _ _ _ _ _ _
      | exact ih3 _ _ _ _ _ _ _ _ _
      | exact ih4 _ _ _ _ _ _ _ _ _ _
      | exact ih5 _ _ _ _ _ _ _ _ _
      | exact ih6 _ _ _ _ _ _ _ _ _ _
      | exact impl_DigPlace.mono _ _
      | exact impl_MeetPlaces.mono _ _
      | exact impl_PlaceOf.mono _ _ _ _ _ _
      | exact impl_PressureTest.mono _ _ _
      | exact laws_r8At.mono _ _ _ _
      | exact laws_r8Wide.mono _ _ _ _
      | exact LeO.none _
      | refine LeO.ite ?_ ?_
      | refine LeO.bind ?_ (fun _ => ?_)
theorem laws_FnPlaces.mono : ∀ a0 a1 k, LeO (laws_FnPlaces.f k a0 a1) (laws_FnPlaces.f (k + 1) a0 a1) := by
  intro a0 a1 k
  obtain ⟨ih0, ih1, ih2, ih3, ih4, ih5, ih6⟩ := laws_FnPlaces.mono_l k
  unfold laws_FnPlaces.f
  repeat' first
      | (with_reducible exact ih0 _ _ _ _ _)
      | (with_reducible exact ih1 _ _ _ _)
      | (with_reducible exact ih2 _ _ _ _ _ _ _ _)
      | (with_reducible exact ih3 _ _ _ _ _ _ _ _ _)
      | (with_reducible exact ih4 _ _ _ _ _ _ _ _ _ _)
      | (with_reducible exact ih5 _ _ _ _ _ _ _ _ _)
      | (with_reducible exact ih6 _ _ _ _ _ _ _ _ _ _)
      | (with_reducible exact impl_DigPlace.mono _ _)
      | (with_reducible exact impl_MeetPlaces.mono _ _)
      | (with_reducible exact impl_PlaceOf.mono _ _ _ _ _ _)
      | (with_reducible exact impl_PressureTest.mono _ _ _)
      | (with_reducible exact laws_r8At.mono _ _ _ _)
      | (with_reducible exact laws_r8Wide.mono _ _ _ _)
      | (with_reducible exact LeO.refl _)
      | (with_reducible exact LeO.none _)
      | (with_reducible refine LeO.ite ?_ ?_)
      | (with_reducible refine LeO.bind ?_ (fun _ => ?_))
      | exact ih0 _ _ _ _ _
      | exact ih1 _ _ _ _
      | exact ih2 _ _ _ _ _ _ _ _
      | exact ih3 _ _ _ _ _ _ _ _ _
      | exact ih4 _ _ _ _ _ _ _ _ _ _
      | exact ih5 _ _ _ _ _ _ _ _ _
      | exact ih6 _ _ _ _ _ _ _ _ _ _
      | exact impl_DigPlace.mono _ _
      | exact impl_MeetPlaces.mono _ _
      | exact impl_PlaceOf.mono _ _ _ _ _ _
      | exact impl_PressureTest.mono _ _ _
      | exact laws_r8At.mono _ _ _ _
      | exact laws_r8Wide.mono _ _ _ _
      | exact LeO.none _
      | refine LeO.ite ?_ ?_
      | refine LeO.bind ?_ (fun _ => ?_)
set_option maxHeartbeats 8000000 in
set_option maxRecDepth 100000 in
theorem laws_FnPlaces.calls (k : Nat) (A0 : Option Addr) (c0 : Nat) (l0 : List Int) (A1 : Option Addr) (c1 : Nat) (l1 : List Int) (r : Bool) (w : World) (hr0 : Kd.C (Kd.int .u8) w A0 l0.length l0) (hc0 : l0.length ≤ c0) (hr1 : Kd.C (Kd.int .u8) w A1 l1.length l1) (hc1 : l1.length ≤ c1) (h : laws_FnPlaces.f k l0 l1 = some r) :
    Calls Try.prog 9 #[.slice A0 l0.length c0, .slice A1 l1.length c1] w fun e w' => e = .returned (.bool r) ∧ Below w.heap.size w w' := by
  have HR0 := Aside0.mk hr0
  have HC0 := Aside0.mk hc0
  clear hr0 hc0
  have HR1 := Aside0.mk hr1
  have HC1 := Aside0.mk hc1
  clear hr1 hc1
  have HB := Aside0.mk (Below.refl w.heap.size w)
  have H : ((laws_r8Long.f l0 l1).bind fun t141 => (if t141 = true then (some true) else ((laws_r8Wide.f k l1 0 900).bind fun t142 => ((laws_r8Wide.f k l1 2 500).bind fun t143 => ((laws_r8Wide.f k l1 4 900).bind fun t144 => (if (wrap64 ((wrap64 (50 + t142)) + 1)) = 0 then (none) else (if (wrap64 (900 + t143)) = 0 then (none) else ((impl_PlaceOf.f k (wrap64 (50 + t142)) (wrap64 (900 + t143)) (wrap64 (Int.tdiv (wrap64 ((Int.tmod t144 (wrap64 ((wrap64 (50 + t142)) + 1))) * 1000)) (wrap64 (900 + t143)))) (wrap64 (Int.tdiv (wrap64 ((wrap64 ((wrap64 (50 + t142)) - (Int.tmod t144 (wrap64 ((wrap64 (50 + t142)) + 1))))) * 1000)) (wrap64 (900 + t143)))) 1).bind fun bt145 => ((impl_PlaceOf.f k (wrap64 (50 + t142)) (wrap64 (900 + t143)) (wrap64 (Int.tdiv (wrap64 ((Int.tmod t144 (wrap64 ((wrap64 (50 + t142)) + 1))) * 1000)) (wrap64 (900 + t143)))) (wrap64 (Int.tdiv (wrap64 ((wrap64 ((wrap64 (50 + t142)) - (Int.tmod t144 (wrap64 ((wrap64 (50 + t142)) + 1))))) * 1000)) (wrap64 (900 + t143)))) 40).bind fun bt148 => (if bt145.2.2 = 0 then (if bt145.1 > (Int.tmod t144 (wrap64 ((wrap64 (50 + t142)) + 1))) then (laws_FnPlaces.j0 k l0 l1 bt145.1 bt145.2.1 true) else (if bt145.2.1 < (Int.tmod t144 (wrap64 ((wrap64 (50 + t142)) + 1))) then (laws_FnPlaces.j0 k l0 l1 bt145.1 bt145.2.1 true) else (if bt145.1 < 0 then (laws_FnPlaces.j0 k l0 l1 bt145.1 bt145.2.1 true) else (if bt145.2.1 > (wrap64 (50 + t142)) then (laws_FnPlaces.j0 k l0 l1 bt145.1 bt145.2.1 true) else (if bt148.2.2 = 0 then (if bt148.1 > bt145.1 then (laws_FnPlaces.j0 k l0 l1 bt145.1 bt145.2.1 true) else (laws_FnPlaces.j0 k l0 l1 bt145.1 bt145.2.1 (decide (bt148.2.1 < bt145.2.1)))) else (laws_FnPlaces.j0 k l0 l1 bt145.1 bt145.2.1 true)))))) else (laws_FnPlaces.j0 k l0 l1 bt145.1 bt145.2.1 true))))))))))) = some r := h
  clear h
  replace H := Option.bind_eq_some_iff.mp H
  obtain ⟨t141, A30, H⟩ := H
  replace H : (if t141 = true then (some true) else ((laws_r8Wide.f k l1 0 900).bind fun t142 => ((laws_r8Wide.f k l1 2 500).bind fun t143 => ((laws_r8Wide.f k l1 4 900).bind fun t144 => (if (wrap64 ((wrap64 (50 + t142)) + 1)) = 0 then (none) else (if (wrap64 (900 + t143)) = 0 then (none) else ((impl_PlaceOf.f k (wrap64 (50 + t142)) (wrap64 (900 + t143)) (wrap64 (Int.tdiv (wrap64 ((Int.tmod t144 (wrap64 ((wrap64 (50 + t142)) + 1))) * 1000)) (wrap64 (900 + t143)))) (wrap64 (Int.tdiv (wrap64 ((wrap64 ((wrap64 (50 + t142)) - (Int.tmod t144 (wrap64 ((wrap64 (50 + t142)) + 1))))) * 1000)) (wrap64 (900 + t143)))) 1).bind fun bt145 => ((impl_PlaceOf.f k (wrap64 (50 + t142)) (wrap64 (900 + t143)) (wrap64 (Int.tdiv (wrap64 ((Int.tmod t144 (wrap64 ((wrap64 (50 + t142)) + 1))) * 1000)) (wrap64 (900 + t143)))) (wrap64 (Int.tdiv (wrap64 ((wrap64 ((wrap64 (50 + t142)) - (Int.tmod t144 (wrap64 ((wrap64 (50 + t142)) + 1))))) * 1000)) (wrap64 (900 + t143)))) 40).bind fun bt148 => (if bt145.2.2 = 0 then (if bt145.1 > (Int.tmod t144 (wrap64 ((wrap64 (50 + t142)) + 1))) then (laws_FnPlaces.j0 k l0 l1 bt145.1 bt145.2.1 true) else (if bt145.2.1 < (Int.tmod t144 (wrap64 ((wrap64 (50 + t142)) + 1))) then (laws_FnPlaces.j0 k l0 l1 bt145.1 bt145.2.1 true) else (if bt145.1 < 0 then (laws_FnPlaces.j0 k l0 l1 bt145.1 bt145.2.1 true) else (if bt145.2.1 > (wrap64 (50 + t142)) then (laws_FnPlaces.j0 k l0 l1 bt145.1 bt145.2.1 true) else (if bt148.2.2 = 0 then (if bt148.1 > bt145.1 then (laws_FnPlaces.j0 k l0 l1 bt145.1 bt145.2.1 true) else (laws_FnPlaces.j0 k l0 l1 bt145.1 bt145.2.1 (decide (bt148.2.1 < bt145.2.1)))) else (laws_FnPlaces.j0 k l0 l1 bt145.1 bt145.2.1 true)))))) else (laws_FnPlaces.j0 k l0 l1 bt145.1 bt145.2.1 true)))))))))) = some r := H
  have A3 := Aside0.mk A30
  clear A30
  by_cases c4 : t141 = true
  · subst c4
    have H1 : (some true) = some r := by rw [if_pos rfl] at H; exact H
    clear H
    have H := H1
    clear H1
    obtain rfl := Option.some.inj H
    go_enter Try.func9, Try.ntmps9
    go_wp2_with (first | ((with_reducible refine gate_callee (f := 33) rfl ?_); refine goesL_ (some 34) rfl rfl Try.func33 (by kernel_rfl) rfl #[.slice A0 l0.length c0, .slice A1 l1.length c1] rfl (by (try simp only [List.map_toArray, List.map_cons, List.map_nil]); first | done | rfl | (simp only [List.length_drop, List.length_take]; rfl)) ?_; (with_reducible refine (laws_r8Long.calls _ _ l0 _ _ l1 true _ ?side1 ?side2 ?side3 ?side4 A3.out).mono ?_); (case side1 => repeat (first | exact HR0.out | (with_reducible refine Kd.C_alloc ?_ _) | (with_reducible refine Kd.C_drewN ?_ _) | (with_reducible refine Kd.C_drew ?_))); (case side2 => exact HC0.out); (case side3 => repeat (first | exact HR1.out | (with_reducible refine Kd.C_alloc ?_ _) | (with_reducible refine Kd.C_drewN ?_ _) | (with_reducible refine Kd.C_drew ?_))); (case side4 => exact HC1.out); rintro e w' ⟨rfl, ⟨nd, rfl⟩⟩; refine ⟨_, rfl, ?_⟩))
    go_ret
    exact ⟨by first | rfl | (simp [errW_none, errW_some] <;> rfl) | (simp [*, errW_none, errW_some] <;> rfl), by repeat (first | (with_reducible first | exact HB.out | apply below_alloc | apply pw_below_drewN | apply below_drew1) | exact HB.out)⟩
  · replace c4 := Bool.eq_false_iff.mpr c4
    subst c4
    have H1 : ((laws_r8Wide.f k l1 0 900).bind fun t142 => ((laws_r8Wide.f k l1 2 500).bind fun t143 => ((laws_r8Wide.f k l1 4 900).bind fun t144 => (if (wrap64 ((wrap64 (50 + t142)) + 1)) = 0 then (none) else (if (wrap64 (900 + t143)) = 0 then (none) else ((impl_PlaceOf.f k (wrap64 (50 + t142)) (wrap64 (900 + t143)) (wrap64 (Int.tdiv (wrap64 ((Int.tmod t144 (wrap64 ((wrap64 (50 + t142)) + 1))) * 1000)) (wrap64 (900 + t143)))) (wrap64 (Int.tdiv (wrap64 ((wrap64 ((wrap64 (50 + t142)) - (Int.tmod t144 (wrap64 ((wrap64 (50 + t142)) + 1))))) * 1000)) (wrap64 (900 + t143)))) 1).bind fun bt145 => ((impl_PlaceOf.f k (wrap64 (50 + t142)) (wrap64 (900 + t143)) (wrap64 (Int.tdiv (wrap64 ((Int.tmod t144 (wrap64 ((wrap64 (50 + t142)) + 1))) * 1000)) (wrap64 (900 + t143)))) (wrap64 (Int.tdiv (wrap64 ((wrap64 ((wrap64 (50 + t142)) - (Int.tmod t144 (wrap64 ((wrap64 (50 + t142)) + 1))))) * 1000)) (wrap64 (900 + t143)))) 40).bind fun bt148 => (if bt145.2.2 = 0 then (if bt145.1 > (Int.tmod t144 (wrap64 ((wrap64 (50 + t142)) + 1))) then (laws_FnPlaces.j0 k l0 l1 bt145.1 bt145.2.1 true) else (if bt145.2.1 < (Int.tmod t144 (wrap64 ((wrap64 (50 + t142)) + 1))) then (laws_FnPlaces.j0 k l0 l1 bt145.1 bt145.2.1 true) else (if bt145.1 < 0 then (laws_FnPlaces.j0 k l0 l1 bt145.1 bt145.2.1 true) else (if bt145.2.1 > (wrap64 (50 + t142)) then (laws_FnPlaces.j0 k l0 l1 bt145.1 bt145.2.1 true) else (if bt148.2.2 = 0 then (if bt148.1 > bt145.1 then (laws_FnPlaces.j0 k l0 l1 bt145.1 bt145.2.1 true) else (laws_FnPlaces.j0 k l0 l1 bt145.1 bt145.2.1 (decide (bt148.2.1 < bt145.2.1)))) else (laws_FnPlaces.j0 k l0 l1 bt145.1 bt145.2.1 true)))))) else (laws_FnPlaces.j0 k l0 l1 bt145.1 bt145.2.1 true))))))))) = some r := by rw [if_neg (show ¬ (false = true) by decide)] at H; exact H
    clear H
    have H := H1
    clear H1
    replace H := Option.bind_eq_some_iff.mp H
    obtain ⟨t142, A50, H⟩ := H
    replace H : ((laws_r8Wide.f k l1 2 500).bind fun t143 => ((laws_r8Wide.f k l1 4 900).bind fun t144 => (if (wrap64 ((wrap64 (50 + t142)) + 1)) = 0 then (none) else (if (wrap64 (900 + t143)) = 0 then (none) else ((impl_PlaceOf.f k (wrap64 (50 + t142)) (wrap64 (900 + t143)) (wrap64 (Int.tdiv (wrap64 ((Int.tmod t144 (wrap64 ((wrap64 (50 + t142)) + 1))) * 1000)) (wrap64 (900 + t143)))) (wrap64 (Int.tdiv (wrap64 ((wrap64 ((wrap64 (50 + t142)) - (Int.tmod t144 (wrap64 ((wrap64 (50 + t142)) + 1))))) * 1000)) (wrap64 (900 + t143)))) 1).bind fun bt145 => ((impl_PlaceOf.f k (wrap64 (50 + t142)) (wrap64 (900 + t143)) (wrap64 (Int.tdiv (wrap64 ((Int.tmod t144 (wrap64 ((wrap64 (50 + t142)) + 1))) * 1000)) (wrap64 (900 + t143)))) (wrap64 (Int.tdiv (wrap64 ((wrap64 ((wrap64 (50 + t142)) - (Int.tmod t144 (wrap64 ((wrap64 (50 + t142)) + 1))))) * 1000)) (wrap64 (900 + t143)))) 40).bind fun bt148 => (if bt145.2.2 = 0 then (if bt145.1 > (Int.tmod t144 (wrap64 ((wrap64 (50 + t142)) + 1))) then (laws_FnPlaces.j0 k l0 l1 bt145.1 bt145.2.1 true) else (if bt145.2.1 < (Int.tmod t144 (wrap64 ((wrap64 (50 + t142)) + 1))) then (laws_FnPlaces.j0 k l0 l1 bt145.1 bt145.2.1 true) else (if bt145.1 < 0 then (laws_FnPlaces.j0 k l0 l1 bt145.1 bt145.2.1 true) else (if bt145.2.1 > (wrap64 (50 + t142)) then (laws_FnPlaces.j0 k l0 l1 bt145.1 bt145.2.1 true) else (if bt148.2.2 = 0 then (if bt148.1 > bt145.1 then (laws_FnPlaces.j0 k l0 l1 bt145.1 bt145.2.1 true) else (laws_FnPlaces.j0 k l0 l1 bt145.1 bt145.2.1 (decide (bt148.2.1 < bt145.2.1)))) else (laws_FnPlaces.j0 k l0 l1 bt145.1 bt145.2.1 true)))))) else (laws_FnPlaces.j0 k l0 l1 bt145.1 bt145.2.1 true)))))))) = some r := H
    have A5 := Aside0.mk A50
    clear A50
    replace H := Option.bind_eq_some_iff.mp H
    obtain ⟨t143, A60, H⟩ := H
    replace H : ((laws_r8Wide.f k l1 4 900).bind fun t144 => (if (wrap64 ((wrap64 (50 + t142)) + 1)) = 0 then (none) else (if (wrap64 (900 + t143)) = 0 then (none) else ((impl_PlaceOf.f k (wrap64 (50 + t142)) (wrap64 (900 + t143)) (wrap64 (Int.tdiv (wrap64 ((Int.tmod t144 (wrap64 ((wrap64 (50 + t142)) + 1))) * 1000)) (wrap64 (900 + t143)))) (wrap64 (Int.tdiv (wrap64 ((wrap64 ((wrap64 (50 + t142)) - (Int.tmod t144 (wrap64 ((wrap64 (50 + t142)) + 1))))) * 1000)) (wrap64 (900 + t143)))) 1).bind fun bt145 => ((impl_PlaceOf.f k (wrap64 (50 + t142)) (wrap64 (900 + t143)) (wrap64 (Int.tdiv (wrap64 ((Int.tmod t144 (wrap64 ((wrap64 (50 + t142)) + 1))) * 1000)) (wrap64 (900 + t143)))) (wrap64 (Int.tdiv (wrap64 ((wrap64 ((wrap64 (50 + t142)) - (Int.tmod t144 (wrap64 ((wrap64 (50 + t142)) + 1))))) * 1000)) (wrap64 (900 + t143)))) 40).bind fun bt148 => (if bt145.2.2 = 0 then (if bt145.1 > (Int.tmod t144 (wrap64 ((wrap64 (50 + t142)) + 1))) then (laws_FnPlaces.j0 k l0 l1 bt145.1 bt145.2.1 true) else (if bt145.2.1 < (Int.tmod t144 (wrap64 ((wrap64 (50 + t142)) + 1))) then (laws_FnPlaces.j0 k l0 l1 bt145.1 bt145.2.1 true) else (if bt145.1 < 0 then (laws_FnPlaces.j0 k l0 l1 bt145.1 bt145.2.1 true) else (if bt145.2.1 > (wrap64 (50 + t142)) then (laws_FnPlaces.j0 k l0 l1 bt145.1 bt145.2.1 true) else (if bt148.2.2 = 0 then (if bt148.1 > bt145.1 then (laws_FnPlaces.j0 k l0 l1 bt145.1 bt145.2.1 true) else (laws_FnPlaces.j0 k l0 l1 bt145.1 bt145.2.1 (decide (bt148.2.1 < bt145.2.1)))) else (laws_FnPlaces.j0 k l0 l1 bt145.1 bt145.2.1 true)))))) else (laws_FnPlaces.j0 k l0 l1 bt145.1 bt145.2.1 true))))))) = some r := H
    have A6 := Aside0.mk A60
    clear A60
    replace H := Option.bind_eq_some_iff.mp H
    obtain ⟨t144, A70, H⟩ := H
    replace H : (if (wrap64 ((wrap64 (50 + t142)) + 1)) = 0 then (none) else (if (wrap64 (900 + t143)) = 0 then (none) else ((impl_PlaceOf.f k (wrap64 (50 + t142)) (wrap64 (900 + t143)) (wrap64 (Int.tdiv (wrap64 ((Int.tmod t144 (wrap64 ((wrap64 (50 + t142)) + 1))) * 1000)) (wrap64 (900 + t143)))) (wrap64 (Int.tdiv (wrap64 ((wrap64 ((wrap64 (50 + t142)) - (Int.tmod t144 (wrap64 ((wrap64 (50 + t142)) + 1))))) * 1000)) (wrap64 (900 + t143)))) 1).bind fun bt145 => ((impl_PlaceOf.f k (wrap64 (50 + t142)) (wrap64 (900 + t143)) (wrap64 (Int.tdiv (wrap64 ((Int.tmod t144 (wrap64 ((wrap64 (50 + t142)) + 1))) * 1000)) (wrap64 (900 + t143)))) (wrap64 (Int.tdiv (wrap64 ((wrap64 ((wrap64 (50 + t142)) - (Int.tmod t144 (wrap64 ((wrap64 (50 + t142)) + 1))))) * 1000)) (wrap64 (900 + t143)))) 40).bind fun bt148 => (if bt145.2.2 = 0 then (if bt145.1 > (Int.tmod t144 (wrap64 ((wrap64 (50 + t142)) + 1))) then (laws_FnPlaces.j0 k l0 l1 bt145.1 bt145.2.1 true) else (if bt145.2.1 < (Int.tmod t144 (wrap64 ((wrap64 (50 + t142)) + 1))) then (laws_FnPlaces.j0 k l0 l1 bt145.1 bt145.2.1 true) else (if bt145.1 < 0 then (laws_FnPlaces.j0 k l0 l1 bt145.1 bt145.2.1 true) else (if bt145.2.1 > (wrap64 (50 + t142)) then (laws_FnPlaces.j0 k l0 l1 bt145.1 bt145.2.1 true) else (if bt148.2.2 = 0 then (if bt148.1 > bt145.1 then (laws_FnPlaces.j0 k l0 l1 bt145.1 bt145.2.1 true) else (laws_FnPlaces.j0 k l0 l1 bt145.1 bt145.2.1 (decide (bt148.2.1 < bt145.2.1)))) else (laws_FnPlaces.j0 k l0 l1 bt145.1 bt145.2.1 true)))))) else (laws_FnPlaces.j0 k l0 l1 bt145.1 bt145.2.1 true)))))) = some r := H
    have A7 := Aside0.mk A70
    clear A70
    by_cases c8 : (wrap64 ((wrap64 (50 + t142)) + 1)) = 0
    · rw [if_pos c8] at H
      exact absurd H (by simp)
    · rw [if_neg c8] at H
      have c8b0 : ((wrap64 ((wrap64 (50 + t142)) + 1)) == 0) = false := beq_eq_false_iff_ne.mpr c8
      have c8b1 : ((wrap64 ((wrap64 (50 + t142)) + 1)) != 0) = true := bne_iff_ne.mpr c8
      by_cases c9 : (wrap64 (900 + t143)) = 0
      · rw [if_pos c9] at H
        exact absurd H (by simp)
      · rw [if_neg c9] at H
        have c9b0 : ((wrap64 (900 + t143)) == 0) = false := beq_eq_false_iff_ne.mpr c9
        have c9b1 : ((wrap64 (900 + t143)) != 0) = true := bne_iff_ne.mpr c9
        replace H := Option.bind_eq_some_iff.mp H
        obtain ⟨⟨t145, t146, t147⟩, A100, H⟩ := H
        replace H : ((impl_PlaceOf.f k (wrap64 (50 + t142)) (wrap64 (900 + t143)) (wrap64 (Int.tdiv (wrap64 ((Int.tmod t144 (wrap64 ((wrap64 (50 + t142)) + 1))) * 1000)) (wrap64 (900 + t143)))) (wrap64 (Int.tdiv (wrap64 ((wrap64 ((wrap64 (50 + t142)) - (Int.tmod t144 (wrap64 ((wrap64 (50 + t142)) + 1))))) * 1000)) (wrap64 (900 + t143)))) 40).bind fun bt148 => (if t147 = 0 then (if t145 > (Int.tmod t144 (wrap64 ((wrap64 (50 + t142)) + 1))) then (laws_FnPlaces.j0 k l0 l1 t145 t146 true) else (if t146 < (Int.tmod t144 (wrap64 ((wrap64 (50 + t142)) + 1))) then (laws_FnPlaces.j0 k l0 l1 t145 t146 true) else (if t145 < 0 then (laws_FnPlaces.j0 k l0 l1 t145 t146 true) else (if t146 > (wrap64 (50 + t142)) then (laws_FnPlaces.j0 k l0 l1 t145 t146 true) else (if bt148.2.2 = 0 then (if bt148.1 > t145 then (laws_FnPlaces.j0 k l0 l1 t145 t146 true) else (laws_FnPlaces.j0 k l0 l1 t145 t146 (decide (bt148.2.1 < t146)))) else (laws_FnPlaces.j0 k l0 l1 t145 t146 true)))))) else (laws_FnPlaces.j0 k l0 l1 t145 t146 true))) = some r := H
        have A10 := Aside0.mk A100
        clear A100
        replace H := Option.bind_eq_some_iff.mp H
        obtain ⟨⟨t148, t149, t150⟩, A110, H⟩ := H
        replace H : (if t147 = 0 then (if t145 > (Int.tmod t144 (wrap64 ((wrap64 (50 + t142)) + 1))) then (laws_FnPlaces.j0 k l0 l1 t145 t146 true) else (if t146 < (Int.tmod t144 (wrap64 ((wrap64 (50 + t142)) + 1))) then (laws_FnPlaces.j0 k l0 l1 t145 t146 true) else (if t145 < 0 then (laws_FnPlaces.j0 k l0 l1 t145 t146 true) else (if t146 > (wrap64 (50 + t142)) then (laws_FnPlaces.j0 k l0 l1 t145 t146 true) else (if t150 = 0 then (if t148 > t145 then (laws_FnPlaces.j0 k l0 l1 t145 t146 true) else (laws_FnPlaces.j0 k l0 l1 t145 t146 (decide (t149 < t146)))) else (laws_FnPlaces.j0 k l0 l1 t145 t146 true)))))) else (laws_FnPlaces.j0 k l0 l1 t145 t146 true)) = some r := H
        have A11 := Aside0.mk A110
        clear A110
        have HC12 := Aside0.mk H
        clear H
        go_enter Try.func9, Try.ntmps9
        go_upto_region 10 with (first | ((with_reducible refine gate_callee (f := 33) rfl ?_); refine goesL_ (some 34) rfl rfl Try.func33 (by kernel_rfl) rfl #[.slice A0 l0.length c0, .slice A1 l1.length c1] rfl (by (try simp only [List.map_toArray, List.map_cons, List.map_nil]); first | done | rfl | (simp only [List.length_drop, List.length_take]; rfl)) ?_; (with_reducible refine (laws_r8Long.calls _ _ l0 _ _ l1 false _ ?side1 ?side2 ?side3 ?side4 A3.out).mono ?_); (case side1 => repeat (first | exact HR0.out | (with_reducible refine Kd.C_alloc ?_ _) | (with_reducible refine Kd.C_drewN ?_ _) | (with_reducible refine Kd.C_drew ?_))); (case side2 => exact HC0.out); (case side3 => repeat (first | exact HR1.out | (with_reducible refine Kd.C_alloc ?_ _) | (with_reducible refine Kd.C_drewN ?_ _) | (with_reducible refine Kd.C_drew ?_))); (case side4 => exact HC1.out); rintro e w' ⟨rfl, ⟨nd, rfl⟩⟩; refine ⟨_, rfl, ?_⟩) | ((with_reducible refine gate_callee (f := 34) rfl ?_); refine goesL_ (some 36) rfl rfl Try.func34 (by kernel_rfl) rfl #[.slice A1 l1.length c1, .int .i64 0, .int .i64 900] rfl (by (try simp only [List.map_toArray, List.map_cons, List.map_nil]); first | done | rfl | (simp only [List.length_drop, List.length_take]; rfl)) ?_; (with_reducible refine (laws_r8Wide.calls k _ _ l1 0 900 t142 _ ?side1 ?side2 A5.out).mono ?_); (case side1 => repeat (first | exact HR1.out | (with_reducible refine Kd.C_alloc ?_ _) | (with_reducible refine Kd.C_drewN ?_ _) | (with_reducible refine Kd.C_drew ?_))); (case side2 => exact HC1.out); rintro e w' ⟨rfl, ⟨nd, rfl⟩⟩; refine ⟨_, rfl, ?_⟩) | ((with_reducible refine gate_callee (f := 34) rfl ?_); refine goesL_ (some 39) rfl rfl Try.func34 (by kernel_rfl) rfl #[.slice A1 l1.length c1, .int .i64 2, .int .i64 500] rfl (by (try simp only [List.map_toArray, List.map_cons, List.map_nil]); first | done | rfl | (simp only [List.length_drop, List.length_take]; rfl)) ?_; (with_reducible refine (laws_r8Wide.calls k _ _ l1 2 500 t143 _ ?side1 ?side2 A6.out).mono ?_); (case side1 => repeat (first | exact HR1.out | (with_reducible refine Kd.C_alloc ?_ _) | (with_reducible refine Kd.C_drewN ?_ _) | (with_reducible refine Kd.C_drew ?_))); (case side2 => exact HC1.out); rintro e w' ⟨rfl, ⟨nd, rfl⟩⟩; refine ⟨_, rfl, ?_⟩) | ((with_reducible refine gate_callee (f := 34) rfl ?_); refine goesL_ (some 42) rfl rfl Try.func34 (by kernel_rfl) rfl #[.slice A1 l1.length c1, .int .i64 4, .int .i64 900] rfl (by (try simp only [List.map_toArray, List.map_cons, List.map_nil]); first | done | rfl | (simp only [List.length_drop, List.length_take]; rfl)) ?_; (with_reducible refine (laws_r8Wide.calls k _ _ l1 4 900 t144 _ ?side1 ?side2 A7.out).mono ?_); (case side1 => repeat (first | exact HR1.out | (with_reducible refine Kd.C_alloc ?_ _) | (with_reducible refine Kd.C_drewN ?_ _) | (with_reducible refine Kd.C_drew ?_))); (case side2 => exact HC1.out); rintro e w' ⟨rfl, ⟨nd, rfl⟩⟩; refine ⟨_, rfl, ?_⟩) | ((with_reducible refine gate_callee (f := 16) rfl ?_); refine goesL_ (some 61) rfl rfl Try.func16 (by kernel_rfl) rfl #[.int .i64 (wrap64 (50 + t142)), .int .i64 (wrap64 (900 + t143)), .int .i64 (wrap64 (Int.tdiv (wrap64 ((Int.tmod t144 (wrap64 ((wrap64 (50 + t142)) + 1))) * 1000)) (wrap64 (900 + t143)))), .int .i64 (wrap64 (Int.tdiv (wrap64 ((wrap64 ((wrap64 (50 + t142)) - (Int.tmod t144 (wrap64 ((wrap64 (50 + t142)) + 1))))) * 1000)) (wrap64 (900 + t143)))), .int .i64 1] rfl (by (try simp only [List.map_toArray, List.map_cons, List.map_nil]); first | done | rfl | (simp only [List.length_drop, List.length_take]; rfl)) ?_; (with_reducible refine (impl_PlaceOf.calls k (wrap64 (50 + t142)) (wrap64 (900 + t143)) (wrap64 (Int.tdiv (wrap64 ((Int.tmod t144 (wrap64 ((wrap64 (50 + t142)) + 1))) * 1000)) (wrap64 (900 + t143)))) (wrap64 (Int.tdiv (wrap64 ((wrap64 ((wrap64 (50 + t142)) - (Int.tmod t144 (wrap64 ((wrap64 (50 + t142)) + 1))))) * 1000)) (wrap64 (900 + t143)))) 1 t145 t146 t147 _ A10.out).mono ?_); rintro e w13 ⟨rfl, hb⟩; refine ⟨_, rfl, ?_⟩; have n0_ := Aside0.mk (below_step (by repeat (first | (with_reducible first | exact HB.out | apply below_alloc | apply pw_below_drewN | apply below_drew1) | exact HB.out)) hb); clear HB; have HB := n0_; clear n0_; (try clear hb); (try clear hb2); (try clear hk); (try clear hi)) | ((with_reducible refine gate_callee (f := 16) rfl ?_); refine goesL_ (some 70) rfl rfl Try.func16 (by kernel_rfl) rfl #[.int .i64 (wrap64 (50 + t142)), .int .i64 (wrap64 (900 + t143)), .int .i64 (wrap64 (Int.tdiv (wrap64 ((Int.tmod t144 (wrap64 ((wrap64 (50 + t142)) + 1))) * 1000)) (wrap64 (900 + t143)))), .int .i64 (wrap64 (Int.tdiv (wrap64 ((wrap64 ((wrap64 (50 + t142)) - (Int.tmod t144 (wrap64 ((wrap64 (50 + t142)) + 1))))) * 1000)) (wrap64 (900 + t143)))), .int .i64 40] rfl (by (try simp only [List.map_toArray, List.map_cons, List.map_nil]); first | done | rfl | (simp only [List.length_drop, List.length_take]; rfl)) ?_; (with_reducible refine (impl_PlaceOf.calls k (wrap64 (50 + t142)) (wrap64 (900 + t143)) (wrap64 (Int.tdiv (wrap64 ((Int.tmod t144 (wrap64 ((wrap64 (50 + t142)) + 1))) * 1000)) (wrap64 (900 + t143)))) (wrap64 (Int.tdiv (wrap64 ((wrap64 ((wrap64 (50 + t142)) - (Int.tmod t144 (wrap64 ((wrap64 (50 + t142)) + 1))))) * 1000)) (wrap64 (900 + t143)))) 40 t148 t149 t150 _ A11.out).mono ?_); rintro e w14 ⟨rfl, hb⟩; refine ⟨_, rfl, ?_⟩; have n0_ := Aside0.mk (below_step (by repeat (first | (with_reducible first | exact HB.out | apply below_alloc | apply pw_below_drewN | apply below_drew1) | exact HB.out)) hb); clear HB; have HB := n0_; clear n0_; (try clear hb); (try clear hb2); (try clear hk); (try clear hi)))
        (try simp only [Act.put, List.setIfInBounds_toArray, List.set_cons_zero, List.set_cons_succ])
        go_cut [108] (fun v108 wc => ∃ (kq : Nat) (x108_11 : Bool), v108 = .bool x108_11 ∧ Aside0 (laws_FnPlaces.j0 kq l0 l1 t145 t146 x108_11 = some r) ∧ Aside0 (kq ≤ k) ∧ Aside0 (Below w.heap.size w wc))
        case first => as_aux_lemma =>
          have H := HC12.out
          clear HC12
          by_cases c15 : t147 = 0
          · rw [if_pos c15] at H
            have c15b0 : (t147 == 0) = true := beq_iff_eq.mpr c15
            have c15b1 : (t147 != 0) = false := bne_eq_false_iff_eq.mpr c15
            clear c15
            (first | rw [c15b0] | (simp only [i64_w, i32_w]; rw [c15b0]) | skip)
            by_cases c16 : t145 > (Int.tmod t144 (wrap64 ((wrap64 (50 + t142)) + 1)))
            · rw [if_pos c16] at H
              have c16b0 : decide ((Int.tmod t144 (wrap64 ((wrap64 (50 + t142)) + 1))) < t145) = true := decide_eq_true c16
              clear c16
              have H' := Aside0.mk H
              clear H
              go_wp2
              go_meet
              case rel => exact ⟨_, (true), (by first | rfl | (simp; done) | (simp [*]; done)), H', ⟨by first | omega | exact Nat.le_refl _⟩, ⟨by repeat (first | (with_reducible first | exact HB.out | apply below_alloc | apply pw_below_drewN | apply below_drew1) | exact HB.out)⟩⟩
            · rw [if_neg c16] at H
              have c16b0 : decide ((Int.tmod t144 (wrap64 ((wrap64 (50 + t142)) + 1))) < t145) = false := decide_eq_false c16
              clear c16
              by_cases c17 : t146 < (Int.tmod t144 (wrap64 ((wrap64 (50 + t142)) + 1)))
              · rw [if_pos c17] at H
                have c17b0 : decide (t146 < (Int.tmod t144 (wrap64 ((wrap64 (50 + t142)) + 1)))) = true := decide_eq_true c17
                clear c17
                have H' := Aside0.mk H
                clear H
                go_wp2
                go_meet
                case rel => exact ⟨_, (true), (by first | rfl | (simp; done) | (simp [*]; done)), H', ⟨by first | omega | exact Nat.le_refl _⟩, ⟨by repeat (first | (with_reducible first | exact HB.out | apply below_alloc | apply pw_below_drewN | apply below_drew1) | exact HB.out)⟩⟩
              · rw [if_neg c17] at H
                have c17b0 : decide (t146 < (Int.tmod t144 (wrap64 ((wrap64 (50 + t142)) + 1)))) = false := decide_eq_false c17
                clear c17
                by_cases c18 : t145 < 0
                · rw [if_pos c18] at H
                  have c18b0 : decide (t145 < 0) = true := decide_eq_true c18
                  clear c18
                  have H' := Aside0.mk H
                  clear H
                  go_wp2
                  go_meet
                  case rel => exact ⟨_, (true), (by first | rfl | (simp; done) | (simp [*]; done)), H', ⟨by first | omega | exact Nat.le_refl _⟩, ⟨by repeat (first | (with_reducible first | exact HB.out | apply below_alloc | apply pw_below_drewN | apply below_drew1) | exact HB.out)⟩⟩
                · rw [if_neg c18] at H
                  have c18b0 : decide (t145 < 0) = false := decide_eq_false c18
                  clear c18
                  by_cases c19 : t146 > (wrap64 (50 + t142))
                  · rw [if_pos c19] at H
                    have c19b0 : decide ((wrap64 (50 + t142)) < t146) = true := decide_eq_true c19
                    clear c19
                    have H' := Aside0.mk H
                    clear H
                    go_wp2
                    go_meet
                    case rel => exact ⟨_, (true), (by first | rfl | (simp; done) | (simp [*]; done)), H', ⟨by first | omega | exact Nat.le_refl _⟩, ⟨by repeat (first | (with_reducible first | exact HB.out | apply below_alloc | apply pw_below_drewN | apply below_drew1) | exact HB.out)⟩⟩
                  · rw [if_neg c19] at H
                    have c19b0 : decide ((wrap64 (50 + t142)) < t146) = false := decide_eq_false c19
                    clear c19
                    by_cases c20 : t150 = 0
                    · rw [if_pos c20] at H
                      have c20b0 : (t150 == 0) = true := beq_iff_eq.mpr c20
                      have c20b1 : (t150 != 0) = false := bne_eq_false_iff_eq.mpr c20
                      clear c20
                      by_cases c21 : t148 > t145
                      · rw [if_pos c21] at H
                        have c21b0 : decide (t145 < t148) = true := decide_eq_true c21
                        clear c21
                        have H' := Aside0.mk H
                        clear H
                        go_wp2
                        go_meet
                        case rel => exact ⟨_, (true), (by first | rfl | (simp; done) | (simp [*]; done)), H', ⟨by first | omega | exact Nat.le_refl _⟩, ⟨by repeat (first | (with_reducible first | exact HB.out | apply below_alloc | apply pw_below_drewN | apply below_drew1) | exact HB.out)⟩⟩
                      · rw [if_neg c21] at H
                        have c21b0 : decide (t145 < t148) = false := decide_eq_false c21
                        clear c21
                        have H' := Aside0.mk H
                        clear H
                        go_wp2
                        go_meet
                        case rel => exact ⟨_, (decide (t149 < t146)), (by first | rfl | (simp; done) | (simp [*]; done)), H', ⟨by first | omega | exact Nat.le_refl _⟩, ⟨by repeat (first | (with_reducible first | exact HB.out | apply below_alloc | apply pw_below_drewN | apply below_drew1) | exact HB.out)⟩⟩
                    · rw [if_neg c20] at H
                      have c20b0 : (t150 == 0) = false := beq_eq_false_iff_ne.mpr c20
                      have c20b1 : (t150 != 0) = true := bne_iff_ne.mpr c20
                      have H' := Aside0.mk H
                      clear H
                      go_wp2
                      go_meet
                      case rel => exact ⟨_, (true), (by first | rfl | (simp; done) | (simp [*]; done)), H', ⟨by first | omega | exact Nat.le_refl _⟩, ⟨by repeat (first | (with_reducible first | exact HB.out | apply below_alloc | apply pw_below_drewN | apply below_drew1) | exact HB.out)⟩⟩
          · rw [if_neg c15] at H
            have c15b0 : (t147 == 0) = false := beq_eq_false_iff_ne.mpr c15
            have c15b1 : (t147 != 0) = true := bne_iff_ne.mpr c15
            (first | rw [c15b0] | (simp only [i64_w, i32_w]; rw [c15b0]) | skip)
            have H' := Aside0.mk H
            clear H
            go_wp2
            go_meet
            case rel => exact ⟨_, (true), (by first | rfl | (simp; done) | (simp [*]; done)), H', ⟨by first | omega | exact Nat.le_refl _⟩, ⟨by repeat (first | (with_reducible first | exact HB.out | apply below_alloc | apply pw_below_drewN | apply below_drew1) | exact HB.out)⟩⟩
        case rest => as_aux_lemma =>
          clear HC12
          try clear c1
          try clear c2
          try clear p2
          try clear c3
          try clear c4
          try clear p6
          try clear c8
          try clear c8b0
          try clear c8b1
          try clear c9
          try clear c9b0
          try clear c9b1
          try clear c15
          try clear c15b0
          try clear c15b1
          try clear c16
          try clear c16b0
          try clear c17
          try clear c17b0
          try clear c18
          try clear c18b0
          try clear c19
          try clear c19b0
          try clear c20
          try clear c20b0
          try clear c20b1
          try clear c21
          try clear c21b0
          obtain ⟨kq, x108_11, rfl, HA, HJ11, HB⟩ := hcut
          cases kq with
          | zero => exact absurd HA.out (by simp [laws_FnPlaces.j0])
          | succ kj11 =>
            have H := HA.out
            clear HA
            simp only [laws_FnPlaces.j0] at H
            by_cases c22 : x108_11 = true
            · subst c22
              have H1 : (some false) = some r := by rw [if_pos rfl] at H; exact H
              clear H
              have H := H1
              clear H1
              obtain rfl := Option.some.inj H
              go_wp2
              go_ret
              exact ⟨by first | rfl | (simp [errW_none, errW_some] <;> rfl) | (simp [*, errW_none, errW_some] <;> rfl), by repeat (first | (with_reducible first | exact HB.out | apply below_alloc | apply pw_below_drewN | apply below_drew1) | exact HB.out)⟩
            · replace c22 := Bool.eq_false_iff.mpr c22
              subst c22
              have H1 : (laws_FnPlaces.l0 kj11 l0 l1 (([(([t145, t146] : List Int))] : List (List Int))) 0) = some r := by rw [if_neg (show ¬ (false = true) by decide)] at H; exact H
              clear H
              have H := H1
              clear H1
              obtain ⟨y151, hy151⟩ : ∃ y_ : List Int, y_ = (([t145, t146] : List Int)) := ⟨_, rfl⟩
              replace H : (laws_FnPlaces.l0 kj11 l0 l1 (([y151] : List (List Int))) 0) = some r := by first | (rw [hy151]; with_reducible exact H) | (have H2_ := (Option.bind_some _ _).symm.trans H; rw [hy151]; with_reducible exact H2_) | (have H2_ := (Option.bind_some _ _).symm.trans H; with_reducible exact H2_) | with_reducible exact H | (rw [hy151]; exact H) | exact H
              have Ny151 := Aside0.mk hy151
              clear hy151
              obtain ⟨y154, hy154⟩ : ∃ y_ : List (List Int), y_ = (([y151] : List (List Int))) := ⟨_, rfl⟩
              replace H : (laws_FnPlaces.l0 kj11 l0 l1 y154 0) = some r := by first | (rw [hy154]; with_reducible exact H) | (have H2_ := (Option.bind_some _ _).symm.trans H; rw [hy154]; with_reducible exact H2_) | (have H2_ := (Option.bind_some _ _).symm.trans H; with_reducible exact H2_) | with_reducible exact H | (rw [hy154]; exact H) | exact H
              have Ny154 := Aside0.mk hy154
              clear hy154
              have H' := Aside0.mk H
              clear H
              go_wp2_with (first | ((with_reducible refine gate_dst (N := 111) rfl ?_); (try (refine gate_guard (by rfl) ?_; dsimp only)); refine Kd.R_lit (Kd.int .i64) _ 2 ?hg (N := 111) ?hd (xs := ([t145, t146] : List Int)) (inner := [.int .i64 t145, .int .i64 t146]) (ok := fun _ => True) (okp := fun _ => True) ?hr ?hp (fun _ hk => hk) trivial (Below.refl _ _) (Nat.le_refl _) (by simp) ?_; (case hd => rfl); (case hg => rfl); (case hr => first | (go_simp; done) | (go_simp; rfl)); (case hp => exact (Reps.one (show Kd.M (Kd.int .i64) _ _ _ t145 [.int .i64 t145] from rfl) (Reps.one (show Kd.M (Kd.int .i64) _ _ _ t146 [.int .i64 t146] from rfl) (Reps.none _ _)))); intro v152 w23 ho24 hb hg_ hnew_; clear hg_ hnew_; (first | rw [← Ny151.out] at ho24 | (simp only [Int.reduceToNat] at ho24; rw [← Ny151.out] at ho24)); have n0_ := Aside0.mk (Kd.R_lower ho24 (below_size (by repeat (first | (with_reducible first | exact HB.out | apply below_alloc | apply pw_below_drewN | apply below_drew1) | exact HB.out)))); have n1_ := Aside0.mk (below_step (by repeat (first | (with_reducible first | exact HB.out | apply below_alloc | apply pw_below_drewN | apply below_drew1) | exact HB.out)) hb); clear HB; have HO153 := n0_; have HB := n1_; clear n0_ n1_; clear hb ho24; obtain ⟨Ao25, co25, eo25⟩ := Kd.R_slice HO153.out; subst eo25) | ((with_reducible refine gate_dst (N := 112) rfl ?_); (try (refine gate_guard (by rfl) ?_; dsimp only)); refine Kd.N_lit (Kd.slice 2 (Kd.int .i64)) _ 34 ?hg (N' := 112) ?hd (xs := ([y151] : List (List Int))) (inner := [.slice Ao25 y151.length co25]) (ok := (fun _ => True)) (okp := (fun _ => True)) ?hr ?hp (fun _ hk => hk) ((show ∀ k_, w23.heap.size ≤ k_ → (fun _ => True) k_ from fun k_ hk => trivial) _ (Nat.le_refl _)) (Below.refl _ _) (Nat.le_refl _) (by simp) ?_; (case hd => rfl); (case hg => rfl); (case hr => first | (go_simp; done) | (go_simp; rfl)); (case hp => exact (Reps.one (show Kd.FK (Kd.slice 2 (Kd.int .i64)) _ _ y151 [.slice Ao25 y151.length co25] from (Kd.FK_slice_mk (Kd.R_reads' (Kd.R_mono (ok' := (fun _ => True)) (HO153.out) (fun k_ hk => trivial))).2.1 (Kd.R_F (Kd.R_mono (ok' := (fun _ => True)) (HO153.out) (fun k_ hk => trivial))))) (Reps.none _ _))); intro v155 w26 ho27 hb hg_ hnew_; clear hg_ hnew_; (first | rw [← Ny154.out] at ho27 | (simp only [Int.reduceToNat] at ho27; rw [← Ny154.out] at ho27)); have n0_ := Aside0.mk (Kd.N_lower ho27 (below_size (by repeat (first | (with_reducible first | exact HB.out | apply below_alloc | apply pw_below_drewN | apply below_drew1) | exact HB.out)))); have n1_ := Aside0.mk (below_step (by repeat (first | (with_reducible first | exact HB.out | apply below_alloc | apply pw_below_drewN | apply below_drew1) | exact HB.out)) hb); clear HB; clear HO153; have HO156 := n0_; have HB := n1_; clear n0_ n1_; clear hb ho27))
              go_loopg [16, 17] kj11 (fun kq v16 v17 w' => ∃ (x16_2 : List (List Int)) (x17_2 : Int), v17 = .int .i64 x17_2 ∧ Aside0 (laws_FnPlaces.l0 kq l0 l1 x16_2 x17_2 = some r) ∧ Aside0 (kq ≤ kj11) ∧ Aside0 (Kd.N (Kd.slice 2 (Kd.int .i64)) 34 w' w.heap.size (fun _ => True) v16 x16_2) ∧ Aside0 (Below w.heap.size w w'))
              case atStart => exact ⟨(y154), (0), (by first | rfl | (simp; done) | (simp [*]; done)), H', ⟨Nat.le_refl _⟩, ⟨by (with_reducible repeat (first | apply Kd.N_alloc | apply Kd.N_drewN | apply Kd.N_drew)); exact HO156.out⟩, ⟨by repeat (first | (with_reducible first | exact HB.out | apply below_alloc | apply pw_below_drewN | apply below_drew1) | exact HB.out)⟩⟩
              case round => as_aux_lemma =>
                clear H'
                try clear c1
                try clear c2
                try clear p2
                try clear c3
                try clear c4
                try clear p6
                try clear c8
                try clear c8b0
                try clear c8b1
                try clear c9
                try clear c9b0
                try clear c9b1
                try clear c15
                try clear c15b0
                try clear c15b1
                try clear c16
                try clear c16b0
                try clear c17
                try clear c17b0
                try clear c18
                try clear c18b0
                try clear c19
                try clear c19b0
                try clear c20
                try clear c20b0
                try clear c20b1
                try clear c21
                try clear c21b0
                try clear c22
                try clear p2
                try clear p6
                obtain ⟨x16_2, x17_2, rfl, HA, HK2, HO_16, HB⟩ := hrel
                cases gk with
                | zero => exact absurd HA.out (by simp [laws_FnPlaces.l0])
                | succ k2 =>
                  have H := HA.out
                  clear HA
                  simp only [laws_FnPlaces.l0] at H
                  replace H := Option.bind_eq_some_iff.mp H
                  obtain ⟨t157, A280, H⟩ := H
                  replace H : (if x17_2 < t157 then ((laws_r8Wide.f k2 l0 (wrap64 (1 + (wrap64 (4 * x17_2)))) 400).bind fun t158 => ((laws_r8Wide.f k2 l0 (wrap64 (3 + (wrap64 (4 * x17_2)))) 300).bind fun t159 => (if x16_2.length < 5864062014805 then (laws_FnPlaces.l0 k2 l0 l1 (x16_2 ++ [(([t158, wrap64 (t158 + t159)] : List Int))]) (wrap64 (x17_2 + 1))) else (none)))) else ((impl_MeetPlaces.f k2 x16_2).bind fun bt166 => ((impl_DigPlace.f k2 x16_2).bind fun bt169 => (if bt169.2.2 = 0 then (if bt169.2.1 < 1 then (laws_FnPlaces.j2 k2 l1 x16_2 bt166.1 bt166.2.1 bt166.2.2 bt169.1 bt169.2.1 true) else (if bt169.2.1 > (x16_2.length : Int) then (laws_FnPlaces.j2 k2 l1 x16_2 bt166.1 bt166.2.1 bt166.2.2 bt169.1 bt169.2.1 true) else (laws_FnPlaces.j2 k2 l1 x16_2 bt166.1 bt166.2.1 bt166.2.2 bt169.1 bt169.2.1 ((bt166.2.2 == 0) != (bt169.2.1 == (x16_2.length : Int)))))) else (laws_FnPlaces.j2 k2 l1 x16_2 bt166.1 bt166.2.1 bt166.2.2 bt169.1 bt169.2.1 true))))) = some r := H
                  have A28 := Aside0.mk A280
                  clear A280
                  by_cases c29 : x17_2 < t157
                  · rw [if_pos c29] at H
                    have c29b0 : decide (x17_2 < t157) = true := decide_eq_true c29
                    clear c29
                    replace H := Option.bind_eq_some_iff.mp H
                    obtain ⟨t158, A300, H⟩ := H
                    replace H : ((laws_r8Wide.f k2 l0 (wrap64 (3 + (wrap64 (4 * x17_2)))) 300).bind fun t159 => (if x16_2.length < 5864062014805 then (laws_FnPlaces.l0 k2 l0 l1 (x16_2 ++ [(([t158, wrap64 (t158 + t159)] : List Int))]) (wrap64 (x17_2 + 1))) else (none))) = some r := H
                    have A30 := Aside0.mk A300
                    clear A300
                    replace H := Option.bind_eq_some_iff.mp H
                    obtain ⟨t159, A310, H⟩ := H
                    replace H : (if x16_2.length < 5864062014805 then (laws_FnPlaces.l0 k2 l0 l1 (x16_2 ++ [(([t158, wrap64 (t158 + t159)] : List Int))]) (wrap64 (x17_2 + 1))) else (none)) = some r := H
                    have A31 := Aside0.mk A310
                    clear A310
                    obtain ⟨y160, hy160⟩ : ∃ y_ : List Int, y_ = (([t158, wrap64 (t158 + t159)] : List Int)) := ⟨_, rfl⟩
                    replace H : (if x16_2.length < 5864062014805 then (laws_FnPlaces.l0 k2 l0 l1 (x16_2 ++ [y160]) (wrap64 (x17_2 + 1))) else (none)) = some r := by first | (rw [hy160]; with_reducible exact H) | (have H2_ := (Option.bind_some _ _).symm.trans H; rw [hy160]; with_reducible exact H2_) | (have H2_ := (Option.bind_some _ _).symm.trans H; with_reducible exact H2_) | with_reducible exact H | (rw [hy160]; exact H) | exact H
                    have Ny160 := Aside0.mk hy160
                    clear hy160
                    by_cases c32 : x16_2.length < 5864062014805
                    · rw [if_pos c32] at H
                      have LMc32 := Aside0.mk c32
                      clear c32
                      obtain ⟨y163, hy163⟩ : ∃ y_ : List (List Int), y_ = (x16_2 ++ [y160]) := ⟨_, rfl⟩
                      replace H : (laws_FnPlaces.l0 k2 l0 l1 y163 (wrap64 (x17_2 + 1))) = some r := by first | (rw [hy163]; with_reducible exact H) | (have H2_ := (Option.bind_some _ _).symm.trans H; rw [hy163]; with_reducible exact H2_) | (have H2_ := (Option.bind_some _ _).symm.trans H; with_reducible exact H2_) | with_reducible exact H | (rw [hy163]; exact H) | exact H
                      have Ny163 := Aside0.mk hy163
                      clear hy163
                      have H' := Aside0.mk H
                      clear H
                      go_wp2_with (first | ((with_reducible refine gate_callee (f := 35) rfl ?_); refine goesL_ (some 115) rfl rfl Try.func35 (by kernel_rfl) rfl #[.slice A0 l0.length c0, .int .i64 0, .int .i64 5] rfl (by (try simp only [List.map_toArray, List.map_cons, List.map_nil]); first | done | rfl | (simp only [List.length_drop, List.length_take]; rfl)) ?_; (with_reducible refine (laws_r8At.calls k2 _ _ l0 0 5 t157 _ ?side1 ?side2 A28.out).mono ?_); (case side1 => repeat (first | exact (Kd.C_below HR0.out HB.out) | (with_reducible refine Kd.C_alloc ?_ _) | (with_reducible refine Kd.C_drewN ?_ _) | (with_reducible refine Kd.C_drew ?_))); (case side2 => exact HC0.out); rintro e w' ⟨rfl, ⟨nd, rfl⟩⟩; refine ⟨_, rfl, ?_⟩) | ((with_reducible refine gate_callee (f := 34) rfl ?_); refine goesL_ (some 123) rfl rfl Try.func34 (by kernel_rfl) rfl #[.slice A0 l0.length c0, .int .i64 (wrap64 (1 + (wrap64 (4 * x17_2)))), .int .i64 400] rfl (by (try simp only [List.map_toArray, List.map_cons, List.map_nil]); first | done | rfl | (simp only [List.length_drop, List.length_take]; rfl)) ?_; (with_reducible refine (laws_r8Wide.calls k2 _ _ l0 (wrap64 (1 + (wrap64 (4 * x17_2)))) 400 t158 _ ?side1 ?side2 A30.out).mono ?_); (case side1 => repeat (first | exact (Kd.C_below HR0.out (by repeat (first | (with_reducible first | exact HB.out | apply below_alloc | apply pw_below_drewN | apply below_drew1) | exact HB.out))) | (with_reducible refine Kd.C_alloc ?_ _) | (with_reducible refine Kd.C_drewN ?_ _) | (with_reducible refine Kd.C_drew ?_))); (case side2 => exact HC0.out); rintro e w' ⟨rfl, ⟨nd, rfl⟩⟩; refine ⟨_, rfl, ?_⟩) | ((with_reducible refine gate_callee (f := 34) rfl ?_); refine goesL_ (some 131) rfl rfl Try.func34 (by kernel_rfl) rfl #[.slice A0 l0.length c0, .int .i64 (wrap64 (3 + (wrap64 (4 * x17_2)))), .int .i64 300] rfl (by (try simp only [List.map_toArray, List.map_cons, List.map_nil]); first | done | rfl | (simp only [List.length_drop, List.length_take]; rfl)) ?_; (with_reducible refine (laws_r8Wide.calls k2 _ _ l0 (wrap64 (3 + (wrap64 (4 * x17_2)))) 300 t159 _ ?side1 ?side2 A31.out).mono ?_); (case side1 => repeat (first | exact (Kd.C_below HR0.out (by repeat (first | (with_reducible first | exact HB.out | apply below_alloc | apply pw_below_drewN | apply below_drew1) | exact HB.out))) | (with_reducible refine Kd.C_alloc ?_ _) | (with_reducible refine Kd.C_drewN ?_ _) | (with_reducible refine Kd.C_drew ?_))); (case side2 => exact HC0.out); rintro e w' ⟨rfl, ⟨nd, rfl⟩⟩; refine ⟨_, rfl, ?_⟩) | ((with_reducible refine gate_dst (N := 133) rfl ?_); (try (refine gate_guard (by rfl) ?_; dsimp only)); refine Kd.R_lit (Kd.int .i64) _ 2 ?hg (N := 133) ?hd (xs := ([t158, wrap64 (t158 + t159)] : List Int)) (inner := [.int .i64 t158, .int .i64 (wrap64 (t158 + t159))]) (ok := fun _ => True) (okp := fun _ => True) ?hr ?hp (fun _ hk => hk) trivial (Below.refl _ _) (Nat.le_refl _) (by simp) ?_; (case hd => rfl); (case hg => rfl); (case hr => first | (go_simp; done) | (go_simp; rfl)); (case hp => exact (Reps.one (show Kd.M (Kd.int .i64) _ _ _ t158 [.int .i64 t158] from rfl) (Reps.one (show Kd.M (Kd.int .i64) _ _ _ (wrap64 (t158 + t159)) [.int .i64 (wrap64 (t158 + t159))] from rfl) (Reps.none _ _)))); intro v161 w33 ho34 hb hg_ hnew_; clear hg_ hnew_; (first | rw [← Ny160.out] at ho34 | (simp only [Int.reduceToNat] at ho34; rw [← Ny160.out] at ho34)); have n0_ := Aside0.mk (Kd.N_elder' (by (with_reducible repeat (first | apply Kd.N_alloc | apply Kd.N_drewN | apply Kd.N_drew)); exact HO_16.out) (Kd.R_base ho34) hb); have n1_ := Aside0.mk (Kd.R_lower ho34 (below_size (by repeat (first | (with_reducible first | exact HB.out | apply below_alloc | apply pw_below_drewN | apply below_drew1) | exact HB.out)))); have n2_ := Aside0.mk (below_step (by repeat (first | (with_reducible first | exact HB.out | apply below_alloc | apply pw_below_drewN | apply below_drew1) | exact HB.out)) hb); clear HO_16; clear HB; have HO_16 := n0_; have HO162 := n1_; have HB := n2_; clear n0_ n1_ n2_; clear hb ho34; obtain ⟨Ao36, co36, eo36⟩ := Kd.R_slice HO162.out; subst eo36) | ((with_reducible refine gate_builtin (b := .append) (xs := #[.tmp 124, .tmp 134]) rfl ?_); (try (refine gate_guard (by rfl) ?_; dsimp only)); at_builtin; refine Kd.N_append (Kd.slice 2 (Kd.int .i64)) (w0 := w) w.heap.size rfl (.tmp 124) (.tmp 134) 47 34 (.slice none 0 0) 24 rfl Try.underlying47 info34 rfl (by decide) (by omega) u16 x16_2 y160 [.slice Ao36 y160.length co36] (fun _ => True) (fun k_ => ((fun _ => True)) k_ ∧ some k_ ≠ (u16 : Value).ownBlock) rfl rfl ?aP (fun _ hk => hk) ?aF ?aO ?aB ?aS ?aL ?_; (case aP => exact (Kd.FK_slice_mk (Kd.R_reads' (Kd.R_mono (ok' := (fun k_ => ((fun _ => True)) k_ ∧ some k_ ≠ (u16 : Value).ownBlock)) (Kd.R_apart' (HO162.out) (Kd.N_typed HO_16.out) (by decide)) (fun k_ hk => ⟨trivial, hk.2⟩))).2.1 (Kd.R_F (Kd.R_mono (ok' := (fun k_ => ((fun _ => True)) k_ ∧ some k_ ≠ (u16 : Value).ownBlock)) (Kd.R_apart' (HO162.out) (Kd.N_typed HO_16.out) (by decide)) (fun k_ hk => ⟨trivial, hk.2⟩))))); (case aB => exact (by repeat (first | (with_reducible first | exact HB.out | apply below_alloc | apply pw_below_drewN | apply below_drew1) | exact HB.out))); (case aF => exact (fun _ _ => trivial)); (case aO => exact (by (with_reducible repeat (first | apply Kd.N_alloc | apply Kd.N_drewN | apply Kd.N_drew)); exact Kd.N_mono HO_16.out (fun _ hk => trivial))); (case aS => exact (below_size (by repeat (first | (with_reducible first | exact HB.out | apply below_alloc | apply pw_below_drewN | apply below_drew1) | exact HB.out)))); (case aL => have := LMc32.out; omega); intro v164 w35 ho hb hg hat; rw [← Ny163.out] at ho; have n0_ := Aside0.mk (hb); have n1_ := Aside0.mk (ho); clear HB; clear HO_16; clear HO162; have HB := n0_; have HO165 := n1_; clear n0_ n1_; clear ho hb hg hat))
                      go_roundg k2
                      case measure => have := HJ11.out; have := HK2.out; omega
                      case rel => exact ⟨(y163), (wrap64 (x17_2 + 1)), (by first | rfl | (simp; done) | (simp [*]; done)), H', ⟨by have := HJ11.out; have := HK2.out; omega⟩, ⟨by (with_reducible repeat (first | apply Kd.N_alloc | apply Kd.N_drewN | apply Kd.N_drew)); exact HO165.out⟩, ⟨by repeat (first | (with_reducible first | exact HB.out | apply below_alloc | apply pw_below_drewN | apply below_drew1) | exact HB.out)⟩⟩
                    · rw [if_neg c32] at H
                      exact absurd H (by simp)
                  · rw [if_neg c29] at H
                    have c29b0 : decide (x17_2 < t157) = false := decide_eq_false c29
                    clear c29
                    replace H := Option.bind_eq_some_iff.mp H
                    obtain ⟨⟨t166, t167, t168⟩, A370, H⟩ := H
                    replace H : ((impl_DigPlace.f k2 x16_2).bind fun bt169 => (if bt169.2.2 = 0 then (if bt169.2.1 < 1 then (laws_FnPlaces.j2 k2 l1 x16_2 t166 t167 t168 bt169.1 bt169.2.1 true) else (if bt169.2.1 > (x16_2.length : Int) then (laws_FnPlaces.j2 k2 l1 x16_2 t166 t167 t168 bt169.1 bt169.2.1 true) else (laws_FnPlaces.j2 k2 l1 x16_2 t166 t167 t168 bt169.1 bt169.2.1 ((t168 == 0) != (bt169.2.1 == (x16_2.length : Int)))))) else (laws_FnPlaces.j2 k2 l1 x16_2 t166 t167 t168 bt169.1 bt169.2.1 true))) = some r := H
                    have A37 := Aside0.mk A370
                    clear A370
                    replace H := Option.bind_eq_some_iff.mp H
                    obtain ⟨⟨t169, t170, t171⟩, A380, H⟩ := H
                    replace H : (if t171 = 0 then (if t170 < 1 then (laws_FnPlaces.j2 k2 l1 x16_2 t166 t167 t168 t169 t170 true) else (if t170 > (x16_2.length : Int) then (laws_FnPlaces.j2 k2 l1 x16_2 t166 t167 t168 t169 t170 true) else (laws_FnPlaces.j2 k2 l1 x16_2 t166 t167 t168 t169 t170 ((t168 == 0) != (t170 == (x16_2.length : Int)))))) else (laws_FnPlaces.j2 k2 l1 x16_2 t166 t167 t168 t169 t170 true)) = some r := H
                    have A38 := Aside0.mk A380
                    clear A380
                    have HC39 := Aside0.mk H
                    clear H
                    go_upto_region 20 with (first | ((with_reducible refine gate_callee (f := 35) rfl ?_); refine goesL_ (some 115) rfl rfl Try.func35 (by kernel_rfl) rfl #[.slice A0 l0.length c0, .int .i64 0, .int .i64 5] rfl (by (try simp only [List.map_toArray, List.map_cons, List.map_nil]); first | done | rfl | (simp only [List.length_drop, List.length_take]; rfl)) ?_; (with_reducible refine (laws_r8At.calls k2 _ _ l0 0 5 t157 _ ?side1 ?side2 A28.out).mono ?_); (case side1 => repeat (first | exact (Kd.C_below HR0.out HB.out) | (with_reducible refine Kd.C_alloc ?_ _) | (with_reducible refine Kd.C_drewN ?_ _) | (with_reducible refine Kd.C_drew ?_))); (case side2 => exact HC0.out); rintro e w' ⟨rfl, ⟨nd, rfl⟩⟩; refine ⟨_, rfl, ?_⟩; obtain ⟨Ao40, co40, eo40⟩ := Kd.N_slice HO_16.out; subst eo40) | ((with_reducible refine gate_callee (f := 36) rfl ?_); refine goesL_ (some 138) rfl rfl Try.func36 (by kernel_rfl) rfl #[.slice Ao40 x16_2.length co40] rfl (by (try simp only [List.map_toArray, List.map_cons, List.map_nil]); first | done | rfl | (simp only [List.length_drop, List.length_take]; rfl)) ?_; (with_reducible refine (impl_MeetPlaces.calls k2 _ _ x16_2 t166 t167 t168 _ ?side1 ?side2 A37.out).mono ?_); (case side1 => repeat (first | exact (Kd.N_reads' HO_16.out).2.2 | (with_reducible refine Kd.C_alloc ?_ _) | (with_reducible refine Kd.C_drewN ?_ _) | (with_reducible refine Kd.C_drew ?_))); (case side2 => exact (Kd.N_reads' HO_16.out).2.1); rintro e w41 ⟨rfl, hb⟩; refine ⟨_, rfl, ?_⟩; have n0_ := Aside0.mk (Kd.N_below (by (with_reducible repeat (first | apply Kd.N_alloc | apply Kd.N_drewN | apply Kd.N_drew)); exact HO_16.out) hb); have n1_ := Aside0.mk (below_step (by repeat (first | (with_reducible first | exact HB.out | apply below_alloc | apply pw_below_drewN | apply below_drew1) | exact HB.out)) hb); clear HO_16; clear HB; have HO_16 := n0_; have HB := n1_; clear n0_ n1_; (try clear hb); (try clear hb2); (try clear hk); (try clear hi)) | ((with_reducible refine gate_callee (f := 37) rfl ?_); refine goesL_ (some 144) rfl rfl Try.func37 (by kernel_rfl) rfl #[.slice Ao40 x16_2.length co40] rfl (by (try simp only [List.map_toArray, List.map_cons, List.map_nil]); first | done | rfl | (simp only [List.length_drop, List.length_take]; rfl)) ?_; (with_reducible refine (impl_DigPlace.calls k2 _ _ x16_2 t169 t170 t171 _ ?side1 ?side2 A38.out).mono ?_); (case side1 => repeat (first | exact (Kd.N_reads' HO_16.out).2.2 | (with_reducible refine Kd.C_alloc ?_ _) | (with_reducible refine Kd.C_drewN ?_ _) | (with_reducible refine Kd.C_drew ?_))); (case side2 => exact (Kd.N_reads' HO_16.out).2.1); rintro e w' ⟨rfl, ⟨nd, rfl⟩⟩; refine ⟨_, rfl, ?_⟩))
                    (try simp only [Act.put, List.setIfInBounds_toArray, List.set_cons_zero, List.set_cons_succ])
                    go_cut [168] (fun v168 wc => ∃ (kq : Nat) (x168_38 : Bool), v168 = .bool x168_38 ∧ Aside0 (laws_FnPlaces.j2 kq l1 x16_2 t166 t167 t168 t169 t170 x168_38 = some r) ∧ Aside0 (kq ≤ k2) ∧ Aside0 (Kd.N (Kd.slice 2 (Kd.int .i64)) 34 wc w.heap.size (fun _ => True) (.slice Ao40 x16_2.length co40) x16_2) ∧ Aside0 (Below w.heap.size w wc))
                    case first => as_aux_lemma =>
                      have H := HC39.out
                      clear HC39
                      by_cases c42 : t171 = 0
                      · rw [if_pos c42] at H
                        have c42b0 : (t171 == 0) = true := beq_iff_eq.mpr c42
                        have c42b1 : (t171 != 0) = false := bne_eq_false_iff_eq.mpr c42
                        clear c42
                        (first | rw [c42b0] | (simp only [i64_w, i32_w]; rw [c42b0]) | skip)
                        by_cases c43 : t170 < 1
                        · rw [if_pos c43] at H
                          have c43b0 : decide (t170 < 1) = true := decide_eq_true c43
                          clear c43
                          have H' := Aside0.mk H
                          clear H
                          go_wp2
                          go_meet
                          case rel => exact ⟨_, (true), (by first | rfl | (simp; done) | (simp [*]; done)), H', ⟨by have := HJ11.out; have := HK2.out; first | omega | exact Nat.le_refl _⟩, ⟨by (with_reducible repeat (first | apply Kd.N_alloc | apply Kd.N_drewN | apply Kd.N_drew)); exact HO_16.out⟩, ⟨by repeat (first | (with_reducible first | exact HB.out | apply below_alloc | apply pw_below_drewN | apply below_drew1) | exact HB.out)⟩⟩
                        · rw [if_neg c43] at H
                          have c43b0 : decide (t170 < 1) = false := decide_eq_false c43
                          clear c43
                          by_cases c44 : t170 > (x16_2.length : Int)
                          · rw [if_pos c44] at H
                            have c44b0 : decide ((x16_2.length : Int) < t170) = true := decide_eq_true c44
                            clear c44
                            have H' := Aside0.mk H
                            clear H
                            go_wp2
                            go_meet
                            case rel => exact ⟨_, (true), (by first | rfl | (simp; done) | (simp [*]; done)), H', ⟨by have := HJ11.out; have := HK2.out; first | omega | exact Nat.le_refl _⟩, ⟨by (with_reducible repeat (first | apply Kd.N_alloc | apply Kd.N_drewN | apply Kd.N_drew)); exact HO_16.out⟩, ⟨by repeat (first | (with_reducible first | exact HB.out | apply below_alloc | apply pw_below_drewN | apply below_drew1) | exact HB.out)⟩⟩
                          · rw [if_neg c44] at H
                            have c44b0 : decide ((x16_2.length : Int) < t170) = false := decide_eq_false c44
                            clear c44
                            have H' := Aside0.mk H
                            clear H
                            go_wp2
                            go_meet
                            case rel => exact ⟨_, (((t168 == 0) != (t170 == (x16_2.length : Int)))), (by first | rfl | (simp; done) | (simp [*]; done)), H', ⟨by have := HJ11.out; have := HK2.out; first | omega | exact Nat.le_refl _⟩, ⟨by (with_reducible repeat (first | apply Kd.N_alloc | apply Kd.N_drewN | apply Kd.N_drew)); exact HO_16.out⟩, ⟨by repeat (first | (with_reducible first | exact HB.out | apply below_alloc | apply pw_below_drewN | apply below_drew1) | exact HB.out)⟩⟩
                      · rw [if_neg c42] at H
                        have c42b0 : (t171 == 0) = false := beq_eq_false_iff_ne.mpr c42
                        have c42b1 : (t171 != 0) = true := bne_iff_ne.mpr c42
                        (first | rw [c42b0] | (simp only [i64_w, i32_w]; rw [c42b0]) | skip)
                        have H' := Aside0.mk H
                        clear H
                        go_wp2
                        go_meet
                        case rel => exact ⟨_, (true), (by first | rfl | (simp; done) | (simp [*]; done)), H', ⟨by have := HJ11.out; have := HK2.out; first | omega | exact Nat.le_refl _⟩, ⟨by (with_reducible repeat (first | apply Kd.N_alloc | apply Kd.N_drewN | apply Kd.N_drew)); exact HO_16.out⟩, ⟨by repeat (first | (with_reducible first | exact HB.out | apply below_alloc | apply pw_below_drewN | apply below_drew1) | exact HB.out)⟩⟩
                    case rest => as_aux_lemma =>
                      clear HC39
                      try clear c1
                      try clear c2
                      try clear p2
                      try clear c3
                      try clear c4
                      try clear p6
                      try clear c8
                      try clear c8b0
                      try clear c8b1
                      try clear c9
                      try clear c9b0
                      try clear c9b1
                      try clear c15
                      try clear c15b0
                      try clear c15b1
                      try clear c16
                      try clear c16b0
                      try clear c17
                      try clear c17b0
                      try clear c18
                      try clear c18b0
                      try clear c19
                      try clear c19b0
                      try clear c20
                      try clear c20b0
                      try clear c20b1
                      try clear c21
                      try clear c21b0
                      try clear c22
                      try clear c29
                      try clear c29b0
                      try clear c32
                      try clear c33
                      try clear c34
                      try clear c35
                      try clear c36
                      try clear c37
                      try clear c42
                      try clear c42b0
                      try clear c42b1
                      try clear c43
                      try clear c43b0
                      try clear c44
                      try clear c44b0
                      try clear p2
                      try clear p6
                      obtain ⟨kq, x168_38, rfl, HA, HJ38, HO_16, HB⟩ := hcut
                      cases kq with
                      | zero => exact absurd HA.out (by simp [laws_FnPlaces.j2])
                      | succ kj38 =>
                        have H := HA.out
                        clear HA
                        simp only [laws_FnPlaces.j2] at H
                        by_cases c45 : x168_38 = true
                        · subst c45
                          have H1 : (some false) = some r := by rw [if_pos rfl] at H; exact H
                          clear H
                          have H := H1
                          clear H1
                          obtain rfl := Option.some.inj H
                          go_wp2
                          go_ret
                          exact ⟨by first | rfl | (simp [errW_none, errW_some] <;> rfl) | (simp [*, errW_none, errW_some] <;> rfl), by repeat (first | (with_reducible first | exact HB.out | apply below_alloc | apply pw_below_drewN | apply below_drew1) | exact HB.out)⟩
                        · replace c45 := Bool.eq_false_iff.mpr c45
                          subst c45
                          have H1 : (laws_FnPlaces.l1 kj38 l1 x16_2 t166 t167 t168 t169 t170 0 0) = some r := by rw [if_neg (show ¬ (false = true) by decide)] at H; exact H
                          clear H
                          have H := H1
                          clear H1
                          have H' := Aside0.mk H
                          clear H
                          go_wp2
                          go_loopg [25, 26] kj38 (fun kq v25 v26 w' => ∃ (x25_4 : Int) (x26_4 : Int), v25 = .int .i64 x25_4 ∧ v26 = .int .i64 x26_4 ∧ Aside0 (laws_FnPlaces.l1 kq l1 x16_2 t166 t167 t168 t169 t170 x25_4 x26_4 = some r) ∧ Aside0 (kq ≤ kj38) ∧ Aside0 (Kd.N (Kd.slice 2 (Kd.int .i64)) 34 w' w.heap.size (fun _ => True) (.slice Ao40 x16_2.length co40) x16_2) ∧ Aside0 (Below w.heap.size w w'))
                          case atStart => exact ⟨(0), (0), (by first | rfl | (simp; done) | (simp [*]; done)), (by first | rfl | (simp; done) | (simp [*]; done)), H', ⟨Nat.le_refl _⟩, ⟨by (with_reducible repeat (first | apply Kd.N_alloc | apply Kd.N_drewN | apply Kd.N_drew)); exact HO_16.out⟩, ⟨by repeat (first | (with_reducible first | exact HB.out | apply below_alloc | apply pw_below_drewN | apply below_drew1) | exact HB.out)⟩⟩
                          case round => as_aux_lemma =>
                            clear H'
                            try clear c1
                            try clear c2
                            try clear p2
                            try clear c3
                            try clear c4
                            try clear p6
                            try clear c8
                            try clear c8b0
                            try clear c8b1
                            try clear c9
                            try clear c9b0
                            try clear c9b1
                            try clear c15
                            try clear c15b0
                            try clear c15b1
                            try clear c16
                            try clear c16b0
                            try clear c17
                            try clear c17b0
                            try clear c18
                            try clear c18b0
                            try clear c19
                            try clear c19b0
                            try clear c20
                            try clear c20b0
                            try clear c20b1
                            try clear c21
                            try clear c21b0
                            try clear c22
                            try clear c29
                            try clear c29b0
                            try clear c32
                            try clear c33
                            try clear c34
                            try clear c35
                            try clear c36
                            try clear c37
                            try clear c42
                            try clear c42b0
                            try clear c42b1
                            try clear c43
                            try clear c43b0
                            try clear c44
                            try clear c44b0
                            try clear c45
                            try clear p2
                            try clear p6
                            obtain ⟨x25_4, x26_4, rfl, rfl, HA, HK4, HO_16, HB⟩ := hrel
                            cases gk with
                            | zero => exact absurd HA.out (by simp [laws_FnPlaces.l1])
                            | succ k4 =>
                              have H := HA.out
                              clear HA
                              simp only [laws_FnPlaces.l1] at H
                              by_cases c46 : x26_4 < (x16_2.length : Int)
                              · rw [if_pos c46] at H
                                have c46b0 : decide (x26_4 < (x16_2.length : Int)) = true := decide_eq_true c46
                                clear c46
                                have HC47 := Aside0.mk H
                                clear H
                                go_upto_region 26 with (fail)
                                go_cut [192] (fun v192 wc => ∃ (kq : Nat) (x192_46 : Bool), v192 = .bool x192_46 ∧ Aside0 (laws_FnPlaces.j4 kq l1 x16_2 t166 t167 t168 t169 t170 x25_4 x26_4 x192_46 = some r) ∧ Aside0 (kq ≤ k4) ∧ Aside0 (Kd.N (Kd.slice 2 (Kd.int .i64)) 34 wc w.heap.size (fun _ => True) (.slice Ao40 x16_2.length co40) x16_2) ∧ Aside0 (Below w.heap.size w wc))
                                case first => as_aux_lemma =>
                                  have H := HC47.out
                                  clear HC47
                                  by_cases c48 : 0 ≤ x26_4
                                  · rw [if_pos c48] at H
                                    have c48b0 : decide (0 ≤ x26_4) = true := decide_eq_true c48
                                    clear c48
                                    (first | rw [c48b0] | (simp only [i64_w, i32_w]; rw [c48b0]) | skip)
                                    by_cases c49 : 0 < ((rd_L2 x16_2 x26_4).length : Int)
                                    · rw [if_pos c49] at H
                                      have c49b0 : decide (0 < ((rd_L2 x16_2 x26_4).length : Int)) = true := decide_eq_true c49
                                      have c49b1 : decide (0 < (rd_L2 x16_2 x26_4).length) = true := decide_eq_true (by omega)
                                      clear c49
                                      by_cases c50 : (rd (rd_L2 x16_2 x26_4) 0) ≤ t169
                                      · rw [if_pos c50] at H
                                        have c50b0 : decide ((rd (rd_L2 x16_2 x26_4) 0) ≤ t169) = true := decide_eq_true c50
                                        clear c50
                                        by_cases c51 : 1 < ((rd_L2 x16_2 x26_4).length : Int)
                                        · rw [if_pos c51] at H
                                          have c51b0 : decide (1 < ((rd_L2 x16_2 x26_4).length : Int)) = true := decide_eq_true c51
                                          have c51b1 : decide (1 < (rd_L2 x16_2 x26_4).length) = true := decide_eq_true (by omega)
                                          clear c51
                                          have H' := Aside0.mk H
                                          clear H
                                          have p172 : 0 ≤ (x26_4 : Int) := of_decide_eq_true (by first | (with_reducible assumption) | assumption)
                                          have q172 : x26_4 < (x16_2.length : Int) := of_decide_eq_true (by first | (with_reducible assumption) | assumption)
                                          obtain ⟨ad172, A172_0, c172_0, e172, hx172_0, hl172_0, hi172_0⟩ := at_L2 (Kd.N_reads' HO_16.out).2.2 x26_4 p172 q172
                                          cases e172
                                          obtain ⟨ce172, hce172, hMe172, hcc172⟩ := Kd.N_get HO_16.out [] x26_4 p172 (by first | exact q172 | exact of_decide_eq_true (by first | (with_reducible assumption) | assumption) | (have e_ := (Kd.N_reads' HO_16.out).1; omega))
                                          obtain ⟨ua172_0, uc172_0, rfl, ul172_0, ge172_0⟩ := Kd.FK_slice_open hMe172
                                          have hv172_0 := hcc172 0 _ rfl
                                          rw [Nat.add_zero, show ((Kd.slice 2 (Kd.int .i64))).sz = 1 from rfl, Nat.mul_one] at hv172_0
                                          replace hv172_0 := Option.some.inj (hv172_0.symm.trans hx172_0)
                                          injection hv172_0 with hva_ hvn_ hvc_
                                          rw [hva_] at ge172_0
                                          rw [hvc_] at ul172_0
                                          have HL172_0 := Aside0.mk (show Kd.V (Kd.int .i64) 2 _ w.heap.size _ _ (rd_L2 x16_2 x26_4) from Kd.V_mk ul172_0 ge172_0)
                                          clear hva_ hvn_ hvc_ ge172_0 ul172_0
                                          clear hcc172 hce172
                                          have HR172_0 := Aside0.mk hi172_0
                                          have HC172_0 := Aside0.mk hl172_0
                                          clear hi172_0 hl172_0
                                          replace p172 := eq_true p172
                                          replace q172 := eq_true q172
                                          have p173 : 0 ≤ (0 : Int) := (by omega)
                                          have q173 : 0 < ((rd_L2 x16_2 x26_4).length : Int) := of_decide_eq_true (by first | (with_reducible assumption) | assumption)
                                          obtain ⟨ad173, e173, hx173_0⟩ := Kd.at_int (by repeat (first | (with_reducible exact HR172_0.out) | (with_reducible refine Kd.C_alloc ?_ _) | (with_reducible refine Kd.C_drewN ?_ _) | (with_reducible refine Kd.C_drew ?_) | exact HR172_0.out)) 0 p173 q173
                                          cases e173
                                          have qi173 : (0 < (rd_L2 x16_2 x26_4).length) = True := eq_true (by omega)
                                          (try rw [show ((0 : Int)).toNat = 0 from rfl] at hx173_0)
                                          (try rw [Addr.add_zero'] at hx173_0)
                                          replace p173 := eq_true p173
                                          replace q173 := eq_true q173
                                          have p174 : 0 ≤ (x26_4 : Int) := of_decide_eq_true (by first | (with_reducible assumption) | assumption)
                                          have q174 : x26_4 < (x16_2.length : Int) := of_decide_eq_true (by first | (with_reducible assumption) | assumption)
                                          obtain ⟨ad174, A174_0, c174_0, e174, hx174_0, hl174_0, hi174_0⟩ := at_L2 (Kd.N_reads' HO_16.out).2.2 x26_4 p174 q174
                                          obtain rfl : ad172 = ad174 := (by injection e174)
                                          obtain ⟨ce174, hce174, hMe174, hcc174⟩ := Kd.N_get HO_16.out [] x26_4 p174 (by first | exact q174 | exact of_decide_eq_true (by first | (with_reducible assumption) | assumption) | (have e_ := (Kd.N_reads' HO_16.out).1; omega))
                                          obtain ⟨ua174_0, uc174_0, rfl, ul174_0, ge174_0⟩ := Kd.FK_slice_open hMe174
                                          have hv174_0 := hcc174 0 _ rfl
                                          rw [Nat.add_zero, show ((Kd.slice 2 (Kd.int .i64))).sz = 1 from rfl, Nat.mul_one] at hv174_0
                                          replace hv174_0 := Option.some.inj (hv174_0.symm.trans hx174_0)
                                          injection hv174_0 with hva_ hvn_ hvc_
                                          rw [hva_] at ge174_0
                                          rw [hvc_] at ul174_0
                                          have HL174_0 := Aside0.mk (show Kd.V (Kd.int .i64) 2 _ w.heap.size _ _ (rd_L2 x16_2 x26_4) from Kd.V_mk ul174_0 ge174_0)
                                          clear hva_ hvn_ hvc_ ge174_0 ul174_0
                                          clear hcc174 hce174
                                          have HR174_0 := Aside0.mk hi174_0
                                          have HC174_0 := Aside0.mk hl174_0
                                          clear hi174_0 hl174_0
                                          replace p174 := eq_true p174
                                          replace q174 := eq_true q174
                                          have ea_ := Option.some.inj (hx172_0.symm.trans hx174_0)
                                          injection ea_ with ea_ en_ ec_
                                          subst ea_
                                          subst ec_
                                          clear en_
                                          have p175 : 0 ≤ (1 : Int) := (by omega)
                                          have q175 : 1 < ((rd_L2 x16_2 x26_4).length : Int) := of_decide_eq_true (by first | (with_reducible assumption) | assumption)
                                          obtain ⟨ad175, e175, hx175_0⟩ := Kd.at_int (by repeat (first | (with_reducible exact HR174_0.out) | (with_reducible refine Kd.C_alloc ?_ _) | (with_reducible refine Kd.C_drewN ?_ _) | (with_reducible refine Kd.C_drew ?_) | exact HR174_0.out)) 1 p175 q175
                                          cases e175
                                          (try simp only [show (1 : Int).toNat = 1 from rfl, Nat.reduceMul, Nat.reduceEqDiff, Go.Addr.add, ↓reduceIte] at hx175_0)
                                          have qi175 : (1 < (rd_L2 x16_2 x26_4).length) = True := eq_true (by omega)
                                          (try rw [show ((1 : Int)).toNat = 1 from rfl] at hx175_0)
                                          replace p175 := eq_true p175
                                          replace q175 := eq_true q175
                                          go_wp2
                                          go_meet
                                          case rel => exact ⟨_, (decide (t169 ≤ (rd (rd_L2 x16_2 x26_4) 1))), (by first | rfl | (simp; done) | (simp [*]; done)), H', ⟨by have := HJ11.out; have := HK2.out; have := HJ38.out; have := HK4.out; first | omega | exact Nat.le_refl _⟩, ⟨by (with_reducible repeat (first | apply Kd.N_alloc | apply Kd.N_drewN | apply Kd.N_drew)); exact HO_16.out⟩, ⟨by repeat (first | (with_reducible first | exact HB.out | apply below_alloc | apply pw_below_drewN | apply below_drew1) | exact HB.out)⟩⟩
                                        · rw [if_neg c51] at H
                                          exact absurd H (by simp)
                                      · rw [if_neg c50] at H
                                        have c50b0 : decide ((rd (rd_L2 x16_2 x26_4) 0) ≤ t169) = false := decide_eq_false c50
                                        clear c50
                                        have H' := Aside0.mk H
                                        clear H
                                        have p172 : 0 ≤ (x26_4 : Int) := of_decide_eq_true (by first | (with_reducible assumption) | assumption)
                                        have q172 : x26_4 < (x16_2.length : Int) := of_decide_eq_true (by first | (with_reducible assumption) | assumption)
                                        obtain ⟨ad172, A172_0, c172_0, e172, hx172_0, hl172_0, hi172_0⟩ := at_L2 (Kd.N_reads' HO_16.out).2.2 x26_4 p172 q172
                                        cases e172
                                        obtain ⟨ce172, hce172, hMe172, hcc172⟩ := Kd.N_get HO_16.out [] x26_4 p172 (by first | exact q172 | exact of_decide_eq_true (by first | (with_reducible assumption) | assumption) | (have e_ := (Kd.N_reads' HO_16.out).1; omega))
                                        obtain ⟨ua172_0, uc172_0, rfl, ul172_0, ge172_0⟩ := Kd.FK_slice_open hMe172
                                        have hv172_0 := hcc172 0 _ rfl
                                        rw [Nat.add_zero, show ((Kd.slice 2 (Kd.int .i64))).sz = 1 from rfl, Nat.mul_one] at hv172_0
                                        replace hv172_0 := Option.some.inj (hv172_0.symm.trans hx172_0)
                                        injection hv172_0 with hva_ hvn_ hvc_
                                        rw [hva_] at ge172_0
                                        rw [hvc_] at ul172_0
                                        have HL172_0 := Aside0.mk (show Kd.V (Kd.int .i64) 2 _ w.heap.size _ _ (rd_L2 x16_2 x26_4) from Kd.V_mk ul172_0 ge172_0)
                                        clear hva_ hvn_ hvc_ ge172_0 ul172_0
                                        clear hcc172 hce172
                                        have HR172_0 := Aside0.mk hi172_0
                                        have HC172_0 := Aside0.mk hl172_0
                                        clear hi172_0 hl172_0
                                        replace p172 := eq_true p172
                                        replace q172 := eq_true q172
                                        have p173 : 0 ≤ (0 : Int) := (by omega)
                                        have q173 : 0 < ((rd_L2 x16_2 x26_4).length : Int) := of_decide_eq_true (by first | (with_reducible assumption) | assumption)
                                        obtain ⟨ad173, e173, hx173_0⟩ := Kd.at_int (by repeat (first | (with_reducible exact HR172_0.out) | (with_reducible refine Kd.C_alloc ?_ _) | (with_reducible refine Kd.C_drewN ?_ _) | (with_reducible refine Kd.C_drew ?_) | exact HR172_0.out)) 0 p173 q173
                                        cases e173
                                        have qi173 : (0 < (rd_L2 x16_2 x26_4).length) = True := eq_true (by omega)
                                        (try rw [show ((0 : Int)).toNat = 0 from rfl] at hx173_0)
                                        (try rw [Addr.add_zero'] at hx173_0)
                                        replace p173 := eq_true p173
                                        replace q173 := eq_true q173
                                        go_wp2
                                        go_meet
                                        case rel => exact ⟨_, (false), (by first | rfl | (simp; done) | (simp [*]; done)), H', ⟨by have := HJ11.out; have := HK2.out; have := HJ38.out; have := HK4.out; first | omega | exact Nat.le_refl _⟩, ⟨by (with_reducible repeat (first | apply Kd.N_alloc | apply Kd.N_drewN | apply Kd.N_drew)); exact HO_16.out⟩, ⟨by repeat (first | (with_reducible first | exact HB.out | apply below_alloc | apply pw_below_drewN | apply below_drew1) | exact HB.out)⟩⟩
                                    · rw [if_neg c49] at H
                                      exact absurd H (by simp)
                                  · rw [if_neg c48] at H
                                    exact absurd H (by simp)
                                case rest => as_aux_lemma =>
                                  clear HC47
                                  try clear c1
                                  try clear p1
                                  try clear q1
                                  try clear hx1
                                  try clear qi1
                                  try clear c2
                                  try clear p2
                                  try clear c3
                                  try clear c4
                                  try clear c5
                                  try clear p6
                                  try clear c8
                                  try clear c8b0
                                  try clear c8b1
                                  try clear c9
                                  try clear c9b0
                                  try clear c9b1
                                  try clear c15
                                  try clear c15b0
                                  try clear c15b1
                                  try clear c16
                                  try clear c16b0
                                  try clear c17
                                  try clear c17b0
                                  try clear p17
                                  try clear q17
                                  try clear hx17
                                  try clear qi17
                                  try clear c18
                                  try clear c18b0
                                  try clear c19
                                  try clear c19b0
                                  try clear c20
                                  try clear c20b0
                                  try clear c20b1
                                  try clear c21
                                  try clear c21b0
                                  try clear c22
                                  try clear c29
                                  try clear c29b0
                                  try clear c32
                                  try clear c33
                                  try clear c34
                                  try clear c35
                                  try clear c36
                                  try clear c37
                                  try clear c42
                                  try clear c42b0
                                  try clear c42b1
                                  try clear c43
                                  try clear c43b0
                                  try clear c44
                                  try clear c44b0
                                  try clear c45
                                  try clear c46
                                  try clear c46b0
                                  try clear c48
                                  try clear c48b0
                                  try clear c49
                                  try clear c49b0
                                  try clear c49b1
                                  try clear c50
                                  try clear c50b0
                                  try clear c51
                                  try clear c51b0
                                  try clear c51b1
                                  try clear hx172_0
                                  try clear hx173_0
                                  try clear hx174_0
                                  try clear hx175_0
                                  try clear p172
                                  try clear p173
                                  try clear p174
                                  try clear p175
                                  try clear p2
                                  try clear p6
                                  try clear q172
                                  try clear q173
                                  try clear q174
                                  try clear q175
                                  obtain ⟨kq, x192_46, rfl, HA, HJ46, HO_16, HB⟩ := hcut
                                  cases kq with
                                  | zero => exact absurd HA.out (by simp [laws_FnPlaces.j4])
                                  | succ kj46 =>
                                    have H := HA.out
                                    clear HA
                                    simp only [laws_FnPlaces.j4] at H
                                    have HC52 := Aside0.mk H
                                    clear H
                                    go_upto_if 192 with (fail)
                                    go_cut [25] (fun v25 wc => ∃ (kq : Nat) (x25_51 : Int), v25 = .int .i64 x25_51 ∧ Aside0 (laws_FnPlaces.j5 kq l1 x16_2 t166 t167 t168 t169 t170 x25_51 x26_4 = some r) ∧ Aside0 (kq ≤ kj46) ∧ Aside0 (Kd.N (Kd.slice 2 (Kd.int .i64)) 34 wc w.heap.size (fun _ => True) (.slice Ao40 x16_2.length co40) x16_2) ∧ Aside0 (Below w.heap.size w wc))
                                    case first => as_aux_lemma =>
                                      have H := HC52.out
                                      clear HC52
                                      by_cases c53 : x192_46 = true
                                      · subst c53
                                        have H1 : (laws_FnPlaces.j5 kj46 l1 x16_2 t166 t167 t168 t169 t170 (wrap64 (x25_4 + 1)) x26_4) = some r := by rw [if_pos rfl] at H; exact H
                                        clear H
                                        have H := H1
                                        clear H1
                                        have H' := Aside0.mk H
                                        clear H
                                        go_wp2
                                        go_meet
                                        case rel => exact ⟨_, (wrap64 (x25_4 + 1)), (by first | rfl | (simp; done) | (simp [*]; done)), H', ⟨by have := HJ11.out; have := HK2.out; have := HJ38.out; have := HK4.out; have := HJ46.out; first | omega | exact Nat.le_refl _⟩, ⟨by (with_reducible repeat (first | apply Kd.N_alloc | apply Kd.N_drewN | apply Kd.N_drew)); exact HO_16.out⟩, ⟨by repeat (first | (with_reducible first | exact HB.out | apply below_alloc | apply pw_below_drewN | apply below_drew1) | exact HB.out)⟩⟩
                                      · replace c53 := Bool.eq_false_iff.mpr c53
                                        subst c53
                                        have H1 : (laws_FnPlaces.j5 kj46 l1 x16_2 t166 t167 t168 t169 t170 x25_4 x26_4) = some r := by rw [if_neg (show ¬ (false = true) by decide)] at H; exact H
                                        clear H
                                        have H := H1
                                        clear H1
                                        have H' := Aside0.mk H
                                        clear H
                                        go_wp2
                                        go_meet
                                        case rel => exact ⟨_, (x25_4), (by first | rfl | (simp; done) | (simp [*]; done)), H', ⟨by have := HJ11.out; have := HK2.out; have := HJ38.out; have := HK4.out; have := HJ46.out; first | omega | exact Nat.le_refl _⟩, ⟨by (with_reducible repeat (first | apply Kd.N_alloc | apply Kd.N_drewN | apply Kd.N_drew)); exact HO_16.out⟩, ⟨by repeat (first | (with_reducible first | exact HB.out | apply below_alloc | apply pw_below_drewN | apply below_drew1) | exact HB.out)⟩⟩
                                    case rest => as_aux_lemma =>
                                      clear HC52
                                      try clear c1
                                      try clear p1
                                      try clear q1
                                      try clear hx1
                                      try clear qi1
                                      try clear c2
                                      try clear p2
                                      try clear c3
                                      try clear c4
                                      try clear c5
                                      try clear p6
                                      try clear c8
                                      try clear c8b0
                                      try clear c8b1
                                      try clear c9
                                      try clear c9b0
                                      try clear c9b1
                                      try clear c15
                                      try clear c15b0
                                      try clear c15b1
                                      try clear c16
                                      try clear c16b0
                                      try clear c17
                                      try clear c17b0
                                      try clear p17
                                      try clear q17
                                      try clear hx17
                                      try clear qi17
                                      try clear c18
                                      try clear c18b0
                                      try clear c19
                                      try clear c19b0
                                      try clear c20
                                      try clear c20b0
                                      try clear c20b1
                                      try clear c21
                                      try clear c21b0
                                      try clear c22
                                      try clear c29
                                      try clear c29b0
                                      try clear c32
                                      try clear c33
                                      try clear c34
                                      try clear c35
                                      try clear c36
                                      try clear c37
                                      try clear c42
                                      try clear c42b0
                                      try clear c42b1
                                      try clear c43
                                      try clear c43b0
                                      try clear c44
                                      try clear c44b0
                                      try clear c45
                                      try clear c46
                                      try clear c46b0
                                      try clear c48
                                      try clear c48b0
                                      try clear c49
                                      try clear c49b0
                                      try clear c49b1
                                      try clear c50
                                      try clear c50b0
                                      try clear c51
                                      try clear c51b0
                                      try clear c51b1
                                      try clear c53
                                      try clear hx172_0
                                      try clear hx173_0
                                      try clear hx174_0
                                      try clear hx175_0
                                      try clear p1
                                      try clear p17
                                      try clear p172
                                      try clear p173
                                      try clear p174
                                      try clear p175
                                      try clear p2
                                      try clear p6
                                      try clear q1
                                      try clear q17
                                      try clear q172
                                      try clear q173
                                      try clear q174
                                      try clear q175
                                      obtain ⟨kq, x25_51, rfl, HA, HJ51, HO_16, HB⟩ := hcut
                                      cases kq with
                                      | zero => exact absurd HA.out (by simp [laws_FnPlaces.j5])
                                      | succ kj51 =>
                                        have H := HA.out
                                        clear HA
                                        simp only [laws_FnPlaces.j5] at H
                                        have HC54 := Aside0.mk H
                                        clear H
                                        go_upto_region 28 with (fail)
                                        go_cut [216] (fun v216 wc => ∃ (kq : Nat) (x216_53 : Bool), v216 = .bool x216_53 ∧ Aside0 (laws_FnPlaces.j6 kq l1 x16_2 t166 t167 t168 t169 t170 x25_51 x26_4 x216_53 = some r) ∧ Aside0 (kq ≤ kj51) ∧ Aside0 (Kd.N (Kd.slice 2 (Kd.int .i64)) 34 wc w.heap.size (fun _ => True) (.slice Ao40 x16_2.length co40) x16_2) ∧ Aside0 (Below w.heap.size w wc))
                                        case first => as_aux_lemma =>
                                          have H := HC54.out
                                          clear HC54
                                          by_cases c55 : t168 = 0
                                          · rw [if_pos c55] at H
                                            have c55b0 : (t168 == 0) = true := beq_iff_eq.mpr c55
                                            have c55b1 : (t168 != 0) = false := bne_eq_false_iff_eq.mpr c55
                                            clear c55
                                            (first | rw [c55b0] | (simp only [i64_w, i32_w]; rw [c55b0]) | skip)
                                            by_cases c56 : 0 ≤ x26_4
                                            · rw [if_pos c56] at H
                                              have c56b0 : decide (0 ≤ x26_4) = true := decide_eq_true c56
                                              clear c56
                                              by_cases c57 : x26_4 < (x16_2.length : Int)
                                              · rw [if_pos c57] at H
                                                have c57b0 : decide (x26_4 < (x16_2.length : Int)) = true := decide_eq_true c57
                                                clear c57
                                                by_cases c58 : 0 < ((rd_L2 x16_2 x26_4).length : Int)
                                                · rw [if_pos c58] at H
                                                  have c58b0 : decide (0 < ((rd_L2 x16_2 x26_4).length : Int)) = true := decide_eq_true c58
                                                  have c58b1 : decide (0 < (rd_L2 x16_2 x26_4).length) = true := decide_eq_true (by omega)
                                                  clear c58
                                                  by_cases c59 : t166 < (rd (rd_L2 x16_2 x26_4) 0)
                                                  · rw [if_pos c59] at H
                                                    have c59b0 : decide (t166 < (rd (rd_L2 x16_2 x26_4) 0)) = true := decide_eq_true c59
                                                    clear c59
                                                    have H' := Aside0.mk H
                                                    clear H
                                                    have p176 : 0 ≤ (x26_4 : Int) := of_decide_eq_true (by first | (with_reducible assumption) | assumption)
                                                    have q176 : x26_4 < (x16_2.length : Int) := of_decide_eq_true (by first | (with_reducible assumption) | assumption)
                                                    obtain ⟨ad176, A176_0, c176_0, e176, hx176_0, hl176_0, hi176_0⟩ := at_L2 (Kd.N_reads' HO_16.out).2.2 x26_4 p176 q176
                                                    cases e176
                                                    obtain ⟨ce176, hce176, hMe176, hcc176⟩ := Kd.N_get HO_16.out [] x26_4 p176 (by first | exact q176 | exact of_decide_eq_true (by first | (with_reducible assumption) | assumption) | (have e_ := (Kd.N_reads' HO_16.out).1; omega))
                                                    obtain ⟨ua176_0, uc176_0, rfl, ul176_0, ge176_0⟩ := Kd.FK_slice_open hMe176
                                                    have hv176_0 := hcc176 0 _ rfl
                                                    rw [Nat.add_zero, show ((Kd.slice 2 (Kd.int .i64))).sz = 1 from rfl, Nat.mul_one] at hv176_0
                                                    replace hv176_0 := Option.some.inj (hv176_0.symm.trans hx176_0)
                                                    injection hv176_0 with hva_ hvn_ hvc_
                                                    rw [hva_] at ge176_0
                                                    rw [hvc_] at ul176_0
                                                    have HL176_0 := Aside0.mk (show Kd.V (Kd.int .i64) 2 _ w.heap.size _ _ (rd_L2 x16_2 x26_4) from Kd.V_mk ul176_0 ge176_0)
                                                    clear hva_ hvn_ hvc_ ge176_0 ul176_0
                                                    clear hcc176 hce176
                                                    have HR176_0 := Aside0.mk hi176_0
                                                    have HC176_0 := Aside0.mk hl176_0
                                                    clear hi176_0 hl176_0
                                                    replace p176 := eq_true p176
                                                    replace q176 := eq_true q176
                                                    have p177 : 0 ≤ (0 : Int) := (by omega)
                                                    have q177 : 0 < ((rd_L2 x16_2 x26_4).length : Int) := of_decide_eq_true (by first | (with_reducible assumption) | assumption)
                                                    obtain ⟨ad177, e177, hx177_0⟩ := Kd.at_int (by repeat (first | (with_reducible exact HR176_0.out) | (with_reducible refine Kd.C_alloc ?_ _) | (with_reducible refine Kd.C_drewN ?_ _) | (with_reducible refine Kd.C_drew ?_) | exact HR176_0.out)) 0 p177 q177
                                                    cases e177
                                                    have qi177 : (0 < (rd_L2 x16_2 x26_4).length) = True := eq_true (by omega)
                                                    (try rw [show ((0 : Int)).toNat = 0 from rfl] at hx177_0)
                                                    (try rw [Addr.add_zero'] at hx177_0)
                                                    replace p177 := eq_true p177
                                                    replace q177 := eq_true q177
                                                    go_wp2
                                                    go_meet
                                                    case rel => exact ⟨_, (true), (by first | rfl | (simp; done) | (simp [*]; done)), H', ⟨by have := HJ11.out; have := HK2.out; have := HJ38.out; have := HK4.out; have := HJ46.out; have := HJ51.out; first | omega | exact Nat.le_refl _⟩, ⟨by (with_reducible repeat (first | apply Kd.N_alloc | apply Kd.N_drewN | apply Kd.N_drew)); exact HO_16.out⟩, ⟨by repeat (first | (with_reducible first | exact HB.out | apply below_alloc | apply pw_below_drewN | apply below_drew1) | exact HB.out)⟩⟩
                                                  · rw [if_neg c59] at H
                                                    have c59b0 : decide (t166 < (rd (rd_L2 x16_2 x26_4) 0)) = false := decide_eq_false c59
                                                    clear c59
                                                    by_cases c60 : 1 < ((rd_L2 x16_2 x26_4).length : Int)
                                                    · rw [if_pos c60] at H
                                                      have c60b0 : decide (1 < ((rd_L2 x16_2 x26_4).length : Int)) = true := decide_eq_true c60
                                                      have c60b1 : decide (1 < (rd_L2 x16_2 x26_4).length) = true := decide_eq_true (by omega)
                                                      clear c60
                                                      have H' := Aside0.mk H
                                                      clear H
                                                      have p176 : 0 ≤ (x26_4 : Int) := of_decide_eq_true (by first | (with_reducible assumption) | assumption)
                                                      have q176 : x26_4 < (x16_2.length : Int) := of_decide_eq_true (by first | (with_reducible assumption) | assumption)
                                                      obtain ⟨ad176, A176_0, c176_0, e176, hx176_0, hl176_0, hi176_0⟩ := at_L2 (Kd.N_reads' HO_16.out).2.2 x26_4 p176 q176
                                                      cases e176
                                                      obtain ⟨ce176, hce176, hMe176, hcc176⟩ := Kd.N_get HO_16.out [] x26_4 p176 (by first | exact q176 | exact of_decide_eq_true (by first | (with_reducible assumption) | assumption) | (have e_ := (Kd.N_reads' HO_16.out).1; omega))
                                                      obtain ⟨ua176_0, uc176_0, rfl, ul176_0, ge176_0⟩ := Kd.FK_slice_open hMe176
                                                      have hv176_0 := hcc176 0 _ rfl
                                                      rw [Nat.add_zero, show ((Kd.slice 2 (Kd.int .i64))).sz = 1 from rfl, Nat.mul_one] at hv176_0
                                                      replace hv176_0 := Option.some.inj (hv176_0.symm.trans hx176_0)
                                                      injection hv176_0 with hva_ hvn_ hvc_
                                                      rw [hva_] at ge176_0
                                                      rw [hvc_] at ul176_0
                                                      have HL176_0 := Aside0.mk (show Kd.V (Kd.int .i64) 2 _ w.heap.size _ _ (rd_L2 x16_2 x26_4) from Kd.V_mk ul176_0 ge176_0)
                                                      clear hva_ hvn_ hvc_ ge176_0 ul176_0
                                                      clear hcc176 hce176
                                                      have HR176_0 := Aside0.mk hi176_0
                                                      have HC176_0 := Aside0.mk hl176_0
                                                      clear hi176_0 hl176_0
                                                      replace p176 := eq_true p176
                                                      replace q176 := eq_true q176
                                                      have p177 : 0 ≤ (0 : Int) := (by omega)
                                                      have q177 : 0 < ((rd_L2 x16_2 x26_4).length : Int) := of_decide_eq_true (by first | (with_reducible assumption) | assumption)
                                                      obtain ⟨ad177, e177, hx177_0⟩ := Kd.at_int (by repeat (first | (with_reducible exact HR176_0.out) | (with_reducible refine Kd.C_alloc ?_ _) | (with_reducible refine Kd.C_drewN ?_ _) | (with_reducible refine Kd.C_drew ?_) | exact HR176_0.out)) 0 p177 q177
                                                      cases e177
                                                      have qi177 : (0 < (rd_L2 x16_2 x26_4).length) = True := eq_true (by omega)
                                                      (try rw [show ((0 : Int)).toNat = 0 from rfl] at hx177_0)
                                                      (try rw [Addr.add_zero'] at hx177_0)
                                                      replace p177 := eq_true p177
                                                      replace q177 := eq_true q177
                                                      have p178 : 0 ≤ (x26_4 : Int) := of_decide_eq_true (by first | (with_reducible assumption) | assumption)
                                                      have q178 : x26_4 < (x16_2.length : Int) := of_decide_eq_true (by first | (with_reducible assumption) | assumption)
                                                      obtain ⟨ad178, A178_0, c178_0, e178, hx178_0, hl178_0, hi178_0⟩ := at_L2 (Kd.N_reads' HO_16.out).2.2 x26_4 p178 q178
                                                      obtain rfl : ad176 = ad178 := (by injection e178)
                                                      obtain ⟨ce178, hce178, hMe178, hcc178⟩ := Kd.N_get HO_16.out [] x26_4 p178 (by first | exact q178 | exact of_decide_eq_true (by first | (with_reducible assumption) | assumption) | (have e_ := (Kd.N_reads' HO_16.out).1; omega))
                                                      obtain ⟨ua178_0, uc178_0, rfl, ul178_0, ge178_0⟩ := Kd.FK_slice_open hMe178
                                                      have hv178_0 := hcc178 0 _ rfl
                                                      rw [Nat.add_zero, show ((Kd.slice 2 (Kd.int .i64))).sz = 1 from rfl, Nat.mul_one] at hv178_0
                                                      replace hv178_0 := Option.some.inj (hv178_0.symm.trans hx178_0)
                                                      injection hv178_0 with hva_ hvn_ hvc_
                                                      rw [hva_] at ge178_0
                                                      rw [hvc_] at ul178_0
                                                      have HL178_0 := Aside0.mk (show Kd.V (Kd.int .i64) 2 _ w.heap.size _ _ (rd_L2 x16_2 x26_4) from Kd.V_mk ul178_0 ge178_0)
                                                      clear hva_ hvn_ hvc_ ge178_0 ul178_0
                                                      clear hcc178 hce178
                                                      have HR178_0 := Aside0.mk hi178_0
                                                      have HC178_0 := Aside0.mk hl178_0
                                                      clear hi178_0 hl178_0
                                                      replace p178 := eq_true p178
                                                      replace q178 := eq_true q178
                                                      have ea_ := Option.some.inj (hx176_0.symm.trans hx178_0)
                                                      injection ea_ with ea_ en_ ec_
                                                      subst ea_
                                                      subst ec_
                                                      clear en_
                                                      have p179 : 0 ≤ (1 : Int) := (by omega)
                                                      have q179 : 1 < ((rd_L2 x16_2 x26_4).length : Int) := of_decide_eq_true (by first | (with_reducible assumption) | assumption)
                                                      obtain ⟨ad179, e179, hx179_0⟩ := Kd.at_int (by repeat (first | (with_reducible exact HR178_0.out) | (with_reducible refine Kd.C_alloc ?_ _) | (with_reducible refine Kd.C_drewN ?_ _) | (with_reducible refine Kd.C_drew ?_) | exact HR178_0.out)) 1 p179 q179
                                                      cases e179
                                                      (try simp only [show (1 : Int).toNat = 1 from rfl, Nat.reduceMul, Nat.reduceEqDiff, Go.Addr.add, ↓reduceIte] at hx179_0)
                                                      have qi179 : (1 < (rd_L2 x16_2 x26_4).length) = True := eq_true (by omega)
                                                      (try rw [show ((1 : Int)).toNat = 1 from rfl] at hx179_0)
                                                      replace p179 := eq_true p179
                                                      replace q179 := eq_true q179
                                                      go_wp2
                                                      go_meet
                                                      case rel => exact ⟨_, (decide (t167 > (rd (rd_L2 x16_2 x26_4) 1))), (by first | rfl | (simp; done) | (simp [*]; done)), H', ⟨by have := HJ11.out; have := HK2.out; have := HJ38.out; have := HK4.out; have := HJ46.out; have := HJ51.out; first | omega | exact Nat.le_refl _⟩, ⟨by (with_reducible repeat (first | apply Kd.N_alloc | apply Kd.N_drewN | apply Kd.N_drew)); exact HO_16.out⟩, ⟨by repeat (first | (with_reducible first | exact HB.out | apply below_alloc | apply pw_below_drewN | apply below_drew1) | exact HB.out)⟩⟩
                                                    · rw [if_neg c60] at H
                                                      exact absurd H (by simp)
                                                · rw [if_neg c58] at H
                                                  exact absurd H (by simp)
                                              · rw [if_neg c57] at H
                                                exact absurd H (by simp)
                                            · rw [if_neg c56] at H
                                              exact absurd H (by simp)
                                          · rw [if_neg c55] at H
                                            have c55b0 : (t168 == 0) = false := beq_eq_false_iff_ne.mpr c55
                                            have c55b1 : (t168 != 0) = true := bne_iff_ne.mpr c55
                                            (first | rw [c55b0] | (simp only [i64_w, i32_w]; rw [c55b0]) | skip)
                                            have H' := Aside0.mk H
                                            clear H
                                            go_wp2
                                            go_meet
                                            case rel => exact ⟨_, (false), (by first | rfl | (simp; done) | (simp [*]; done)), H', ⟨by have := HJ11.out; have := HK2.out; have := HJ38.out; have := HK4.out; have := HJ46.out; have := HJ51.out; first | omega | exact Nat.le_refl _⟩, ⟨by (with_reducible repeat (first | apply Kd.N_alloc | apply Kd.N_drewN | apply Kd.N_drew)); exact HO_16.out⟩, ⟨by repeat (first | (with_reducible first | exact HB.out | apply below_alloc | apply pw_below_drewN | apply below_drew1) | exact HB.out)⟩⟩
                                        case rest => as_aux_lemma =>
                                          clear HC54
                                          try clear c1
                                          try clear p1
                                          try clear q1
                                          try clear hx1
                                          try clear qi1
                                          try clear c2
                                          try clear p2
                                          try clear c3
                                          try clear c4
                                          try clear c5
                                          try clear c6
                                          try clear p6
                                          try clear c8
                                          try clear c8b0
                                          try clear c8b1
                                          try clear c9
                                          try clear c9b0
                                          try clear c9b1
                                          try clear c15
                                          try clear c15b0
                                          try clear c15b1
                                          try clear c16
                                          try clear c16b0
                                          try clear c17
                                          try clear c17b0
                                          try clear p17
                                          try clear q17
                                          try clear hx17
                                          try clear qi17
                                          try clear c18
                                          try clear c18b0
                                          try clear c19
                                          try clear c19b0
                                          try clear c20
                                          try clear c20b0
                                          try clear c20b1
                                          try clear c21
                                          try clear c21b0
                                          try clear c22
                                          try clear c29
                                          try clear c29b0
                                          try clear c32
                                          try clear c33
                                          try clear c34
                                          try clear c35
                                          try clear c36
                                          try clear c37
                                          try clear c42
                                          try clear c42b0
                                          try clear c42b1
                                          try clear c43
                                          try clear c43b0
                                          try clear c44
                                          try clear c44b0
                                          try clear c45
                                          try clear c46
                                          try clear c46b0
                                          try clear c48
                                          try clear c48b0
                                          try clear c49
                                          try clear c49b0
                                          try clear c49b1
                                          try clear c50
                                          try clear c50b0
                                          try clear c51
                                          try clear c51b0
                                          try clear c51b1
                                          try clear c53
                                          try clear c55
                                          try clear c55b0
                                          try clear c55b1
                                          try clear c56
                                          try clear c56b0
                                          try clear c57
                                          try clear c57b0
                                          try clear c58
                                          try clear c58b0
                                          try clear c58b1
                                          try clear c59
                                          try clear c59b0
                                          try clear c60
                                          try clear c60b0
                                          try clear c60b1
                                          try clear hx172_0
                                          try clear hx173_0
                                          try clear hx174_0
                                          try clear hx175_0
                                          try clear hx176_0
                                          try clear hx177_0
                                          try clear hx178_0
                                          try clear hx179_0
                                          try clear p1
                                          try clear p17
                                          try clear p172
                                          try clear p173
                                          try clear p174
                                          try clear p175
                                          try clear p176
                                          try clear p177
                                          try clear p178
                                          try clear p179
                                          try clear p2
                                          try clear p6
                                          try clear q1
                                          try clear q17
                                          try clear q172
                                          try clear q173
                                          try clear q174
                                          try clear q175
                                          try clear q176
                                          try clear q177
                                          try clear q178
                                          try clear q179
                                          obtain ⟨kq, x216_53, rfl, HA, HJ53, HO_16, HB⟩ := hcut
                                          cases kq with
                                          | zero => exact absurd HA.out (by simp [laws_FnPlaces.j6])
                                          | succ kj53 =>
                                            have H := HA.out
                                            clear HA
                                            simp only [laws_FnPlaces.j6] at H
                                            by_cases c61 : x216_53 = true
                                            · subst c61
                                              have H1 : (some false) = some r := by rw [if_pos rfl] at H; exact H
                                              clear H
                                              have H := H1
                                              clear H1
                                              obtain rfl := Option.some.inj H
                                              go_wp2
                                              go_ret
                                              exact ⟨by first | rfl | (simp [errW_none, errW_some] <;> rfl) | (simp [*, errW_none, errW_some] <;> rfl), by repeat (first | (with_reducible first | exact HB.out | apply below_alloc | apply pw_below_drewN | apply below_drew1) | exact HB.out)⟩
                                            · replace c61 := Bool.eq_false_iff.mpr c61
                                              subst c61
                                              have H1 : (laws_FnPlaces.l1 kj53 l1 x16_2 t166 t167 t168 t169 t170 x25_51 (wrap64 (x26_4 + 1))) = some r := by rw [if_neg (show ¬ (false = true) by decide)] at H; exact H
                                              clear H
                                              have H := H1
                                              clear H1
                                              have H' := Aside0.mk H
                                              clear H
                                              go_wp2
                                              go_roundg kj53
                                              case measure => have := HJ11.out; have := HK2.out; have := HJ38.out; have := HK4.out; have := HJ46.out; have := HJ51.out; have := HJ53.out; omega
                                              case rel => exact ⟨(x25_51), (wrap64 (x26_4 + 1)), (by first | rfl | (simp; done) | (simp [*]; done)), (by first | rfl | (simp; done) | (simp [*]; done)), H', ⟨by have := HJ11.out; have := HK2.out; have := HJ38.out; have := HK4.out; have := HJ46.out; have := HJ51.out; have := HJ53.out; omega⟩, ⟨by (with_reducible repeat (first | apply Kd.N_alloc | apply Kd.N_drewN | apply Kd.N_drew)); exact HO_16.out⟩, ⟨by repeat (first | (with_reducible first | exact HB.out | apply below_alloc | apply pw_below_drewN | apply below_drew1) | exact HB.out)⟩⟩
                              · rw [if_neg c46] at H
                                have c46b0 : decide (x26_4 < (x16_2.length : Int)) = false := decide_eq_false c46
                                clear c46
                                by_cases c62 : x25_4 = t170
                                · rw [if_pos c62] at H
                                  have c62b0 : (x25_4 == t170) = true := beq_iff_eq.mpr c62
                                  have c62b1 : (x25_4 != t170) = false := bne_eq_false_iff_eq.mpr c62
                                  clear c62
                                  replace H := Option.bind_eq_some_iff.mp H
                                  obtain ⟨t180, A630, H⟩ := H
                                  replace H : ((impl_PressureTest.f k4 (([3, 20, 63] : List Int)) (([wrap64 (1000 * t180), wrap64 ((wrap64 (1000 * t180)) + 7), wrap64 (1000 * t180)] : List Int))).bind fun bt187 => ((impl_PressureTest.f k4 (([0, 60] : List Int)) (([wrap64 ((wrap64 (1000 * t180)) + 500), wrap64 (1000 * t180)] : List Int))).bind fun bt195 => (if bt187.2 = 0 then (if bt187.1 = 0 then (if bt195.2 = 0 then (some (bt195.1 == 500)) else (some false)) else (some false)) else (some false)))) = some r := H
                                  have A63 := Aside0.mk A630
                                  clear A630
                                  obtain ⟨y181, hy181⟩ : ∃ y_ : List Int, y_ = (([3, 20, 63] : List Int)) := ⟨_, rfl⟩
                                  replace H : ((impl_PressureTest.f k4 y181 (([wrap64 (1000 * t180), wrap64 ((wrap64 (1000 * t180)) + 7), wrap64 (1000 * t180)] : List Int))).bind fun bt187 => ((impl_PressureTest.f k4 (([0, 60] : List Int)) (([wrap64 ((wrap64 (1000 * t180)) + 500), wrap64 (1000 * t180)] : List Int))).bind fun bt195 => (if bt187.2 = 0 then (if bt187.1 = 0 then (if bt195.2 = 0 then (some (bt195.1 == 500)) else (some false)) else (some false)) else (some false)))) = some r := by first | (rw [hy181]; with_reducible exact H) | (have H2_ := (Option.bind_some _ _).symm.trans H; rw [hy181]; with_reducible exact H2_) | (have H2_ := (Option.bind_some _ _).symm.trans H; with_reducible exact H2_) | with_reducible exact H | (rw [hy181]; exact H) | exact H
                                  have Ny181 := Aside0.mk hy181
                                  clear hy181
                                  obtain ⟨y184, hy184⟩ : ∃ y_ : List Int, y_ = (([wrap64 (1000 * t180), wrap64 ((wrap64 (1000 * t180)) + 7), wrap64 (1000 * t180)] : List Int)) := ⟨_, rfl⟩
                                  replace H : ((impl_PressureTest.f k4 y181 y184).bind fun bt187 => ((impl_PressureTest.f k4 (([0, 60] : List Int)) (([wrap64 ((wrap64 (1000 * t180)) + 500), wrap64 (1000 * t180)] : List Int))).bind fun bt195 => (if bt187.2 = 0 then (if bt187.1 = 0 then (if bt195.2 = 0 then (some (bt195.1 == 500)) else (some false)) else (some false)) else (some false)))) = some r := by first | (rw [hy184]; with_reducible exact H) | (have H2_ := (Option.bind_some _ _).symm.trans H; rw [hy184]; with_reducible exact H2_) | (have H2_ := (Option.bind_some _ _).symm.trans H; with_reducible exact H2_) | with_reducible exact H | (rw [hy184]; exact H) | exact H
                                  have Ny184 := Aside0.mk hy184
                                  clear hy184
                                  replace H := Option.bind_eq_some_iff.mp H
                                  obtain ⟨⟨t187, t188⟩, A640, H⟩ := H
                                  replace H : ((impl_PressureTest.f k4 (([0, 60] : List Int)) (([wrap64 ((wrap64 (1000 * t180)) + 500), wrap64 (1000 * t180)] : List Int))).bind fun bt195 => (if t188 = 0 then (if t187 = 0 then (if bt195.2 = 0 then (some (bt195.1 == 500)) else (some false)) else (some false)) else (some false))) = some r := H
                                  have A64 := Aside0.mk A640
                                  clear A640
                                  obtain ⟨y189, hy189⟩ : ∃ y_ : List Int, y_ = (([0, 60] : List Int)) := ⟨_, rfl⟩
                                  replace H : ((impl_PressureTest.f k4 y189 (([wrap64 ((wrap64 (1000 * t180)) + 500), wrap64 (1000 * t180)] : List Int))).bind fun bt195 => (if t188 = 0 then (if t187 = 0 then (if bt195.2 = 0 then (some (bt195.1 == 500)) else (some false)) else (some false)) else (some false))) = some r := by first | (rw [hy189]; with_reducible exact H) | (have H2_ := (Option.bind_some _ _).symm.trans H; rw [hy189]; with_reducible exact H2_) | (have H2_ := (Option.bind_some _ _).symm.trans H; with_reducible exact H2_) | with_reducible exact H | (rw [hy189]; exact H) | exact H
                                  have Ny189 := Aside0.mk hy189
                                  clear hy189
                                  obtain ⟨y192, hy192⟩ : ∃ y_ : List Int, y_ = (([wrap64 ((wrap64 (1000 * t180)) + 500), wrap64 (1000 * t180)] : List Int)) := ⟨_, rfl⟩
                                  replace H : ((impl_PressureTest.f k4 y189 y192).bind fun bt195 => (if t188 = 0 then (if t187 = 0 then (if bt195.2 = 0 then (some (bt195.1 == 500)) else (some false)) else (some false)) else (some false))) = some r := by first | (rw [hy192]; with_reducible exact H) | (have H2_ := (Option.bind_some _ _).symm.trans H; rw [hy192]; with_reducible exact H2_) | (have H2_ := (Option.bind_some _ _).symm.trans H; with_reducible exact H2_) | with_reducible exact H | (rw [hy192]; exact H) | exact H
                                  have Ny192 := Aside0.mk hy192
                                  clear hy192
                                  replace H := Option.bind_eq_some_iff.mp H
                                  obtain ⟨⟨t195, t196⟩, A650, H⟩ := H
                                  replace H : (if t188 = 0 then (if t187 = 0 then (if t196 = 0 then (some (t195 == 500)) else (some false)) else (some false)) else (some false)) = some r := H
                                  have A65 := Aside0.mk A650
                                  clear A650
                                  by_cases c66 : t188 = 0
                                  · rw [if_pos c66] at H
                                    have c66b0 : (t188 == 0) = true := beq_iff_eq.mpr c66
                                    have c66b1 : (t188 != 0) = false := bne_eq_false_iff_eq.mpr c66
                                    clear c66
                                    by_cases c67 : t187 = 0
                                    · rw [if_pos c67] at H
                                      have c67b0 : (t187 == 0) = true := beq_iff_eq.mpr c67
                                      have c67b1 : (t187 != 0) = false := bne_eq_false_iff_eq.mpr c67
                                      clear c67
                                      by_cases c68 : t196 = 0
                                      · rw [if_pos c68] at H
                                        have c68b0 : (t196 == 0) = true := beq_iff_eq.mpr c68
                                        have c68b1 : (t196 != 0) = false := bne_eq_false_iff_eq.mpr c68
                                        clear c68
                                        obtain rfl := Option.some.inj H
                                        go_wp2_with (first | ((with_reducible refine gate_callee (f := 34) rfl ?_); refine goesL_ (some 221) rfl rfl Try.func34 (by kernel_rfl) rfl #[.slice A1 l1.length c1, .int .i64 6, .int .i64 400] rfl (by (try simp only [List.map_toArray, List.map_cons, List.map_nil]); first | done | rfl | (simp only [List.length_drop, List.length_take]; rfl)) ?_; (with_reducible refine (laws_r8Wide.calls k4 _ _ l1 6 400 t180 _ ?side1 ?side2 A63.out).mono ?_); (case side1 => repeat (first | exact (Kd.C_below HR1.out HB.out) | (with_reducible refine Kd.C_alloc ?_ _) | (with_reducible refine Kd.C_drewN ?_ _) | (with_reducible refine Kd.C_drew ?_))); (case side2 => exact HC1.out); rintro e w' ⟨rfl, ⟨nd, rfl⟩⟩; refine ⟨_, rfl, ?_⟩) | ((with_reducible refine gate_dst (N := 224) rfl ?_); (try (refine gate_guard (by rfl) ?_; dsimp only)); refine Kd.R_lit (Kd.int .i64) _ 2 ?hg (N := 224) ?hd (xs := ([3, 20, 63] : List Int)) (inner := [.int .i64 3, .int .i64 20, .int .i64 63]) (ok := fun _ => True) (okp := fun _ => True) ?hr ?hp (fun _ hk => hk) trivial (Below.refl _ _) (Nat.le_refl _) (by simp) ?_; (case hd => rfl); (case hg => rfl); (case hr => first | (go_simp; done) | (go_simp; rfl)); (case hp => exact (Reps.one (show Kd.M (Kd.int .i64) _ _ _ 3 [.int .i64 3] from rfl) (Reps.one (show Kd.M (Kd.int .i64) _ _ _ 20 [.int .i64 20] from rfl) (Reps.one (show Kd.M (Kd.int .i64) _ _ _ 63 [.int .i64 63] from rfl) (Reps.none _ _))))); intro v182 w69 ho70 hb hg_ hnew_; clear hg_ hnew_; (first | rw [← Ny181.out] at ho70 | (simp only [Int.reduceToNat] at ho70; rw [← Ny181.out] at ho70)); have n0_ := Aside0.mk (Kd.N_elder' (by (with_reducible repeat (first | apply Kd.N_alloc | apply Kd.N_drewN | apply Kd.N_drew)); exact HO_16.out) (Kd.R_base ho70) hb); have n1_ := Aside0.mk (Kd.R_lower ho70 (below_size (by repeat (first | (with_reducible first | exact HB.out | apply below_alloc | apply pw_below_drewN | apply below_drew1) | exact HB.out)))); have n2_ := Aside0.mk (below_step (by repeat (first | (with_reducible first | exact HB.out | apply below_alloc | apply pw_below_drewN | apply below_drew1) | exact HB.out)) hb); clear HO_16; clear HB; have HO_16 := n0_; have HO183 := n1_; have HB := n2_; clear n0_ n1_ n2_; clear hb ho70) | ((with_reducible refine gate_dst (N := 229) rfl ?_); (try (refine gate_guard (by rfl) ?_; dsimp only)); refine Kd.R_lit (Kd.int .i64) _ 2 ?hg (N := 229) ?hd (xs := ([wrap64 (1000 * t180), wrap64 ((wrap64 (1000 * t180)) + 7), wrap64 (1000 * t180)] : List Int)) (inner := [.int .i64 (wrap64 (1000 * t180)), .int .i64 (wrap64 ((wrap64 (1000 * t180)) + 7)), .int .i64 (wrap64 (1000 * t180))]) (ok := fun _ => True) (okp := fun _ => True) ?hr ?hp (fun _ hk => hk) trivial (Below.refl _ _) (Nat.le_refl _) (by simp) ?_; (case hd => rfl); (case hg => rfl); (case hr => first | (go_simp; done) | (go_simp; rfl)); (case hp => exact (Reps.one (show Kd.M (Kd.int .i64) _ _ _ (wrap64 (1000 * t180)) [.int .i64 (wrap64 (1000 * t180))] from rfl) (Reps.one (show Kd.M (Kd.int .i64) _ _ _ (wrap64 ((wrap64 (1000 * t180)) + 7)) [.int .i64 (wrap64 ((wrap64 (1000 * t180)) + 7))] from rfl) (Reps.one (show Kd.M (Kd.int .i64) _ _ _ (wrap64 (1000 * t180)) [.int .i64 (wrap64 (1000 * t180))] from rfl) (Reps.none _ _))))); intro v185 w71 ho72 hb hg_ hnew_; clear hg_ hnew_; (first | rw [← Ny184.out] at ho72 | (simp only [Int.reduceToNat] at ho72; rw [← Ny184.out] at ho72)); have n0_ := Aside0.mk (Kd.N_elder' (by (with_reducible repeat (first | apply Kd.N_alloc | apply Kd.N_drewN | apply Kd.N_drew)); exact HO_16.out) (Kd.R_base ho72) hb); have n1_ := Aside0.mk (Kd.R_elder' (by (with_reducible repeat (first | apply Kd.R_alloc | apply Kd.R_drewN | apply Kd.R_drew)); exact HO183.out) (Kd.R_base ho72) hb); have n2_ := Aside0.mk (Kd.R_lower (Kd.R_new' ho72 (Kd.R_lt (by (with_reducible repeat (first | apply Kd.R_alloc | apply Kd.R_drewN | apply Kd.R_drew)); exact HO183.out))) (below_size (by repeat (first | (with_reducible first | exact HB.out | apply below_alloc | apply pw_below_drewN | apply below_drew1) | exact HB.out)))); have n3_ := Aside0.mk (below_step (by repeat (first | (with_reducible first | exact HB.out | apply below_alloc | apply pw_below_drewN | apply below_drew1) | exact HB.out)) hb); clear HO_16; clear HO183; clear HB; have HO_16 := n0_; have HO183 := n1_; have HO186 := n2_; have HB := n3_; clear n0_ n1_ n2_ n3_; clear hb ho72; obtain ⟨Ao73, co73, eo73⟩ := Kd.R_slice HO183.out; subst eo73; obtain ⟨Ao74, co74, eo74⟩ := Kd.R_slice HO186.out; subst eo74) | ((with_reducible refine gate_callee (f := 32) rfl ?_); refine goesL_ (some 230) rfl rfl Try.func32 (by kernel_rfl) rfl #[.slice Ao73 y181.length co73, .slice Ao74 y184.length co74] rfl (by (try simp only [List.map_toArray, List.map_cons, List.map_nil]); first | done | rfl | (simp only [List.length_drop, List.length_take]; rfl)) ?_; (with_reducible refine (impl_PressureTest.calls k4 _ _ y181 _ _ y184 t187 t188 _ ?side1 ?side2 ?side3 ?side4 A64.out).mono ?_); (case side1 => repeat (first | exact (Kd.R_reads' HO183.out).2.2 | (with_reducible refine Kd.C_alloc ?_ _) | (with_reducible refine Kd.C_drewN ?_ _) | (with_reducible refine Kd.C_drew ?_))); (case side2 => exact (Kd.R_reads' HO183.out).2.1); (case side3 => repeat (first | exact (Kd.R_reads' HO186.out).2.2 | (with_reducible refine Kd.C_alloc ?_ _) | (with_reducible refine Kd.C_drewN ?_ _) | (with_reducible refine Kd.C_drew ?_))); (case side4 => exact (Kd.R_reads' HO186.out).2.1); rintro e w75 ⟨rfl, hb⟩; refine ⟨_, rfl, ?_⟩; have n0_ := Aside0.mk (Kd.N_below (by (with_reducible repeat (first | apply Kd.N_alloc | apply Kd.N_drewN | apply Kd.N_drew)); exact HO_16.out) hb); have n1_ := Aside0.mk (Kd.R_below (by (with_reducible repeat (first | apply Kd.R_alloc | apply Kd.R_drewN | apply Kd.R_drew)); exact HO183.out) hb); have n2_ := Aside0.mk (Kd.R_below (by (with_reducible repeat (first | apply Kd.R_alloc | apply Kd.R_drewN | apply Kd.R_drew)); exact HO186.out) hb); have n3_ := Aside0.mk (below_step (by repeat (first | (with_reducible first | exact HB.out | apply below_alloc | apply pw_below_drewN | apply below_drew1) | exact HB.out)) hb); clear HO_16; clear HO183; clear HO186; clear HB; have HO_16 := n0_; have HO183 := n1_; have HO186 := n2_; have HB := n3_; clear n0_ n1_ n2_ n3_; (try clear hb); (try clear hb2); (try clear hk); (try clear hi)) | ((with_reducible refine gate_dst (N := 234) rfl ?_); (try (refine gate_guard (by rfl) ?_; dsimp only)); refine Kd.R_lit (Kd.int .i64) _ 2 ?hg (N := 234) ?hd (xs := ([0, 60] : List Int)) (inner := [.int .i64 0, .int .i64 60]) (ok := fun _ => True) (okp := fun _ => True) ?hr ?hp (fun _ hk => hk) trivial (Below.refl _ _) (Nat.le_refl _) (by simp) ?_; (case hd => rfl); (case hg => rfl); (case hr => first | (go_simp; done) | (go_simp; rfl)); (case hp => exact (Reps.one (show Kd.M (Kd.int .i64) _ _ _ 0 [.int .i64 0] from rfl) (Reps.one (show Kd.M (Kd.int .i64) _ _ _ 60 [.int .i64 60] from rfl) (Reps.none _ _)))); intro v190 w76 ho77 hb hg_ hnew_; clear hg_ hnew_; (first | rw [← Ny189.out] at ho77 | (simp only [Int.reduceToNat] at ho77; rw [← Ny189.out] at ho77)); have n0_ := Aside0.mk (Kd.N_elder' (by (with_reducible repeat (first | apply Kd.N_alloc | apply Kd.N_drewN | apply Kd.N_drew)); exact HO_16.out) (Kd.R_base ho77) hb); have n1_ := Aside0.mk (Kd.R_elder' (by (with_reducible repeat (first | apply Kd.R_alloc | apply Kd.R_drewN | apply Kd.R_drew)); exact HO183.out) (Kd.R_base ho77) hb); have n2_ := Aside0.mk (Kd.R_elder' (by (with_reducible repeat (first | apply Kd.R_alloc | apply Kd.R_drewN | apply Kd.R_drew)); exact HO186.out) (Kd.R_base ho77) hb); have n3_ := Aside0.mk (Kd.R_lower (Kd.R_new' (Kd.R_new' ho77 (Kd.R_lt (by (with_reducible repeat (first | apply Kd.R_alloc | apply Kd.R_drewN | apply Kd.R_drew)); exact HO183.out))) (Kd.R_lt (by (with_reducible repeat (first | apply Kd.R_alloc | apply Kd.R_drewN | apply Kd.R_drew)); exact HO186.out))) (below_size (by repeat (first | (with_reducible first | exact HB.out | apply below_alloc | apply pw_below_drewN | apply below_drew1) | exact HB.out)))); have n4_ := Aside0.mk (below_step (by repeat (first | (with_reducible first | exact HB.out | apply below_alloc | apply pw_below_drewN | apply below_drew1) | exact HB.out)) hb); clear HO_16; clear HO183; clear HO186; clear HB; have HO_16 := n0_; have HO183 := n1_; have HO186 := n2_; have HO191 := n3_; have HB := n4_; clear n0_ n1_ n2_ n3_ n4_; clear hb ho77) | ((with_reducible refine gate_dst (N := 238) rfl ?_); (try (refine gate_guard (by rfl) ?_; dsimp only)); refine Kd.R_lit (Kd.int .i64) _ 2 ?hg (N := 238) ?hd (xs := ([wrap64 ((wrap64 (1000 * t180)) + 500), wrap64 (1000 * t180)] : List Int)) (inner := [.int .i64 (wrap64 ((wrap64 (1000 * t180)) + 500)), .int .i64 (wrap64 (1000 * t180))]) (ok := fun _ => True) (okp := fun _ => True) ?hr ?hp (fun _ hk => hk) trivial (Below.refl _ _) (Nat.le_refl _) (by simp) ?_; (case hd => rfl); (case hg => rfl); (case hr => first | (go_simp; done) | (go_simp; rfl)); (case hp => exact (Reps.one (show Kd.M (Kd.int .i64) _ _ _ (wrap64 ((wrap64 (1000 * t180)) + 500)) [.int .i64 (wrap64 ((wrap64 (1000 * t180)) + 500))] from rfl) (Reps.one (show Kd.M (Kd.int .i64) _ _ _ (wrap64 (1000 * t180)) [.int .i64 (wrap64 (1000 * t180))] from rfl) (Reps.none _ _)))); intro v193 w78 ho79 hb hg_ hnew_; clear hg_ hnew_; (first | rw [← Ny192.out] at ho79 | (simp only [Int.reduceToNat] at ho79; rw [← Ny192.out] at ho79)); have n0_ := Aside0.mk (Kd.N_elder' (by (with_reducible repeat (first | apply Kd.N_alloc | apply Kd.N_drewN | apply Kd.N_drew)); exact HO_16.out) (Kd.R_base ho79) hb); have n1_ := Aside0.mk (Kd.R_elder' (by (with_reducible repeat (first | apply Kd.R_alloc | apply Kd.R_drewN | apply Kd.R_drew)); exact HO183.out) (Kd.R_base ho79) hb); have n2_ := Aside0.mk (Kd.R_elder' (by (with_reducible repeat (first | apply Kd.R_alloc | apply Kd.R_drewN | apply Kd.R_drew)); exact HO186.out) (Kd.R_base ho79) hb); have n3_ := Aside0.mk (Kd.R_elder' (by (with_reducible repeat (first | apply Kd.R_alloc | apply Kd.R_drewN | apply Kd.R_drew)); exact HO191.out) (Kd.R_base ho79) hb); have n4_ := Aside0.mk (Kd.R_lower (Kd.R_new' (Kd.R_new' (Kd.R_new' ho79 (Kd.R_lt (by (with_reducible repeat (first | apply Kd.R_alloc | apply Kd.R_drewN | apply Kd.R_drew)); exact HO183.out))) (Kd.R_lt (by (with_reducible repeat (first | apply Kd.R_alloc | apply Kd.R_drewN | apply Kd.R_drew)); exact HO186.out))) (Kd.R_lt (by (with_reducible repeat (first | apply Kd.R_alloc | apply Kd.R_drewN | apply Kd.R_drew)); exact HO191.out))) (below_size (by repeat (first | (with_reducible first | exact HB.out | apply below_alloc | apply pw_below_drewN | apply below_drew1) | exact HB.out)))); have n5_ := Aside0.mk (below_step (by repeat (first | (with_reducible first | exact HB.out | apply below_alloc | apply pw_below_drewN | apply below_drew1) | exact HB.out)) hb); clear HO_16; clear HO183; clear HO186; clear HO191; clear HB; have HO_16 := n0_; have HO183 := n1_; have HO186 := n2_; have HO191 := n3_; have HO194 := n4_; have HB := n5_; clear n0_ n1_ n2_ n3_ n4_ n5_; clear hb ho79; obtain ⟨Ao80, co80, eo80⟩ := Kd.R_slice HO191.out; subst eo80; obtain ⟨Ao81, co81, eo81⟩ := Kd.R_slice HO194.out; subst eo81) | ((with_reducible refine gate_callee (f := 32) rfl ?_); refine goesL_ (some 239) rfl rfl Try.func32 (by kernel_rfl) rfl #[.slice Ao80 y189.length co80, .slice Ao81 y192.length co81] rfl (by (try simp only [List.map_toArray, List.map_cons, List.map_nil]); first | done | rfl | (simp only [List.length_drop, List.length_take]; rfl)) ?_; (with_reducible refine (impl_PressureTest.calls k4 _ _ y189 _ _ y192 t195 t196 _ ?side1 ?side2 ?side3 ?side4 A65.out).mono ?_); (case side1 => repeat (first | exact (Kd.R_reads' HO191.out).2.2 | (with_reducible refine Kd.C_alloc ?_ _) | (with_reducible refine Kd.C_drewN ?_ _) | (with_reducible refine Kd.C_drew ?_))); (case side2 => exact (Kd.R_reads' HO191.out).2.1); (case side3 => repeat (first | exact (Kd.R_reads' HO194.out).2.2 | (with_reducible refine Kd.C_alloc ?_ _) | (with_reducible refine Kd.C_drewN ?_ _) | (with_reducible refine Kd.C_drew ?_))); (case side4 => exact (Kd.R_reads' HO194.out).2.1); rintro e w82 ⟨rfl, hb⟩; refine ⟨_, rfl, ?_⟩; have n0_ := Aside0.mk (Kd.N_below (by (with_reducible repeat (first | apply Kd.N_alloc | apply Kd.N_drewN | apply Kd.N_drew)); exact HO_16.out) hb); have n1_ := Aside0.mk (Kd.R_below (by (with_reducible repeat (first | apply Kd.R_alloc | apply Kd.R_drewN | apply Kd.R_drew)); exact HO183.out) hb); have n2_ := Aside0.mk (Kd.R_below (by (with_reducible repeat (first | apply Kd.R_alloc | apply Kd.R_drewN | apply Kd.R_drew)); exact HO186.out) hb); have n3_ := Aside0.mk (Kd.R_below (by (with_reducible repeat (first | apply Kd.R_alloc | apply Kd.R_drewN | apply Kd.R_drew)); exact HO191.out) hb); have n4_ := Aside0.mk (Kd.R_below (by (with_reducible repeat (first | apply Kd.R_alloc | apply Kd.R_drewN | apply Kd.R_drew)); exact HO194.out) hb); have n5_ := Aside0.mk (below_step (by repeat (first | (with_reducible first | exact HB.out | apply below_alloc | apply pw_below_drewN | apply below_drew1) | exact HB.out)) hb); clear HO_16; clear HO183; clear HO186; clear HO191; clear HO194; clear HB; have HO_16 := n0_; have HO183 := n1_; have HO186 := n2_; have HO191 := n3_; have HO194 := n4_; have HB := n5_; clear n0_ n1_ n2_ n3_ n4_ n5_; (try clear hb); (try clear hb2); (try clear hk); (try clear hi)))
                                        go_ret
                                        exact ⟨by first | rfl | (simp [errW_none, errW_some] <;> rfl) | (simp [*, errW_none, errW_some] <;> rfl), by repeat (first | (with_reducible first | exact HB.out | apply below_alloc | apply pw_below_drewN | apply below_drew1) | exact HB.out)⟩
                                      · rw [if_neg c68] at H
                                        have c68b0 : (t196 == 0) = false := beq_eq_false_iff_ne.mpr c68
                                        have c68b1 : (t196 != 0) = true := bne_iff_ne.mpr c68
                                        obtain rfl := Option.some.inj H
                                        go_wp2_with (first | ((with_reducible refine gate_callee (f := 34) rfl ?_); refine goesL_ (some 221) rfl rfl Try.func34 (by kernel_rfl) rfl #[.slice A1 l1.length c1, .int .i64 6, .int .i64 400] rfl (by (try simp only [List.map_toArray, List.map_cons, List.map_nil]); first | done | rfl | (simp only [List.length_drop, List.length_take]; rfl)) ?_; (with_reducible refine (laws_r8Wide.calls k4 _ _ l1 6 400 t180 _ ?side1 ?side2 A63.out).mono ?_); (case side1 => repeat (first | exact (Kd.C_below HR1.out HB.out) | (with_reducible refine Kd.C_alloc ?_ _) | (with_reducible refine Kd.C_drewN ?_ _) | (with_reducible refine Kd.C_drew ?_))); (case side2 => exact HC1.out); rintro e w' ⟨rfl, ⟨nd, rfl⟩⟩; refine ⟨_, rfl, ?_⟩) | ((with_reducible refine gate_dst (N := 224) rfl ?_); (try (refine gate_guard (by rfl) ?_; dsimp only)); refine Kd.R_lit (Kd.int .i64) _ 2 ?hg (N := 224) ?hd (xs := ([3, 20, 63] : List Int)) (inner := [.int .i64 3, .int .i64 20, .int .i64 63]) (ok := fun _ => True) (okp := fun _ => True) ?hr ?hp (fun _ hk => hk) trivial (Below.refl _ _) (Nat.le_refl _) (by simp) ?_; (case hd => rfl); (case hg => rfl); (case hr => first | (go_simp; done) | (go_simp; rfl)); (case hp => exact (Reps.one (show Kd.M (Kd.int .i64) _ _ _ 3 [.int .i64 3] from rfl) (Reps.one (show Kd.M (Kd.int .i64) _ _ _ 20 [.int .i64 20] from rfl) (Reps.one (show Kd.M (Kd.int .i64) _ _ _ 63 [.int .i64 63] from rfl) (Reps.none _ _))))); intro v182 w83 ho84 hb hg_ hnew_; clear hg_ hnew_; (first | rw [← Ny181.out] at ho84 | (simp only [Int.reduceToNat] at ho84; rw [← Ny181.out] at ho84)); have n0_ := Aside0.mk (Kd.N_elder' (by (with_reducible repeat (first | apply Kd.N_alloc | apply Kd.N_drewN | apply Kd.N_drew)); exact HO_16.out) (Kd.R_base ho84) hb); have n1_ := Aside0.mk (Kd.R_lower ho84 (below_size (by repeat (first | (with_reducible first | exact HB.out | apply below_alloc | apply pw_below_drewN | apply below_drew1) | exact HB.out)))); have n2_ := Aside0.mk (below_step (by repeat (first | (with_reducible first | exact HB.out | apply below_alloc | apply pw_below_drewN | apply below_drew1) | exact HB.out)) hb); clear HO_16; clear HB; have HO_16 := n0_; have HO183 := n1_; have HB := n2_; clear n0_ n1_ n2_; clear hb ho84) | ((with_reducible refine gate_dst (N := 229) rfl ?_); (try (refine gate_guard (by rfl) ?_; dsimp only)); refine Kd.R_lit (Kd.int .i64) _ 2 ?hg (N := 229) ?hd (xs := ([wrap64 (1000 * t180), wrap64 ((wrap64 (1000 * t180)) + 7), wrap64 (1000 * t180)] : List Int)) (inner := [.int .i64 (wrap64 (1000 * t180)), .int .i64 (wrap64 ((wrap64 (1000 * t180)) + 7)), .int .i64 (wrap64 (1000 * t180))]) (ok := fun _ => True) (okp := fun _ => True) ?hr ?hp (fun _ hk => hk) trivial (Below.refl _ _) (Nat.le_refl _) (by simp) ?_; (case hd => rfl); (case hg => rfl); (case hr => first | (go_simp; done) | (go_simp; rfl)); (case hp => exact (Reps.one (show Kd.M (Kd.int .i64) _ _ _ (wrap64 (1000 * t180)) [.int .i64 (wrap64 (1000 * t180))] from rfl) (Reps.one (show Kd.M (Kd.int .i64) _ _ _ (wrap64 ((wrap64 (1000 * t180)) + 7)) [.int .i64 (wrap64 ((wrap64 (1000 * t180)) + 7))] from rfl) (Reps.one (show Kd.M (Kd.int .i64) _ _ _ (wrap64 (1000 * t180)) [.int .i64 (wrap64 (1000 * t180))] from rfl) (Reps.none _ _))))); intro v185 w85 ho86 hb hg_ hnew_; clear hg_ hnew_; (first | rw [← Ny184.out] at ho86 | (simp only [Int.reduceToNat] at ho86; rw [← Ny184.out] at ho86)); have n0_ := Aside0.mk (Kd.N_elder' (by (with_reducible repeat (first | apply Kd.N_alloc | apply Kd.N_drewN | apply Kd.N_drew)); exact HO_16.out) (Kd.R_base ho86) hb); have n1_ := Aside0.mk (Kd.R_elder' (by (with_reducible repeat (first | apply Kd.R_alloc | apply Kd.R_drewN | apply Kd.R_drew)); exact HO183.out) (Kd.R_base ho86) hb); have n2_ := Aside0.mk (Kd.R_lower (Kd.R_new' ho86 (Kd.R_lt (by (with_reducible repeat (first | apply Kd.R_alloc | apply Kd.R_drewN | apply Kd.R_drew)); exact HO183.out))) (below_size (by repeat (first | (with_reducible first | exact HB.out | apply below_alloc | apply pw_below_drewN | apply below_drew1) | exact HB.out)))); have n3_ := Aside0.mk (below_step (by repeat (first | (with_reducible first | exact HB.out | apply below_alloc | apply pw_below_drewN | apply below_drew1) | exact HB.out)) hb); clear HO_16; clear HO183; clear HB; have HO_16 := n0_; have HO183 := n1_; have HO186 := n2_; have HB := n3_; clear n0_ n1_ n2_ n3_; clear hb ho86; obtain ⟨Ao87, co87, eo87⟩ := Kd.R_slice HO183.out; subst eo87; obtain ⟨Ao88, co88, eo88⟩ := Kd.R_slice HO186.out; subst eo88) | ((with_reducible refine gate_callee (f := 32) rfl ?_); refine goesL_ (some 230) rfl rfl Try.func32 (by kernel_rfl) rfl #[.slice Ao87 y181.length co87, .slice Ao88 y184.length co88] rfl (by (try simp only [List.map_toArray, List.map_cons, List.map_nil]); first | done | rfl | (simp only [List.length_drop, List.length_take]; rfl)) ?_; (with_reducible refine (impl_PressureTest.calls k4 _ _ y181 _ _ y184 t187 t188 _ ?side1 ?side2 ?side3 ?side4 A64.out).mono ?_); (case side1 => repeat (first | exact (Kd.R_reads' HO183.out).2.2 | (with_reducible refine Kd.C_alloc ?_ _) | (with_reducible refine Kd.C_drewN ?_ _) | (with_reducible refine Kd.C_drew ?_))); (case side2 => exact (Kd.R_reads' HO183.out).2.1); (case side3 => repeat (first | exact (Kd.R_reads' HO186.out).2.2 | (with_reducible refine Kd.C_alloc ?_ _) | (with_reducible refine Kd.C_drewN ?_ _) | (with_reducible refine Kd.C_drew ?_))); (case side4 => exact (Kd.R_reads' HO186.out).2.1); rintro e w89 ⟨rfl, hb⟩; refine ⟨_, rfl, ?_⟩; have n0_ := Aside0.mk (Kd.N_below (by (with_reducible repeat (first | apply Kd.N_alloc | apply Kd.N_drewN | apply Kd.N_drew)); exact HO_16.out) hb); have n1_ := Aside0.mk (Kd.R_below (by (with_reducible repeat (first | apply Kd.R_alloc | apply Kd.R_drewN | apply Kd.R_drew)); exact HO183.out) hb); have n2_ := Aside0.mk (Kd.R_below (by (with_reducible repeat (first | apply Kd.R_alloc | apply Kd.R_drewN | apply Kd.R_drew)); exact HO186.out) hb); have n3_ := Aside0.mk (below_step (by repeat (first | (with_reducible first | exact HB.out | apply below_alloc | apply pw_below_drewN | apply below_drew1) | exact HB.out)) hb); clear HO_16; clear HO183; clear HO186; clear HB; have HO_16 := n0_; have HO183 := n1_; have HO186 := n2_; have HB := n3_; clear n0_ n1_ n2_ n3_; (try clear hb); (try clear hb2); (try clear hk); (try clear hi)) | ((with_reducible refine gate_dst (N := 234) rfl ?_); (try (refine gate_guard (by rfl) ?_; dsimp only)); refine Kd.R_lit (Kd.int .i64) _ 2 ?hg (N := 234) ?hd (xs := ([0, 60] : List Int)) (inner := [.int .i64 0, .int .i64 60]) (ok := fun _ => True) (okp := fun _ => True) ?hr ?hp (fun _ hk => hk) trivial (Below.refl _ _) (Nat.le_refl _) (by simp) ?_; (case hd => rfl); (case hg => rfl); (case hr => first | (go_simp; done) | (go_simp; rfl)); (case hp => exact (Reps.one (show Kd.M (Kd.int .i64) _ _ _ 0 [.int .i64 0] from rfl) (Reps.one (show Kd.M (Kd.int .i64) _ _ _ 60 [.int .i64 60] from rfl) (Reps.none _ _)))); intro v190 w90 ho91 hb hg_ hnew_; clear hg_ hnew_; (first | rw [← Ny189.out] at ho91 | (simp only [Int.reduceToNat] at ho91; rw [← Ny189.out] at ho91)); have n0_ := Aside0.mk (Kd.N_elder' (by (with_reducible repeat (first | apply Kd.N_alloc | apply Kd.N_drewN | apply Kd.N_drew)); exact HO_16.out) (Kd.R_base ho91) hb); have n1_ := Aside0.mk (Kd.R_elder' (by (with_reducible repeat (first | apply Kd.R_alloc | apply Kd.R_drewN | apply Kd.R_drew)); exact HO183.out) (Kd.R_base ho91) hb); have n2_ := Aside0.mk (Kd.R_elder' (by (with_reducible repeat (first | apply Kd.R_alloc | apply Kd.R_drewN | apply Kd.R_drew)); exact HO186.out) (Kd.R_base ho91) hb); have n3_ := Aside0.mk (Kd.R_lower (Kd.R_new' (Kd.R_new' ho91 (Kd.R_lt (by (with_reducible repeat (first | apply Kd.R_alloc | apply Kd.R_drewN | apply Kd.R_drew)); exact HO183.out))) (Kd.R_lt (by (with_reducible repeat (first | apply Kd.R_alloc | apply Kd.R_drewN | apply Kd.R_drew)); exact HO186.out))) (below_size (by repeat (first | (with_reducible first | exact HB.out | apply below_alloc | apply pw_below_drewN | apply below_drew1) | exact HB.out)))); have n4_ := Aside0.mk (below_step (by repeat (first | (with_reducible first | exact HB.out | apply below_alloc | apply pw_below_drewN | apply below_drew1) | exact HB.out)) hb); clear HO_16; clear HO183; clear HO186; clear HB; have HO_16 := n0_; have HO183 := n1_; have HO186 := n2_; have HO191 := n3_; have HB := n4_; clear n0_ n1_ n2_ n3_ n4_; clear hb ho91) | ((with_reducible refine gate_dst (N := 238) rfl ?_); (try (refine gate_guard (by rfl) ?_; dsimp only)); refine Kd.R_lit (Kd.int .i64) _ 2 ?hg (N := 238) ?hd (xs := ([wrap64 ((wrap64 (1000 * t180)) + 500), wrap64 (1000 * t180)] : List Int)) (inner := [.int .i64 (wrap64 ((wrap64 (1000 * t180)) + 500)), .int .i64 (wrap64 (1000 * t180))]) (ok := fun _ => True) (okp := fun _ => True) ?hr ?hp (fun _ hk => hk) trivial (Below.refl _ _) (Nat.le_refl _) (by simp) ?_; (case hd => rfl); (case hg => rfl); (case hr => first | (go_simp; done) | (go_simp; rfl)); (case hp => exact (Reps.one (show Kd.M (Kd.int .i64) _ _ _ (wrap64 ((wrap64 (1000 * t180)) + 500)) [.int .i64 (wrap64 ((wrap64 (1000 * t180)) + 500))] from rfl) (Reps.one (show Kd.M (Kd.int .i64) _ _ _ (wrap64 (1000 * t180)) [.int .i64 (wrap64 (1000 * t180))] from rfl) (Reps.none _ _)))); intro v193 w92 ho93 hb hg_ hnew_; clear hg_ hnew_; (first | rw [← Ny192.out] at ho93 | (simp only [Int.reduceToNat] at ho93; rw [← Ny192.out] at ho93)); have n0_ := Aside0.mk (Kd.N_elder' (by (with_reducible repeat (first | apply Kd.N_alloc | apply Kd.N_drewN | apply Kd.N_drew)); exact HO_16.out) (Kd.R_base ho93) hb); have n1_ := Aside0.mk (Kd.R_elder' (by (with_reducible repeat (first | apply Kd.R_alloc | apply Kd.R_drewN | apply Kd.R_drew)); exact HO183.out) (Kd.R_base ho93) hb); have n2_ := Aside0.mk (Kd.R_elder' (by (with_reducible repeat (first | apply Kd.R_alloc | apply Kd.R_drewN | apply Kd.R_drew)); exact HO186.out) (Kd.R_base ho93) hb); have n3_ := Aside0.mk (Kd.R_elder' (by (with_reducible repeat (first | apply Kd.R_alloc | apply Kd.R_drewN | apply Kd.R_drew)); exact HO191.out) (Kd.R_base ho93) hb); have n4_ := Aside0.mk (Kd.R_lower (Kd.R_new' (Kd.R_new' (Kd.R_new' ho93 (Kd.R_lt (by (with_reducible repeat (first | apply Kd.R_alloc | apply Kd.R_drewN | apply Kd.R_drew)); exact HO183.out))) (Kd.R_lt (by (with_reducible repeat (first | apply Kd.R_alloc | apply Kd.R_drewN | apply Kd.R_drew)); exact HO186.out))) (Kd.R_lt (by (with_reducible repeat (first | apply Kd.R_alloc | apply Kd.R_drewN | apply Kd.R_drew)); exact HO191.out))) (below_size (by repeat (first | (with_reducible first | exact HB.out | apply below_alloc | apply pw_below_drewN | apply below_drew1) | exact HB.out)))); have n5_ := Aside0.mk (below_step (by repeat (first | (with_reducible first | exact HB.out | apply below_alloc | apply pw_below_drewN | apply below_drew1) | exact HB.out)) hb); clear HO_16; clear HO183; clear HO186; clear HO191; clear HB; have HO_16 := n0_; have HO183 := n1_; have HO186 := n2_; have HO191 := n3_; have HO194 := n4_; have HB := n5_; clear n0_ n1_ n2_ n3_ n4_ n5_; clear hb ho93; obtain ⟨Ao94, co94, eo94⟩ := Kd.R_slice HO191.out; subst eo94; obtain ⟨Ao95, co95, eo95⟩ := Kd.R_slice HO194.out; subst eo95) | ((with_reducible refine gate_callee (f := 32) rfl ?_); refine goesL_ (some 239) rfl rfl Try.func32 (by kernel_rfl) rfl #[.slice Ao94 y189.length co94, .slice Ao95 y192.length co95] rfl (by (try simp only [List.map_toArray, List.map_cons, List.map_nil]); first | done | rfl | (simp only [List.length_drop, List.length_take]; rfl)) ?_; (with_reducible refine (impl_PressureTest.calls k4 _ _ y189 _ _ y192 t195 t196 _ ?side1 ?side2 ?side3 ?side4 A65.out).mono ?_); (case side1 => repeat (first | exact (Kd.R_reads' HO191.out).2.2 | (with_reducible refine Kd.C_alloc ?_ _) | (with_reducible refine Kd.C_drewN ?_ _) | (with_reducible refine Kd.C_drew ?_))); (case side2 => exact (Kd.R_reads' HO191.out).2.1); (case side3 => repeat (first | exact (Kd.R_reads' HO194.out).2.2 | (with_reducible refine Kd.C_alloc ?_ _) | (with_reducible refine Kd.C_drewN ?_ _) | (with_reducible refine Kd.C_drew ?_))); (case side4 => exact (Kd.R_reads' HO194.out).2.1); rintro e w96 ⟨rfl, hb⟩; refine ⟨_, rfl, ?_⟩; have n0_ := Aside0.mk (Kd.N_below (by (with_reducible repeat (first | apply Kd.N_alloc | apply Kd.N_drewN | apply Kd.N_drew)); exact HO_16.out) hb); have n1_ := Aside0.mk (Kd.R_below (by (with_reducible repeat (first | apply Kd.R_alloc | apply Kd.R_drewN | apply Kd.R_drew)); exact HO183.out) hb); have n2_ := Aside0.mk (Kd.R_below (by (with_reducible repeat (first | apply Kd.R_alloc | apply Kd.R_drewN | apply Kd.R_drew)); exact HO186.out) hb); have n3_ := Aside0.mk (Kd.R_below (by (with_reducible repeat (first | apply Kd.R_alloc | apply Kd.R_drewN | apply Kd.R_drew)); exact HO191.out) hb); have n4_ := Aside0.mk (Kd.R_below (by (with_reducible repeat (first | apply Kd.R_alloc | apply Kd.R_drewN | apply Kd.R_drew)); exact HO194.out) hb); have n5_ := Aside0.mk (below_step (by repeat (first | (with_reducible first | exact HB.out | apply below_alloc | apply pw_below_drewN | apply below_drew1) | exact HB.out)) hb); clear HO_16; clear HO183; clear HO186; clear HO191; clear HO194; clear HB; have HO_16 := n0_; have HO183 := n1_; have HO186 := n2_; have HO191 := n3_; have HO194 := n4_; have HB := n5_; clear n0_ n1_ n2_ n3_ n4_ n5_; (try clear hb); (try clear hb2); (try clear hk); (try clear hi)))
                                        go_ret
                                        exact ⟨by first | rfl | (simp [errW_none, errW_some] <;> rfl) | (simp [*, errW_none, errW_some] <;> rfl), by repeat (first | (with_reducible first | exact HB.out | apply below_alloc | apply pw_below_drewN | apply below_drew1) | exact HB.out)⟩
                                    · rw [if_neg c67] at H
                                      have c67b0 : (t187 == 0) = false := beq_eq_false_iff_ne.mpr c67
                                      have c67b1 : (t187 != 0) = true := bne_iff_ne.mpr c67
                                      obtain rfl := Option.some.inj H
                                      go_wp2_with (first | ((with_reducible refine gate_callee (f := 34) rfl ?_); refine goesL_ (some 221) rfl rfl Try.func34 (by kernel_rfl) rfl #[.slice A1 l1.length c1, .int .i64 6, .int .i64 400] rfl (by (try simp only [List.map_toArray, List.map_cons, List.map_nil]); first | done | rfl | (simp only [List.length_drop, List.length_take]; rfl)) ?_; (with_reducible refine (laws_r8Wide.calls k4 _ _ l1 6 400 t180 _ ?side1 ?side2 A63.out).mono ?_); (case side1 => repeat (first | exact (Kd.C_below HR1.out HB.out) | (with_reducible refine Kd.C_alloc ?_ _) | (with_reducible refine Kd.C_drewN ?_ _) | (with_reducible refine Kd.C_drew ?_))); (case side2 => exact HC1.out); rintro e w' ⟨rfl, ⟨nd, rfl⟩⟩; refine ⟨_, rfl, ?_⟩) | ((with_reducible refine gate_dst (N := 224) rfl ?_); (try (refine gate_guard (by rfl) ?_; dsimp only)); refine Kd.R_lit (Kd.int .i64) _ 2 ?hg (N := 224) ?hd (xs := ([3, 20, 63] : List Int)) (inner := [.int .i64 3, .int .i64 20, .int .i64 63]) (ok := fun _ => True) (okp := fun _ => True) ?hr ?hp (fun _ hk => hk) trivial (Below.refl _ _) (Nat.le_refl _) (by simp) ?_; (case hd => rfl); (case hg => rfl); (case hr => first | (go_simp; done) | (go_simp; rfl)); (case hp => exact (Reps.one (show Kd.M (Kd.int .i64) _ _ _ 3 [.int .i64 3] from rfl) (Reps.one (show Kd.M (Kd.int .i64) _ _ _ 20 [.int .i64 20] from rfl) (Reps.one (show Kd.M (Kd.int .i64) _ _ _ 63 [.int .i64 63] from rfl) (Reps.none _ _))))); intro v182 w97 ho98 hb hg_ hnew_; clear hg_ hnew_; (first | rw [← Ny181.out] at ho98 | (simp only [Int.reduceToNat] at ho98; rw [← Ny181.out] at ho98)); have n0_ := Aside0.mk (Kd.N_elder' (by (with_reducible repeat (first | apply Kd.N_alloc | apply Kd.N_drewN | apply Kd.N_drew)); exact HO_16.out) (Kd.R_base ho98) hb); have n1_ := Aside0.mk (Kd.R_lower ho98 (below_size (by repeat (first | (with_reducible first | exact HB.out | apply below_alloc | apply pw_below_drewN | apply below_drew1) | exact HB.out)))); have n2_ := Aside0.mk (below_step (by repeat (first | (with_reducible first | exact HB.out | apply below_alloc | apply pw_below_drewN | apply below_drew1) | exact HB.out)) hb); clear HO_16; clear HB; have HO_16 := n0_; have HO183 := n1_; have HB := n2_; clear n0_ n1_ n2_; clear hb ho98) | ((with_reducible refine gate_dst (N := 229) rfl ?_); (try (refine gate_guard (by rfl) ?_; dsimp only)); refine Kd.R_lit (Kd.int .i64) _ 2 ?hg (N := 229) ?hd (xs := ([wrap64 (1000 * t180), wrap64 ((wrap64 (1000 * t180)) + 7), wrap64 (1000 * t180)] : List Int)) (inner := [.int .i64 (wrap64 (1000 * t180)), .int .i64 (wrap64 ((wrap64 (1000 * t180)) + 7)), .int .i64 (wrap64 (1000 * t180))]) (ok := fun _ => True) (okp := fun _ => True) ?hr ?hp (fun _ hk => hk) trivial (Below.refl _ _) (Nat.le_refl _) (by simp) ?_; (case hd => rfl); (case hg => rfl); (case hr => first | (go_simp; done) | (go_simp; rfl)); (case hp => exact (Reps.one (show Kd.M (Kd.int .i64) _ _ _ (wrap64 (1000 * t180)) [.int .i64 (wrap64 (1000 * t180))] from rfl) (Reps.one (show Kd.M (Kd.int .i64) _ _ _ (wrap64 ((wrap64 (1000 * t180)) + 7)) [.int .i64 (wrap64 ((wrap64 (1000 * t180)) + 7))] from rfl) (Reps.one (show Kd.M (Kd.int .i64) _ _ _ (wrap64 (1000 * t180)) [.int .i64 (wrap64 (1000 * t180))] from rfl) (Reps.none _ _))))); intro v185 w99 ho100 hb hg_ hnew_; clear hg_ hnew_; (first | rw [← Ny184.out] at ho100 | (simp only [Int.reduceToNat] at ho100; rw [← Ny184.out] at ho100)); have n0_ := Aside0.mk (Kd.N_elder' (by (with_reducible repeat (first | apply Kd.N_alloc | apply Kd.N_drewN | apply Kd.N_drew)); exact HO_16.out) (Kd.R_base ho100) hb); have n1_ := Aside0.mk (Kd.R_elder' (by (with_reducible repeat (first | apply Kd.R_alloc | apply Kd.R_drewN | apply Kd.R_drew)); exact HO183.out) (Kd.R_base ho100) hb); have n2_ := Aside0.mk (Kd.R_lower (Kd.R_new' ho100 (Kd.R_lt (by (with_reducible repeat (first | apply Kd.R_alloc | apply Kd.R_drewN | apply Kd.R_drew)); exact HO183.out))) (below_size (by repeat (first | (with_reducible first | exact HB.out | apply below_alloc | apply pw_below_drewN | apply below_drew1) | exact HB.out)))); have n3_ := Aside0.mk (below_step (by repeat (first | (with_reducible first | exact HB.out | apply below_alloc | apply pw_below_drewN | apply below_drew1) | exact HB.out)) hb); clear HO_16; clear HO183; clear HB; have HO_16 := n0_; have HO183 := n1_; have HO186 := n2_; have HB := n3_; clear n0_ n1_ n2_ n3_; clear hb ho100; obtain ⟨Ao101, co101, eo101⟩ := Kd.R_slice HO183.out; subst eo101; obtain ⟨Ao102, co102, eo102⟩ := Kd.R_slice HO186.out; subst eo102) | ((with_reducible refine gate_callee (f := 32) rfl ?_); refine goesL_ (some 230) rfl rfl Try.func32 (by kernel_rfl) rfl #[.slice Ao101 y181.length co101, .slice Ao102 y184.length co102] rfl (by (try simp only [List.map_toArray, List.map_cons, List.map_nil]); first | done | rfl | (simp only [List.length_drop, List.length_take]; rfl)) ?_; (with_reducible refine (impl_PressureTest.calls k4 _ _ y181 _ _ y184 t187 t188 _ ?side1 ?side2 ?side3 ?side4 A64.out).mono ?_); (case side1 => repeat (first | exact (Kd.R_reads' HO183.out).2.2 | (with_reducible refine Kd.C_alloc ?_ _) | (with_reducible refine Kd.C_drewN ?_ _) | (with_reducible refine Kd.C_drew ?_))); (case side2 => exact (Kd.R_reads' HO183.out).2.1); (case side3 => repeat (first | exact (Kd.R_reads' HO186.out).2.2 | (with_reducible refine Kd.C_alloc ?_ _) | (with_reducible refine Kd.C_drewN ?_ _) | (with_reducible refine Kd.C_drew ?_))); (case side4 => exact (Kd.R_reads' HO186.out).2.1); rintro e w103 ⟨rfl, hb⟩; refine ⟨_, rfl, ?_⟩; have n0_ := Aside0.mk (Kd.N_below (by (with_reducible repeat (first | apply Kd.N_alloc | apply Kd.N_drewN | apply Kd.N_drew)); exact HO_16.out) hb); have n1_ := Aside0.mk (Kd.R_below (by (with_reducible repeat (first | apply Kd.R_alloc | apply Kd.R_drewN | apply Kd.R_drew)); exact HO183.out) hb); have n2_ := Aside0.mk (Kd.R_below (by (with_reducible repeat (first | apply Kd.R_alloc | apply Kd.R_drewN | apply Kd.R_drew)); exact HO186.out) hb); have n3_ := Aside0.mk (below_step (by repeat (first | (with_reducible first | exact HB.out | apply below_alloc | apply pw_below_drewN | apply below_drew1) | exact HB.out)) hb); clear HO_16; clear HO183; clear HO186; clear HB; have HO_16 := n0_; have HO183 := n1_; have HO186 := n2_; have HB := n3_; clear n0_ n1_ n2_ n3_; (try clear hb); (try clear hb2); (try clear hk); (try clear hi)) | ((with_reducible refine gate_dst (N := 234) rfl ?_); (try (refine gate_guard (by rfl) ?_; dsimp only)); refine Kd.R_lit (Kd.int .i64) _ 2 ?hg (N := 234) ?hd (xs := ([0, 60] : List Int)) (inner := [.int .i64 0, .int .i64 60]) (ok := fun _ => True) (okp := fun _ => True) ?hr ?hp (fun _ hk => hk) trivial (Below.refl _ _) (Nat.le_refl _) (by simp) ?_; (case hd => rfl); (case hg => rfl); (case hr => first | (go_simp; done) | (go_simp; rfl)); (case hp => exact (Reps.one (show Kd.M (Kd.int .i64) _ _ _ 0 [.int .i64 0] from rfl) (Reps.one (show Kd.M (Kd.int .i64) _ _ _ 60 [.int .i64 60] from rfl) (Reps.none _ _)))); intro v190 w104 ho105 hb hg_ hnew_; clear hg_ hnew_; (first | rw [← Ny189.out] at ho105 | (simp only [Int.reduceToNat] at ho105; rw [← Ny189.out] at ho105)); have n0_ := Aside0.mk (Kd.N_elder' (by (with_reducible repeat (first | apply Kd.N_alloc | apply Kd.N_drewN | apply Kd.N_drew)); exact HO_16.out) (Kd.R_base ho105) hb); have n1_ := Aside0.mk (Kd.R_elder' (by (with_reducible repeat (first | apply Kd.R_alloc | apply Kd.R_drewN | apply Kd.R_drew)); exact HO183.out) (Kd.R_base ho105) hb); have n2_ := Aside0.mk (Kd.R_elder' (by (with_reducible repeat (first | apply Kd.R_alloc | apply Kd.R_drewN | apply Kd.R_drew)); exact HO186.out) (Kd.R_base ho105) hb); have n3_ := Aside0.mk (Kd.R_lower (Kd.R_new' (Kd.R_new' ho105 (Kd.R_lt (by (with_reducible repeat (first | apply Kd.R_alloc | apply Kd.R_drewN | apply Kd.R_drew)); exact HO183.out))) (Kd.R_lt (by (with_reducible repeat (first | apply Kd.R_alloc | apply Kd.R_drewN | apply Kd.R_drew)); exact HO186.out))) (below_size (by repeat (first | (with_reducible first | exact HB.out | apply below_alloc | apply pw_below_drewN | apply below_drew1) | exact HB.out)))); have n4_ := Aside0.mk (below_step (by repeat (first | (with_reducible first | exact HB.out | apply below_alloc | apply pw_below_drewN | apply below_drew1) | exact HB.out)) hb); clear HO_16; clear HO183; clear HO186; clear HB; have HO_16 := n0_; have HO183 := n1_; have HO186 := n2_; have HO191 := n3_; have HB := n4_; clear n0_ n1_ n2_ n3_ n4_; clear hb ho105) | ((with_reducible refine gate_dst (N := 238) rfl ?_); (try (refine gate_guard (by rfl) ?_; dsimp only)); refine Kd.R_lit (Kd.int .i64) _ 2 ?hg (N := 238) ?hd (xs := ([wrap64 ((wrap64 (1000 * t180)) + 500), wrap64 (1000 * t180)] : List Int)) (inner := [.int .i64 (wrap64 ((wrap64 (1000 * t180)) + 500)), .int .i64 (wrap64 (1000 * t180))]) (ok := fun _ => True) (okp := fun _ => True) ?hr ?hp (fun _ hk => hk) trivial (Below.refl _ _) (Nat.le_refl _) (by simp) ?_; (case hd => rfl); (case hg => rfl); (case hr => first | (go_simp; done) | (go_simp; rfl)); (case hp => exact (Reps.one (show Kd.M (Kd.int .i64) _ _ _ (wrap64 ((wrap64 (1000 * t180)) + 500)) [.int .i64 (wrap64 ((wrap64 (1000 * t180)) + 500))] from rfl) (Reps.one (show Kd.M (Kd.int .i64) _ _ _ (wrap64 (1000 * t180)) [.int .i64 (wrap64 (1000 * t180))] from rfl) (Reps.none _ _)))); intro v193 w106 ho107 hb hg_ hnew_; clear hg_ hnew_; (first | rw [← Ny192.out] at ho107 | (simp only [Int.reduceToNat] at ho107; rw [← Ny192.out] at ho107)); have n0_ := Aside0.mk (Kd.N_elder' (by (with_reducible repeat (first | apply Kd.N_alloc | apply Kd.N_drewN | apply Kd.N_drew)); exact HO_16.out) (Kd.R_base ho107) hb); have n1_ := Aside0.mk (Kd.R_elder' (by (with_reducible repeat (first | apply Kd.R_alloc | apply Kd.R_drewN | apply Kd.R_drew)); exact HO183.out) (Kd.R_base ho107) hb); have n2_ := Aside0.mk (Kd.R_elder' (by (with_reducible repeat (first | apply Kd.R_alloc | apply Kd.R_drewN | apply Kd.R_drew)); exact HO186.out) (Kd.R_base ho107) hb); have n3_ := Aside0.mk (Kd.R_elder' (by (with_reducible repeat (first | apply Kd.R_alloc | apply Kd.R_drewN | apply Kd.R_drew)); exact HO191.out) (Kd.R_base ho107) hb); have n4_ := Aside0.mk (Kd.R_lower (Kd.R_new' (Kd.R_new' (Kd.R_new' ho107 (Kd.R_lt (by (with_reducible repeat (first | apply Kd.R_alloc | apply Kd.R_drewN | apply Kd.R_drew)); exact HO183.out))) (Kd.R_lt (by (with_reducible repeat (first | apply Kd.R_alloc | apply Kd.R_drewN | apply Kd.R_drew)); exact HO186.out))) (Kd.R_lt (by (with_reducible repeat (first | apply Kd.R_alloc | apply Kd.R_drewN | apply Kd.R_drew)); exact HO191.out))) (below_size (by repeat (first | (with_reducible first | exact HB.out | apply below_alloc | apply pw_below_drewN | apply below_drew1) | exact HB.out)))); have n5_ := Aside0.mk (below_step (by repeat (first | (with_reducible first | exact HB.out | apply below_alloc | apply pw_below_drewN | apply below_drew1) | exact HB.out)) hb); clear HO_16; clear HO183; clear HO186; clear HO191; clear HB; have HO_16 := n0_; have HO183 := n1_; have HO186 := n2_; have HO191 := n3_; have HO194 := n4_; have HB := n5_; clear n0_ n1_ n2_ n3_ n4_ n5_; clear hb ho107; obtain ⟨Ao108, co108, eo108⟩ := Kd.R_slice HO191.out; subst eo108; obtain ⟨Ao109, co109, eo109⟩ := Kd.R_slice HO194.out; subst eo109) | ((with_reducible refine gate_callee (f := 32) rfl ?_); refine goesL_ (some 239) rfl rfl Try.func32 (by kernel_rfl) rfl #[.slice Ao108 y189.length co108, .slice Ao109 y192.length co109] rfl (by (try simp only [List.map_toArray, List.map_cons, List.map_nil]); first | done | rfl | (simp only [List.length_drop, List.length_take]; rfl)) ?_; (with_reducible refine (impl_PressureTest.calls k4 _ _ y189 _ _ y192 t195 t196 _ ?side1 ?side2 ?side3 ?side4 A65.out).mono ?_); (case side1 => repeat (first | exact (Kd.R_reads' HO191.out).2.2 | (with_reducible refine Kd.C_alloc ?_ _) | (with_reducible refine Kd.C_drewN ?_ _) | (with_reducible refine Kd.C_drew ?_))); (case side2 => exact (Kd.R_reads' HO191.out).2.1); (case side3 => repeat (first | exact (Kd.R_reads' HO194.out).2.2 | (with_reducible refine Kd.C_alloc ?_ _) | (with_reducible refine Kd.C_drewN ?_ _) | (with_reducible refine Kd.C_drew ?_))); (case side4 => exact (Kd.R_reads' HO194.out).2.1); rintro e w110 ⟨rfl, hb⟩; refine ⟨_, rfl, ?_⟩; have n0_ := Aside0.mk (Kd.N_below (by (with_reducible repeat (first | apply Kd.N_alloc | apply Kd.N_drewN | apply Kd.N_drew)); exact HO_16.out) hb); have n1_ := Aside0.mk (Kd.R_below (by (with_reducible repeat (first | apply Kd.R_alloc | apply Kd.R_drewN | apply Kd.R_drew)); exact HO183.out) hb); have n2_ := Aside0.mk (Kd.R_below (by (with_reducible repeat (first | apply Kd.R_alloc | apply Kd.R_drewN | apply Kd.R_drew)); exact HO186.out) hb); have n3_ := Aside0.mk (Kd.R_below (by (with_reducible repeat (first | apply Kd.R_alloc | apply Kd.R_drewN | apply Kd.R_drew)); exact HO191.out) hb); have n4_ := Aside0.mk (Kd.R_below (by (with_reducible repeat (first | apply Kd.R_alloc | apply Kd.R_drewN | apply Kd.R_drew)); exact HO194.out) hb); have n5_ := Aside0.mk (below_step (by repeat (first | (with_reducible first | exact HB.out | apply below_alloc | apply pw_below_drewN | apply below_drew1) | exact HB.out)) hb); clear HO_16; clear HO183; clear HO186; clear HO191; clear HO194; clear HB; have HO_16 := n0_; have HO183 := n1_; have HO186 := n2_; have HO191 := n3_; have HO194 := n4_; have HB := n5_; clear n0_ n1_ n2_ n3_ n4_ n5_; (try clear hb); (try clear hb2); (try clear hk); (try clear hi)))
                                      go_ret
                                      exact ⟨by first | rfl | (simp [errW_none, errW_some] <;> rfl) | (simp [*, errW_none, errW_some] <;> rfl), by repeat (first | (with_reducible first | exact HB.out | apply below_alloc | apply pw_below_drewN | apply below_drew1) | exact HB.out)⟩
                                  · rw [if_neg c66] at H
                                    have c66b0 : (t188 == 0) = false := beq_eq_false_iff_ne.mpr c66
                                    have c66b1 : (t188 != 0) = true := bne_iff_ne.mpr c66
                                    obtain rfl := Option.some.inj H
                                    go_wp2_with (first | ((with_reducible refine gate_callee (f := 34) rfl ?_); refine goesL_ (some 221) rfl rfl Try.func34 (by kernel_rfl) rfl #[.slice A1 l1.length c1, .int .i64 6, .int .i64 400] rfl (by (try simp only [List.map_toArray, List.map_cons, List.map_nil]); first | done | rfl | (simp only [List.length_drop, List.length_take]; rfl)) ?_; (with_reducible refine (laws_r8Wide.calls k4 _ _ l1 6 400 t180 _ ?side1 ?side2 A63.out).mono ?_); (case side1 => repeat (first | exact (Kd.C_below HR1.out HB.out) | (with_reducible refine Kd.C_alloc ?_ _) | (with_reducible refine Kd.C_drewN ?_ _) | (with_reducible refine Kd.C_drew ?_))); (case side2 => exact HC1.out); rintro e w' ⟨rfl, ⟨nd, rfl⟩⟩; refine ⟨_, rfl, ?_⟩) | ((with_reducible refine gate_dst (N := 224) rfl ?_); (try (refine gate_guard (by rfl) ?_; dsimp only)); refine Kd.R_lit (Kd.int .i64) _ 2 ?hg (N := 224) ?hd (xs := ([3, 20, 63] : List Int)) (inner := [.int .i64 3, .int .i64 20, .int .i64 63]) (ok := fun _ => True) (okp := fun _ => True) ?hr ?hp (fun _ hk => hk) trivial (Below.refl _ _) (Nat.le_refl _) (by simp) ?_; (case hd => rfl); (case hg => rfl); (case hr => first | (go_simp; done) | (go_simp; rfl)); (case hp => exact (Reps.one (show Kd.M (Kd.int .i64) _ _ _ 3 [.int .i64 3] from rfl) (Reps.one (show Kd.M (Kd.int .i64) _ _ _ 20 [.int .i64 20] from rfl) (Reps.one (show Kd.M (Kd.int .i64) _ _ _ 63 [.int .i64 63] from rfl) (Reps.none _ _))))); intro v182 w111 ho112 hb hg_ hnew_; clear hg_ hnew_; (first | rw [← Ny181.out] at ho112 | (simp only [Int.reduceToNat] at ho112; rw [← Ny181.out] at ho112)); have n0_ := Aside0.mk (Kd.N_elder' (by (with_reducible repeat (first | apply Kd.N_alloc | apply Kd.N_drewN | apply Kd.N_drew)); exact HO_16.out) (Kd.R_base ho112) hb); have n1_ := Aside0.mk (Kd.R_lower ho112 (below_size (by repeat (first | (with_reducible first | exact HB.out | apply below_alloc | apply pw_below_drewN | apply below_drew1) | exact HB.out)))); have n2_ := Aside0.mk (below_step (by repeat (first | (with_reducible first | exact HB.out | apply below_alloc | apply pw_below_drewN | apply below_drew1) | exact HB.out)) hb); clear HO_16; clear HB; have HO_16 := n0_; have HO183 := n1_; have HB := n2_; clear n0_ n1_ n2_; clear hb ho112) | ((with_reducible refine gate_dst (N := 229) rfl ?_); (try (refine gate_guard (by rfl) ?_; dsimp only)); refine Kd.R_lit (Kd.int .i64) _ 2 ?hg (N := 229) ?hd (xs := ([wrap64 (1000 * t180), wrap64 ((wrap64 (1000 * t180)) + 7), wrap64 (1000 * t180)] : List Int)) (inner := [.int .i64 (wrap64 (1000 * t180)), .int .i64 (wrap64 ((wrap64 (1000 * t180)) + 7)), .int .i64 (wrap64 (1000 * t180))]) (ok := fun _ => True) (okp := fun _ => True) ?hr ?hp (fun _ hk => hk) trivial (Below.refl _ _) (Nat.le_refl _) (by simp) ?_; (case hd => rfl); (case hg => rfl); (case hr => first | (go_simp; done) | (go_simp; rfl)); (case hp => exact (Reps.one (show Kd.M (Kd.int .i64) _ _ _ (wrap64 (1000 * t180)) [.int .i64 (wrap64 (1000 * t180))] from rfl) (Reps.one (show Kd.M (Kd.int .i64) _ _ _ (wrap64 ((wrap64 (1000 * t180)) + 7)) [.int .i64 (wrap64 ((wrap64 (1000 * t180)) + 7))] from rfl) (Reps.one (show Kd.M (Kd.int .i64) _ _ _ (wrap64 (1000 * t180)) [.int .i64 (wrap64 (1000 * t180))] from rfl) (Reps.none _ _))))); intro v185 w113 ho114 hb hg_ hnew_; clear hg_ hnew_; (first | rw [← Ny184.out] at ho114 | (simp only [Int.reduceToNat] at ho114; rw [← Ny184.out] at ho114)); have n0_ := Aside0.mk (Kd.N_elder' (by (with_reducible repeat (first | apply Kd.N_alloc | apply Kd.N_drewN | apply Kd.N_drew)); exact HO_16.out) (Kd.R_base ho114) hb); have n1_ := Aside0.mk (Kd.R_elder' (by (with_reducible repeat (first | apply Kd.R_alloc | apply Kd.R_drewN | apply Kd.R_drew)); exact HO183.out) (Kd.R_base ho114) hb); have n2_ := Aside0.mk (Kd.R_lower (Kd.R_new' ho114 (Kd.R_lt (by (with_reducible repeat (first | apply Kd.R_alloc | apply Kd.R_drewN | apply Kd.R_drew)); exact HO183.out))) (below_size (by repeat (first | (with_reducible first | exact HB.out | apply below_alloc | apply pw_below_drewN | apply below_drew1) | exact HB.out)))); have n3_ := Aside0.mk (below_step (by repeat (first | (with_reducible first | exact HB.out | apply below_alloc | apply pw_below_drewN | apply below_drew1) | exact HB.out)) hb); clear HO_16; clear HO183; clear HB; have HO_16 := n0_; have HO183 := n1_; have HO186 := n2_; have HB := n3_; clear n0_ n1_ n2_ n3_; clear hb ho114; obtain ⟨Ao115, co115, eo115⟩ := Kd.R_slice HO183.out; subst eo115; obtain ⟨Ao116, co116, eo116⟩ := Kd.R_slice HO186.out; subst eo116) | ((with_reducible refine gate_callee (f := 32) rfl ?_); refine goesL_ (some 230) rfl rfl Try.func32 (by kernel_rfl) rfl #[.slice Ao115 y181.length co115, .slice Ao116 y184.length co116] rfl (by (try simp only [List.map_toArray, List.map_cons, List.map_nil]); first | done | rfl | (simp only [List.length_drop, List.length_take]; rfl)) ?_; (with_reducible refine (impl_PressureTest.calls k4 _ _ y181 _ _ y184 t187 t188 _ ?side1 ?side2 ?side3 ?side4 A64.out).mono ?_); (case side1 => repeat (first | exact (Kd.R_reads' HO183.out).2.2 | (with_reducible refine Kd.C_alloc ?_ _) | (with_reducible refine Kd.C_drewN ?_ _) | (with_reducible refine Kd.C_drew ?_))); (case side2 => exact (Kd.R_reads' HO183.out).2.1); (case side3 => repeat (first | exact (Kd.R_reads' HO186.out).2.2 | (with_reducible refine Kd.C_alloc ?_ _) | (with_reducible refine Kd.C_drewN ?_ _) | (with_reducible refine Kd.C_drew ?_))); (case side4 => exact (Kd.R_reads' HO186.out).2.1); rintro e w117 ⟨rfl, hb⟩; refine ⟨_, rfl, ?_⟩; have n0_ := Aside0.mk (Kd.N_below (by (with_reducible repeat (first | apply Kd.N_alloc | apply Kd.N_drewN | apply Kd.N_drew)); exact HO_16.out) hb); have n1_ := Aside0.mk (Kd.R_below (by (with_reducible repeat (first | apply Kd.R_alloc | apply Kd.R_drewN | apply Kd.R_drew)); exact HO183.out) hb); have n2_ := Aside0.mk (Kd.R_below (by (with_reducible repeat (first | apply Kd.R_alloc | apply Kd.R_drewN | apply Kd.R_drew)); exact HO186.out) hb); have n3_ := Aside0.mk (below_step (by repeat (first | (with_reducible first | exact HB.out | apply below_alloc | apply pw_below_drewN | apply below_drew1) | exact HB.out)) hb); clear HO_16; clear HO183; clear HO186; clear HB; have HO_16 := n0_; have HO183 := n1_; have HO186 := n2_; have HB := n3_; clear n0_ n1_ n2_ n3_; (try clear hb); (try clear hb2); (try clear hk); (try clear hi)) | ((with_reducible refine gate_dst (N := 234) rfl ?_); (try (refine gate_guard (by rfl) ?_; dsimp only)); refine Kd.R_lit (Kd.int .i64) _ 2 ?hg (N := 234) ?hd (xs := ([0, 60] : List Int)) (inner := [.int .i64 0, .int .i64 60]) (ok := fun _ => True) (okp := fun _ => True) ?hr ?hp (fun _ hk => hk) trivial (Below.refl _ _) (Nat.le_refl _) (by simp) ?_; (case hd => rfl); (case hg => rfl); (case hr => first | (go_simp; done) | (go_simp; rfl)); (case hp => exact (Reps.one (show Kd.M (Kd.int .i64) _ _ _ 0 [.int .i64 0] from rfl) (Reps.one (show Kd.M (Kd.int .i64) _ _ _ 60 [.int .i64 60] from rfl) (Reps.none _ _)))); intro v190 w118 ho119 hb hg_ hnew_; clear hg_ hnew_; (first | rw [← Ny189.out] at ho119 | (simp only [Int.reduceToNat] at ho119; rw [← Ny189.out] at ho119)); have n0_ := Aside0.mk (Kd.N_elder' (by (with_reducible repeat (first | apply Kd.N_alloc | apply Kd.N_drewN | apply Kd.N_drew)); exact HO_16.out) (Kd.R_base ho119) hb); have n1_ := Aside0.mk (Kd.R_elder' (by (with_reducible repeat (first | apply Kd.R_alloc | apply Kd.R_drewN | apply Kd.R_drew)); exact HO183.out) (Kd.R_base ho119) hb); have n2_ := Aside0.mk (Kd.R_elder' (by (with_reducible repeat (first | apply Kd.R_alloc | apply Kd.R_drewN | apply Kd.R_drew)); exact HO186.out) (Kd.R_base ho119) hb); have n3_ := Aside0.mk (Kd.R_lower (Kd.R_new' (Kd.R_new' ho119 (Kd.R_lt (by (with_reducible repeat (first | apply Kd.R_alloc | apply Kd.R_drewN | apply Kd.R_drew)); exact HO183.out))) (Kd.R_lt (by (with_reducible repeat (first | apply Kd.R_alloc | apply Kd.R_drewN | apply Kd.R_drew)); exact HO186.out))) (below_size (by repeat (first | (with_reducible first | exact HB.out | apply below_alloc | apply pw_below_drewN | apply below_drew1) | exact HB.out)))); have n4_ := Aside0.mk (below_step (by repeat (first | (with_reducible first | exact HB.out | apply below_alloc | apply pw_below_drewN | apply below_drew1) | exact HB.out)) hb); clear HO_16; clear HO183; clear HO186; clear HB; have HO_16 := n0_; have HO183 := n1_; have HO186 := n2_; have HO191 := n3_; have HB := n4_; clear n0_ n1_ n2_ n3_ n4_; clear hb ho119) | ((with_reducible refine gate_dst (N := 238) rfl ?_); (try (refine gate_guard (by rfl) ?_; dsimp only)); refine Kd.R_lit (Kd.int .i64) _ 2 ?hg (N := 238) ?hd (xs := ([wrap64 ((wrap64 (1000 * t180)) + 500), wrap64 (1000 * t180)] : List Int)) (inner := [.int .i64 (wrap64 ((wrap64 (1000 * t180)) + 500)), .int .i64 (wrap64 (1000 * t180))]) (ok := fun _ => True) (okp := fun _ => True) ?hr ?hp (fun _ hk => hk) trivial (Below.refl _ _) (Nat.le_refl _) (by simp) ?_; (case hd => rfl); (case hg => rfl); (case hr => first | (go_simp; done) | (go_simp; rfl)); (case hp => exact (Reps.one (show Kd.M (Kd.int .i64) _ _ _ (wrap64 ((wrap64 (1000 * t180)) + 500)) [.int .i64 (wrap64 ((wrap64 (1000 * t180)) + 500))] from rfl) (Reps.one (show Kd.M (Kd.int .i64) _ _ _ (wrap64 (1000 * t180)) [.int .i64 (wrap64 (1000 * t180))] from rfl) (Reps.none _ _)))); intro v193 w120 ho121 hb hg_ hnew_; clear hg_ hnew_; (first | rw [← Ny192.out] at ho121 | (simp only [Int.reduceToNat] at ho121; rw [← Ny192.out] at ho121)); have n0_ := Aside0.mk (Kd.N_elder' (by (with_reducible repeat (first | apply Kd.N_alloc | apply Kd.N_drewN | apply Kd.N_drew)); exact HO_16.out) (Kd.R_base ho121) hb); have n1_ := Aside0.mk (Kd.R_elder' (by (with_reducible repeat (first | apply Kd.R_alloc | apply Kd.R_drewN | apply Kd.R_drew)); exact HO183.out) (Kd.R_base ho121) hb); have n2_ := Aside0.mk (Kd.R_elder' (by (with_reducible repeat (first | apply Kd.R_alloc | apply Kd.R_drewN | apply Kd.R_drew)); exact HO186.out) (Kd.R_base ho121) hb); have n3_ := Aside0.mk (Kd.R_elder' (by (with_reducible repeat (first | apply Kd.R_alloc | apply Kd.R_drewN | apply Kd.R_drew)); exact HO191.out) (Kd.R_base ho121) hb); have n4_ := Aside0.mk (Kd.R_lower (Kd.R_new' (Kd.R_new' (Kd.R_new' ho121 (Kd.R_lt (by (with_reducible repeat (first | apply Kd.R_alloc | apply Kd.R_drewN | apply Kd.R_drew)); exact HO183.out))) (Kd.R_lt (by (with_reducible repeat (first | apply Kd.R_alloc | apply Kd.R_drewN | apply Kd.R_drew)); exact HO186.out))) (Kd.R_lt (by (with_reducible repeat (first | apply Kd.R_alloc | apply Kd.R_drewN | apply Kd.R_drew)); exact HO191.out))) (below_size (by repeat (first | (with_reducible first | exact HB.out | apply below_alloc | apply pw_below_drewN | apply below_drew1) | exact HB.out)))); have n5_ := Aside0.mk (below_step (by repeat (first | (with_reducible first | exact HB.out | apply below_alloc | apply pw_below_drewN | apply below_drew1) | exact HB.out)) hb); clear HO_16; clear HO183; clear HO186; clear HO191; clear HB; have HO_16 := n0_; have HO183 := n1_; have HO186 := n2_; have HO191 := n3_; have HO194 := n4_; have HB := n5_; clear n0_ n1_ n2_ n3_ n4_ n5_; clear hb ho121; obtain ⟨Ao122, co122, eo122⟩ := Kd.R_slice HO191.out; subst eo122; obtain ⟨Ao123, co123, eo123⟩ := Kd.R_slice HO194.out; subst eo123) | ((with_reducible refine gate_callee (f := 32) rfl ?_); refine goesL_ (some 239) rfl rfl Try.func32 (by kernel_rfl) rfl #[.slice Ao122 y189.length co122, .slice Ao123 y192.length co123] rfl (by (try simp only [List.map_toArray, List.map_cons, List.map_nil]); first | done | rfl | (simp only [List.length_drop, List.length_take]; rfl)) ?_; (with_reducible refine (impl_PressureTest.calls k4 _ _ y189 _ _ y192 t195 t196 _ ?side1 ?side2 ?side3 ?side4 A65.out).mono ?_); (case side1 => repeat (first | exact (Kd.R_reads' HO191.out).2.2 | (with_reducible refine Kd.C_alloc ?_ _) | (with_reducible refine Kd.C_drewN ?_ _) | (with_reducible refine Kd.C_drew ?_))); (case side2 => exact (Kd.R_reads' HO191.out).2.1); (case side3 => repeat (first | exact (Kd.R_reads' HO194.out).2.2 | (with_reducible refine Kd.C_alloc ?_ _) | (with_reducible refine Kd.C_drewN ?_ _) | (with_reducible refine Kd.C_drew ?_))); (case side4 => exact (Kd.R_reads' HO194.out).2.1); rintro e w124 ⟨rfl, hb⟩; refine ⟨_, rfl, ?_⟩; have n0_ := Aside0.mk (Kd.N_below (by (with_reducible repeat (first | apply Kd.N_alloc | apply Kd.N_drewN | apply Kd.N_drew)); exact HO_16.out) hb); have n1_ := Aside0.mk (Kd.R_below (by (with_reducible repeat (first | apply Kd.R_alloc | apply Kd.R_drewN | apply Kd.R_drew)); exact HO183.out) hb); have n2_ := Aside0.mk (Kd.R_below (by (with_reducible repeat (first | apply Kd.R_alloc | apply Kd.R_drewN | apply Kd.R_drew)); exact HO186.out) hb); have n3_ := Aside0.mk (Kd.R_below (by (with_reducible repeat (first | apply Kd.R_alloc | apply Kd.R_drewN | apply Kd.R_drew)); exact HO191.out) hb); have n4_ := Aside0.mk (Kd.R_below (by (with_reducible repeat (first | apply Kd.R_alloc | apply Kd.R_drewN | apply Kd.R_drew)); exact HO194.out) hb); have n5_ := Aside0.mk (below_step (by repeat (first | (with_reducible first | exact HB.out | apply below_alloc | apply pw_below_drewN | apply below_drew1) | exact HB.out)) hb); clear HO_16; clear HO183; clear HO186; clear HO191; clear HO194; clear HB; have HO_16 := n0_; have HO183 := n1_; have HO186 := n2_; have HO191 := n3_; have HO194 := n4_; have HB := n5_; clear n0_ n1_ n2_ n3_ n4_ n5_; (try clear hb); (try clear hb2); (try clear hk); (try clear hi)))
                                    go_ret
                                    exact ⟨by first | rfl | (simp [errW_none, errW_some] <;> rfl) | (simp [*, errW_none, errW_some] <;> rfl), by repeat (first | (with_reducible first | exact HB.out | apply below_alloc | apply pw_below_drewN | apply below_drew1) | exact HB.out)⟩
                                · rw [if_neg c62] at H
                                  have c62b0 : (x25_4 == t170) = false := beq_eq_false_iff_ne.mpr c62
                                  have c62b1 : (x25_4 != t170) = true := bne_iff_ne.mpr c62
                                  obtain rfl := Option.some.inj H
                                  go_wp2
                                  go_ret
                                  exact ⟨by first | rfl | (simp [errW_none, errW_some] <;> rfl) | (simp [*, errW_none, errW_some] <;> rfl), by repeat (first | (with_reducible first | exact HB.out | apply below_alloc | apply pw_below_drewN | apply below_drew1) | exact HB.out)⟩

/-- THE ONE PURE STATEMENT of laws_FnPlaces: yours. -/
def laws_FnPlaces.Pure : Prop := ∀ (l0 : List Int) (l1 : List Int), l0.length ≤ maxLen → l0.length * 1 ≤ 140737488351232 → (∀ x ∈ l0, (Lit.int .u8 x).wf = true) → l1.length ≤ maxLen → l1.length * 1 ≤ 140737488351232 → (∀ x ∈ l1, (Lit.int .u8 x).wf = true) → ∃ k, laws_FnPlaces.f k l0 l1 = some true
theorem laws_FnPlaces.walk (P : laws_FnPlaces.Pure) (a0 : Option Addr) (len0 cap0 : Nat) (z0 : List Int) (a1 : Option Addr) (len1 cap1 : Nat) (z1 : List Int) (w : World) (w0 : (a0 = none ∧ len0 = 0 ∧ cap0 = 0 ∧ z0 = []) ∨ ∃ x, a0 = some x ∧ len0 ≤ cap0 ∧ cap0 ≤ maxLen ∧ z0.length = cap0 ∧ (∀ i, i < z0.length → w.cell? (x.add i) = some (.int .u8 (z0.getD i 0))) ∧ ∀ n ∈ z0, (Lit.int .u8 n).wf = true) (y0 : len0 * 1 ≤ 140737488351232) (w1 : (a1 = none ∧ len1 = 0 ∧ cap1 = 0 ∧ z1 = []) ∨ ∃ x, a1 = some x ∧ len1 ≤ cap1 ∧ cap1 ≤ maxLen ∧ z1.length = cap1 ∧ (∀ i, i < z1.length → w.cell? (x.add i) = some (.int .u8 (z1.getD i 0))) ∧ ∀ n ∈ z1, (Lit.int .u8 n).wf = true) (y1 : len1 * 1 ≤ 140737488351232) :
    Calls Try.prog 9 #[.slice a0 len0 cap0, .slice a1 len1 cap1] w fun e w' => e = .returned (.bool true) ∧ Below w.heap.size w w' := by
  obtain ⟨l0, rfl, hr0, hm0, hw0, hc0⟩ := ReadsInt.ofRowC w0
  obtain ⟨l1, rfl, hr1, hm1, hw1, hc1⟩ := ReadsInt.ofRowC w1
  obtain ⟨k, h⟩ := P l0 l1 hm0 y0 hw0 hm1 y1 hw1
  refine (laws_FnPlaces.calls k _ _ l0 _ _ l1 true w (Kd.C_of_reads (d := (0 : Int)) (h1 := fun _ => rfl) hr0) hc0 (Kd.C_of_reads (d := (0 : Int)) (h1 := fun _ => rfl) hr1) hc1 h).mono ?_
  rintro e w' ⟨rfl, hd⟩
  exact ⟨rfl, hd⟩

end Go.Proofs.Ytkacnmgcgakioaa.PFnPlaces
