-- written by wip/xprint.py, a program of this session, for this claim; not trusted: Lean checks it.
import Derived.Test.YtheokilgacmlmaaPFnExactWorstRegionx0
import Derived.Test.YtheokilgacmlmaaPFnExactWorstRegionx2
namespace Go.Proofs.Ytheokilgacmlmaa.PFnExactWorstRegion
open Go.RowKit Go.Proofs.YtheokilgacmlmaaW.PrintWords Go.Proofs.YtheokilgacmlmaaW.PrintLast Go.Proofs.YtheokilgacmlmaaW.PrintMore
attribute [local go_sem] leq_less_ max2_int min2_int max_two min_two max_three min_three max_four min_four   -- for this text's walks alone
set_option linter.unusedVariables false
set_option linter.unusedSimpArgs false

/-! ### spec_l18Stands: function 73 -/
def spec_l18Stands.l0 : Nat → List (S33) → List (S51) → List Bool → Int → Bool → Int → Option (Bool)
 | 0, _, _, _, _, _, _ => none
 | k + 1, x0, x1, x2, x3, x4, x11 => if x11 < (x1.length : Int) then (if 0 ≤ x11 then (if x11 < (x2.length : Int) then (if rdOf false x2 x11 = true then (if (((rd_T51 x1 x11).f2) == x4) = true then ((spec_l18Pipe.f k x0 [rd_T51 x1 x11]).bind fun t165 => (if t165 = x3 then (some true) else (spec_l18Stands.l0 k x0 x1 x2 x3 x4 (wrap64 (x11 + 1))))) else (spec_l18Stands.l0 k x0 x1 x2 x3 x4 (wrap64 (x11 + 1)))) else (spec_l18Stands.l0 k x0 x1 x2 x3 x4 (wrap64 (x11 + 1)))) else (none)) else (none)) else (some false)
def spec_l18Stands.f (k : Nat) (l0 : List (S33)) (l1 : List (S51)) (l2 : List Bool) (a3 : Int) (a4 : Bool) : Option (Bool) := spec_l18Stands.l0 k l0 l1 l2 a3 a4 0
theorem spec_l18Stands.mono_l : ∀ k, (∀ y0 y1 y2 y3 y4 y5, LeO (spec_l18Stands.l0 k y0 y1 y2 y3 y4 y5) (spec_l18Stands.l0 (k + 1) y0 y1 y2 y3 y4 y5))
 | 0 => fun _ _ _ _ _ _ r h => by simp [spec_l18Stands.l0] at h
 | k + 1 => by
  have ih0 := spec_l18Stands.mono_l k
  ·intro y0 y1 y2 y3 y4 y5
   unfold spec_l18Stands.l0
   repeat' first
   | (with_reducible exact ih0 _ _ _ _ _ _)
   | (with_reducible exact spec_l18Pipe.mono _ _ _)
   | (with_reducible exact LeO.refl _)
   | (with_reducible exact LeO.none _)
   | (with_reducible refine LeO.ite ?_ ?_)
   | (with_reducible refine LeO.bind ?_ (fun _ => ?_))
theorem spec_l18Stands.mono : ∀ a0 a1 a2 a3 a4 k, LeO (spec_l18Stands.f k a0 a1 a2 a3 a4) (spec_l18Stands.f (k + 1) a0 a1 a2 a3 a4) := by
 intro a0 a1 a2 a3 a4 k; have ih0 := spec_l18Stands.mono_l k; unfold spec_l18Stands.f
 repeat' first
   | (with_reducible exact ih0 _ _ _ _ _ _)
   | (with_reducible exact spec_l18Pipe.mono _ _ _)
   | (with_reducible exact LeO.refl _)
   | (with_reducible exact LeO.none _)
   | (with_reducible refine LeO.ite ?_ ?_)
   | (with_reducible refine LeO.bind ?_ (fun _ => ?_))
set_option maxHeartbeats 8000000 in
set_option maxRecDepth 100000 in
theorem spec_l18Stands.calls (k : Nat) (A0 : Option Addr) (c0 : Nat) (l0 : List (S33)) (A1 : Option Addr) (c1 : Nat) (l1 : List (S51)) (A2 : Option Addr) (c2 : Nat) (l2 : List Bool) (a3 : Int) (a4 : Bool) (r : Bool) (w : World) (hr0 : Kd.C k33 w A0 l0.length l0) (hc0 : l0.length ≤ c0) (hr1 : Kd.C k51 w A1 l1.length l1) (hc1 : l1.length ≤ c1) (hr2 : Kd.C Kd.bool w A2 l2.length l2) (hc2 : l2.length ≤ c2) (h : spec_l18Stands.f k l0 l1 l2 a3 a4 = some r) :
  Calls Try.prog 73 #[.pointer A0, .slice A1 l1.length c1, .slice A2 l2.length c2, .int .i64 a3, .bool a4] w fun e w' => e = .returned (.bool r) ∧ Drawn0 w w' := by
 have HR0 := a_ hr0; have HC0 := a_ hc0; clear hr0 hc0; have HR1 := a_ hr1; have HC1 := a_ hc1; clear hr1 hc1; have HR2 := a_ hr2; have HC2 := a_ hc2; clear hr2 hc2; have H : (spec_l18Stands.l0 k l0 l1 l2 a3 a4 0) = some r := h; clear h; have H' := a_ H; clear H; go_enter Try.func73, Try.ntmps73; go_wp2; go_loopg [11] k (fun kq v11 w' => ∃ (x11_1 : Int), v11 = .int .i64 x11_1 ∧ Aside0 (spec_l18Stands.l0 kq l0 l1 l2 a3 a4 x11_1 = some r) ∧ Aside0 (kq ≤ k) ∧ Drawn0 w w')
 case atStart => exact ⟨(0), t4_, H', ⟨Nat.le_refl _⟩, t14_⟩
 case round =>
  clear H'; (try clear c1); (try clear c2); (try clear p2); obtain ⟨x11_1, rfl, HA, HK1, ⟨m1, rfl⟩⟩ := hrel; cases gk with
  | zero => exact absurd HA.out (by simp [spec_l18Stands.l0])
  | succ k1 =>
   have H := HA.out; clear HA; simp only [spec_l18Stands.l0] at H; by_cases c6 : x11_1 < (l1.length : Int)
   ·rw [if_pos c6] at H; have c6b0 : decide (x11_1 < (l1.length : Int)) = true := d1_ c6; clear c6; by_cases c7 : 0 ≤ x11_1
    ·rw [if_pos c7] at H; have c7b0 : decide (0 ≤ x11_1) = true := d1_ c7; clear c7; by_cases c8 : x11_1 < (l2.length : Int)
     ·rw [if_pos c8] at H; have c8b0 : decide (x11_1 < (l2.length : Int)) = true := d1_ c8; clear c8; obtain ⟨bq9, hbq9⟩ : ∃ b_ : Bool, b_ = (rdOf false l2 x11_1) := ⟨_, rfl⟩; replace H : (if bq9 = true then (if (((rd_T51 l1 x11_1).f2) == a4) = true then ((spec_l18Pipe.f k1 l0 [rd_T51 l1 x11_1]).bind fun t165 => (if t165 = a3 then (some true) else (spec_l18Stands.l0 k1 l0 l1 l2 a3 a4 (wrap64 (x11_1 + 1))))) else (spec_l18Stands.l0 k1 l0 l1 l2 a3 a4 (wrap64 (x11_1 + 1)))) else (spec_l18Stands.l0 k1 l0 l1 l2 a3 a4 (wrap64 (x11_1 + 1)))) = some r := (by rw [← hbq9] at H; exact H); have Nbq9 := a_ hbq9; clear hbq9; by_cases c10 : bq9 = true
      ·subst c10; replace H := (if_pos rfl).symm.trans H; by_cases c11 : (((rd_T51 l1 x11_1).f2) == a4) = true
       ·rw [if_pos c11] at H; have c11b0 : (((rd_T51 l1 x11_1).f2) == a4) = true := c11; (try (have c11b1 : decide (((rd_T51 l1 x11_1).f2) = a4) = true := by simpa using c11)); (try (have c11b2 : (((rd_T51 l1 x11_1).f2) == a4) = true := by simpa using c11)); clear c11; replace H := be_ H; obtain ⟨t165, A120, H⟩ := H; have A12 := a_ A120; clear A120; by_cases c13 : t165 = a3
        ·rw [if_pos c13] at H; have c13b0 : (t165 == a3) = true := b1_ c13; have c13b1 : (t165 != a3) = false := b4_ c13; clear c13; obtain rfl := Option.some.inj H; have p162 : 0 ≤ (x11_1 : Int) := od_; have q162 : x11_1 < (l2.length : Int) := od_; obtain ⟨ad162, e162, hx162_0⟩ := Kd.at_bool HR2.out x11_1 p162 q162; (try rw [← Nbq9.out] at hx162_0); cases e162; replace p162 := eq_true p162; replace q162 := eq_true q162; have p163 : 0 ≤ (x11_1 : Int) := od_; have q163 : x11_1 < (l1.length : Int) := od_; obtain ⟨ad163, e163, hx163_0, hx163_1, hx163_2⟩ := at_T51 HR1.out x11_1 p163 q163; (try rw [← Nbq9.out] at hx163_2); cases e163; replace p163 := eq_true p163; replace q163 := eq_true q163; have p164 : 0 ≤ (x11_1 : Int) := od_; have q164 : x11_1 < (l1.length : Int) := od_; obtain ⟨ad164, e164, hx164_0, hx164_1, hx164_2⟩ := at_T51 HR1.out x11_1 p164 q164; (try rw [← Nbq9.out] at hx164_2); obtain rfl : ad163 = ad164 := (by injection e164); replace p164 := eq_true p164; replace q164 := eq_true q164; go_wp2_with (first | (go_at_call 81; (with_reducible refine (spec_l18Pipe.calls k1 _ c0 l0 _ 1 [rd_T51 l1 x11_1] t165 _ ?side1 ?side2 ?side3 ?side4 A12.out).mono ?_); (case side1 => exact qc_ HR0.out); (case side2 => exact HC0.out); (case side3 => exact Kd.C_sub (z := z51) (n := l1.length) ((by repeat (first | exact HR1.out | (with_reducible refine Kd.C_alloc ?_ _) | (with_reducible refine Kd.C_drewN ?_ _) | (with_reducible refine Kd.C_drew ?_)))) (by first | exact p164 | exact of_eq_true p164 | omega) (by first | exact q164 | exact of_eq_true q164 | omega)); (case side4 => exact Nat.le_refl _); rintro e w' ⟨rfl, ⟨nd, rfl⟩⟩)); go_ret
         exact ⟨t4_, t14_⟩
        ·rw [if_neg c13] at H; have c13b0 : (t165 == a3) = false := b2_ c13; have c13b1 : (t165 != a3) = true := b3_ c13; have H' := a_ H; clear H; have p162 : 0 ≤ (x11_1 : Int) := od_; have q162 : x11_1 < (l2.length : Int) := od_; obtain ⟨ad162, e162, hx162_0⟩ := Kd.at_bool HR2.out x11_1 p162 q162; (try rw [← Nbq9.out] at hx162_0); cases e162; replace p162 := eq_true p162; replace q162 := eq_true q162; have p163 : 0 ≤ (x11_1 : Int) := od_; have q163 : x11_1 < (l1.length : Int) := od_; obtain ⟨ad163, e163, hx163_0, hx163_1, hx163_2⟩ := at_T51 HR1.out x11_1 p163 q163; (try rw [← Nbq9.out] at hx163_2); cases e163; replace p163 := eq_true p163; replace q163 := eq_true q163; have p164 : 0 ≤ (x11_1 : Int) := od_; have q164 : x11_1 < (l1.length : Int) := od_; obtain ⟨ad164, e164, hx164_0, hx164_1, hx164_2⟩ := at_T51 HR1.out x11_1 p164 q164; (try rw [← Nbq9.out] at hx164_2); obtain rfl : ad163 = ad164 := (by injection e164); replace p164 := eq_true p164; replace q164 := eq_true q164; go_wp2_with (first | (go_at_call 81; (with_reducible refine (spec_l18Pipe.calls k1 _ c0 l0 _ 1 [rd_T51 l1 x11_1] t165 _ ?side1 ?side2 ?side3 ?side4 A12.out).mono ?_); (case side1 => exact qc_ HR0.out); (case side2 => exact HC0.out); (case side3 => exact Kd.C_sub (z := z51) (n := l1.length) ((by repeat (first | exact HR1.out | (with_reducible refine Kd.C_alloc ?_ _) | (with_reducible refine Kd.C_drewN ?_ _) | (with_reducible refine Kd.C_drew ?_)))) (by first | exact p164 | exact of_eq_true p164 | omega) (by first | exact q164 | exact of_eq_true q164 | omega)); (case side4 => exact Nat.le_refl _); rintro e w' ⟨rfl, ⟨nd, rfl⟩⟩)); go_roundg k1
         case measure => have := HK1.out; omega
         case rel => exact ⟨(wrap64 (x11_1 + 1)), t4_, H', ⟨t52_⟩, t14_⟩
       ·rw [if_neg c11] at H; have c11b0 : (((rd_T51 l1 x11_1).f2) == a4) = false := (by simpa using c11); (try (have c11b1 : decide (((rd_T51 l1 x11_1).f2) = a4) = false := by simpa using c11)); (try (have c11b2 : (((rd_T51 l1 x11_1).f2) == a4) = false := by simpa using c11)); (try (have c11b3 : ¬ (((rd_T51 l1 x11_1).f2) = a4) := by simpa using c11)); clear c11; have H' := a_ H; clear H; have p162 : 0 ≤ (x11_1 : Int) := od_; have q162 : x11_1 < (l2.length : Int) := od_; obtain ⟨ad162, e162, hx162_0⟩ := Kd.at_bool HR2.out x11_1 p162 q162; (try rw [← Nbq9.out] at hx162_0); cases e162; replace p162 := eq_true p162; replace q162 := eq_true q162; have p163 : 0 ≤ (x11_1 : Int) := od_; have q163 : x11_1 < (l1.length : Int) := od_; obtain ⟨ad163, e163, hx163_0, hx163_1, hx163_2⟩ := at_T51 HR1.out x11_1 p163 q163; (try rw [← Nbq9.out] at hx163_2); cases e163; replace p163 := eq_true p163; replace q163 := eq_true q163; go_wp2; go_roundg k1
        case measure => have := HK1.out; omega
        case rel => exact ⟨(wrap64 (x11_1 + 1)), t4_, H', ⟨t52_⟩, t14_⟩
      ·replace c10 := Bool.eq_false_iff.mpr c10; subst c10; replace H := (if_neg (show ¬ (false = true) by decide)).symm.trans H; have H' := a_ H; clear H; have p162 : 0 ≤ (x11_1 : Int) := od_; have q162 : x11_1 < (l2.length : Int) := od_; obtain ⟨ad162, e162, hx162_0⟩ := Kd.at_bool HR2.out x11_1 p162 q162; (try rw [← Nbq9.out] at hx162_0); cases e162; replace p162 := eq_true p162; replace q162 := eq_true q162; go_wp2; go_roundg k1
       case measure => have := HK1.out; omega
       case rel => exact ⟨(wrap64 (x11_1 + 1)), t4_, H', ⟨t52_⟩, t14_⟩
     ·rw [if_neg c8] at H; exact absurd H t57_
    ·rw [if_neg c7] at H; exact absurd H t57_
   ·rw [if_neg c6] at H; have c6b0 : decide (x11_1 < (l1.length : Int)) = false := d2_ c6; clear c6; obtain rfl := Option.some.inj H; go_wp2; go_ret
    exact ⟨t4_, t14_⟩

end Go.Proofs.Ytheokilgacmlmaa.PFnExactWorstRegion
