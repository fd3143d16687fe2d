-- written by wip/xprint.py, a program of this session, for this claim; not trusted: Lean checks it.
import Derived.Test.YtheokilgacmlmaaPFnExactWorstRegionx0
namespace Go.Proofs.Ytheokilgacmlmaa.PFnExactWorstRegion
open Go.RowKit Go.Proofs.YtheokilgacmlmaaW.PrintWords Go.Proofs.YtheokilgacmlmaaW.PrintLast Go.Proofs.YtheokilgacmlmaaW.PrintMore
attribute [local go_sem] leq_less_ max2_int min2_int max_two min_two max_three min_three max_four min_four   -- for this text's walks alone
set_option linter.unusedVariables false
set_option linter.unusedSimpArgs false

/-! ### spec_l18Pipe: function 81 -/
def spec_l18Pipe.l0 : Nat → List (S33) → List (S51) → Int → Option (Int)
 | 0, _, _, _ => none
 | k + 1, x0, x1, x5 => if 0 < (x0.length : Int) then (if x5 < (((rd_T33 x0 0).f1).length : Int) then (if 0 ≤ x5 then (if 0 < (x1.length : Int) then (if ((rd_T100 ((rd_T33 x0 0).f1) x5).f0).toList = ((rd_T51 x1 0).f1).toList then (some x5) else (spec_l18Pipe.l0 k x0 x1 (wrap64 (x5 + 1)))) else (none)) else (none)) else (some (-1))) else (none)
def spec_l18Pipe.f (k : Nat) (l0 : List (S33)) (l1 : List (S51)) : Option (Int) := spec_l18Pipe.l0 k l0 l1 0
theorem spec_l18Pipe.mono_l : ∀ k, (∀ y0 y1 y2, LeO (spec_l18Pipe.l0 k y0 y1 y2) (spec_l18Pipe.l0 (k + 1) y0 y1 y2))
 | 0 => fun _ _ _ r h => by simp [spec_l18Pipe.l0] at h
 | k + 1 => by
  have ih0 := spec_l18Pipe.mono_l k
  ·intro y0 y1 y2
   unfold spec_l18Pipe.l0
   repeat' first
   | (with_reducible exact ih0 _ _ _)
   | (with_reducible exact LeO.refl _)
   | (with_reducible exact LeO.none _)
   | (with_reducible refine LeO.ite ?_ ?_)
   | (with_reducible refine LeO.bind ?_ (fun _ => ?_))
theorem spec_l18Pipe.mono : ∀ a0 a1 k, LeO (spec_l18Pipe.f k a0 a1) (spec_l18Pipe.f (k + 1) a0 a1) := by
 intro a0 a1 k; have ih0 := spec_l18Pipe.mono_l k; unfold spec_l18Pipe.f
 repeat' first
   | (with_reducible exact ih0 _ _ _)
   | (with_reducible exact LeO.refl _)
   | (with_reducible exact LeO.none _)
   | (with_reducible refine LeO.ite ?_ ?_)
   | (with_reducible refine LeO.bind ?_ (fun _ => ?_))
set_option maxHeartbeats 8000000 in
set_option maxRecDepth 100000 in
theorem spec_l18Pipe.calls (k : Nat) (A0 : Option Addr) (c0 : Nat) (l0 : List (S33)) (A1 : Option Addr) (c1 : Nat) (l1 : List (S51)) (r : Int) (w : World) (hr0 : Kd.C k33 w A0 l0.length l0) (hc0 : l0.length ≤ c0) (hr1 : Kd.C k51 w A1 l1.length l1) (hc1 : l1.length ≤ c1) (h : spec_l18Pipe.f k l0 l1 = some r) :
  Calls Try.prog 81 #[.pointer A0, .pointer A1] w fun e w' => e = .returned (.int .i64 r) ∧ Drawn0 w w' := by
 have HR0 := a_ hr0; have HC0 := a_ hc0; clear hr0 hc0; have HR1 := a_ hr1; have HC1 := a_ hc1; clear hr1 hc1; have H : (spec_l18Pipe.l0 k l0 l1 0) = some r := h; clear h; have H' := a_ H; clear H; go_enter Try.func81, Try.ntmps81; go_wp2; (repeat (go_quiet (fail); try go_wp2)); go_loopg [5] k (fun kq v5 w' => ∃ (x5_1 : Int), v5 = .int .i64 x5_1 ∧ Aside0 (spec_l18Pipe.l0 kq l0 l1 x5_1 = some r) ∧ Aside0 (kq ≤ k) ∧ Drawn0 w w')
 case atStart => exact ⟨(0), t4_, H', ⟨Nat.le_refl _⟩, t14_⟩
 case round =>
  clear H'; (try clear c1); (try clear p2); obtain ⟨x5_1, rfl, HA, HK1, ⟨m1, rfl⟩⟩ := hrel; cases gk with
  | zero => exact absurd HA.out (by simp [spec_l18Pipe.l0])
  | succ k1 =>
   have H := HA.out; clear HA; simp only [spec_l18Pipe.l0] at H; by_cases c3 : 0 < (l0.length : Int)
   ·rw [if_pos c3] at H; have c3b0 : decide (0 < (l0.length : Int)) = true := d1_ c3; have c3b1 : decide (0 < l0.length) = true := decide_eq_true t24_; clear c3; by_cases c4 : x5_1 < (((rd_T33 l0 0).f1).length : Int)
    ·rw [if_pos c4] at H; have c4b0 : decide (x5_1 < (((rd_T33 l0 0).f1).length : Int)) = true := d1_ c4; clear c4; by_cases c5 : 0 ≤ x5_1
     ·rw [if_pos c5] at H; have c5b0 : decide (0 ≤ x5_1) = true := d1_ c5; clear c5; by_cases c6 : 0 < (l1.length : Int)
      ·rw [if_pos c6] at H; have c6b0 : decide (0 < (l1.length : Int)) = true := d1_ c6; have c6b1 : decide (0 < l1.length) = true := decide_eq_true t24_; clear c6; by_cases c7 : ((rd_T100 ((rd_T33 l0 0).f1) x5_1).f0).toList = ((rd_T51 l1 0).f1).toList
       ·rw [if_pos c7] at H; have c7b0 : (((rd_T100 ((rd_T33 l0 0).f1) x5_1).f0).toList == ((rd_T51 l1 0).f1).toList) = true := b1_ c7; have c7b1 : (((rd_T100 ((rd_T33 l0 0).f1) x5_1).f0).toList != ((rd_T51 l1 0).f1).toList) = false := b4_ c7; clear c7; obtain rfl := Option.some.inj H; have p113 : 0 ≤ (0 : Int) := t24_; have q113 : 0 < (l0.length : Int) := od_; obtain ⟨ad113, A113_0, c113_0, A113_1, c113_1, e113, hx113_0, hx113_1, hl113_0, hi113_0, hl113_1, hi113_1⟩ := at_T33 HR0.out 0 p113 q113; cases e113; have qi113 : (0 < l0.length) = True := eq_true t24_; (try rw [za_] at hx113_0); (try rw [za_] at hx113_1); have HR113_0 := a_ hi113_0; have HC113_0 := a_ hl113_0; clear hi113_0 hl113_0; have HR113_1 := a_ hi113_1; have HC113_1 := a_ hl113_1; clear hi113_1 hl113_1; replace p113 := eq_true p113; replace q113 := eq_true q113; have p114 : 0 ≤ (0 : Int) := t24_; have q114 : 0 < (l0.length : Int) := od_; obtain ⟨ad114, A114_0, c114_0, A114_1, c114_1, e114, hx114_0, hx114_1, hl114_0, hi114_0, hl114_1, hi114_1⟩ := at_T33 HR0.out 0 p114 q114; obtain rfl : ad113 = ad114 := (by injection e114); have qi114 : (0 < l0.length) = True := eq_true t24_; (try rw [za_] at hx114_0); (try rw [za_] at hx114_1); have HR114_0 := a_ hi114_0; have HC114_0 := a_ hl114_0; clear hi114_0 hl114_0; have HR114_1 := a_ hi114_1; have HC114_1 := a_ hl114_1; clear hi114_1 hl114_1; replace p114 := eq_true p114; replace q114 := eq_true q114; have ea_ := Option.some.inj (hx113_0.symm.trans hx114_0); injection ea_ with ea_ en_ ec_; subst ea_; subst ec_; clear en_; have ea_ := Option.some.inj (hx113_1.symm.trans hx114_1); injection ea_ with ea_ en_ ec_; subst ea_; subst ec_; clear en_; have p115 : 0 ≤ (x5_1 : Int) := od_; have q115 : x5_1 < (((rd_T33 l0 0).f1).length : Int) := od_; obtain ⟨ad115, e115, hx115_0, hx115_1, hx115_2, hx115_3, hx115_4, hx115_5⟩ := at_T100 HR114_1.out x5_1 p115 q115; cases e115; replace p115 := eq_true p115; replace q115 := eq_true q115; have p116 : 0 ≤ (0 : Int) := t24_; have q116 : 0 < (l1.length : Int) := od_; obtain ⟨ad116, e116, hx116_0, hx116_1, hx116_2⟩ := at_T51 HR1.out 0 p116 q116; cases e116; have qi116 : (0 < l1.length) = True := eq_true t24_; (try rw [za_] at hx116_0); (try rw [za_] at hx116_1); (try rw [za_] at hx116_2); replace p116 := eq_true p116; replace q116 := eq_true q116; go_wp2; (repeat (go_quiet (fail); try go_wp2)); go_ret
        exact ⟨t4_, t14_⟩
       ·rw [if_neg c7] at H; have c7b0 : (((rd_T100 ((rd_T33 l0 0).f1) x5_1).f0).toList == ((rd_T51 l1 0).f1).toList) = false := b2_ c7; have c7b1 : (((rd_T100 ((rd_T33 l0 0).f1) x5_1).f0).toList != ((rd_T51 l1 0).f1).toList) = true := b3_ c7; have H' := a_ H; clear H; have p113 : 0 ≤ (0 : Int) := t24_; have q113 : 0 < (l0.length : Int) := od_; obtain ⟨ad113, A113_0, c113_0, A113_1, c113_1, e113, hx113_0, hx113_1, hl113_0, hi113_0, hl113_1, hi113_1⟩ := at_T33 HR0.out 0 p113 q113; cases e113; have qi113 : (0 < l0.length) = True := eq_true t24_; (try rw [za_] at hx113_0); (try rw [za_] at hx113_1); have HR113_0 := a_ hi113_0; have HC113_0 := a_ hl113_0; clear hi113_0 hl113_0; have HR113_1 := a_ hi113_1; have HC113_1 := a_ hl113_1; clear hi113_1 hl113_1; replace p113 := eq_true p113; replace q113 := eq_true q113; have p114 : 0 ≤ (0 : Int) := t24_; have q114 : 0 < (l0.length : Int) := od_; obtain ⟨ad114, A114_0, c114_0, A114_1, c114_1, e114, hx114_0, hx114_1, hl114_0, hi114_0, hl114_1, hi114_1⟩ := at_T33 HR0.out 0 p114 q114; obtain rfl : ad113 = ad114 := (by injection e114); have qi114 : (0 < l0.length) = True := eq_true t24_; (try rw [za_] at hx114_0); (try rw [za_] at hx114_1); have HR114_0 := a_ hi114_0; have HC114_0 := a_ hl114_0; clear hi114_0 hl114_0; have HR114_1 := a_ hi114_1; have HC114_1 := a_ hl114_1; clear hi114_1 hl114_1; replace p114 := eq_true p114; replace q114 := eq_true q114; have ea_ := Option.some.inj (hx113_0.symm.trans hx114_0); injection ea_ with ea_ en_ ec_; subst ea_; subst ec_; clear en_; have ea_ := Option.some.inj (hx113_1.symm.trans hx114_1); injection ea_ with ea_ en_ ec_; subst ea_; subst ec_; clear en_; have p115 : 0 ≤ (x5_1 : Int) := od_; have q115 : x5_1 < (((rd_T33 l0 0).f1).length : Int) := od_; obtain ⟨ad115, e115, hx115_0, hx115_1, hx115_2, hx115_3, hx115_4, hx115_5⟩ := at_T100 HR114_1.out x5_1 p115 q115; cases e115; replace p115 := eq_true p115; replace q115 := eq_true q115; have p116 : 0 ≤ (0 : Int) := t24_; have q116 : 0 < (l1.length : Int) := od_; obtain ⟨ad116, e116, hx116_0, hx116_1, hx116_2⟩ := at_T51 HR1.out 0 p116 q116; cases e116; have qi116 : (0 < l1.length) = True := eq_true t24_; (try rw [za_] at hx116_0); (try rw [za_] at hx116_1); (try rw [za_] at hx116_2); replace p116 := eq_true p116; replace q116 := eq_true q116; go_wp2; (repeat (go_quiet (fail); try go_wp2)); go_roundg k1
        case measure => have := HK1.out; omega
        case rel => exact ⟨(wrap64 (x5_1 + 1)), t4_, H', ⟨t52_⟩, t14_⟩
      ·rw [if_neg c6] at H; exact absurd H t57_
     ·rw [if_neg c5] at H; exact absurd H t57_
    ·rw [if_neg c4] at H; have c4b0 : decide (x5_1 < (((rd_T33 l0 0).f1).length : Int)) = false := d2_ c4; clear c4; obtain rfl := Option.some.inj H; have p113 : 0 ≤ (0 : Int) := t24_; have q113 : 0 < (l0.length : Int) := od_; obtain ⟨ad113, A113_0, c113_0, A113_1, c113_1, e113, hx113_0, hx113_1, hl113_0, hi113_0, hl113_1, hi113_1⟩ := at_T33 HR0.out 0 p113 q113; cases e113; have qi113 : (0 < l0.length) = True := eq_true t24_; (try rw [za_] at hx113_0); (try rw [za_] at hx113_1); have HR113_0 := a_ hi113_0; have HC113_0 := a_ hl113_0; clear hi113_0 hl113_0; have HR113_1 := a_ hi113_1; have HC113_1 := a_ hl113_1; clear hi113_1 hl113_1; replace p113 := eq_true p113; replace q113 := eq_true q113; go_wp2; (repeat (go_quiet (fail); try go_wp2)); go_ret
     exact ⟨t4_, t14_⟩
   ·rw [if_neg c3] at H; exact absurd H t57_

/-! ### spec_l00In: function 98 -/
def spec_l00In.f (a0 : Int) (a1 : Int) (a2 : Int) : Option (Bool) := if a0 ≥ a1 then (some (decide (a0 ≤ a2))) else (some false)
set_option maxHeartbeats 8000000 in
set_option maxRecDepth 100000 in
theorem spec_l00In.calls (a0 : Int) (a1 : Int) (a2 : Int) (r : Bool) (w : World) (h : spec_l00In.f a0 a1 a2 = some r) :
  Calls Try.prog 98 #[.int .i64 a0, .int .i64 a1, .int .i64 a2] w fun e w' => e = .returned (.bool r) ∧ Drawn0 w w' := by
 have H : (if a0 ≥ a1 then (some (decide (a0 ≤ a2))) else (some false)) = some r := h; clear h; by_cases c4 : a0 ≥ a1
 ·rw [if_pos c4] at H; have c4b0 : decide (a1 ≤ a0) = true := d1_ c4; clear c4; obtain rfl := Option.some.inj H; go_enter Try.func98, Try.ntmps98; go_wp2; go_ret
  exact ⟨t4_, t14_⟩
 ·rw [if_neg c4] at H; have c4b0 : decide (a1 ≤ a0) = false := d2_ c4; clear c4; obtain rfl := Option.some.inj H; go_enter Try.func98, Try.ntmps98; go_wp2; go_ret
  exact ⟨t4_, t14_⟩

end Go.Proofs.Ytheokilgacmlmaa.PFnExactWorstRegion
