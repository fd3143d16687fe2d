-- written by wip/xprint.py, a program of this session, for this claim; not trusted: Lean checks it.
import Derived.Test.YtjelfhmgbhidnaaPFnExactValveNamedx0
namespace Go.Proofs.Ytjelfhmgbhidnaa.PFnExactValveNamed
open Go.RowKit Go.Proofs.YtjelfhmgbhidnaaW.PrintWords Go.Proofs.YtjelfhmgbhidnaaW.PrintLast Go.Proofs.YtjelfhmgbhidnaaW.PrintMore
attribute [local go_sem] leq_less_ max2_int min2_int max_two min_two max_three min_three max_four min_four   -- for this text's walks alone
set_option linter.unusedVariables false
set_option linter.unusedSimpArgs false

/-! ### spec_l18Pipe: function 78 -/
def spec_l18Pipe.l0 : Nat → List (S32) → List (S64) → Int → Option (Int)
 | 0, _, _, _ => none
 | k + 1, x0, x1, x5 => if 0 < (x0.length : Int) then (if x5 < (((rd_T32 x0 0).f1).length : Int) then (if 0 ≤ x5 then (if 0 < (x1.length : Int) then (if ((rd_T80 ((rd_T32 x0 0).f1) x5).f0).toList = ((rd_T64 x1 0).f1).toList then (some x5) else (spec_l18Pipe.l0 k x0 x1 (wrap64 (x5 + 1)))) else (none)) else (none)) else (some (-1))) else (none)
def spec_l18Pipe.f (k : Nat) (l0 : List (S32)) (l1 : List (S64)) : Option (Int) := spec_l18Pipe.l0 k l0 l1 0
theorem spec_l18Pipe.mono_l : ∀ k, (∀ y0 y1 y2, LeO (spec_l18Pipe.l0 k y0 y1 y2) (spec_l18Pipe.l0 (k + 1) y0 y1 y2))
 | 0 => fun _ _ _ r h => by simp [spec_l18Pipe.l0] at h
 | k + 1 => by
  have ih0 := spec_l18Pipe.mono_l k
  ·intro y0 y1 y2
   unfold spec_l18Pipe.l0
   repeat' first
   | (with_reducible exact ih0 _ _ _)
   | (with_reducible exact LeO.refl _)
   | (with_reducible exact LeO.none _)
   | (with_reducible refine LeO.ite ?_ ?_)
   | (with_reducible refine LeO.bind ?_ (fun _ => ?_))
   | exact ih0 _ _ _
   | exact LeO.none _
   | refine LeO.ite ?_ ?_
   | refine LeO.bind ?_ (fun _ => ?_)
theorem spec_l18Pipe.mono : ∀ a0 a1 k, LeO (spec_l18Pipe.f k a0 a1) (spec_l18Pipe.f (k + 1) a0 a1) := by
 intro a0 a1 k
 have ih0 := spec_l18Pipe.mono_l k
 unfold spec_l18Pipe.f
 repeat' first
   | (with_reducible exact ih0 _ _ _)
   | (with_reducible exact LeO.refl _)
   | (with_reducible exact LeO.none _)
   | (with_reducible refine LeO.ite ?_ ?_)
   | (with_reducible refine LeO.bind ?_ (fun _ => ?_))
   | exact ih0 _ _ _
   | exact LeO.none _
   | refine LeO.ite ?_ ?_
   | refine LeO.bind ?_ (fun _ => ?_)
set_option maxHeartbeats 8000000 in
set_option maxRecDepth 100000 in
theorem spec_l18Pipe.calls (k : Nat) (A0 : Option Addr) (c0 : Nat) (l0 : List (S32)) (A1 : Option Addr) (c1 : Nat) (l1 : List (S64)) (r : Int) (w : World) (hr0 : Kd.C k32 w A0 l0.length l0) (hc0 : l0.length ≤ c0) (hr1 : Kd.C k64 w A1 l1.length l1) (hc1 : l1.length ≤ c1) (h : spec_l18Pipe.f k l0 l1 = some r) :
  Calls Try.prog 78 #[.pointer A0, .pointer A1] w fun e w' => e = .returned (.int .i64 r) ∧ Drawn0 w w' := by
 have HR0 := Aside0.mk hr0
 have HC0 := Aside0.mk hc0
 clear hr0 hc0
 have HR1 := Aside0.mk hr1
 have HC1 := Aside0.mk hc1
 clear hr1 hc1
 have H : (spec_l18Pipe.l0 k l0 l1 0) = some r := h
 clear h
 have H' := Aside0.mk H
 clear H
 go_enter Try.func78, Try.ntmps78
 go_wp2
 repeat (go_quiet (fail); try go_wp2)
 go_loopg [5] k (fun kq v5 w' => ∃ (x5_1 : Int), v5 = .int .i64 x5_1 ∧ Aside0 (spec_l18Pipe.l0 kq l0 l1 x5_1 = some r) ∧ Aside0 (kq ≤ k) ∧ Drawn0 w w')
 case atStart => exact ⟨(0), t5_, H', ⟨Nat.le_refl _⟩, by repeat (first | exact Drawn0.refl _ | apply Drawn0.step)⟩
 case round =>
  clear H'
  try clear c1
  try clear p2
  obtain ⟨x5_1, rfl, HA, HK1, ⟨m1, rfl⟩⟩ := hrel
  cases gk with
  | zero => exact absurd HA.out (by simp [spec_l18Pipe.l0])
  | succ k1 =>
   have H := HA.out
   clear HA
   simp only [spec_l18Pipe.l0] at H
   by_cases c3 : 0 < (l0.length : Int)
   ·rw [if_pos c3] at H
    have c3b0 : decide (0 < (l0.length : Int)) = true := decide_eq_true c3
    have c3b1 : decide (0 < l0.length) = true := decide_eq_true t12_
    clear c3
    by_cases c4 : x5_1 < (((rd_T32 l0 0).f1).length : Int)
    ·rw [if_pos c4] at H
     have c4b0 : decide (x5_1 < (((rd_T32 l0 0).f1).length : Int)) = true := decide_eq_true c4
     clear c4
     by_cases c5 : 0 ≤ x5_1
     ·rw [if_pos c5] at H
      have c5b0 : decide (0 ≤ x5_1) = true := decide_eq_true c5
      clear c5
      by_cases c6 : 0 < (l1.length : Int)
      ·rw [if_pos c6] at H
       have c6b0 : decide (0 < (l1.length : Int)) = true := decide_eq_true c6
       have c6b1 : decide (0 < l1.length) = true := decide_eq_true t12_
       clear c6
       by_cases c7 : ((rd_T80 ((rd_T32 l0 0).f1) x5_1).f0).toList = ((rd_T64 l1 0).f1).toList
       ·rw [if_pos c7] at H
        have c7b0 : (((rd_T80 ((rd_T32 l0 0).f1) x5_1).f0).toList == ((rd_T64 l1 0).f1).toList) = true := beq_iff_eq.mpr c7
        have c7b1 : (((rd_T80 ((rd_T32 l0 0).f1) x5_1).f0).toList != ((rd_T64 l1 0).f1).toList) = false := bne_eq_false_iff_eq.mpr c7
        clear c7
        obtain rfl := Option.some.inj H
        have p202 : 0 ≤ (0 : Int) := t12_
        have q202 : 0 < (l0.length : Int) := of_decide_eq_true t3_
        obtain ⟨ad202, A202_0, c202_0, A202_1, c202_1, e202, hx202_0, hx202_1, hl202_0, hi202_0, hl202_1, hi202_1⟩ := at_T32 HR0.out 0 p202 q202
        cases e202
        have qi202 : (0 < l0.length) = True := eq_true t12_
        (try rw [show ((0 : Int)).toNat = 0 from rfl] at hx202_0)
        (try rw [show 0 * 2 = 0 from rfl] at hx202_0)
        (try rw [Addr.add_zero'] at hx202_0)
        (try rw [show ((0 : Int)).toNat = 0 from rfl] at hx202_1)
        (try rw [show 0 * 2 = 0 from rfl] at hx202_1)
        (try rw [Addr.add_zero'] at hx202_1)
        have HR202_0 := Aside0.mk hi202_0
        have HC202_0 := Aside0.mk hl202_0
        clear hi202_0 hl202_0
        have HR202_1 := Aside0.mk hi202_1
        have HC202_1 := Aside0.mk hl202_1
        clear hi202_1 hl202_1
        replace p202 := eq_true p202
        replace q202 := eq_true q202
        have p203 : 0 ≤ (0 : Int) := t12_
        have q203 : 0 < (l0.length : Int) := of_decide_eq_true t3_
        obtain ⟨ad203, A203_0, c203_0, A203_1, c203_1, e203, hx203_0, hx203_1, hl203_0, hi203_0, hl203_1, hi203_1⟩ := at_T32 HR0.out 0 p203 q203
        obtain rfl : ad202 = ad203 := (by injection e203)
        have qi203 : (0 < l0.length) = True := eq_true t12_
        (try rw [show ((0 : Int)).toNat = 0 from rfl] at hx203_0)
        (try rw [show 0 * 2 = 0 from rfl] at hx203_0)
        (try rw [Addr.add_zero'] at hx203_0)
        (try rw [show ((0 : Int)).toNat = 0 from rfl] at hx203_1)
        (try rw [show 0 * 2 = 0 from rfl] at hx203_1)
        (try rw [Addr.add_zero'] at hx203_1)
        have HR203_0 := Aside0.mk hi203_0
        have HC203_0 := Aside0.mk hl203_0
        clear hi203_0 hl203_0
        have HR203_1 := Aside0.mk hi203_1
        have HC203_1 := Aside0.mk hl203_1
        clear hi203_1 hl203_1
        replace p203 := eq_true p203
        replace q203 := eq_true q203
        have ea_ := Option.some.inj (hx202_0.symm.trans hx203_0)
        injection ea_ with ea_ en_ ec_
        subst ea_
        subst ec_
        clear en_
        have ea_ := Option.some.inj (hx202_1.symm.trans hx203_1)
        injection ea_ with ea_ en_ ec_
        subst ea_
        subst ec_
        clear en_
        have p204 : 0 ≤ (x5_1 : Int) := of_decide_eq_true t3_
        have q204 : x5_1 < (((rd_T32 l0 0).f1).length : Int) := of_decide_eq_true t3_
        obtain ⟨ad204, e204, hx204_0, hx204_1, hx204_2, hx204_3, hx204_4, hx204_5⟩ := at_T80 HR203_1.out x5_1 p204 q204
        cases e204
        replace p204 := eq_true p204
        replace q204 := eq_true q204
        have p205 : 0 ≤ (0 : Int) := t12_
        have q205 : 0 < (l1.length : Int) := of_decide_eq_true t3_
        obtain ⟨ad205, e205, hx205_0, hx205_1, hx205_2⟩ := at_T64 HR1.out 0 p205 q205
        cases e205
        have qi205 : (0 < l1.length) = True := eq_true t12_
        (try rw [show ((0 : Int)).toNat = 0 from rfl] at hx205_0)
        (try rw [show 0 * 3 = 0 from rfl] at hx205_0)
        (try rw [Addr.add_zero'] at hx205_0)
        (try rw [show ((0 : Int)).toNat = 0 from rfl] at hx205_1)
        (try rw [show 0 * 3 = 0 from rfl] at hx205_1)
        (try rw [Addr.add_zero'] at hx205_1)
        (try rw [show ((0 : Int)).toNat = 0 from rfl] at hx205_2)
        (try rw [show 0 * 3 = 0 from rfl] at hx205_2)
        (try rw [Addr.add_zero'] at hx205_2)
        replace p205 := eq_true p205
        replace q205 := eq_true q205
        go_wp2
        repeat (go_quiet (fail); try go_wp2)
        go_ret
        exact ⟨by first | rfl | (simp; done) | (simp [*]; done), by repeat (first | exact Drawn0.refl _ | apply Drawn0.step)⟩
       ·rw [if_neg c7] at H
        have c7b0 : (((rd_T80 ((rd_T32 l0 0).f1) x5_1).f0).toList == ((rd_T64 l1 0).f1).toList) = false := beq_eq_false_iff_ne.mpr c7
        have c7b1 : (((rd_T80 ((rd_T32 l0 0).f1) x5_1).f0).toList != ((rd_T64 l1 0).f1).toList) = true := bne_iff_ne.mpr c7
        have H' := Aside0.mk H
        clear H
        have p202 : 0 ≤ (0 : Int) := t12_
        have q202 : 0 < (l0.length : Int) := of_decide_eq_true t3_
        obtain ⟨ad202, A202_0, c202_0, A202_1, c202_1, e202, hx202_0, hx202_1, hl202_0, hi202_0, hl202_1, hi202_1⟩ := at_T32 HR0.out 0 p202 q202
        cases e202
        have qi202 : (0 < l0.length) = True := eq_true t12_
        (try rw [show ((0 : Int)).toNat = 0 from rfl] at hx202_0)
        (try rw [show 0 * 2 = 0 from rfl] at hx202_0)
        (try rw [Addr.add_zero'] at hx202_0)
        (try rw [show ((0 : Int)).toNat = 0 from rfl] at hx202_1)
        (try rw [show 0 * 2 = 0 from rfl] at hx202_1)
        (try rw [Addr.add_zero'] at hx202_1)
        have HR202_0 := Aside0.mk hi202_0
        have HC202_0 := Aside0.mk hl202_0
        clear hi202_0 hl202_0
        have HR202_1 := Aside0.mk hi202_1
        have HC202_1 := Aside0.mk hl202_1
        clear hi202_1 hl202_1
        replace p202 := eq_true p202
        replace q202 := eq_true q202
        have p203 : 0 ≤ (0 : Int) := t12_
        have q203 : 0 < (l0.length : Int) := of_decide_eq_true t3_
        obtain ⟨ad203, A203_0, c203_0, A203_1, c203_1, e203, hx203_0, hx203_1, hl203_0, hi203_0, hl203_1, hi203_1⟩ := at_T32 HR0.out 0 p203 q203
        obtain rfl : ad202 = ad203 := (by injection e203)
        have qi203 : (0 < l0.length) = True := eq_true t12_
        (try rw [show ((0 : Int)).toNat = 0 from rfl] at hx203_0)
        (try rw [show 0 * 2 = 0 from rfl] at hx203_0)
        (try rw [Addr.add_zero'] at hx203_0)
        (try rw [show ((0 : Int)).toNat = 0 from rfl] at hx203_1)
        (try rw [show 0 * 2 = 0 from rfl] at hx203_1)
        (try rw [Addr.add_zero'] at hx203_1)
        have HR203_0 := Aside0.mk hi203_0
        have HC203_0 := Aside0.mk hl203_0
        clear hi203_0 hl203_0
        have HR203_1 := Aside0.mk hi203_1
        have HC203_1 := Aside0.mk hl203_1
        clear hi203_1 hl203_1
        replace p203 := eq_true p203
        replace q203 := eq_true q203
        have ea_ := Option.some.inj (hx202_0.symm.trans hx203_0)
        injection ea_ with ea_ en_ ec_
        subst ea_
        subst ec_
        clear en_
        have ea_ := Option.some.inj (hx202_1.symm.trans hx203_1)
        injection ea_ with ea_ en_ ec_
        subst ea_
        subst ec_
        clear en_
        have p204 : 0 ≤ (x5_1 : Int) := of_decide_eq_true t3_
        have q204 : x5_1 < (((rd_T32 l0 0).f1).length : Int) := of_decide_eq_true t3_
        obtain ⟨ad204, e204, hx204_0, hx204_1, hx204_2, hx204_3, hx204_4, hx204_5⟩ := at_T80 HR203_1.out x5_1 p204 q204
        cases e204
        replace p204 := eq_true p204
        replace q204 := eq_true q204
        have p205 : 0 ≤ (0 : Int) := t12_
        have q205 : 0 < (l1.length : Int) := of_decide_eq_true t3_
        obtain ⟨ad205, e205, hx205_0, hx205_1, hx205_2⟩ := at_T64 HR1.out 0 p205 q205
        cases e205
        have qi205 : (0 < l1.length) = True := eq_true t12_
        (try rw [show ((0 : Int)).toNat = 0 from rfl] at hx205_0)
        (try rw [show 0 * 3 = 0 from rfl] at hx205_0)
        (try rw [Addr.add_zero'] at hx205_0)
        (try rw [show ((0 : Int)).toNat = 0 from rfl] at hx205_1)
        (try rw [show 0 * 3 = 0 from rfl] at hx205_1)
        (try rw [Addr.add_zero'] at hx205_1)
        (try rw [show ((0 : Int)).toNat = 0 from rfl] at hx205_2)
        (try rw [show 0 * 3 = 0 from rfl] at hx205_2)
        (try rw [Addr.add_zero'] at hx205_2)
        replace p205 := eq_true p205
        replace q205 := eq_true q205
        go_wp2
        repeat (go_quiet (fail); try go_wp2)
        go_roundg k1
        case measure => have := HK1.out; omega
        case rel => exact ⟨(wrap64 (x5_1 + 1)), t5_, H', ⟨by have := HK1.out; omega⟩, by repeat (first | exact Drawn0.refl _ | apply Drawn0.step)⟩
      ·rw [if_neg c6] at H
       exact absurd H t30_
     ·rw [if_neg c5] at H
      exact absurd H t30_
    ·rw [if_neg c4] at H
     have c4b0 : decide (x5_1 < (((rd_T32 l0 0).f1).length : Int)) = false := decide_eq_false c4
     clear c4
     obtain rfl := Option.some.inj H
     have p202 : 0 ≤ (0 : Int) := t12_
     have q202 : 0 < (l0.length : Int) := of_decide_eq_true t3_
     obtain ⟨ad202, A202_0, c202_0, A202_1, c202_1, e202, hx202_0, hx202_1, hl202_0, hi202_0, hl202_1, hi202_1⟩ := at_T32 HR0.out 0 p202 q202
     cases e202
     have qi202 : (0 < l0.length) = True := eq_true t12_
     (try rw [show ((0 : Int)).toNat = 0 from rfl] at hx202_0)
     (try rw [show 0 * 2 = 0 from rfl] at hx202_0)
     (try rw [Addr.add_zero'] at hx202_0)
     (try rw [show ((0 : Int)).toNat = 0 from rfl] at hx202_1)
     (try rw [show 0 * 2 = 0 from rfl] at hx202_1)
     (try rw [Addr.add_zero'] at hx202_1)
     have HR202_0 := Aside0.mk hi202_0
     have HC202_0 := Aside0.mk hl202_0
     clear hi202_0 hl202_0
     have HR202_1 := Aside0.mk hi202_1
     have HC202_1 := Aside0.mk hl202_1
     clear hi202_1 hl202_1
     replace p202 := eq_true p202
     replace q202 := eq_true q202
     go_wp2
     repeat (go_quiet (fail); try go_wp2)
     go_ret
     exact ⟨by first | rfl | (simp; done) | (simp [*]; done), by repeat (first | exact Drawn0.refl _ | apply Drawn0.step)⟩
   ·rw [if_neg c3] at H
    exact absurd H t30_

end Go.Proofs.Ytjelfhmgbhidnaa.PFnExactValveNamed
