-- written by wip/xprint.py, a program of this session, for this claim; not trusted: Lean checks it.
import Derived.Test.YtjelfhmgbhidnaaPFnExactValidValvesx0
namespace Go.Proofs.Ytjelfhmgbhidnaa.PFnExactValidValves
open Go.RowKit Go.Proofs.YtjelfhmgbhidnaaW.PrintWords Go.Proofs.YtjelfhmgbhidnaaW.PrintLast Go.Proofs.YtjelfhmgbhidnaaW.PrintMore
attribute [local go_sem] leq_less_ max2_int min2_int max_two min_two max_three min_three max_four min_four   -- for this text's walks alone
set_option linter.unusedVariables false
set_option linter.unusedSimpArgs false

/-! ### spec_l18Pipe: function 78 -/
def spec_l18Pipe.l0 : Nat → List (S32) → List (S64) → Int → Option (Int)
 | 0, _, _, _ => none
 | k + 1, x0, x1, x5 => if 0 < (x0.length : Int) then (if x5 < (((rd_T32 x0 0).f1).length : Int) then (if 0 ≤ x5 then (if 0 < (x1.length : Int) then (if ((rd_T80 ((rd_T32 x0 0).f1) x5).f0).toList = ((rd_T64 x1 0).f1).toList then (some x5) else (spec_l18Pipe.l0 k x0 x1 (wrap64 (x5 + 1)))) else (none)) else (none)) else (some (-1))) else (none)
def spec_l18Pipe.f (k : Nat) (l0 : List (S32)) (l1 : List (S64)) : Option (Int) := spec_l18Pipe.l0 k l0 l1 0
theorem spec_l18Pipe.mono_l : ∀ k, (∀ y0 y1 y2, LeO (spec_l18Pipe.l0 k y0 y1 y2) (spec_l18Pipe.l0 (k + 1) y0 y1 y2))
 | 0 => fun _ _ _ r h => by simp [spec_l18Pipe.l0] at h
 | k + 1 => by
  have ih0 := spec_l18Pipe.mono_l k
  ·intro y0 y1 y2
   unfold spec_l18Pipe.l0
   repeat' first
   | (with_reducible exact ih0 _ _ _)
   | (with_reducible exact LeO.refl _)
   | (with_reducible exact LeO.none _)
   | (with_reducible refine LeO.ite ?_ ?_)
   | (with_reducible refine LeO.bind ?_ (fun _ => ?_))
   | exact ih0 _ _ _
   | exact LeO.none _
   | refine LeO.ite ?_ ?_
   | refine LeO.bind ?_ (fun _ => ?_)
theorem spec_l18Pipe.mono : ∀ a0 a1 k, LeO (spec_l18Pipe.f k a0 a1) (spec_l18Pipe.f (k + 1) a0 a1) := by
 intro a0 a1 k
 have ih0 := spec_l18Pipe.mono_l k
 unfold spec_l18Pipe.f
 repeat' first
   | (with_reducible exact ih0 _ _ _)
   | (with_reducible exact LeO.refl _)
   | (with_reducible exact LeO.none _)
   | (with_reducible refine LeO.ite ?_ ?_)
   | (with_reducible refine LeO.bind ?_ (fun _ => ?_))
   | exact ih0 _ _ _
   | exact LeO.none _
   | refine LeO.ite ?_ ?_
   | refine LeO.bind ?_ (fun _ => ?_)
set_option maxHeartbeats 8000000 in
set_option maxRecDepth 100000 in
theorem spec_l18Pipe.calls (k : Nat) (A0 : Option Addr) (c0 : Nat) (l0 : List (S32)) (A1 : Option Addr) (c1 : Nat) (l1 : List (S64)) (r : Int) (w : World) (hr0 : Kd.C k32 w A0 l0.length l0) (hc0 : l0.length ≤ c0) (hr1 : Kd.C k64 w A1 l1.length l1) (hc1 : l1.length ≤ c1) (h : spec_l18Pipe.f k l0 l1 = some r) :
  Calls Try.prog 78 #[.pointer A0, .pointer A1] w fun e w' => e = .returned (.int .i64 r) ∧ Drawn0 w w' := by
 have HR0 := Aside0.mk hr0
 have HC0 := Aside0.mk hc0
 clear hr0 hc0
 have HR1 := Aside0.mk hr1
 have HC1 := Aside0.mk hc1
 clear hr1 hc1
 have H : (spec_l18Pipe.l0 k l0 l1 0) = some r := h
 clear h
 have H' := Aside0.mk H
 clear H
 go_enter Try.func78, Try.ntmps78
 go_wp2
 repeat (go_quiet (fail); try go_wp2)
 go_loopg [5] k (fun kq v5 w' => ∃ (x5_1 : Int), v5 = .int .i64 x5_1 ∧ Aside0 (spec_l18Pipe.l0 kq l0 l1 x5_1 = some r) ∧ Aside0 (kq ≤ k) ∧ Drawn0 w w')
 case atStart => exact ⟨(0), t6_, H', ⟨Nat.le_refl _⟩, by repeat (first | exact Drawn0.refl _ | apply Drawn0.step)⟩
 case round =>
  clear H'
  try clear c1
  try clear p2
  obtain ⟨x5_1, rfl, HA, HK1, ⟨m1, rfl⟩⟩ := hrel
  cases gk with
  | zero => exact absurd HA.out (by simp [spec_l18Pipe.l0])
  | succ k1 =>
   have H := HA.out
   clear HA
   simp only [spec_l18Pipe.l0] at H
   by_cases c3 : 0 < (l0.length : Int)
   ·rw [if_pos c3] at H
    have c3b0 : decide (0 < (l0.length : Int)) = true := decide_eq_true c3
    have c3b1 : decide (0 < l0.length) = true := decide_eq_true t12_
    clear c3
    by_cases c4 : x5_1 < (((rd_T32 l0 0).f1).length : Int)
    ·rw [if_pos c4] at H
     have c4b0 : decide (x5_1 < (((rd_T32 l0 0).f1).length : Int)) = true := decide_eq_true c4
     clear c4
     by_cases c5 : 0 ≤ x5_1
     ·rw [if_pos c5] at H
      have c5b0 : decide (0 ≤ x5_1) = true := decide_eq_true c5
      clear c5
      by_cases c6 : 0 < (l1.length : Int)
      ·rw [if_pos c6] at H
       have c6b0 : decide (0 < (l1.length : Int)) = true := decide_eq_true c6
       have c6b1 : decide (0 < l1.length) = true := decide_eq_true t12_
       clear c6
       by_cases c7 : ((rd_T80 ((rd_T32 l0 0).f1) x5_1).f0).toList = ((rd_T64 l1 0).f1).toList
       ·rw [if_pos c7] at H
        have c7b0 : (((rd_T80 ((rd_T32 l0 0).f1) x5_1).f0).toList == ((rd_T64 l1 0).f1).toList) = true := beq_iff_eq.mpr c7
        have c7b1 : (((rd_T80 ((rd_T32 l0 0).f1) x5_1).f0).toList != ((rd_T64 l1 0).f1).toList) = false := bne_eq_false_iff_eq.mpr c7
        clear c7
        obtain rfl := Option.some.inj H
        have p147 : 0 ≤ (0 : Int) := t12_
        have q147 : 0 < (l0.length : Int) := of_decide_eq_true t3_
        obtain ⟨ad147, A147_0, c147_0, A147_1, c147_1, e147, hx147_0, hx147_1, hl147_0, hi147_0, hl147_1, hi147_1⟩ := at_T32 HR0.out 0 p147 q147
        cases e147
        have qi147 : (0 < l0.length) = True := eq_true t12_
        (try rw [show ((0 : Int)).toNat = 0 from rfl] at hx147_0)
        (try rw [show 0 * 2 = 0 from rfl] at hx147_0)
        (try rw [Addr.add_zero'] at hx147_0)
        (try rw [show ((0 : Int)).toNat = 0 from rfl] at hx147_1)
        (try rw [show 0 * 2 = 0 from rfl] at hx147_1)
        (try rw [Addr.add_zero'] at hx147_1)
        have HR147_0 := Aside0.mk hi147_0
        have HC147_0 := Aside0.mk hl147_0
        clear hi147_0 hl147_0
        have HR147_1 := Aside0.mk hi147_1
        have HC147_1 := Aside0.mk hl147_1
        clear hi147_1 hl147_1
        replace p147 := eq_true p147
        replace q147 := eq_true q147
        have p148 : 0 ≤ (0 : Int) := t12_
        have q148 : 0 < (l0.length : Int) := of_decide_eq_true t3_
        obtain ⟨ad148, A148_0, c148_0, A148_1, c148_1, e148, hx148_0, hx148_1, hl148_0, hi148_0, hl148_1, hi148_1⟩ := at_T32 HR0.out 0 p148 q148
        obtain rfl : ad147 = ad148 := (by injection e148)
        have qi148 : (0 < l0.length) = True := eq_true t12_
        (try rw [show ((0 : Int)).toNat = 0 from rfl] at hx148_0)
        (try rw [show 0 * 2 = 0 from rfl] at hx148_0)
        (try rw [Addr.add_zero'] at hx148_0)
        (try rw [show ((0 : Int)).toNat = 0 from rfl] at hx148_1)
        (try rw [show 0 * 2 = 0 from rfl] at hx148_1)
        (try rw [Addr.add_zero'] at hx148_1)
        have HR148_0 := Aside0.mk hi148_0
        have HC148_0 := Aside0.mk hl148_0
        clear hi148_0 hl148_0
        have HR148_1 := Aside0.mk hi148_1
        have HC148_1 := Aside0.mk hl148_1
        clear hi148_1 hl148_1
        replace p148 := eq_true p148
        replace q148 := eq_true q148
        have ea_ := Option.some.inj (hx147_0.symm.trans hx148_0)
        injection ea_ with ea_ en_ ec_
        subst ea_
        subst ec_
        clear en_
        have ea_ := Option.some.inj (hx147_1.symm.trans hx148_1)
        injection ea_ with ea_ en_ ec_
        subst ea_
        subst ec_
        clear en_
        have p149 : 0 ≤ (x5_1 : Int) := of_decide_eq_true t3_
        have q149 : x5_1 < (((rd_T32 l0 0).f1).length : Int) := of_decide_eq_true t3_
        obtain ⟨ad149, e149, hx149_0, hx149_1, hx149_2, hx149_3, hx149_4, hx149_5⟩ := at_T80 HR148_1.out x5_1 p149 q149
        cases e149
        replace p149 := eq_true p149
        replace q149 := eq_true q149
        have p150 : 0 ≤ (0 : Int) := t12_
        have q150 : 0 < (l1.length : Int) := of_decide_eq_true t3_
        obtain ⟨ad150, e150, hx150_0, hx150_1, hx150_2⟩ := at_T64 HR1.out 0 p150 q150
        cases e150
        have qi150 : (0 < l1.length) = True := eq_true t12_
        (try rw [show ((0 : Int)).toNat = 0 from rfl] at hx150_0)
        (try rw [show 0 * 3 = 0 from rfl] at hx150_0)
        (try rw [Addr.add_zero'] at hx150_0)
        (try rw [show ((0 : Int)).toNat = 0 from rfl] at hx150_1)
        (try rw [show 0 * 3 = 0 from rfl] at hx150_1)
        (try rw [Addr.add_zero'] at hx150_1)
        (try rw [show ((0 : Int)).toNat = 0 from rfl] at hx150_2)
        (try rw [show 0 * 3 = 0 from rfl] at hx150_2)
        (try rw [Addr.add_zero'] at hx150_2)
        replace p150 := eq_true p150
        replace q150 := eq_true q150
        go_wp2
        repeat (go_quiet (fail); try go_wp2)
        go_ret
        exact ⟨by first | rfl | (simp; done) | (simp [*]; done), by repeat (first | exact Drawn0.refl _ | apply Drawn0.step)⟩
       ·rw [if_neg c7] at H
        have c7b0 : (((rd_T80 ((rd_T32 l0 0).f1) x5_1).f0).toList == ((rd_T64 l1 0).f1).toList) = false := beq_eq_false_iff_ne.mpr c7
        have c7b1 : (((rd_T80 ((rd_T32 l0 0).f1) x5_1).f0).toList != ((rd_T64 l1 0).f1).toList) = true := bne_iff_ne.mpr c7
        have H' := Aside0.mk H
        clear H
        have p147 : 0 ≤ (0 : Int) := t12_
        have q147 : 0 < (l0.length : Int) := of_decide_eq_true t3_
        obtain ⟨ad147, A147_0, c147_0, A147_1, c147_1, e147, hx147_0, hx147_1, hl147_0, hi147_0, hl147_1, hi147_1⟩ := at_T32 HR0.out 0 p147 q147
        cases e147
        have qi147 : (0 < l0.length) = True := eq_true t12_
        (try rw [show ((0 : Int)).toNat = 0 from rfl] at hx147_0)
        (try rw [show 0 * 2 = 0 from rfl] at hx147_0)
        (try rw [Addr.add_zero'] at hx147_0)
        (try rw [show ((0 : Int)).toNat = 0 from rfl] at hx147_1)
        (try rw [show 0 * 2 = 0 from rfl] at hx147_1)
        (try rw [Addr.add_zero'] at hx147_1)
        have HR147_0 := Aside0.mk hi147_0
        have HC147_0 := Aside0.mk hl147_0
        clear hi147_0 hl147_0
        have HR147_1 := Aside0.mk hi147_1
        have HC147_1 := Aside0.mk hl147_1
        clear hi147_1 hl147_1
        replace p147 := eq_true p147
        replace q147 := eq_true q147
        have p148 : 0 ≤ (0 : Int) := t12_
        have q148 : 0 < (l0.length : Int) := of_decide_eq_true t3_
        obtain ⟨ad148, A148_0, c148_0, A148_1, c148_1, e148, hx148_0, hx148_1, hl148_0, hi148_0, hl148_1, hi148_1⟩ := at_T32 HR0.out 0 p148 q148
        obtain rfl : ad147 = ad148 := (by injection e148)
        have qi148 : (0 < l0.length) = True := eq_true t12_
        (try rw [show ((0 : Int)).toNat = 0 from rfl] at hx148_0)
        (try rw [show 0 * 2 = 0 from rfl] at hx148_0)
        (try rw [Addr.add_zero'] at hx148_0)
        (try rw [show ((0 : Int)).toNat = 0 from rfl] at hx148_1)
        (try rw [show 0 * 2 = 0 from rfl] at hx148_1)
        (try rw [Addr.add_zero'] at hx148_1)
        have HR148_0 := Aside0.mk hi148_0
        have HC148_0 := Aside0.mk hl148_0
        clear hi148_0 hl148_0
        have HR148_1 := Aside0.mk hi148_1
        have HC148_1 := Aside0.mk hl148_1
        clear hi148_1 hl148_1
        replace p148 := eq_true p148
        replace q148 := eq_true q148
        have ea_ := Option.some.inj (hx147_0.symm.trans hx148_0)
        injection ea_ with ea_ en_ ec_
        subst ea_
        subst ec_
        clear en_
        have ea_ := Option.some.inj (hx147_1.symm.trans hx148_1)
        injection ea_ with ea_ en_ ec_
        subst ea_
        subst ec_
        clear en_
        have p149 : 0 ≤ (x5_1 : Int) := of_decide_eq_true t3_
        have q149 : x5_1 < (((rd_T32 l0 0).f1).length : Int) := of_decide_eq_true t3_
        obtain ⟨ad149, e149, hx149_0, hx149_1, hx149_2, hx149_3, hx149_4, hx149_5⟩ := at_T80 HR148_1.out x5_1 p149 q149
        cases e149
        replace p149 := eq_true p149
        replace q149 := eq_true q149
        have p150 : 0 ≤ (0 : Int) := t12_
        have q150 : 0 < (l1.length : Int) := of_decide_eq_true t3_
        obtain ⟨ad150, e150, hx150_0, hx150_1, hx150_2⟩ := at_T64 HR1.out 0 p150 q150
        cases e150
        have qi150 : (0 < l1.length) = True := eq_true t12_
        (try rw [show ((0 : Int)).toNat = 0 from rfl] at hx150_0)
        (try rw [show 0 * 3 = 0 from rfl] at hx150_0)
        (try rw [Addr.add_zero'] at hx150_0)
        (try rw [show ((0 : Int)).toNat = 0 from rfl] at hx150_1)
        (try rw [show 0 * 3 = 0 from rfl] at hx150_1)
        (try rw [Addr.add_zero'] at hx150_1)
        (try rw [show ((0 : Int)).toNat = 0 from rfl] at hx150_2)
        (try rw [show 0 * 3 = 0 from rfl] at hx150_2)
        (try rw [Addr.add_zero'] at hx150_2)
        replace p150 := eq_true p150
        replace q150 := eq_true q150
        go_wp2
        repeat (go_quiet (fail); try go_wp2)
        go_roundg k1
        case measure => have := HK1.out; omega
        case rel => exact ⟨(wrap64 (x5_1 + 1)), t6_, H', ⟨by have := HK1.out; omega⟩, by repeat (first | exact Drawn0.refl _ | apply Drawn0.step)⟩
      ·rw [if_neg c6] at H
       exact absurd H t36_
     ·rw [if_neg c5] at H
      exact absurd H t36_
    ·rw [if_neg c4] at H
     have c4b0 : decide (x5_1 < (((rd_T32 l0 0).f1).length : Int)) = false := decide_eq_false c4
     clear c4
     obtain rfl := Option.some.inj H
     have p147 : 0 ≤ (0 : Int) := t12_
     have q147 : 0 < (l0.length : Int) := of_decide_eq_true t3_
     obtain ⟨ad147, A147_0, c147_0, A147_1, c147_1, e147, hx147_0, hx147_1, hl147_0, hi147_0, hl147_1, hi147_1⟩ := at_T32 HR0.out 0 p147 q147
     cases e147
     have qi147 : (0 < l0.length) = True := eq_true t12_
     (try rw [show ((0 : Int)).toNat = 0 from rfl] at hx147_0)
     (try rw [show 0 * 2 = 0 from rfl] at hx147_0)
     (try rw [Addr.add_zero'] at hx147_0)
     (try rw [show ((0 : Int)).toNat = 0 from rfl] at hx147_1)
     (try rw [show 0 * 2 = 0 from rfl] at hx147_1)
     (try rw [Addr.add_zero'] at hx147_1)
     have HR147_0 := Aside0.mk hi147_0
     have HC147_0 := Aside0.mk hl147_0
     clear hi147_0 hl147_0
     have HR147_1 := Aside0.mk hi147_1
     have HC147_1 := Aside0.mk hl147_1
     clear hi147_1 hl147_1
     replace p147 := eq_true p147
     replace q147 := eq_true q147
     go_wp2
     repeat (go_quiet (fail); try go_wp2)
     go_ret
     exact ⟨by first | rfl | (simp; done) | (simp [*]; done), by repeat (first | exact Drawn0.refl _ | apply Drawn0.step)⟩
   ·rw [if_neg c3] at H
    exact absurd H t36_

end Go.Proofs.Ytjelfhmgbhidnaa.PFnExactValidValves
