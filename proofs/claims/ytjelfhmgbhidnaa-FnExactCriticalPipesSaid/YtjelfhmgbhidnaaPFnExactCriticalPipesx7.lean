-- written by wip/xprint.py, a program of this session, for this claim; not trusted: Lean checks it.
import Derived.Test.YtjelfhmgbhidnaaPFnExactCriticalPipesx0
import Derived.Test.YtjelfhmgbhidnaaPFnExactCriticalPipesx2
import Derived.Test.YtjelfhmgbhidnaaPFnExactCriticalPipesx6
namespace Go.Proofs.Ytjelfhmgbhidnaa.PFnExactCriticalPipes
open Go.RowKit Go.Proofs.YtjelfhmgbhidnaaW.PrintWords Go.Proofs.YtjelfhmgbhidnaaW.PrintLast Go.Proofs.YtjelfhmgbhidnaaW.PrintMore
attribute [local go_sem] leq_less_ max2_int min2_int max_two min_two max_three min_three max_four min_four   -- for this text's walks alone
set_option linter.unusedVariables false
set_option linter.unusedSimpArgs false

/-! ### spec_l00Rises: function 87 -/
def spec_l00Rises.l0 : Nat → List Int → Int → Int → Int → Option (Bool)
 | 0, _, _, _, _ => none
 | k + 1, x0, x1, x2, x7 => if x7 < (x0.length : Int) then (if 0 ≤ x7 then ((spec_l00In.f (rd x0 x7) x1 x2).bind fun t201 => (if t201 = true then (if x7 > 0 then (if 0 ≤ (wrap64 (x7 - 1)) then (if (wrap64 (x7 - 1)) < (x0.length : Int) then (if (rd x0 (wrap64 (x7 - 1))) ≥ (rd x0 x7) then (some false) else (spec_l00Rises.l0 k x0 x1 x2 (wrap64 (x7 + 1)))) else (none)) else (none)) else (spec_l00Rises.l0 k x0 x1 x2 (wrap64 (x7 + 1)))) else (some false))) else (none)) else (some true)
def spec_l00Rises.f (k : Nat) (l0 : List Int) (a1 : Int) (a2 : Int) : Option (Bool) := spec_l00Rises.l0 k l0 a1 a2 0
theorem spec_l00Rises.mono_l : ∀ k, (∀ y0 y1 y2 y3, LeO (spec_l00Rises.l0 k y0 y1 y2 y3) (spec_l00Rises.l0 (k + 1) y0 y1 y2 y3))
 | 0 => fun _ _ _ _ r h => by simp [spec_l00Rises.l0] at h
 | k + 1 => by
  have ih0 := spec_l00Rises.mono_l k
  ·intro y0 y1 y2 y3
   unfold spec_l00Rises.l0
   repeat' first
   | (with_reducible exact ih0 _ _ _ _)
   | (with_reducible exact LeO.refl _)
   | (with_reducible exact LeO.none _)
   | (with_reducible refine LeO.ite ?_ ?_)
   | (with_reducible refine LeO.bind ?_ (fun _ => ?_))
   | exact ih0 _ _ _ _
   | exact LeO.none _
   | refine LeO.ite ?_ ?_
   | refine LeO.bind ?_ (fun _ => ?_)
theorem spec_l00Rises.mono : ∀ a0 a1 a2 k, LeO (spec_l00Rises.f k a0 a1 a2) (spec_l00Rises.f (k + 1) a0 a1 a2) := by
 intro a0 a1 a2 k
 have ih0 := spec_l00Rises.mono_l k
 unfold spec_l00Rises.f
 repeat' first
   | (with_reducible exact ih0 _ _ _ _)
   | (with_reducible exact LeO.refl _)
   | (with_reducible exact LeO.none _)
   | (with_reducible refine LeO.ite ?_ ?_)
   | (with_reducible refine LeO.bind ?_ (fun _ => ?_))
   | exact ih0 _ _ _ _
   | exact LeO.none _
   | refine LeO.ite ?_ ?_
   | refine LeO.bind ?_ (fun _ => ?_)
set_option maxHeartbeats 8000000 in
set_option maxRecDepth 100000 in
theorem spec_l00Rises.calls (k : Nat) (A0 : Option Addr) (c0 : Nat) (l0 : List Int) (a1 : Int) (a2 : Int) (r : Bool) (w : World) (hr0 : Kd.C (Kd.int .i64) w A0 l0.length l0) (hc0 : l0.length ≤ c0) (h : spec_l00Rises.f k l0 a1 a2 = some r) :
  Calls Try.prog 87 #[.slice A0 l0.length c0, .int .i64 a1, .int .i64 a2] w fun e w' => e = .returned (.bool r) ∧ Drawn0 w w' := by
 have HR0 := Aside0.mk hr0
 have HC0 := Aside0.mk hc0
 clear hr0 hc0
 have H : (spec_l00Rises.l0 k l0 a1 a2 0) = some r := h
 clear h
 have H' := Aside0.mk H
 clear H
 go_enter Try.func87, Try.ntmps87
 go_wp2
 repeat (go_quiet (fail); try go_wp2)
 go_loopg [7] k (fun kq v7 w' => ∃ (x7_1 : Int), v7 = .int .i64 x7_1 ∧ Aside0 (spec_l00Rises.l0 kq l0 a1 a2 x7_1 = some r) ∧ Aside0 (kq ≤ k) ∧ Drawn0 w w')
 case atStart => exact ⟨(0), t6_, H', ⟨Nat.le_refl _⟩, t13_⟩
 case round =>
  clear H'
  try clear p2
  obtain ⟨x7_1, rfl, HA, HK1, ⟨m1, rfl⟩⟩ := hrel
  cases gk with
  | zero => exact absurd HA.out (by simp [spec_l00Rises.l0])
  | succ k1 =>
   have H := HA.out
   clear HA
   simp only [spec_l00Rises.l0] at H
   by_cases c4 : x7_1 < (l0.length : Int)
   ·rw [if_pos c4] at H
    have c4b0 : decide (x7_1 < (l0.length : Int)) = true := decide_eq_true c4
    clear c4
    by_cases c5 : 0 ≤ x7_1
    ·rw [if_pos c5] at H
     have c5b0 : decide (0 ≤ x7_1) = true := decide_eq_true c5
     clear c5
     replace H := Option.bind_eq_some_iff.mp H
     obtain ⟨t201, A60, H⟩ := H
     replace H : (if t201 = true then (if x7_1 > 0 then (if 0 ≤ (wrap64 (x7_1 - 1)) then (if (wrap64 (x7_1 - 1)) < (l0.length : Int) then (if (rd l0 (wrap64 (x7_1 - 1))) ≥ (rd l0 x7_1) then (some false) else (spec_l00Rises.l0 k1 l0 a1 a2 (wrap64 (x7_1 + 1)))) else (none)) else (none)) else (spec_l00Rises.l0 k1 l0 a1 a2 (wrap64 (x7_1 + 1)))) else (some false)) = some r := H
     have A6 := Aside0.mk A60
     clear A60
     by_cases c7 : t201 = true
     ·subst c7
      have H1 : (if x7_1 > 0 then (if 0 ≤ (wrap64 (x7_1 - 1)) then (if (wrap64 (x7_1 - 1)) < (l0.length : Int) then (if (rd l0 (wrap64 (x7_1 - 1))) ≥ (rd l0 x7_1) then (some false) else (spec_l00Rises.l0 k1 l0 a1 a2 (wrap64 (x7_1 + 1)))) else (none)) else (none)) else (spec_l00Rises.l0 k1 l0 a1 a2 (wrap64 (x7_1 + 1)))) = some r := by rw [if_pos rfl] at H; exact H
      clear H
      have H := H1
      clear H1
      by_cases c8 : x7_1 > 0
      ·rw [if_pos c8] at H
       have c8b0 : decide (0 < x7_1) = true := decide_eq_true c8
       clear c8
       obtain ⟨ji9, hji9⟩ : ∃ j_ : Int, (wrap64 (x7_1 - 1)) = j_ := ⟨_, rfl⟩
       replace H : (if 0 ≤ (ji9) then (if (ji9) < (l0.length : Int) then (if (rd l0 (ji9)) ≥ (rd l0 x7_1) then (some false) else (spec_l00Rises.l0 k1 l0 a1 a2 (wrap64 (x7_1 + 1)))) else (none)) else (none)) = some r := by first | (rw [hji9] at H; exact H) | (simp only [hji9] at H ⊢; exact H)
       (try rw [hji9] at A6)
       have hji9w : (IntKind.i64.wrap (x7_1 - 1)) = ji9 := (i64_w _).trans hji9
       by_cases c10 : 0 ≤ (ji9)
       ·rw [if_pos c10] at H
        have c10b0 : decide (0 ≤ (ji9)) = true := decide_eq_true c10
        clear c10
        by_cases c11 : (ji9) < (l0.length : Int)
        ·rw [if_pos c11] at H
         have c11b0 : decide ((ji9) < (l0.length : Int)) = true := decide_eq_true c11
         clear c11
         by_cases c12 : (rd l0 (ji9)) ≥ (rd l0 x7_1)
         ·rw [if_pos c12] at H
          have c12b0 : decide ((rd l0 x7_1) ≤ (rd l0 (ji9))) = true := decide_eq_true c12
          clear c12
          obtain rfl := Option.some.inj H
          have p200 : 0 ≤ (x7_1 : Int) := of_decide_eq_true t3_
          have q200 : x7_1 < (l0.length : Int) := of_decide_eq_true t3_
          obtain ⟨ad200, e200, hx200_0⟩ := Kd.at_int HR0.out x7_1 p200 q200
          cases e200
          replace p200 := eq_true p200
          replace q200 := eq_true q200
          go_wp2_with (first | (go_at_call 64; (with_reducible refine (spec_l00In.calls (rd l0 x7_1) a1 a2 true _ A6.out).mono ?_); rintro e w' ⟨rfl, ⟨nd, rfl⟩⟩; (try exact dd_); (try (have p202 : 0 ≤ ((ji9) : Int) := of_decide_eq_true t3_; have q202 : (ji9) < (l0.length : Int) := of_decide_eq_true t3_; obtain ⟨ad202, e202, hx202_0⟩ := Kd.at_int HR0.out (ji9) p202 q202; obtain rfl : ad200 = ad202 := (by injection e202); replace p202 := eq_true p202; replace q202 := eq_true q202; have p203 : 0 ≤ (x7_1 : Int) := of_decide_eq_true t3_; have q203 : x7_1 < (l0.length : Int) := of_decide_eq_true t3_; obtain ⟨ad203, e203, hx203_0⟩ := Kd.at_int HR0.out x7_1 p203 q203; obtain rfl : ad200 = ad203 := (by injection e203); replace p203 := eq_true p203; replace q203 := eq_true q203))))
          (first | (have h_ := q203; clear h_) | (try (have p202 : 0 ≤ ((ji9) : Int) := of_decide_eq_true t3_; have q202 : (ji9) < (l0.length : Int) := of_decide_eq_true t3_; obtain ⟨ad202, e202, hx202_0⟩ := Kd.at_int HR0.out (ji9) p202 q202; obtain rfl : ad200 = ad202 := (by injection e202); replace p202 := eq_true p202; replace q202 := eq_true q202; have p203 : 0 ≤ (x7_1 : Int) := of_decide_eq_true t3_; have q203 : x7_1 < (l0.length : Int) := of_decide_eq_true t3_; obtain ⟨ad203, e203, hx203_0⟩ := Kd.at_int HR0.out x7_1 p203 q203; obtain rfl : ad200 = ad203 := (by injection e203); replace p203 := eq_true p203; replace q203 := eq_true q203)))
          repeat (go_quiet (first | (go_at_call 64; (with_reducible refine (spec_l00In.calls (rd l0 x7_1) a1 a2 true _ A6.out).mono ?_); rintro e w' ⟨rfl, ⟨nd, rfl⟩⟩; (try exact dd_))); try go_wp2_with (first | (go_at_call 64; (with_reducible refine (spec_l00In.calls (rd l0 x7_1) a1 a2 true _ A6.out).mono ?_); rintro e w' ⟨rfl, ⟨nd, rfl⟩⟩; (try exact dd_); (try (have p202 : 0 ≤ ((ji9) : Int) := of_decide_eq_true t3_; have q202 : (ji9) < (l0.length : Int) := of_decide_eq_true t3_; obtain ⟨ad202, e202, hx202_0⟩ := Kd.at_int HR0.out (ji9) p202 q202; obtain rfl : ad200 = ad202 := (by injection e202); replace p202 := eq_true p202; replace q202 := eq_true q202; have p203 : 0 ≤ (x7_1 : Int) := of_decide_eq_true t3_; have q203 : x7_1 < (l0.length : Int) := of_decide_eq_true t3_; obtain ⟨ad203, e203, hx203_0⟩ := Kd.at_int HR0.out x7_1 p203 q203; obtain rfl : ad200 = ad203 := (by injection e203); replace p203 := eq_true p203; replace q203 := eq_true q203)))))
          go_ret
          exact ⟨(by first | rfl | (simp; done) | (simp only [← hji9] <;> (first | rfl | simp)) | (simp [*]; done)), t13_⟩
         ·rw [if_neg c12] at H
          have c12b0 : decide ((rd l0 x7_1) ≤ (rd l0 (ji9))) = false := decide_eq_false c12
          clear c12
          have H' := Aside0.mk H
          clear H
          have p200 : 0 ≤ (x7_1 : Int) := of_decide_eq_true t3_
          have q200 : x7_1 < (l0.length : Int) := of_decide_eq_true t3_
          obtain ⟨ad200, e200, hx200_0⟩ := Kd.at_int HR0.out x7_1 p200 q200
          cases e200
          replace p200 := eq_true p200
          replace q200 := eq_true q200
          go_wp2_with (first | (go_at_call 64; (with_reducible refine (spec_l00In.calls (rd l0 x7_1) a1 a2 true _ A6.out).mono ?_); rintro e w' ⟨rfl, ⟨nd, rfl⟩⟩; (try exact dd_); (try (have p202 : 0 ≤ ((ji9) : Int) := of_decide_eq_true t3_; have q202 : (ji9) < (l0.length : Int) := of_decide_eq_true t3_; obtain ⟨ad202, e202, hx202_0⟩ := Kd.at_int HR0.out (ji9) p202 q202; obtain rfl : ad200 = ad202 := (by injection e202); replace p202 := eq_true p202; replace q202 := eq_true q202; have p203 : 0 ≤ (x7_1 : Int) := of_decide_eq_true t3_; have q203 : x7_1 < (l0.length : Int) := of_decide_eq_true t3_; obtain ⟨ad203, e203, hx203_0⟩ := Kd.at_int HR0.out x7_1 p203 q203; obtain rfl : ad200 = ad203 := (by injection e203); replace p203 := eq_true p203; replace q203 := eq_true q203))))
          (first | (have h_ := q203; clear h_) | (try (have p202 : 0 ≤ ((ji9) : Int) := of_decide_eq_true t3_; have q202 : (ji9) < (l0.length : Int) := of_decide_eq_true t3_; obtain ⟨ad202, e202, hx202_0⟩ := Kd.at_int HR0.out (ji9) p202 q202; obtain rfl : ad200 = ad202 := (by injection e202); replace p202 := eq_true p202; replace q202 := eq_true q202; have p203 : 0 ≤ (x7_1 : Int) := of_decide_eq_true t3_; have q203 : x7_1 < (l0.length : Int) := of_decide_eq_true t3_; obtain ⟨ad203, e203, hx203_0⟩ := Kd.at_int HR0.out x7_1 p203 q203; obtain rfl : ad200 = ad203 := (by injection e203); replace p203 := eq_true p203; replace q203 := eq_true q203)))
          repeat (go_quiet (first | (go_at_call 64; (with_reducible refine (spec_l00In.calls (rd l0 x7_1) a1 a2 true _ A6.out).mono ?_); rintro e w' ⟨rfl, ⟨nd, rfl⟩⟩; (try exact dd_))); try go_wp2_with (first | (go_at_call 64; (with_reducible refine (spec_l00In.calls (rd l0 x7_1) a1 a2 true _ A6.out).mono ?_); rintro e w' ⟨rfl, ⟨nd, rfl⟩⟩; (try exact dd_); (try (have p202 : 0 ≤ ((ji9) : Int) := of_decide_eq_true t3_; have q202 : (ji9) < (l0.length : Int) := of_decide_eq_true t3_; obtain ⟨ad202, e202, hx202_0⟩ := Kd.at_int HR0.out (ji9) p202 q202; obtain rfl : ad200 = ad202 := (by injection e202); replace p202 := eq_true p202; replace q202 := eq_true q202; have p203 : 0 ≤ (x7_1 : Int) := of_decide_eq_true t3_; have q203 : x7_1 < (l0.length : Int) := of_decide_eq_true t3_; obtain ⟨ad203, e203, hx203_0⟩ := Kd.at_int HR0.out x7_1 p203 q203; obtain rfl : ad200 = ad203 := (by injection e203); replace p203 := eq_true p203; replace q203 := eq_true q203)))))
          go_roundg k1
          case measure => have := HK1.out; omega
          case rel => exact ⟨(wrap64 (x7_1 + 1)), t6_, H', ⟨t41_⟩, t13_⟩
        ·rw [if_neg c11] at H
         exact absurd H t44_
       ·rw [if_neg c10] at H
        exact absurd H t44_
      ·rw [if_neg c8] at H
       have c8b0 : decide (0 < x7_1) = false := decide_eq_false c8
       clear c8
       have H' := Aside0.mk H
       clear H
       have p200 : 0 ≤ (x7_1 : Int) := of_decide_eq_true t3_
       have q200 : x7_1 < (l0.length : Int) := of_decide_eq_true t3_
       obtain ⟨ad200, e200, hx200_0⟩ := Kd.at_int HR0.out x7_1 p200 q200
       cases e200
       replace p200 := eq_true p200
       replace q200 := eq_true q200
       go_wp2_with (first | (go_at_call 64; (with_reducible refine (spec_l00In.calls (rd l0 x7_1) a1 a2 true _ A6.out).mono ?_); rintro e w' ⟨rfl, ⟨nd, rfl⟩⟩; (try exact dd_)))
       repeat (go_quiet (first | (go_at_call 64; (with_reducible refine (spec_l00In.calls (rd l0 x7_1) a1 a2 true _ A6.out).mono ?_); rintro e w' ⟨rfl, ⟨nd, rfl⟩⟩; (try exact dd_))); try go_wp2_with (first | (go_at_call 64; (with_reducible refine (spec_l00In.calls (rd l0 x7_1) a1 a2 true _ A6.out).mono ?_); rintro e w' ⟨rfl, ⟨nd, rfl⟩⟩; (try exact dd_))))
       go_roundg k1
       case measure => have := HK1.out; omega
       case rel => exact ⟨(wrap64 (x7_1 + 1)), t6_, H', ⟨t41_⟩, t13_⟩
     ·replace c7 := Bool.eq_false_iff.mpr c7
      subst c7
      have H1 : (some false) = some r := by rw [if_neg (show ¬ (false = true) by decide)] at H; exact H
      clear H
      have H := H1
      clear H1
      obtain rfl := Option.some.inj H
      have p200 : 0 ≤ (x7_1 : Int) := of_decide_eq_true t3_
      have q200 : x7_1 < (l0.length : Int) := of_decide_eq_true t3_
      obtain ⟨ad200, e200, hx200_0⟩ := Kd.at_int HR0.out x7_1 p200 q200
      cases e200
      replace p200 := eq_true p200
      replace q200 := eq_true q200
      go_wp2_with (first | (go_at_call 64; (with_reducible refine (spec_l00In.calls (rd l0 x7_1) a1 a2 false _ A6.out).mono ?_); rintro e w' ⟨rfl, ⟨nd, rfl⟩⟩; (try exact dd_)))
      repeat (go_quiet (first | (go_at_call 64; (with_reducible refine (spec_l00In.calls (rd l0 x7_1) a1 a2 false _ A6.out).mono ?_); rintro e w' ⟨rfl, ⟨nd, rfl⟩⟩; (try exact dd_))); try go_wp2_with (first | (go_at_call 64; (with_reducible refine (spec_l00In.calls (rd l0 x7_1) a1 a2 false _ A6.out).mono ?_); rintro e w' ⟨rfl, ⟨nd, rfl⟩⟩; (try exact dd_))))
      go_ret
      exact ⟨t6_, t13_⟩
    ·rw [if_neg c5] at H
     exact absurd H t44_
   ·rw [if_neg c4] at H
    have c4b0 : decide (x7_1 < (l0.length : Int)) = false := decide_eq_false c4
    clear c4
    obtain rfl := Option.some.inj H
    go_wp2
    repeat (go_quiet (fail); try go_wp2)
    go_ret
    exact ⟨t6_, t13_⟩

/-! ### spec_l04Closed: function 88 -/
def spec_l04Closed.f (k : Nat) (l0 : List (S32)) (l1 : List Int) : Option (Bool) := if 0 < (l0.length : Int) then ((spec_l00Rises.f k l1 0 (wrap64 ((((rd_T32 l0 0).f1).length : Int) - 1))).bind fun t205 => (some t205)) else (none)
theorem spec_l04Closed.mono : ∀ a0 a1 k, LeO (spec_l04Closed.f k a0 a1) (spec_l04Closed.f (k + 1) a0 a1) := by
 intro a0 a1 k
 unfold spec_l04Closed.f
 repeat' first
   | (with_reducible exact spec_l00Rises.mono _ _ _ _)
   | (with_reducible exact LeO.refl _)
   | (with_reducible exact LeO.none _)
   | (with_reducible refine LeO.ite ?_ ?_)
   | (with_reducible refine LeO.bind ?_ (fun _ => ?_))
   | exact spec_l00Rises.mono _ _ _ _
   | exact LeO.none _
   | refine LeO.ite ?_ ?_
   | refine LeO.bind ?_ (fun _ => ?_)
set_option maxHeartbeats 8000000 in
set_option maxRecDepth 100000 in
theorem spec_l04Closed.calls (k : Nat) (A0 : Option Addr) (c0 : Nat) (l0 : List (S32)) (A1 : Option Addr) (c1 : Nat) (l1 : List Int) (r : Bool) (w : World) (hr0 : Kd.C k32 w A0 l0.length l0) (hc0 : l0.length ≤ c0) (hr1 : Kd.C (Kd.int .i64) w A1 l1.length l1) (hc1 : l1.length ≤ c1) (h : spec_l04Closed.f k l0 l1 = some r) :
  Calls Try.prog 88 #[.pointer A0, .slice A1 l1.length c1] w fun e w' => e = .returned (.bool r) ∧ Drawn0 w w' := by
 have HR0 := Aside0.mk hr0
 have HC0 := Aside0.mk hc0
 clear hr0 hc0
 have HR1 := Aside0.mk hr1
 have HC1 := Aside0.mk hc1
 clear hr1 hc1
 have H : (if 0 < (l0.length : Int) then ((spec_l00Rises.f k l1 0 (wrap64 ((((rd_T32 l0 0).f1).length : Int) - 1))).bind fun t205 => (some t205)) else (none)) = some r := h
 clear h
 by_cases c3 : 0 < (l0.length : Int)
 ·rw [if_pos c3] at H
  have c3b0 : decide (0 < (l0.length : Int)) = true := decide_eq_true c3
  have c3b1 : decide (0 < l0.length) = true := decide_eq_true t28_
  clear c3
  replace H := Option.bind_eq_some_iff.mp H
  obtain ⟨t205, A40, H⟩ := H
  replace H : (some t205) = some r := H
  have A4 := Aside0.mk A40
  clear A40
  obtain rfl := Option.some.inj H
  have p204 : 0 ≤ (0 : Int) := t28_
  have q204 : 0 < (l0.length : Int) := of_decide_eq_true t3_
  obtain ⟨ad204, A204_0, c204_0, A204_1, c204_1, e204, hx204_0, hx204_1, hl204_0, hi204_0, hl204_1, hi204_1⟩ := at_T32 HR0.out 0 p204 q204
  cases e204
  have qi204 : (0 < l0.length) = True := eq_true t28_
  (try rw [za_] at hx204_0)
  (try rw [za_] at hx204_1)
  have HR204_0 := Aside0.mk hi204_0
  have HC204_0 := Aside0.mk hl204_0
  clear hi204_0 hl204_0
  have HR204_1 := Aside0.mk hi204_1
  have HC204_1 := Aside0.mk hl204_1
  clear hi204_1 hl204_1
  replace p204 := eq_true p204
  replace q204 := eq_true q204
  go_enter Try.func88, Try.ntmps88
  go_wp2_with (first | ((with_reducible refine gate_callee (f := 87) rfl ?_); refine goesL_ (some 12) rfl rfl Try.func87 t14_ rfl #[.slice A1 l1.length c1, .int .i64 0, .int .i64 (wrap64 ((((rd_T32 l0 0).f1).length : Int) - 1))] rfl t2_ ?_; (with_reducible refine (spec_l00Rises.calls k _ _ l1 0 (wrap64 ((((rd_T32 l0 0).f1).length : Int) - 1)) t205 _ ?side1 ?side2 A4.out).mono ?_); (case side1 => repeat (first | exact HR1.out | (with_reducible refine Kd.C_alloc ?_ _) | (with_reducible refine Kd.C_drewN ?_ _) | (with_reducible refine Kd.C_drew ?_))); (case side2 => exact HC1.out); rintro e w' ⟨rfl, ⟨nd, rfl⟩⟩; refine ⟨_, rfl, ?_⟩))
  go_ret
  exact ⟨t6_, t13_⟩
 ·rw [if_neg c3] at H
  exact absurd H t44_

/-! ### spec_l19Ask: function 56 -/
def spec_l19Ask.f (k : Nat) (l0 : List (S32)) (l1 : List Int) (l2 : List Int) : Option (Int) := (spec_l04Ok.f k l0).bind fun t206 => (if t206 = true then (if 0 < (l0.length : Int) then ((spec_l00Rises.f k l1 0 (wrap64 ((((rd_T32 l0 0).f0).length : Int) - 1))).bind fun t208 => (if t208 = true then ((spec_l04Closed.f k l0 l2).bind fun t209 => (if t209 = true then (some 0) else (some 7))) else (some 7))) else (none)) else (some 1))
theorem spec_l19Ask.mono : ∀ a0 a1 a2 k, LeO (spec_l19Ask.f k a0 a1 a2) (spec_l19Ask.f (k + 1) a0 a1 a2) := by
 intro a0 a1 a2 k
 unfold spec_l19Ask.f
 repeat' first
   | (with_reducible exact spec_l00Rises.mono _ _ _ _)
   | (with_reducible exact spec_l04Closed.mono _ _ _)
   | (with_reducible exact spec_l04Ok.mono _ _)
   | (with_reducible exact LeO.refl _)
   | (with_reducible exact LeO.none _)
   | (with_reducible refine LeO.ite ?_ ?_)
   | (with_reducible refine LeO.bind ?_ (fun _ => ?_))
   | exact spec_l00Rises.mono _ _ _ _
   | exact spec_l04Closed.mono _ _ _
   | exact spec_l04Ok.mono _ _
   | exact LeO.none _
   | refine LeO.ite ?_ ?_
   | refine LeO.bind ?_ (fun _ => ?_)
set_option maxHeartbeats 8000000 in
set_option maxRecDepth 100000 in
theorem spec_l19Ask.calls (k : Nat) (A0 : Option Addr) (c0 : Nat) (l0 : List (S32)) (A1 : Option Addr) (c1 : Nat) (l1 : List Int) (A2 : Option Addr) (c2 : Nat) (l2 : List Int) (r : Int) (w : World) (hr0 : Kd.C k32 w A0 l0.length l0) (hc0 : l0.length ≤ c0) (hr1 : Kd.C (Kd.int .i64) w A1 l1.length l1) (hc1 : l1.length ≤ c1) (hr2 : Kd.C (Kd.int .i64) w A2 l2.length l2) (hc2 : l2.length ≤ c2) (h : spec_l19Ask.f k l0 l1 l2 = some r) :
  Calls Try.prog 56 #[.pointer A0, .slice A1 l1.length c1, .slice A2 l2.length c2] w fun e w' => e = .returned (.int .i64 r) ∧ Below w.heap.size w w' := by
 have HR0 := Aside0.mk hr0
 have HC0 := Aside0.mk hc0
 clear hr0 hc0
 have HR1 := Aside0.mk hr1
 have HC1 := Aside0.mk hc1
 clear hr1 hc1
 have HR2 := Aside0.mk hr2
 have HC2 := Aside0.mk hc2
 clear hr2 hc2
 have HB := Aside0.mk (Below.refl w.heap.size w)
 have H : ((spec_l04Ok.f k l0).bind fun t206 => (if t206 = true then (if 0 < (l0.length : Int) then ((spec_l00Rises.f k l1 0 (wrap64 ((((rd_T32 l0 0).f0).length : Int) - 1))).bind fun t208 => (if t208 = true then ((spec_l04Closed.f k l0 l2).bind fun t209 => (if t209 = true then (some 0) else (some 7))) else (some 7))) else (none)) else (some 1))) = some r := h
 clear h
 replace H := Option.bind_eq_some_iff.mp H
 obtain ⟨t206, A40, H⟩ := H
 replace H : (if t206 = true then (if 0 < (l0.length : Int) then ((spec_l00Rises.f k l1 0 (wrap64 ((((rd_T32 l0 0).f0).length : Int) - 1))).bind fun t208 => (if t208 = true then ((spec_l04Closed.f k l0 l2).bind fun t209 => (if t209 = true then (some 0) else (some 7))) else (some 7))) else (none)) else (some 1)) = some r := H
 have A4 := Aside0.mk A40
 clear A40
 by_cases c5 : t206 = true
 ·subst c5
  have H1 : (if 0 < (l0.length : Int) then ((spec_l00Rises.f k l1 0 (wrap64 ((((rd_T32 l0 0).f0).length : Int) - 1))).bind fun t208 => (if t208 = true then ((spec_l04Closed.f k l0 l2).bind fun t209 => (if t209 = true then (some 0) else (some 7))) else (some 7))) else (none)) = some r := by rw [if_pos rfl] at H; exact H
  clear H
  have H := H1
  clear H1
  by_cases c6 : 0 < (l0.length : Int)
  ·rw [if_pos c6] at H
   have c6b0 : decide (0 < (l0.length : Int)) = true := decide_eq_true c6
   have c6b1 : decide (0 < l0.length) = true := decide_eq_true t28_
   clear c6
   replace H := Option.bind_eq_some_iff.mp H
   obtain ⟨t208, A70, H⟩ := H
   replace H : (if t208 = true then ((spec_l04Closed.f k l0 l2).bind fun t209 => (if t209 = true then (some 0) else (some 7))) else (some 7)) = some r := H
   have A7 := Aside0.mk A70
   clear A70
   by_cases c8 : t208 = true
   ·subst c8
    have H1 : ((spec_l04Closed.f k l0 l2).bind fun t209 => (if t209 = true then (some 0) else (some 7))) = some r := by rw [if_pos rfl] at H; exact H
    clear H
    have H := H1
    clear H1
    replace H := Option.bind_eq_some_iff.mp H
    obtain ⟨t209, A90, H⟩ := H
    replace H : (if t209 = true then (some 0) else (some 7)) = some r := H
    have A9 := Aside0.mk A90
    clear A90
    by_cases c10 : t209 = true
    ·subst c10
     have H1 : (some 0) = some r := by rw [if_pos rfl] at H; exact H
     clear H
     have H := H1
     clear H1
     obtain rfl := Option.some.inj H
     go_enter Try.func56, Try.ntmps56
     go_wp2_with (first | ((with_reducible refine gate_callee (f := 54) rfl ?_); refine goesL_ (some 8) rfl rfl Try.func54 t14_ rfl #[.pointer A0] rfl t2_ ?_; (with_reducible refine (spec_l04Ok.calls k _ c0 l0 true _ ?side1 ?side2 A4.out).mono ?_); (case side1 => repeat (first | exact HR0.out | (with_reducible refine Kd.C_alloc ?_ _) | (with_reducible refine Kd.C_drewN ?_ _) | (with_reducible refine Kd.C_drew ?_))); (case side2 => exact HC0.out); rintro e w11 ⟨rfl, hb⟩; refine ⟨_, rfl, ?_⟩; have n0_ := Aside0.mk (below_step t1_ hb); clear HB; have HB := n0_; clear n0_; (try clear hb); (try clear hb2); (try clear hk); (try clear hi); have p207 : 0 ≤ (0 : Int) := t28_; have q207 : 0 < (l0.length : Int) := of_decide_eq_true t3_; obtain ⟨ad207, A207_0, c207_0, A207_1, c207_1, e207, hx207_0, hx207_1, hl207_0, hi207_0, hl207_1, hi207_1⟩ := at_T32 HR0.out 0 p207 q207; cases e207; have qi207 : (0 < l0.length) = True := eq_true t28_; (try rw [show ((0 : Int)).toNat = 0 from rfl] at hx207_0); (try rw [show 0 * 2 = 0 from rfl] at hx207_0); (try rw [Addr.add_zero'] at hx207_0); (try rw [show ((0 : Int)).toNat = 0 from rfl] at hx207_1); (try rw [show 0 * 2 = 0 from rfl] at hx207_1); (try rw [Addr.add_zero'] at hx207_1); replace hx207_0 := (HB.out.cell (World.block_lt_of_cell? w _ hx207_0)).trans hx207_0; replace hx207_1 := (HB.out.cell (World.block_lt_of_cell? w _ hx207_1)).trans hx207_1; have HR207_0 := Aside0.mk hi207_0; have HC207_0 := Aside0.mk hl207_0; clear hi207_0 hl207_0; have HR207_1 := Aside0.mk hi207_1; have HC207_1 := Aside0.mk hl207_1; clear hi207_1 hl207_1; replace p207 := eq_true p207; replace q207 := eq_true q207) | ((with_reducible refine gate_callee (f := 87) rfl ?_); refine goesL_ (some 17) rfl rfl Try.func87 t14_ rfl #[.slice A1 l1.length c1, .int .i64 0, .int .i64 (wrap64 ((((rd_T32 l0 0).f0).length : Int) - 1))] rfl t2_ ?_; (with_reducible refine (spec_l00Rises.calls k _ _ l1 0 (wrap64 ((((rd_T32 l0 0).f0).length : Int) - 1)) true _ ?side1 ?side2 A7.out).mono ?_); (case side1 => repeat (first | exact (Kd.C_below HR1.out HB.out) | (with_reducible refine Kd.C_alloc ?_ _) | (with_reducible refine Kd.C_drewN ?_ _) | (with_reducible refine Kd.C_drew ?_))); (case side2 => exact HC1.out); rintro e w' ⟨rfl, ⟨nd, rfl⟩⟩; refine ⟨_, rfl, ?_⟩) | (go_at_call 88; (with_reducible refine (spec_l04Closed.calls k _ c0 l0 _ _ l2 true _ ?side1 ?side2 ?side3 ?side4 A9.out).mono ?_); (case side1 => repeat (first | exact (Kd.C_below HR0.out t1_) | (with_reducible refine Kd.C_alloc ?_ _) | (with_reducible refine Kd.C_drewN ?_ _) | (with_reducible refine Kd.C_drew ?_))); (case side2 => exact HC0.out); (case side3 => repeat (first | exact (Kd.C_below HR2.out t1_) | (with_reducible refine Kd.C_alloc ?_ _) | (with_reducible refine Kd.C_drewN ?_ _) | (with_reducible refine Kd.C_drew ?_))); (case side4 => exact HC2.out); rintro e w' ⟨rfl, ⟨nd, rfl⟩⟩))
     go_ret
     exact ⟨t5_, t1_⟩
    ·replace c10 := Bool.eq_false_iff.mpr c10
     subst c10
     have H1 : (some 7) = some r := by rw [if_neg (show ¬ (false = true) by decide)] at H; exact H
     clear H
     have H := H1
     clear H1
     obtain rfl := Option.some.inj H
     go_enter Try.func56, Try.ntmps56
     go_wp2_with (first | ((with_reducible refine gate_callee (f := 54) rfl ?_); refine goesL_ (some 8) rfl rfl Try.func54 t14_ rfl #[.pointer A0] rfl t2_ ?_; (with_reducible refine (spec_l04Ok.calls k _ c0 l0 true _ ?side1 ?side2 A4.out).mono ?_); (case side1 => repeat (first | exact HR0.out | (with_reducible refine Kd.C_alloc ?_ _) | (with_reducible refine Kd.C_drewN ?_ _) | (with_reducible refine Kd.C_drew ?_))); (case side2 => exact HC0.out); rintro e w12 ⟨rfl, hb⟩; refine ⟨_, rfl, ?_⟩; have n0_ := Aside0.mk (below_step t1_ hb); clear HB; have HB := n0_; clear n0_; (try clear hb); (try clear hb2); (try clear hk); (try clear hi); have p207 : 0 ≤ (0 : Int) := t28_; have q207 : 0 < (l0.length : Int) := of_decide_eq_true t3_; obtain ⟨ad207, A207_0, c207_0, A207_1, c207_1, e207, hx207_0, hx207_1, hl207_0, hi207_0, hl207_1, hi207_1⟩ := at_T32 HR0.out 0 p207 q207; cases e207; have qi207 : (0 < l0.length) = True := eq_true t28_; (try rw [show ((0 : Int)).toNat = 0 from rfl] at hx207_0); (try rw [show 0 * 2 = 0 from rfl] at hx207_0); (try rw [Addr.add_zero'] at hx207_0); (try rw [show ((0 : Int)).toNat = 0 from rfl] at hx207_1); (try rw [show 0 * 2 = 0 from rfl] at hx207_1); (try rw [Addr.add_zero'] at hx207_1); replace hx207_0 := (HB.out.cell (World.block_lt_of_cell? w _ hx207_0)).trans hx207_0; replace hx207_1 := (HB.out.cell (World.block_lt_of_cell? w _ hx207_1)).trans hx207_1; have HR207_0 := Aside0.mk hi207_0; have HC207_0 := Aside0.mk hl207_0; clear hi207_0 hl207_0; have HR207_1 := Aside0.mk hi207_1; have HC207_1 := Aside0.mk hl207_1; clear hi207_1 hl207_1; replace p207 := eq_true p207; replace q207 := eq_true q207) | ((with_reducible refine gate_callee (f := 87) rfl ?_); refine goesL_ (some 17) rfl rfl Try.func87 t14_ rfl #[.slice A1 l1.length c1, .int .i64 0, .int .i64 (wrap64 ((((rd_T32 l0 0).f0).length : Int) - 1))] rfl t2_ ?_; (with_reducible refine (spec_l00Rises.calls k _ _ l1 0 (wrap64 ((((rd_T32 l0 0).f0).length : Int) - 1)) true _ ?side1 ?side2 A7.out).mono ?_); (case side1 => repeat (first | exact (Kd.C_below HR1.out HB.out) | (with_reducible refine Kd.C_alloc ?_ _) | (with_reducible refine Kd.C_drewN ?_ _) | (with_reducible refine Kd.C_drew ?_))); (case side2 => exact HC1.out); rintro e w' ⟨rfl, ⟨nd, rfl⟩⟩; refine ⟨_, rfl, ?_⟩) | (go_at_call 88; (with_reducible refine (spec_l04Closed.calls k _ c0 l0 _ _ l2 false _ ?side1 ?side2 ?side3 ?side4 A9.out).mono ?_); (case side1 => repeat (first | exact (Kd.C_below HR0.out t1_) | (with_reducible refine Kd.C_alloc ?_ _) | (with_reducible refine Kd.C_drewN ?_ _) | (with_reducible refine Kd.C_drew ?_))); (case side2 => exact HC0.out); (case side3 => repeat (first | exact (Kd.C_below HR2.out t1_) | (with_reducible refine Kd.C_alloc ?_ _) | (with_reducible refine Kd.C_drewN ?_ _) | (with_reducible refine Kd.C_drew ?_))); (case side4 => exact HC2.out); rintro e w' ⟨rfl, ⟨nd, rfl⟩⟩))
     go_ret
     exact ⟨t5_, t1_⟩
   ·replace c8 := Bool.eq_false_iff.mpr c8
    subst c8
    have H1 : (some 7) = some r := by rw [if_neg (show ¬ (false = true) by decide)] at H; exact H
    clear H
    have H := H1
    clear H1
    obtain rfl := Option.some.inj H
    go_enter Try.func56, Try.ntmps56
    go_wp2_with (first | ((with_reducible refine gate_callee (f := 54) rfl ?_); refine goesL_ (some 8) rfl rfl Try.func54 t14_ rfl #[.pointer A0] rfl t2_ ?_; (with_reducible refine (spec_l04Ok.calls k _ c0 l0 true _ ?side1 ?side2 A4.out).mono ?_); (case side1 => repeat (first | exact HR0.out | (with_reducible refine Kd.C_alloc ?_ _) | (with_reducible refine Kd.C_drewN ?_ _) | (with_reducible refine Kd.C_drew ?_))); (case side2 => exact HC0.out); rintro e w13 ⟨rfl, hb⟩; refine ⟨_, rfl, ?_⟩; have n0_ := Aside0.mk (below_step t1_ hb); clear HB; have HB := n0_; clear n0_; (try clear hb); (try clear hb2); (try clear hk); (try clear hi); have p207 : 0 ≤ (0 : Int) := t28_; have q207 : 0 < (l0.length : Int) := of_decide_eq_true t3_; obtain ⟨ad207, A207_0, c207_0, A207_1, c207_1, e207, hx207_0, hx207_1, hl207_0, hi207_0, hl207_1, hi207_1⟩ := at_T32 HR0.out 0 p207 q207; cases e207; have qi207 : (0 < l0.length) = True := eq_true t28_; (try rw [show ((0 : Int)).toNat = 0 from rfl] at hx207_0); (try rw [show 0 * 2 = 0 from rfl] at hx207_0); (try rw [Addr.add_zero'] at hx207_0); (try rw [show ((0 : Int)).toNat = 0 from rfl] at hx207_1); (try rw [show 0 * 2 = 0 from rfl] at hx207_1); (try rw [Addr.add_zero'] at hx207_1); replace hx207_0 := (HB.out.cell (World.block_lt_of_cell? w _ hx207_0)).trans hx207_0; replace hx207_1 := (HB.out.cell (World.block_lt_of_cell? w _ hx207_1)).trans hx207_1; have HR207_0 := Aside0.mk hi207_0; have HC207_0 := Aside0.mk hl207_0; clear hi207_0 hl207_0; have HR207_1 := Aside0.mk hi207_1; have HC207_1 := Aside0.mk hl207_1; clear hi207_1 hl207_1; replace p207 := eq_true p207; replace q207 := eq_true q207) | ((with_reducible refine gate_callee (f := 87) rfl ?_); refine goesL_ (some 17) rfl rfl Try.func87 t14_ rfl #[.slice A1 l1.length c1, .int .i64 0, .int .i64 (wrap64 ((((rd_T32 l0 0).f0).length : Int) - 1))] rfl t2_ ?_; (with_reducible refine (spec_l00Rises.calls k _ _ l1 0 (wrap64 ((((rd_T32 l0 0).f0).length : Int) - 1)) false _ ?side1 ?side2 A7.out).mono ?_); (case side1 => repeat (first | exact (Kd.C_below HR1.out HB.out) | (with_reducible refine Kd.C_alloc ?_ _) | (with_reducible refine Kd.C_drewN ?_ _) | (with_reducible refine Kd.C_drew ?_))); (case side2 => exact HC1.out); rintro e w' ⟨rfl, ⟨nd, rfl⟩⟩; refine ⟨_, rfl, ?_⟩))
    go_ret
    exact ⟨t5_, t1_⟩
  ·rw [if_neg c6] at H
   exact absurd H t44_
 ·replace c5 := Bool.eq_false_iff.mpr c5
  subst c5
  have H1 : (some 1) = some r := by rw [if_neg (show ¬ (false = true) by decide)] at H; exact H
  clear H
  have H := H1
  clear H1
  obtain rfl := Option.some.inj H
  go_enter Try.func56, Try.ntmps56
  go_wp2_with (first | ((with_reducible refine gate_callee (f := 54) rfl ?_); refine goesL_ (some 8) rfl rfl Try.func54 t14_ rfl #[.pointer A0] rfl t2_ ?_; (with_reducible refine (spec_l04Ok.calls k _ c0 l0 false _ ?side1 ?side2 A4.out).mono ?_); (case side1 => repeat (first | exact HR0.out | (with_reducible refine Kd.C_alloc ?_ _) | (with_reducible refine Kd.C_drewN ?_ _) | (with_reducible refine Kd.C_drew ?_))); (case side2 => exact HC0.out); rintro e w14 ⟨rfl, hb⟩; refine ⟨_, rfl, ?_⟩; have n0_ := Aside0.mk (below_step t1_ hb); clear HB; have HB := n0_; clear n0_; (try clear hb); (try clear hb2); (try clear hk); (try clear hi)))
  go_ret
  exact ⟨t5_, t1_⟩

/-! ### spec_l00Has: function 57 -/
def spec_l00Has.l0 : Nat → List Int → Int → Int → Option (Bool)
 | 0, _, _, _ => none
 | k + 1, x0, x1, x5 => if x5 < (x0.length : Int) then (if 0 ≤ x5 then (if (rd x0 x5) = x1 then (some true) else (spec_l00Has.l0 k x0 x1 (wrap64 (x5 + 1)))) else (none)) else (some false)
def spec_l00Has.f (k : Nat) (l0 : List Int) (a1 : Int) : Option (Bool) := spec_l00Has.l0 k l0 a1 0
theorem spec_l00Has.mono_l : ∀ k, (∀ y0 y1 y2, LeO (spec_l00Has.l0 k y0 y1 y2) (spec_l00Has.l0 (k + 1) y0 y1 y2))
 | 0 => fun _ _ _ r h => by simp [spec_l00Has.l0] at h
 | k + 1 => by
  have ih0 := spec_l00Has.mono_l k
  ·intro y0 y1 y2
   unfold spec_l00Has.l0
   repeat' first
   | (with_reducible exact ih0 _ _ _)
   | (with_reducible exact LeO.refl _)
   | (with_reducible exact LeO.none _)
   | (with_reducible refine LeO.ite ?_ ?_)
   | (with_reducible refine LeO.bind ?_ (fun _ => ?_))
   | exact ih0 _ _ _
   | exact LeO.none _
   | refine LeO.ite ?_ ?_
   | refine LeO.bind ?_ (fun _ => ?_)
theorem spec_l00Has.mono : ∀ a0 a1 k, LeO (spec_l00Has.f k a0 a1) (spec_l00Has.f (k + 1) a0 a1) := by
 intro a0 a1 k
 have ih0 := spec_l00Has.mono_l k
 unfold spec_l00Has.f
 repeat' first
   | (with_reducible exact ih0 _ _ _)
   | (with_reducible exact LeO.refl _)
   | (with_reducible exact LeO.none _)
   | (with_reducible refine LeO.ite ?_ ?_)
   | (with_reducible refine LeO.bind ?_ (fun _ => ?_))
   | exact ih0 _ _ _
   | exact LeO.none _
   | refine LeO.ite ?_ ?_
   | refine LeO.bind ?_ (fun _ => ?_)
set_option maxHeartbeats 8000000 in
set_option maxRecDepth 100000 in
theorem spec_l00Has.calls (k : Nat) (A0 : Option Addr) (c0 : Nat) (l0 : List Int) (a1 : Int) (r : Bool) (w : World) (hr0 : Kd.C (Kd.int .i64) w A0 l0.length l0) (hc0 : l0.length ≤ c0) (h : spec_l00Has.f k l0 a1 = some r) :
  Calls Try.prog 57 #[.slice A0 l0.length c0, .int .i64 a1] w fun e w' => e = .returned (.bool r) ∧ Drawn0 w w' := by
 have HR0 := Aside0.mk hr0
 have HC0 := Aside0.mk hc0
 clear hr0 hc0
 have H : (spec_l00Has.l0 k l0 a1 0) = some r := h
 clear h
 have H' := Aside0.mk H
 clear H
 go_enter Try.func57, Try.ntmps57
 go_wp2
 go_loopg [5] k (fun kq v5 w' => ∃ (x5_1 : Int), v5 = .int .i64 x5_1 ∧ Aside0 (spec_l00Has.l0 kq l0 a1 x5_1 = some r) ∧ Aside0 (kq ≤ k) ∧ Drawn0 w w')
 case atStart => exact ⟨(0), t6_, H', ⟨Nat.le_refl _⟩, t13_⟩
 case round =>
  clear H'
  try clear p2
  obtain ⟨x5_1, rfl, HA, HK1, ⟨m1, rfl⟩⟩ := hrel
  cases gk with
  | zero => exact absurd HA.out (by simp [spec_l00Has.l0])
  | succ k1 =>
   have H := HA.out
   clear HA
   simp only [spec_l00Has.l0] at H
   by_cases c3 : x5_1 < (l0.length : Int)
   ·rw [if_pos c3] at H
    have c3b0 : decide (x5_1 < (l0.length : Int)) = true := decide_eq_true c3
    clear c3
    by_cases c4 : 0 ≤ x5_1
    ·rw [if_pos c4] at H
     have c4b0 : decide (0 ≤ x5_1) = true := decide_eq_true c4
     clear c4
     by_cases c5 : (rd l0 x5_1) = a1
     ·rw [if_pos c5] at H
      have c5b0 : ((rd l0 x5_1) == a1) = true := beq_iff_eq.mpr c5
      have c5b1 : ((rd l0 x5_1) != a1) = false := bne_eq_false_iff_eq.mpr c5
      clear c5
      obtain rfl := Option.some.inj H
      have p210 : 0 ≤ (x5_1 : Int) := of_decide_eq_true t3_
      have q210 : x5_1 < (l0.length : Int) := of_decide_eq_true t3_
      obtain ⟨ad210, e210, hx210_0⟩ := Kd.at_int HR0.out x5_1 p210 q210
      cases e210
      replace p210 := eq_true p210
      replace q210 := eq_true q210
      go_wp2
      go_ret
      exact ⟨t6_, t13_⟩
     ·rw [if_neg c5] at H
      have c5b0 : ((rd l0 x5_1) == a1) = false := beq_eq_false_iff_ne.mpr c5
      have c5b1 : ((rd l0 x5_1) != a1) = true := bne_iff_ne.mpr c5
      have H' := Aside0.mk H
      clear H
      have p210 : 0 ≤ (x5_1 : Int) := of_decide_eq_true t3_
      have q210 : x5_1 < (l0.length : Int) := of_decide_eq_true t3_
      obtain ⟨ad210, e210, hx210_0⟩ := Kd.at_int HR0.out x5_1 p210 q210
      cases e210
      replace p210 := eq_true p210
      replace q210 := eq_true q210
      go_wp2
      go_roundg k1
      case measure => have := HK1.out; omega
      case rel => exact ⟨(wrap64 (x5_1 + 1)), t6_, H', ⟨t41_⟩, t13_⟩
    ·rw [if_neg c4] at H
     exact absurd H t44_
   ·rw [if_neg c3] at H
    have c3b0 : decide (x5_1 < (l0.length : Int)) = false := decide_eq_false c3
    clear c3
    obtain rfl := Option.some.inj H
    go_wp2
    go_ret
    exact ⟨t6_, t13_⟩

end Go.Proofs.Ytjelfhmgbhidnaa.PFnExactCriticalPipes
