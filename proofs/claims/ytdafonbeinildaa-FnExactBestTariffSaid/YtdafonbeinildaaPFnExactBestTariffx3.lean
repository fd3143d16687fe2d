-- written by wip/xprint.py, a program of this session, for this claim; not trusted: Lean checks it.
import Derived.Test.YtdafonbeinildaaPFnExactBestTariffx0
import Derived.Test.YtdafonbeinildaaPFnExactBestTariffx1
namespace Go.Proofs.Ytdafonbeinildaa.PFnExactBestTariff
open Go.RowKit Go.Proofs.YtdafonbeinildaaW.PrintWords Go.Proofs.YtdafonbeinildaaW.PrintLast Go.Proofs.YtdafonbeinildaaW.PrintMore
attribute [local go_sem] max2_int min2_int max_two min_two max_three min_three max_four min_four   -- for this text's walks alone
set_option linter.unusedVariables false
set_option linter.unusedSimpArgs false

/-! ### spec_l21Heat: function 53 -/
def spec_l21Heat.f (a0 : Int) : Option (Bool) := (spec_l00In.f a0 0 1000000).bind fun t134 => (some t134)
set_option maxHeartbeats 8000000 in
set_option maxRecDepth 100000 in
theorem spec_l21Heat.calls (a0 : Int) (r : Bool) (w : World) (h : spec_l21Heat.f a0 = some r) :
  Calls Try.prog 53 #[.int .i64 a0] w fun e w' => e = .returned (.bool r) ∧ Drawn0 w w' := by
 have H : ((spec_l00In.f a0 0 1000000).bind fun t134 => (some t134)) = some r := h
 clear h
 replace H := Option.bind_eq_some_iff.mp H
 obtain ⟨t134, A20, H⟩ := H
 replace H : (some t134) = some r := H
 have A2 := Aside0.mk A20
 clear A20
 obtain rfl := Option.some.inj H
 go_enter Try.func53, Try.ntmps53
 go_wp2_with (first | ((with_reducible refine gate_callee (f := 60) rfl ?_); refine goesL_ (some 4) rfl rfl Try.func60 (by kernel_rfl) rfl #[.int .i64 a0, .int .i64 0, .int .i64 1000000] rfl (by (try simp only [List.map_toArray, List.map_cons, List.map_nil]); first | done | rfl | (simp only [List.length_drop, List.length_take]; rfl)) ?_; (with_reducible refine (spec_l00In.calls a0 0 1000000 t134 _ A2.out).mono ?_); rintro e w' ⟨rfl, ⟨nd, rfl⟩⟩; refine ⟨_, rfl, ?_⟩))
 go_ret
 exact ⟨by first | rfl | (simp; done) | (simp [*]; done), by repeat (first | exact Drawn0.refl _ | apply Drawn0.step)⟩

/-! ### spec_l00Min: function 79 -/
def spec_l00Min.f (a0 : Int) (a1 : Int) : Option (Int) := if a0 < a1 then (some a0) else (some a1)
set_option maxHeartbeats 8000000 in
set_option maxRecDepth 100000 in
theorem spec_l00Min.calls (a0 : Int) (a1 : Int) (r : Int) (w : World) (h : spec_l00Min.f a0 a1 = some r) :
  Calls Try.prog 79 #[.int .i64 a0, .int .i64 a1] w fun e w' => e = .returned (.int .i64 r) ∧ Drawn0 w w' := by
 have H : (if a0 < a1 then (some a0) else (some a1)) = some r := h
 clear h
 by_cases c3 : a0 < a1
 ·rw [if_pos c3] at H
  have c3b0 : decide (a0 < a1) = true := decide_eq_true c3
  clear c3
  obtain rfl := Option.some.inj H
  go_enter Try.func79, Try.ntmps79
  go_wp2
  go_ret
  exact ⟨by first | rfl | (simp; done) | (simp [*]; done), by repeat (first | exact Drawn0.refl _ | apply Drawn0.step)⟩
 ·rw [if_neg c3] at H
  have c3b0 : decide (a0 < a1) = false := decide_eq_false c3
  clear c3
  obtain rfl := Option.some.inj H
  go_enter Try.func79, Try.ntmps79
  go_wp2
  go_ret
  exact ⟨by first | rfl | (simp; done) | (simp [*]; done), by repeat (first | exact Drawn0.refl _ | apply Drawn0.step)⟩

/-! ### spec_l00Max: function 80 -/
def spec_l00Max.f (a0 : Int) (a1 : Int) : Option (Int) := if a0 > a1 then (some a0) else (some a1)
set_option maxHeartbeats 8000000 in
set_option maxRecDepth 100000 in
theorem spec_l00Max.calls (a0 : Int) (a1 : Int) (r : Int) (w : World) (h : spec_l00Max.f a0 a1 = some r) :
  Calls Try.prog 80 #[.int .i64 a0, .int .i64 a1] w fun e w' => e = .returned (.int .i64 r) ∧ Drawn0 w w' := by
 have H : (if a0 > a1 then (some a0) else (some a1)) = some r := h
 clear h
 by_cases c3 : a0 > a1
 ·rw [if_pos c3] at H
  have c3b0 : decide (a1 < a0) = true := decide_eq_true c3
  clear c3
  obtain rfl := Option.some.inj H
  go_enter Try.func80, Try.ntmps80
  go_wp2
  go_ret
  exact ⟨by first | rfl | (simp; done) | (simp [*]; done), by repeat (first | exact Drawn0.refl _ | apply Drawn0.step)⟩
 ·rw [if_neg c3] at H
  have c3b0 : decide (a1 < a0) = false := decide_eq_false c3
  clear c3
  obtain rfl := Option.some.inj H
  go_enter Try.func80, Try.ntmps80
  go_wp2
  go_ret
  exact ⟨by first | rfl | (simp; done) | (simp [*]; done), by repeat (first | exact Drawn0.refl _ | apply Drawn0.step)⟩

/-! ### spec_l21Cost: function 55 -/
def spec_l21Cost.l0 : Nat → List (S27) → Int → Int → Int → Option (Int)
 | 0, _, _, _, _ => none
 | k + 1, x0, x1, x5, x6 => if 0 < (x0.length : Int) then (if x6 < (((rd_T27 x0 0).f3).length : Int) then (if (wrap64 (x6 + 1)) < (((rd_T27 x0 0).f3).length : Int) then (if 0 ≤ (wrap64 (x6 + 1)) then (if 0 < ((rd_L1 ((rd_T27 x0 0).f3) (wrap64 (x6 + 1))).length : Int) then ((spec_l00Min.f x1 (rd (rd_L1 ((rd_T27 x0 0).f3) (wrap64 (x6 + 1))) 0)).bind fun t140 => (if 0 ≤ x6 then (if 0 < ((rd_L1 ((rd_T27 x0 0).f3) x6).length : Int) then ((spec_l00Max.f 0 (wrap64 (t140 - (rd (rd_L1 ((rd_T27 x0 0).f3) x6) 0)))).bind fun t144 => (if 1 < ((rd_L1 ((rd_T27 x0 0).f3) x6).length : Int) then (spec_l21Cost.l0 k x0 x1 (wrap64 (x5 + (wrap64 (t144 * (rd (rd_L1 ((rd_T27 x0 0).f3) x6) 1))))) (wrap64 (x6 + 1))) else (none))) else (none)) else (none))) else (none)) else (none)) else (if 0 ≤ x6 then (if 0 < ((rd_L1 ((rd_T27 x0 0).f3) x6).length : Int) then ((spec_l00Max.f 0 (wrap64 (x1 - (rd (rd_L1 ((rd_T27 x0 0).f3) x6) 0)))).bind fun t151 => (if 1 < ((rd_L1 ((rd_T27 x0 0).f3) x6).length : Int) then (spec_l21Cost.l0 k x0 x1 (wrap64 (x5 + (wrap64 (t151 * (rd (rd_L1 ((rd_T27 x0 0).f3) x6) 1))))) (wrap64 (x6 + 1))) else (none))) else (none)) else (none))) else (some x5)) else (none)
def spec_l21Cost.f (k : Nat) (l0 : List (S27)) (a1 : Int) : Option (Int) := spec_l21Cost.l0 k l0 a1 0 0
theorem spec_l21Cost.mono_l : ∀ k, (∀ y0 y1 y2 y3, LeO (spec_l21Cost.l0 k y0 y1 y2 y3) (spec_l21Cost.l0 (k + 1) y0 y1 y2 y3))
 | 0 => fun _ _ _ _ r h => by simp [spec_l21Cost.l0] at h
 | k + 1 => by
  have ih0 := spec_l21Cost.mono_l k
  ·intro y0 y1 y2 y3
   unfold spec_l21Cost.l0
   repeat' first
   | (with_reducible exact ih0 _ _ _ _)
   | (with_reducible exact LeO.refl _)
   | (with_reducible exact LeO.none _)
   | (with_reducible refine LeO.ite ?_ ?_)
   | (with_reducible refine LeO.bind ?_ (fun _ => ?_))
   | exact ih0 _ _ _ _
   | exact LeO.none _
   | refine LeO.ite ?_ ?_
   | refine LeO.bind ?_ (fun _ => ?_)
theorem spec_l21Cost.mono : ∀ a0 a1 k, LeO (spec_l21Cost.f k a0 a1) (spec_l21Cost.f (k + 1) a0 a1) := by
 intro a0 a1 k
 have ih0 := spec_l21Cost.mono_l k
 unfold spec_l21Cost.f
 repeat' first
   | (with_reducible exact ih0 _ _ _ _)
   | (with_reducible exact LeO.refl _)
   | (with_reducible exact LeO.none _)
   | (with_reducible refine LeO.ite ?_ ?_)
   | (with_reducible refine LeO.bind ?_ (fun _ => ?_))
   | exact ih0 _ _ _ _
   | exact LeO.none _
   | refine LeO.ite ?_ ?_
   | refine LeO.bind ?_ (fun _ => ?_)
set_option maxHeartbeats 8000000 in
set_option maxRecDepth 100000 in
theorem spec_l21Cost.calls (k : Nat) (A0 : Option Addr) (c0 : Nat) (l0 : List (S27)) (a1 : Int) (r : Int) (w : World) (hr0 : Kd.C k27 w A0 l0.length l0) (hc0 : l0.length ≤ c0) (h : spec_l21Cost.f k l0 a1 = some r) :
  Calls Try.prog 55 #[.pointer A0, .int .i64 a1] w fun e w' => e = .returned (.int .i64 r) ∧ Drawn0 w w' := by
 have HR0 := Aside0.mk hr0
 have HC0 := Aside0.mk hc0
 clear hr0 hc0
 have H : (spec_l21Cost.l0 k l0 a1 0 0) = some r := h
 clear h
 have H' := Aside0.mk H
 clear H
 go_enter Try.func55, Try.ntmps55
 go_wp2
 repeat (go_quiet (fail); try go_wp2)
 go_loopg [5, 6] k (fun kq v5 v6 w' => ∃ (x5_1 : Int) (x6_1 : Int), v5 = .int .i64 x5_1 ∧ v6 = .int .i64 x6_1 ∧ Aside0 (spec_l21Cost.l0 kq l0 a1 x5_1 x6_1 = some r) ∧ Aside0 (kq ≤ k) ∧ Drawn0 w w')
 case atStart => exact ⟨(0), (0), (by first | rfl | (simp; done) | (simp [*]; done)), (by first | rfl | (simp; done) | (simp [*]; done)), H', ⟨Nat.le_refl _⟩, by repeat (first | exact Drawn0.refl _ | apply Drawn0.step)⟩
 case round =>
  clear H'
  try clear p2
  obtain ⟨x5_1, x6_1, rfl, rfl, HA, HK1, ⟨m1, rfl⟩⟩ := hrel
  cases gk with
  | zero => exact absurd HA.out (by simp [spec_l21Cost.l0])
  | succ k1 =>
   have H := HA.out
   clear HA
   simp only [spec_l21Cost.l0] at H
   by_cases c3 : 0 < (l0.length : Int)
   ·rw [if_pos c3] at H
    have c3b0 : decide (0 < (l0.length : Int)) = true := decide_eq_true c3
    have c3b1 : decide (0 < l0.length) = true := decide_eq_true (by omega)
    clear c3
    by_cases c4 : x6_1 < (((rd_T27 l0 0).f3).length : Int)
    ·rw [if_pos c4] at H
     have c4b0 : decide (x6_1 < (((rd_T27 l0 0).f3).length : Int)) = true := decide_eq_true c4
     clear c4
     by_cases c5 : (wrap64 (x6_1 + 1)) < (((rd_T27 l0 0).f3).length : Int)
     ·rw [if_pos c5] at H
      have c5b0 : decide ((wrap64 (x6_1 + 1)) < (((rd_T27 l0 0).f3).length : Int)) = true := decide_eq_true c5
      clear c5
      obtain ⟨ji6, hji6⟩ : ∃ j_ : Int, (wrap64 (x6_1 + 1)) = j_ := ⟨_, rfl⟩
      replace H : (if 0 ≤ (ji6) then (if 0 < ((rd_L1 ((rd_T27 l0 0).f3) (ji6)).length : Int) then ((spec_l00Min.f a1 (rd (rd_L1 ((rd_T27 l0 0).f3) (ji6)) 0)).bind fun t140 => (if 0 ≤ x6_1 then (if 0 < ((rd_L1 ((rd_T27 l0 0).f3) x6_1).length : Int) then ((spec_l00Max.f 0 (wrap64 (t140 - (rd (rd_L1 ((rd_T27 l0 0).f3) x6_1) 0)))).bind fun t144 => (if 1 < ((rd_L1 ((rd_T27 l0 0).f3) x6_1).length : Int) then (spec_l21Cost.l0 k1 l0 a1 (wrap64 (x5_1 + (wrap64 (t144 * (rd (rd_L1 ((rd_T27 l0 0).f3) x6_1) 1))))) ji6) else (none))) else (none)) else (none))) else (none)) else (none)) = some r := by first | (rw [hji6] at H; exact H) | (simp only [hji6] at H ⊢; exact H)
      (try rw [hji6] at c5b0)
      have hji6w : (IntKind.i64.wrap (x6_1 + 1)) = ji6 := (i64_w _).trans hji6
      by_cases c7 : 0 ≤ (ji6)
      ·rw [if_pos c7] at H
       have c7b0 : decide (0 ≤ (ji6)) = true := decide_eq_true c7
       clear c7
       by_cases c8 : 0 < ((rd_L1 ((rd_T27 l0 0).f3) (ji6)).length : Int)
       ·rw [if_pos c8] at H
        have c8b0 : decide (0 < ((rd_L1 ((rd_T27 l0 0).f3) (ji6)).length : Int)) = true := decide_eq_true c8
        have c8b1 : decide (0 < (rd_L1 ((rd_T27 l0 0).f3) (ji6)).length) = true := decide_eq_true (by omega)
        clear c8
        replace H := Option.bind_eq_some_iff.mp H
        obtain ⟨t140, A90, H⟩ := H
        replace H : (if 0 ≤ x6_1 then (if 0 < ((rd_L1 ((rd_T27 l0 0).f3) x6_1).length : Int) then ((spec_l00Max.f 0 (wrap64 (t140 - (rd (rd_L1 ((rd_T27 l0 0).f3) x6_1) 0)))).bind fun t144 => (if 1 < ((rd_L1 ((rd_T27 l0 0).f3) x6_1).length : Int) then (spec_l21Cost.l0 k1 l0 a1 (wrap64 (x5_1 + (wrap64 (t144 * (rd (rd_L1 ((rd_T27 l0 0).f3) x6_1) 1))))) ji6) else (none))) else (none)) else (none)) = some r := H
        have A9 := Aside0.mk A90
        clear A90
        by_cases c10 : 0 ≤ x6_1
        ·rw [if_pos c10] at H
         have c10b0 : decide (0 ≤ x6_1) = true := decide_eq_true c10
         clear c10
         by_cases c11 : 0 < ((rd_L1 ((rd_T27 l0 0).f3) x6_1).length : Int)
         ·rw [if_pos c11] at H
          have c11b0 : decide (0 < ((rd_L1 ((rd_T27 l0 0).f3) x6_1).length : Int)) = true := decide_eq_true c11
          have c11b1 : decide (0 < (rd_L1 ((rd_T27 l0 0).f3) x6_1).length) = true := decide_eq_true (by omega)
          clear c11
          replace H := Option.bind_eq_some_iff.mp H
          obtain ⟨t144, A120, H⟩ := H
          replace H : (if 1 < ((rd_L1 ((rd_T27 l0 0).f3) x6_1).length : Int) then (spec_l21Cost.l0 k1 l0 a1 (wrap64 (x5_1 + (wrap64 (t144 * (rd (rd_L1 ((rd_T27 l0 0).f3) x6_1) 1))))) ji6) else (none)) = some r := H
          have A12 := Aside0.mk A120
          clear A120
          by_cases c13 : 1 < ((rd_L1 ((rd_T27 l0 0).f3) x6_1).length : Int)
          ·rw [if_pos c13] at H
           have c13b0 : decide (1 < ((rd_L1 ((rd_T27 l0 0).f3) x6_1).length : Int)) = true := decide_eq_true c13
           have c13b1 : decide (1 < (rd_L1 ((rd_T27 l0 0).f3) x6_1).length) = true := decide_eq_true (by omega)
           clear c13
           have H' := Aside0.mk H
           clear H
           have p135 : 0 ≤ (0 : Int) := (by omega)
           have q135 : 0 < (l0.length : Int) := of_decide_eq_true (by first | (with_reducible assumption) | assumption)
           obtain ⟨ad135, A135_3, c135_3, e135, hx135_0, hx135_1, hx135_2, hx135_3, hl135_3, hi135_3⟩ := at_T27 HR0.out 0 p135 q135
           cases e135
           have qi135 : (0 < l0.length) = True := eq_true (by omega)
           (try rw [show ((0 : Int)).toNat = 0 from rfl] at hx135_0)
           (try rw [show 0 * 4 = 0 from rfl] at hx135_0)
           (try rw [Addr.add_zero'] at hx135_0)
           (try rw [show ((0 : Int)).toNat = 0 from rfl] at hx135_1)
           (try rw [show 0 * 4 = 0 from rfl] at hx135_1)
           (try rw [Addr.add_zero'] at hx135_1)
           (try rw [show ((0 : Int)).toNat = 0 from rfl] at hx135_2)
           (try rw [show 0 * 4 = 0 from rfl] at hx135_2)
           (try rw [Addr.add_zero'] at hx135_2)
           (try rw [show ((0 : Int)).toNat = 0 from rfl] at hx135_3)
           (try rw [show 0 * 4 = 0 from rfl] at hx135_3)
           (try rw [Addr.add_zero'] at hx135_3)
           have HR135_3 := Aside0.mk hi135_3
           have HC135_3 := Aside0.mk hl135_3
           clear hi135_3 hl135_3
           replace p135 := eq_true p135
           replace q135 := eq_true q135
           have p136 : 0 ≤ (0 : Int) := (by omega)
           have q136 : 0 < (l0.length : Int) := of_decide_eq_true (by first | (with_reducible assumption) | assumption)
           obtain ⟨ad136, A136_3, c136_3, e136, hx136_0, hx136_1, hx136_2, hx136_3, hl136_3, hi136_3⟩ := at_T27 HR0.out 0 p136 q136
           obtain rfl : ad135 = ad136 := (by injection e136)
           have qi136 : (0 < l0.length) = True := eq_true (by omega)
           (try rw [show ((0 : Int)).toNat = 0 from rfl] at hx136_0)
           (try rw [show 0 * 4 = 0 from rfl] at hx136_0)
           (try rw [Addr.add_zero'] at hx136_0)
           (try rw [show ((0 : Int)).toNat = 0 from rfl] at hx136_1)
           (try rw [show 0 * 4 = 0 from rfl] at hx136_1)
           (try rw [Addr.add_zero'] at hx136_1)
           (try rw [show ((0 : Int)).toNat = 0 from rfl] at hx136_2)
           (try rw [show 0 * 4 = 0 from rfl] at hx136_2)
           (try rw [Addr.add_zero'] at hx136_2)
           (try rw [show ((0 : Int)).toNat = 0 from rfl] at hx136_3)
           (try rw [show 0 * 4 = 0 from rfl] at hx136_3)
           (try rw [Addr.add_zero'] at hx136_3)
           have HR136_3 := Aside0.mk hi136_3
           have HC136_3 := Aside0.mk hl136_3
           clear hi136_3 hl136_3
           replace p136 := eq_true p136
           replace q136 := eq_true q136
           have ea_ := Option.some.inj (hx135_3.symm.trans hx136_3)
           injection ea_ with ea_ en_ ec_
           subst ea_
           subst ec_
           clear en_
           have p137 : 0 ≤ (0 : Int) := (by omega)
           have q137 : 0 < (l0.length : Int) := of_decide_eq_true (by first | (with_reducible assumption) | assumption)
           obtain ⟨ad137, A137_3, c137_3, e137, hx137_0, hx137_1, hx137_2, hx137_3, hl137_3, hi137_3⟩ := at_T27 HR0.out 0 p137 q137
           obtain rfl : ad135 = ad137 := (by injection e137)
           have qi137 : (0 < l0.length) = True := eq_true (by omega)
           (try rw [show ((0 : Int)).toNat = 0 from rfl] at hx137_0)
           (try rw [show 0 * 4 = 0 from rfl] at hx137_0)
           (try rw [Addr.add_zero'] at hx137_0)
           (try rw [show ((0 : Int)).toNat = 0 from rfl] at hx137_1)
           (try rw [show 0 * 4 = 0 from rfl] at hx137_1)
           (try rw [Addr.add_zero'] at hx137_1)
           (try rw [show ((0 : Int)).toNat = 0 from rfl] at hx137_2)
           (try rw [show 0 * 4 = 0 from rfl] at hx137_2)
           (try rw [Addr.add_zero'] at hx137_2)
           (try rw [show ((0 : Int)).toNat = 0 from rfl] at hx137_3)
           (try rw [show 0 * 4 = 0 from rfl] at hx137_3)
           (try rw [Addr.add_zero'] at hx137_3)
           have HR137_3 := Aside0.mk hi137_3
           have HC137_3 := Aside0.mk hl137_3
           clear hi137_3 hl137_3
           replace p137 := eq_true p137
           replace q137 := eq_true q137
           have ea_ := Option.some.inj (hx135_3.symm.trans hx137_3)
           injection ea_ with ea_ en_ ec_
           subst ea_
           subst ec_
           clear en_
           have p138 : 0 ≤ ((ji6) : Int) := of_decide_eq_true (by first | (with_reducible assumption) | assumption)
           have q138 : (ji6) < (((rd_T27 l0 0).f3).length : Int) := of_decide_eq_true (by first | (with_reducible assumption) | assumption)
           obtain ⟨ad138, A138_0, c138_0, e138, hx138_0, hl138_0, hi138_0⟩ := at_L1 HR137_3.out (ji6) p138 q138
           cases e138
           have HR138_0 := Aside0.mk hi138_0
           have HC138_0 := Aside0.mk hl138_0
           clear hi138_0 hl138_0
           replace p138 := eq_true p138
           replace q138 := eq_true q138
           have p139 : 0 ≤ (0 : Int) := (by omega)
           have q139 : 0 < ((rd_L1 ((rd_T27 l0 0).f3) (ji6)).length : Int) := of_decide_eq_true (by first | (with_reducible assumption) | assumption)
           obtain ⟨ad139, e139, hx139_0⟩ := Kd.at_int HR138_0.out 0 p139 q139
           cases e139
           have qi139 : (0 < (rd_L1 ((rd_T27 l0 0).f3) (ji6)).length) = True := eq_true (by omega)
           (try rw [show ((0 : Int)).toNat = 0 from rfl] at hx139_0)
           (try rw [Addr.add_zero'] at hx139_0)
           replace p139 := eq_true p139
           replace q139 := eq_true q139
           go_wp2_with (first | (go_at_call 79; (with_reducible refine (spec_l00Min.calls a1 (rd (rd_L1 ((rd_T27 l0 0).f3) (ji6)) 0) t140 _ A9.out).mono ?_); rintro e w' ⟨rfl, ⟨nd, rfl⟩⟩; (try first | exact ⟨rfl, _, World.drewN_drewN _ _ _⟩ | exact ⟨rfl, _, Eq.trans (World.drewN_drewN _ _ _) (congrArg (World.drewN _) (Nat.add_assoc _ _ _))⟩); (try (have p141 : 0 ≤ (0 : Int) := (by omega); have q141 : 0 < (l0.length : Int) := of_decide_eq_true (by first | (with_reducible assumption) | assumption); obtain ⟨ad141, A141_3, c141_3, e141, hx141_0, hx141_1, hx141_2, hx141_3, hl141_3, hi141_3⟩ := at_T27 HR0.out 0 p141 q141; obtain rfl : ad135 = ad141 := (by injection e141); have qi141 : (0 < l0.length) = True := eq_true (by omega); (try rw [show ((0 : Int)).toNat = 0 from rfl] at hx141_0); (try rw [show 0 * 4 = 0 from rfl] at hx141_0); (try rw [Addr.add_zero'] at hx141_0); (try rw [show ((0 : Int)).toNat = 0 from rfl] at hx141_1); (try rw [show 0 * 4 = 0 from rfl] at hx141_1); (try rw [Addr.add_zero'] at hx141_1); (try rw [show ((0 : Int)).toNat = 0 from rfl] at hx141_2); (try rw [show 0 * 4 = 0 from rfl] at hx141_2); (try rw [Addr.add_zero'] at hx141_2); (try rw [show ((0 : Int)).toNat = 0 from rfl] at hx141_3); (try rw [show 0 * 4 = 0 from rfl] at hx141_3); (try rw [Addr.add_zero'] at hx141_3); have HR141_3 := Aside0.mk hi141_3; have HC141_3 := Aside0.mk hl141_3; clear hi141_3 hl141_3; replace p141 := eq_true p141; replace q141 := eq_true q141; have ea_ := Option.some.inj (hx135_3.symm.trans hx141_3); injection ea_ with ea_ en_ ec_; subst ea_; subst ec_; clear en_; have p142 : 0 ≤ (x6_1 : Int) := of_decide_eq_true (by first | (with_reducible assumption) | assumption); have q142 : x6_1 < (((rd_T27 l0 0).f3).length : Int) := of_decide_eq_true (by first | (with_reducible assumption) | assumption); obtain ⟨ad142, A142_0, c142_0, e142, hx142_0, hl142_0, hi142_0⟩ := at_L1 HR141_3.out x6_1 p142 q142; cases e142; have HR142_0 := Aside0.mk hi142_0; have HC142_0 := Aside0.mk hl142_0; clear hi142_0 hl142_0; replace p142 := eq_true p142; replace q142 := eq_true q142; have p143 : 0 ≤ (0 : Int) := (by omega); have q143 : 0 < ((rd_L1 ((rd_T27 l0 0).f3) x6_1).length : Int) := of_decide_eq_true (by first | (with_reducible assumption) | assumption); obtain ⟨ad143, e143, hx143_0⟩ := Kd.at_int HR142_0.out 0 p143 q143; cases e143; have qi143 : (0 < (rd_L1 ((rd_T27 l0 0).f3) x6_1).length) = True := eq_true (by omega); (try rw [show ((0 : Int)).toNat = 0 from rfl] at hx143_0); (try rw [Addr.add_zero'] at hx143_0); replace p143 := eq_true p143; replace q143 := eq_true q143))) | (go_at_call 80; (with_reducible refine (spec_l00Max.calls 0 (wrap64 (t140 - (rd (rd_L1 ((rd_T27 l0 0).f3) x6_1) 0))) t144 _ A12.out).mono ?_); rintro e w' ⟨rfl, ⟨nd, rfl⟩⟩; (try first | exact ⟨rfl, _, World.drewN_drewN _ _ _⟩ | exact ⟨rfl, _, Eq.trans (World.drewN_drewN _ _ _) (congrArg (World.drewN _) (Nat.add_assoc _ _ _))⟩); (try (have p145 : 0 ≤ (0 : Int) := (by omega); have q145 : 0 < (l0.length : Int) := of_decide_eq_true (by first | (with_reducible assumption) | assumption); obtain ⟨ad145, A145_3, c145_3, e145, hx145_0, hx145_1, hx145_2, hx145_3, hl145_3, hi145_3⟩ := at_T27 HR0.out 0 p145 q145; obtain rfl : ad135 = ad145 := (by injection e145); have qi145 : (0 < l0.length) = True := eq_true (by omega); (try rw [show ((0 : Int)).toNat = 0 from rfl] at hx145_0); (try rw [show 0 * 4 = 0 from rfl] at hx145_0); (try rw [Addr.add_zero'] at hx145_0); (try rw [show ((0 : Int)).toNat = 0 from rfl] at hx145_1); (try rw [show 0 * 4 = 0 from rfl] at hx145_1); (try rw [Addr.add_zero'] at hx145_1); (try rw [show ((0 : Int)).toNat = 0 from rfl] at hx145_2); (try rw [show 0 * 4 = 0 from rfl] at hx145_2); (try rw [Addr.add_zero'] at hx145_2); (try rw [show ((0 : Int)).toNat = 0 from rfl] at hx145_3); (try rw [show 0 * 4 = 0 from rfl] at hx145_3); (try rw [Addr.add_zero'] at hx145_3); have HR145_3 := Aside0.mk hi145_3; have HC145_3 := Aside0.mk hl145_3; clear hi145_3 hl145_3; replace p145 := eq_true p145; replace q145 := eq_true q145; have ea_ := Option.some.inj (hx135_3.symm.trans hx145_3); injection ea_ with ea_ en_ ec_; subst ea_; subst ec_; clear en_; have p146 : 0 ≤ (x6_1 : Int) := of_decide_eq_true (by first | (with_reducible assumption) | assumption); have q146 : x6_1 < (((rd_T27 l0 0).f3).length : Int) := of_decide_eq_true (by first | (with_reducible assumption) | assumption); obtain ⟨ad146, A146_0, c146_0, e146, hx146_0, hl146_0, hi146_0⟩ := at_L1 HR145_3.out x6_1 p146 q146; cases e146; have HR146_0 := Aside0.mk hi146_0; have HC146_0 := Aside0.mk hl146_0; clear hi146_0 hl146_0; replace p146 := eq_true p146; replace q146 := eq_true q146; have p147 : 0 ≤ (1 : Int) := (by omega); have q147 : 1 < ((rd_L1 ((rd_T27 l0 0).f3) x6_1).length : Int) := of_decide_eq_true (by first | (with_reducible assumption) | assumption); obtain ⟨ad147, e147, hx147_0⟩ := Kd.at_int HR146_0.out 1 p147 q147; cases e147; (try simp only [show (1 : Int).toNat = 1 from rfl, Nat.reduceMul, Nat.reduceEqDiff, Go.Addr.add, ↓reduceIte] at hx147_0); have qi147 : (1 < (rd_L1 ((rd_T27 l0 0).f3) x6_1).length) = True := eq_true (by omega); (try rw [show ((1 : Int)).toNat = 1 from rfl] at hx147_0); replace p147 := eq_true p147; replace q147 := eq_true q147))))
           (first | (have h_ := q143; clear h_) | (try (have p141 : 0 ≤ (0 : Int) := (by omega); have q141 : 0 < (l0.length : Int) := of_decide_eq_true (by first | (with_reducible assumption) | assumption); obtain ⟨ad141, A141_3, c141_3, e141, hx141_0, hx141_1, hx141_2, hx141_3, hl141_3, hi141_3⟩ := at_T27 HR0.out 0 p141 q141; obtain rfl : ad135 = ad141 := (by injection e141); have qi141 : (0 < l0.length) = True := eq_true (by omega); (try rw [show ((0 : Int)).toNat = 0 from rfl] at hx141_0); (try rw [show 0 * 4 = 0 from rfl] at hx141_0); (try rw [Addr.add_zero'] at hx141_0); (try rw [show ((0 : Int)).toNat = 0 from rfl] at hx141_1); (try rw [show 0 * 4 = 0 from rfl] at hx141_1); (try rw [Addr.add_zero'] at hx141_1); (try rw [show ((0 : Int)).toNat = 0 from rfl] at hx141_2); (try rw [show 0 * 4 = 0 from rfl] at hx141_2); (try rw [Addr.add_zero'] at hx141_2); (try rw [show ((0 : Int)).toNat = 0 from rfl] at hx141_3); (try rw [show 0 * 4 = 0 from rfl] at hx141_3); (try rw [Addr.add_zero'] at hx141_3); have HR141_3 := Aside0.mk hi141_3; have HC141_3 := Aside0.mk hl141_3; clear hi141_3 hl141_3; replace p141 := eq_true p141; replace q141 := eq_true q141; have ea_ := Option.some.inj (hx135_3.symm.trans hx141_3); injection ea_ with ea_ en_ ec_; subst ea_; subst ec_; clear en_; have p142 : 0 ≤ (x6_1 : Int) := of_decide_eq_true (by first | (with_reducible assumption) | assumption); have q142 : x6_1 < (((rd_T27 l0 0).f3).length : Int) := of_decide_eq_true (by first | (with_reducible assumption) | assumption); obtain ⟨ad142, A142_0, c142_0, e142, hx142_0, hl142_0, hi142_0⟩ := at_L1 HR141_3.out x6_1 p142 q142; cases e142; have HR142_0 := Aside0.mk hi142_0; have HC142_0 := Aside0.mk hl142_0; clear hi142_0 hl142_0; replace p142 := eq_true p142; replace q142 := eq_true q142; have p143 : 0 ≤ (0 : Int) := (by omega); have q143 : 0 < ((rd_L1 ((rd_T27 l0 0).f3) x6_1).length : Int) := of_decide_eq_true (by first | (with_reducible assumption) | assumption); obtain ⟨ad143, e143, hx143_0⟩ := Kd.at_int HR142_0.out 0 p143 q143; cases e143; have qi143 : (0 < (rd_L1 ((rd_T27 l0 0).f3) x6_1).length) = True := eq_true (by omega); (try rw [show ((0 : Int)).toNat = 0 from rfl] at hx143_0); (try rw [Addr.add_zero'] at hx143_0); replace p143 := eq_true p143; replace q143 := eq_true q143))); (first | (have h_ := q147; clear h_) | (try (have p145 : 0 ≤ (0 : Int) := (by omega); have q145 : 0 < (l0.length : Int) := of_decide_eq_true (by first | (with_reducible assumption) | assumption); obtain ⟨ad145, A145_3, c145_3, e145, hx145_0, hx145_1, hx145_2, hx145_3, hl145_3, hi145_3⟩ := at_T27 HR0.out 0 p145 q145; obtain rfl : ad135 = ad145 := (by injection e145); have qi145 : (0 < l0.length) = True := eq_true (by omega); (try rw [show ((0 : Int)).toNat = 0 from rfl] at hx145_0); (try rw [show 0 * 4 = 0 from rfl] at hx145_0); (try rw [Addr.add_zero'] at hx145_0); (try rw [show ((0 : Int)).toNat = 0 from rfl] at hx145_1); (try rw [show 0 * 4 = 0 from rfl] at hx145_1); (try rw [Addr.add_zero'] at hx145_1); (try rw [show ((0 : Int)).toNat = 0 from rfl] at hx145_2); (try rw [show 0 * 4 = 0 from rfl] at hx145_2); (try rw [Addr.add_zero'] at hx145_2); (try rw [show ((0 : Int)).toNat = 0 from rfl] at hx145_3); (try rw [show 0 * 4 = 0 from rfl] at hx145_3); (try rw [Addr.add_zero'] at hx145_3); have HR145_3 := Aside0.mk hi145_3; have HC145_3 := Aside0.mk hl145_3; clear hi145_3 hl145_3; replace p145 := eq_true p145; replace q145 := eq_true q145; have ea_ := Option.some.inj (hx135_3.symm.trans hx145_3); injection ea_ with ea_ en_ ec_; subst ea_; subst ec_; clear en_; have p146 : 0 ≤ (x6_1 : Int) := of_decide_eq_true (by first | (with_reducible assumption) | assumption); have q146 : x6_1 < (((rd_T27 l0 0).f3).length : Int) := of_decide_eq_true (by first | (with_reducible assumption) | assumption); obtain ⟨ad146, A146_0, c146_0, e146, hx146_0, hl146_0, hi146_0⟩ := at_L1 HR145_3.out x6_1 p146 q146; cases e146; (try (have ea_ := Option.some.inj (hx142_0.symm.trans hx146_0); injection ea_ with ea_ en_ ec_; subst ea_; subst ec_; clear en_)); have HR146_0 := Aside0.mk hi146_0; have HC146_0 := Aside0.mk hl146_0; clear hi146_0 hl146_0; replace p146 := eq_true p146; replace q146 := eq_true q146; have p147 : 0 ≤ (1 : Int) := (by omega); have q147 : 1 < ((rd_L1 ((rd_T27 l0 0).f3) x6_1).length : Int) := of_decide_eq_true (by first | (with_reducible assumption) | assumption); obtain ⟨ad147, e147, hx147_0⟩ := Kd.at_int HR146_0.out 1 p147 q147; cases e147; (try simp only [show (1 : Int).toNat = 1 from rfl, Nat.reduceMul, Nat.reduceEqDiff, Go.Addr.add, ↓reduceIte] at hx147_0); have qi147 : (1 < (rd_L1 ((rd_T27 l0 0).f3) x6_1).length) = True := eq_true (by omega); (try rw [show ((1 : Int)).toNat = 1 from rfl] at hx147_0); replace p147 := eq_true p147; replace q147 := eq_true q147)))
           repeat (go_quiet (first | (go_at_call 79; (with_reducible refine (spec_l00Min.calls a1 (rd (rd_L1 ((rd_T27 l0 0).f3) (ji6)) 0) t140 _ A9.out).mono ?_); rintro e w' ⟨rfl, ⟨nd, rfl⟩⟩; (try first | exact ⟨rfl, _, World.drewN_drewN _ _ _⟩ | exact ⟨rfl, _, Eq.trans (World.drewN_drewN _ _ _) (congrArg (World.drewN _) (Nat.add_assoc _ _ _))⟩)) | (go_at_call 80; (with_reducible refine (spec_l00Max.calls 0 (wrap64 (t140 - (rd (rd_L1 ((rd_T27 l0 0).f3) x6_1) 0))) t144 _ A12.out).mono ?_); rintro e w' ⟨rfl, ⟨nd, rfl⟩⟩; (try first | exact ⟨rfl, _, World.drewN_drewN _ _ _⟩ | exact ⟨rfl, _, Eq.trans (World.drewN_drewN _ _ _) (congrArg (World.drewN _) (Nat.add_assoc _ _ _))⟩))); try go_wp2_with (first | (go_at_call 79; (with_reducible refine (spec_l00Min.calls a1 (rd (rd_L1 ((rd_T27 l0 0).f3) (ji6)) 0) t140 _ A9.out).mono ?_); rintro e w' ⟨rfl, ⟨nd, rfl⟩⟩; (try first | exact ⟨rfl, _, World.drewN_drewN _ _ _⟩ | exact ⟨rfl, _, Eq.trans (World.drewN_drewN _ _ _) (congrArg (World.drewN _) (Nat.add_assoc _ _ _))⟩); (try (have p141 : 0 ≤ (0 : Int) := (by omega); have q141 : 0 < (l0.length : Int) := of_decide_eq_true (by first | (with_reducible assumption) | assumption); obtain ⟨ad141, A141_3, c141_3, e141, hx141_0, hx141_1, hx141_2, hx141_3, hl141_3, hi141_3⟩ := at_T27 HR0.out 0 p141 q141; obtain rfl : ad135 = ad141 := (by injection e141); have qi141 : (0 < l0.length) = True := eq_true (by omega); (try rw [show ((0 : Int)).toNat = 0 from rfl] at hx141_0); (try rw [show 0 * 4 = 0 from rfl] at hx141_0); (try rw [Addr.add_zero'] at hx141_0); (try rw [show ((0 : Int)).toNat = 0 from rfl] at hx141_1); (try rw [show 0 * 4 = 0 from rfl] at hx141_1); (try rw [Addr.add_zero'] at hx141_1); (try rw [show ((0 : Int)).toNat = 0 from rfl] at hx141_2); (try rw [show 0 * 4 = 0 from rfl] at hx141_2); (try rw [Addr.add_zero'] at hx141_2); (try rw [show ((0 : Int)).toNat = 0 from rfl] at hx141_3); (try rw [show 0 * 4 = 0 from rfl] at hx141_3); (try rw [Addr.add_zero'] at hx141_3); have HR141_3 := Aside0.mk hi141_3; have HC141_3 := Aside0.mk hl141_3; clear hi141_3 hl141_3; replace p141 := eq_true p141; replace q141 := eq_true q141; have ea_ := Option.some.inj (hx135_3.symm.trans hx141_3); injection ea_ with ea_ en_ ec_; subst ea_; subst ec_; clear en_; have p142 : 0 ≤ (x6_1 : Int) := of_decide_eq_true (by first | (with_reducible assumption) | assumption); have q142 : x6_1 < (((rd_T27 l0 0).f3).length : Int) := of_decide_eq_true (by first | (with_reducible assumption) | assumption); obtain ⟨ad142, A142_0, c142_0, e142, hx142_0, hl142_0, hi142_0⟩ := at_L1 HR141_3.out x6_1 p142 q142; cases e142; have HR142_0 := Aside0.mk hi142_0; have HC142_0 := Aside0.mk hl142_0; clear hi142_0 hl142_0; replace p142 := eq_true p142; replace q142 := eq_true q142; have p143 : 0 ≤ (0 : Int) := (by omega); have q143 : 0 < ((rd_L1 ((rd_T27 l0 0).f3) x6_1).length : Int) := of_decide_eq_true (by first | (with_reducible assumption) | assumption); obtain ⟨ad143, e143, hx143_0⟩ := Kd.at_int HR142_0.out 0 p143 q143; cases e143; have qi143 : (0 < (rd_L1 ((rd_T27 l0 0).f3) x6_1).length) = True := eq_true (by omega); (try rw [show ((0 : Int)).toNat = 0 from rfl] at hx143_0); (try rw [Addr.add_zero'] at hx143_0); replace p143 := eq_true p143; replace q143 := eq_true q143))) | (go_at_call 80; (with_reducible refine (spec_l00Max.calls 0 (wrap64 (t140 - (rd (rd_L1 ((rd_T27 l0 0).f3) x6_1) 0))) t144 _ A12.out).mono ?_); rintro e w' ⟨rfl, ⟨nd, rfl⟩⟩; (try first | exact ⟨rfl, _, World.drewN_drewN _ _ _⟩ | exact ⟨rfl, _, Eq.trans (World.drewN_drewN _ _ _) (congrArg (World.drewN _) (Nat.add_assoc _ _ _))⟩); (try (have p145 : 0 ≤ (0 : Int) := (by omega); have q145 : 0 < (l0.length : Int) := of_decide_eq_true (by first | (with_reducible assumption) | assumption); obtain ⟨ad145, A145_3, c145_3, e145, hx145_0, hx145_1, hx145_2, hx145_3, hl145_3, hi145_3⟩ := at_T27 HR0.out 0 p145 q145; obtain rfl : ad135 = ad145 := (by injection e145); have qi145 : (0 < l0.length) = True := eq_true (by omega); (try rw [show ((0 : Int)).toNat = 0 from rfl] at hx145_0); (try rw [show 0 * 4 = 0 from rfl] at hx145_0); (try rw [Addr.add_zero'] at hx145_0); (try rw [show ((0 : Int)).toNat = 0 from rfl] at hx145_1); (try rw [show 0 * 4 = 0 from rfl] at hx145_1); (try rw [Addr.add_zero'] at hx145_1); (try rw [show ((0 : Int)).toNat = 0 from rfl] at hx145_2); (try rw [show 0 * 4 = 0 from rfl] at hx145_2); (try rw [Addr.add_zero'] at hx145_2); (try rw [show ((0 : Int)).toNat = 0 from rfl] at hx145_3); (try rw [show 0 * 4 = 0 from rfl] at hx145_3); (try rw [Addr.add_zero'] at hx145_3); have HR145_3 := Aside0.mk hi145_3; have HC145_3 := Aside0.mk hl145_3; clear hi145_3 hl145_3; replace p145 := eq_true p145; replace q145 := eq_true q145; have ea_ := Option.some.inj (hx135_3.symm.trans hx145_3); injection ea_ with ea_ en_ ec_; subst ea_; subst ec_; clear en_; have p146 : 0 ≤ (x6_1 : Int) := of_decide_eq_true (by first | (with_reducible assumption) | assumption); have q146 : x6_1 < (((rd_T27 l0 0).f3).length : Int) := of_decide_eq_true (by first | (with_reducible assumption) | assumption); obtain ⟨ad146, A146_0, c146_0, e146, hx146_0, hl146_0, hi146_0⟩ := at_L1 HR145_3.out x6_1 p146 q146; cases e146; have HR146_0 := Aside0.mk hi146_0; have HC146_0 := Aside0.mk hl146_0; clear hi146_0 hl146_0; replace p146 := eq_true p146; replace q146 := eq_true q146; have p147 : 0 ≤ (1 : Int) := (by omega); have q147 : 1 < ((rd_L1 ((rd_T27 l0 0).f3) x6_1).length : Int) := of_decide_eq_true (by first | (with_reducible assumption) | assumption); obtain ⟨ad147, e147, hx147_0⟩ := Kd.at_int HR146_0.out 1 p147 q147; cases e147; (try simp only [show (1 : Int).toNat = 1 from rfl, Nat.reduceMul, Nat.reduceEqDiff, Go.Addr.add, ↓reduceIte] at hx147_0); have qi147 : (1 < (rd_L1 ((rd_T27 l0 0).f3) x6_1).length) = True := eq_true (by omega); (try rw [show ((1 : Int)).toNat = 1 from rfl] at hx147_0); replace p147 := eq_true p147; replace q147 := eq_true q147)))))
           go_roundg k1
           case measure => have := HK1.out; omega
           case rel => exact ⟨(wrap64 (x5_1 + (wrap64 (t144 * (rd (rd_L1 ((rd_T27 l0 0).f3) x6_1) 1))))), (ji6), (by first | rfl | (simp; done) | (simp [*]; done)), (by first | rfl | (simp; done) | (simp only [← hji6] <;> (first | rfl | simp)) | (simp [*]; done)), H', ⟨by have := HK1.out; omega⟩, by repeat (first | exact Drawn0.refl _ | apply Drawn0.step)⟩
          ·rw [if_neg c13] at H
           exact absurd H (by simp)
         ·rw [if_neg c11] at H
          exact absurd H (by simp)
        ·rw [if_neg c10] at H
         exact absurd H (by simp)
       ·rw [if_neg c8] at H
        exact absurd H (by simp)
      ·rw [if_neg c7] at H
       exact absurd H (by simp)
     ·rw [if_neg c5] at H
      have c5b0 : decide ((wrap64 (x6_1 + 1)) < (((rd_T27 l0 0).f3).length : Int)) = false := decide_eq_false c5
      clear c5
      by_cases c14 : 0 ≤ x6_1
      ·rw [if_pos c14] at H
       have c14b0 : decide (0 ≤ x6_1) = true := decide_eq_true c14
       clear c14
       by_cases c15 : 0 < ((rd_L1 ((rd_T27 l0 0).f3) x6_1).length : Int)
       ·rw [if_pos c15] at H
        have c15b0 : decide (0 < ((rd_L1 ((rd_T27 l0 0).f3) x6_1).length : Int)) = true := decide_eq_true c15
        have c15b1 : decide (0 < (rd_L1 ((rd_T27 l0 0).f3) x6_1).length) = true := decide_eq_true (by omega)
        clear c15
        replace H := Option.bind_eq_some_iff.mp H
        obtain ⟨t151, A160, H⟩ := H
        replace H : (if 1 < ((rd_L1 ((rd_T27 l0 0).f3) x6_1).length : Int) then (spec_l21Cost.l0 k1 l0 a1 (wrap64 (x5_1 + (wrap64 (t151 * (rd (rd_L1 ((rd_T27 l0 0).f3) x6_1) 1))))) (wrap64 (x6_1 + 1))) else (none)) = some r := H
        have A16 := Aside0.mk A160
        clear A160
        by_cases c17 : 1 < ((rd_L1 ((rd_T27 l0 0).f3) x6_1).length : Int)
        ·rw [if_pos c17] at H
         have c17b0 : decide (1 < ((rd_L1 ((rd_T27 l0 0).f3) x6_1).length : Int)) = true := decide_eq_true c17
         have c17b1 : decide (1 < (rd_L1 ((rd_T27 l0 0).f3) x6_1).length) = true := decide_eq_true (by omega)
         clear c17
         have H' := Aside0.mk H
         clear H
         have p135 : 0 ≤ (0 : Int) := (by omega)
         have q135 : 0 < (l0.length : Int) := of_decide_eq_true (by first | (with_reducible assumption) | assumption)
         obtain ⟨ad135, A135_3, c135_3, e135, hx135_0, hx135_1, hx135_2, hx135_3, hl135_3, hi135_3⟩ := at_T27 HR0.out 0 p135 q135
         cases e135
         have qi135 : (0 < l0.length) = True := eq_true (by omega)
         (try rw [show ((0 : Int)).toNat = 0 from rfl] at hx135_0)
         (try rw [show 0 * 4 = 0 from rfl] at hx135_0)
         (try rw [Addr.add_zero'] at hx135_0)
         (try rw [show ((0 : Int)).toNat = 0 from rfl] at hx135_1)
         (try rw [show 0 * 4 = 0 from rfl] at hx135_1)
         (try rw [Addr.add_zero'] at hx135_1)
         (try rw [show ((0 : Int)).toNat = 0 from rfl] at hx135_2)
         (try rw [show 0 * 4 = 0 from rfl] at hx135_2)
         (try rw [Addr.add_zero'] at hx135_2)
         (try rw [show ((0 : Int)).toNat = 0 from rfl] at hx135_3)
         (try rw [show 0 * 4 = 0 from rfl] at hx135_3)
         (try rw [Addr.add_zero'] at hx135_3)
         have HR135_3 := Aside0.mk hi135_3
         have HC135_3 := Aside0.mk hl135_3
         clear hi135_3 hl135_3
         replace p135 := eq_true p135
         replace q135 := eq_true q135
         have p136 : 0 ≤ (0 : Int) := (by omega)
         have q136 : 0 < (l0.length : Int) := of_decide_eq_true (by first | (with_reducible assumption) | assumption)
         obtain ⟨ad136, A136_3, c136_3, e136, hx136_0, hx136_1, hx136_2, hx136_3, hl136_3, hi136_3⟩ := at_T27 HR0.out 0 p136 q136
         obtain rfl : ad135 = ad136 := (by injection e136)
         have qi136 : (0 < l0.length) = True := eq_true (by omega)
         (try rw [show ((0 : Int)).toNat = 0 from rfl] at hx136_0)
         (try rw [show 0 * 4 = 0 from rfl] at hx136_0)
         (try rw [Addr.add_zero'] at hx136_0)
         (try rw [show ((0 : Int)).toNat = 0 from rfl] at hx136_1)
         (try rw [show 0 * 4 = 0 from rfl] at hx136_1)
         (try rw [Addr.add_zero'] at hx136_1)
         (try rw [show ((0 : Int)).toNat = 0 from rfl] at hx136_2)
         (try rw [show 0 * 4 = 0 from rfl] at hx136_2)
         (try rw [Addr.add_zero'] at hx136_2)
         (try rw [show ((0 : Int)).toNat = 0 from rfl] at hx136_3)
         (try rw [show 0 * 4 = 0 from rfl] at hx136_3)
         (try rw [Addr.add_zero'] at hx136_3)
         have HR136_3 := Aside0.mk hi136_3
         have HC136_3 := Aside0.mk hl136_3
         clear hi136_3 hl136_3
         replace p136 := eq_true p136
         replace q136 := eq_true q136
         have ea_ := Option.some.inj (hx135_3.symm.trans hx136_3)
         injection ea_ with ea_ en_ ec_
         subst ea_
         subst ec_
         clear en_
         have p148 : 0 ≤ (0 : Int) := (by omega)
         have q148 : 0 < (l0.length : Int) := of_decide_eq_true (by first | (with_reducible assumption) | assumption)
         obtain ⟨ad148, A148_3, c148_3, e148, hx148_0, hx148_1, hx148_2, hx148_3, hl148_3, hi148_3⟩ := at_T27 HR0.out 0 p148 q148
         obtain rfl : ad135 = ad148 := (by injection e148)
         have qi148 : (0 < l0.length) = True := eq_true (by omega)
         (try rw [show ((0 : Int)).toNat = 0 from rfl] at hx148_0)
         (try rw [show 0 * 4 = 0 from rfl] at hx148_0)
         (try rw [Addr.add_zero'] at hx148_0)
         (try rw [show ((0 : Int)).toNat = 0 from rfl] at hx148_1)
         (try rw [show 0 * 4 = 0 from rfl] at hx148_1)
         (try rw [Addr.add_zero'] at hx148_1)
         (try rw [show ((0 : Int)).toNat = 0 from rfl] at hx148_2)
         (try rw [show 0 * 4 = 0 from rfl] at hx148_2)
         (try rw [Addr.add_zero'] at hx148_2)
         (try rw [show ((0 : Int)).toNat = 0 from rfl] at hx148_3)
         (try rw [show 0 * 4 = 0 from rfl] at hx148_3)
         (try rw [Addr.add_zero'] at hx148_3)
         have HR148_3 := Aside0.mk hi148_3
         have HC148_3 := Aside0.mk hl148_3
         clear hi148_3 hl148_3
         replace p148 := eq_true p148
         replace q148 := eq_true q148
         have ea_ := Option.some.inj (hx135_3.symm.trans hx148_3)
         injection ea_ with ea_ en_ ec_
         subst ea_
         subst ec_
         clear en_
         have p149 : 0 ≤ (x6_1 : Int) := of_decide_eq_true (by first | (with_reducible assumption) | assumption)
         have q149 : x6_1 < (((rd_T27 l0 0).f3).length : Int) := of_decide_eq_true (by first | (with_reducible assumption) | assumption)
         obtain ⟨ad149, A149_0, c149_0, e149, hx149_0, hl149_0, hi149_0⟩ := at_L1 HR148_3.out x6_1 p149 q149
         cases e149
         have HR149_0 := Aside0.mk hi149_0
         have HC149_0 := Aside0.mk hl149_0
         clear hi149_0 hl149_0
         replace p149 := eq_true p149
         replace q149 := eq_true q149
         have p150 : 0 ≤ (0 : Int) := (by omega)
         have q150 : 0 < ((rd_L1 ((rd_T27 l0 0).f3) x6_1).length : Int) := of_decide_eq_true (by first | (with_reducible assumption) | assumption)
         obtain ⟨ad150, e150, hx150_0⟩ := Kd.at_int HR149_0.out 0 p150 q150
         cases e150
         have qi150 : (0 < (rd_L1 ((rd_T27 l0 0).f3) x6_1).length) = True := eq_true (by omega)
         (try rw [show ((0 : Int)).toNat = 0 from rfl] at hx150_0)
         (try rw [Addr.add_zero'] at hx150_0)
         replace p150 := eq_true p150
         replace q150 := eq_true q150
         go_wp2_with (first | (go_at_call 80; (with_reducible refine (spec_l00Max.calls 0 (wrap64 (a1 - (rd (rd_L1 ((rd_T27 l0 0).f3) x6_1) 0))) t151 _ A16.out).mono ?_); rintro e w' ⟨rfl, ⟨nd, rfl⟩⟩; (try first | exact ⟨rfl, _, World.drewN_drewN _ _ _⟩ | exact ⟨rfl, _, Eq.trans (World.drewN_drewN _ _ _) (congrArg (World.drewN _) (Nat.add_assoc _ _ _))⟩); (try (have p152 : 0 ≤ (0 : Int) := (by omega); have q152 : 0 < (l0.length : Int) := of_decide_eq_true (by first | (with_reducible assumption) | assumption); obtain ⟨ad152, A152_3, c152_3, e152, hx152_0, hx152_1, hx152_2, hx152_3, hl152_3, hi152_3⟩ := at_T27 HR0.out 0 p152 q152; obtain rfl : ad135 = ad152 := (by injection e152); have qi152 : (0 < l0.length) = True := eq_true (by omega); (try rw [show ((0 : Int)).toNat = 0 from rfl] at hx152_0); (try rw [show 0 * 4 = 0 from rfl] at hx152_0); (try rw [Addr.add_zero'] at hx152_0); (try rw [show ((0 : Int)).toNat = 0 from rfl] at hx152_1); (try rw [show 0 * 4 = 0 from rfl] at hx152_1); (try rw [Addr.add_zero'] at hx152_1); (try rw [show ((0 : Int)).toNat = 0 from rfl] at hx152_2); (try rw [show 0 * 4 = 0 from rfl] at hx152_2); (try rw [Addr.add_zero'] at hx152_2); (try rw [show ((0 : Int)).toNat = 0 from rfl] at hx152_3); (try rw [show 0 * 4 = 0 from rfl] at hx152_3); (try rw [Addr.add_zero'] at hx152_3); have HR152_3 := Aside0.mk hi152_3; have HC152_3 := Aside0.mk hl152_3; clear hi152_3 hl152_3; replace p152 := eq_true p152; replace q152 := eq_true q152; have ea_ := Option.some.inj (hx135_3.symm.trans hx152_3); injection ea_ with ea_ en_ ec_; subst ea_; subst ec_; clear en_; have p153 : 0 ≤ (x6_1 : Int) := of_decide_eq_true (by first | (with_reducible assumption) | assumption); have q153 : x6_1 < (((rd_T27 l0 0).f3).length : Int) := of_decide_eq_true (by first | (with_reducible assumption) | assumption); obtain ⟨ad153, A153_0, c153_0, e153, hx153_0, hl153_0, hi153_0⟩ := at_L1 HR152_3.out x6_1 p153 q153; cases e153; have HR153_0 := Aside0.mk hi153_0; have HC153_0 := Aside0.mk hl153_0; clear hi153_0 hl153_0; replace p153 := eq_true p153; replace q153 := eq_true q153; have p154 : 0 ≤ (1 : Int) := (by omega); have q154 : 1 < ((rd_L1 ((rd_T27 l0 0).f3) x6_1).length : Int) := of_decide_eq_true (by first | (with_reducible assumption) | assumption); obtain ⟨ad154, e154, hx154_0⟩ := Kd.at_int HR153_0.out 1 p154 q154; cases e154; (try simp only [show (1 : Int).toNat = 1 from rfl, Nat.reduceMul, Nat.reduceEqDiff, Go.Addr.add, ↓reduceIte] at hx154_0); have qi154 : (1 < (rd_L1 ((rd_T27 l0 0).f3) x6_1).length) = True := eq_true (by omega); (try rw [show ((1 : Int)).toNat = 1 from rfl] at hx154_0); replace p154 := eq_true p154; replace q154 := eq_true q154))))
         (first | (have h_ := q154; clear h_) | (try (have p152 : 0 ≤ (0 : Int) := (by omega); have q152 : 0 < (l0.length : Int) := of_decide_eq_true (by first | (with_reducible assumption) | assumption); obtain ⟨ad152, A152_3, c152_3, e152, hx152_0, hx152_1, hx152_2, hx152_3, hl152_3, hi152_3⟩ := at_T27 HR0.out 0 p152 q152; obtain rfl : ad135 = ad152 := (by injection e152); have qi152 : (0 < l0.length) = True := eq_true (by omega); (try rw [show ((0 : Int)).toNat = 0 from rfl] at hx152_0); (try rw [show 0 * 4 = 0 from rfl] at hx152_0); (try rw [Addr.add_zero'] at hx152_0); (try rw [show ((0 : Int)).toNat = 0 from rfl] at hx152_1); (try rw [show 0 * 4 = 0 from rfl] at hx152_1); (try rw [Addr.add_zero'] at hx152_1); (try rw [show ((0 : Int)).toNat = 0 from rfl] at hx152_2); (try rw [show 0 * 4 = 0 from rfl] at hx152_2); (try rw [Addr.add_zero'] at hx152_2); (try rw [show ((0 : Int)).toNat = 0 from rfl] at hx152_3); (try rw [show 0 * 4 = 0 from rfl] at hx152_3); (try rw [Addr.add_zero'] at hx152_3); have HR152_3 := Aside0.mk hi152_3; have HC152_3 := Aside0.mk hl152_3; clear hi152_3 hl152_3; replace p152 := eq_true p152; replace q152 := eq_true q152; have ea_ := Option.some.inj (hx135_3.symm.trans hx152_3); injection ea_ with ea_ en_ ec_; subst ea_; subst ec_; clear en_; have p153 : 0 ≤ (x6_1 : Int) := of_decide_eq_true (by first | (with_reducible assumption) | assumption); have q153 : x6_1 < (((rd_T27 l0 0).f3).length : Int) := of_decide_eq_true (by first | (with_reducible assumption) | assumption); obtain ⟨ad153, A153_0, c153_0, e153, hx153_0, hl153_0, hi153_0⟩ := at_L1 HR152_3.out x6_1 p153 q153; cases e153; (try (have ea_ := Option.some.inj (hx149_0.symm.trans hx153_0); injection ea_ with ea_ en_ ec_; subst ea_; subst ec_; clear en_)); have HR153_0 := Aside0.mk hi153_0; have HC153_0 := Aside0.mk hl153_0; clear hi153_0 hl153_0; replace p153 := eq_true p153; replace q153 := eq_true q153; have p154 : 0 ≤ (1 : Int) := (by omega); have q154 : 1 < ((rd_L1 ((rd_T27 l0 0).f3) x6_1).length : Int) := of_decide_eq_true (by first | (with_reducible assumption) | assumption); obtain ⟨ad154, e154, hx154_0⟩ := Kd.at_int HR153_0.out 1 p154 q154; cases e154; (try simp only [show (1 : Int).toNat = 1 from rfl, Nat.reduceMul, Nat.reduceEqDiff, Go.Addr.add, ↓reduceIte] at hx154_0); have qi154 : (1 < (rd_L1 ((rd_T27 l0 0).f3) x6_1).length) = True := eq_true (by omega); (try rw [show ((1 : Int)).toNat = 1 from rfl] at hx154_0); replace p154 := eq_true p154; replace q154 := eq_true q154)))
         repeat (go_quiet (first | (go_at_call 80; (with_reducible refine (spec_l00Max.calls 0 (wrap64 (a1 - (rd (rd_L1 ((rd_T27 l0 0).f3) x6_1) 0))) t151 _ A16.out).mono ?_); rintro e w' ⟨rfl, ⟨nd, rfl⟩⟩; (try first | exact ⟨rfl, _, World.drewN_drewN _ _ _⟩ | exact ⟨rfl, _, Eq.trans (World.drewN_drewN _ _ _) (congrArg (World.drewN _) (Nat.add_assoc _ _ _))⟩))); try go_wp2_with (first | (go_at_call 80; (with_reducible refine (spec_l00Max.calls 0 (wrap64 (a1 - (rd (rd_L1 ((rd_T27 l0 0).f3) x6_1) 0))) t151 _ A16.out).mono ?_); rintro e w' ⟨rfl, ⟨nd, rfl⟩⟩; (try first | exact ⟨rfl, _, World.drewN_drewN _ _ _⟩ | exact ⟨rfl, _, Eq.trans (World.drewN_drewN _ _ _) (congrArg (World.drewN _) (Nat.add_assoc _ _ _))⟩); (try (have p152 : 0 ≤ (0 : Int) := (by omega); have q152 : 0 < (l0.length : Int) := of_decide_eq_true (by first | (with_reducible assumption) | assumption); obtain ⟨ad152, A152_3, c152_3, e152, hx152_0, hx152_1, hx152_2, hx152_3, hl152_3, hi152_3⟩ := at_T27 HR0.out 0 p152 q152; obtain rfl : ad135 = ad152 := (by injection e152); have qi152 : (0 < l0.length) = True := eq_true (by omega); (try rw [show ((0 : Int)).toNat = 0 from rfl] at hx152_0); (try rw [show 0 * 4 = 0 from rfl] at hx152_0); (try rw [Addr.add_zero'] at hx152_0); (try rw [show ((0 : Int)).toNat = 0 from rfl] at hx152_1); (try rw [show 0 * 4 = 0 from rfl] at hx152_1); (try rw [Addr.add_zero'] at hx152_1); (try rw [show ((0 : Int)).toNat = 0 from rfl] at hx152_2); (try rw [show 0 * 4 = 0 from rfl] at hx152_2); (try rw [Addr.add_zero'] at hx152_2); (try rw [show ((0 : Int)).toNat = 0 from rfl] at hx152_3); (try rw [show 0 * 4 = 0 from rfl] at hx152_3); (try rw [Addr.add_zero'] at hx152_3); have HR152_3 := Aside0.mk hi152_3; have HC152_3 := Aside0.mk hl152_3; clear hi152_3 hl152_3; replace p152 := eq_true p152; replace q152 := eq_true q152; have ea_ := Option.some.inj (hx135_3.symm.trans hx152_3); injection ea_ with ea_ en_ ec_; subst ea_; subst ec_; clear en_; have p153 : 0 ≤ (x6_1 : Int) := of_decide_eq_true (by first | (with_reducible assumption) | assumption); have q153 : x6_1 < (((rd_T27 l0 0).f3).length : Int) := of_decide_eq_true (by first | (with_reducible assumption) | assumption); obtain ⟨ad153, A153_0, c153_0, e153, hx153_0, hl153_0, hi153_0⟩ := at_L1 HR152_3.out x6_1 p153 q153; cases e153; have HR153_0 := Aside0.mk hi153_0; have HC153_0 := Aside0.mk hl153_0; clear hi153_0 hl153_0; replace p153 := eq_true p153; replace q153 := eq_true q153; have p154 : 0 ≤ (1 : Int) := (by omega); have q154 : 1 < ((rd_L1 ((rd_T27 l0 0).f3) x6_1).length : Int) := of_decide_eq_true (by first | (with_reducible assumption) | assumption); obtain ⟨ad154, e154, hx154_0⟩ := Kd.at_int HR153_0.out 1 p154 q154; cases e154; (try simp only [show (1 : Int).toNat = 1 from rfl, Nat.reduceMul, Nat.reduceEqDiff, Go.Addr.add, ↓reduceIte] at hx154_0); have qi154 : (1 < (rd_L1 ((rd_T27 l0 0).f3) x6_1).length) = True := eq_true (by omega); (try rw [show ((1 : Int)).toNat = 1 from rfl] at hx154_0); replace p154 := eq_true p154; replace q154 := eq_true q154)))))
         go_roundg k1
         case measure => have := HK1.out; omega
         case rel => exact ⟨(wrap64 (x5_1 + (wrap64 (t151 * (rd (rd_L1 ((rd_T27 l0 0).f3) x6_1) 1))))), (wrap64 (x6_1 + 1)), (by first | rfl | (simp; done) | (simp [*]; done)), (by first | rfl | (simp; done) | (simp [*]; done)), H', ⟨by have := HK1.out; omega⟩, by repeat (first | exact Drawn0.refl _ | apply Drawn0.step)⟩
        ·rw [if_neg c17] at H
         exact absurd H (by simp)
       ·rw [if_neg c15] at H
        exact absurd H (by simp)
      ·rw [if_neg c14] at H
       exact absurd H (by simp)
    ·rw [if_neg c4] at H
     have c4b0 : decide (x6_1 < (((rd_T27 l0 0).f3).length : Int)) = false := decide_eq_false c4
     clear c4
     obtain rfl := Option.some.inj H
     have p135 : 0 ≤ (0 : Int) := (by omega)
     have q135 : 0 < (l0.length : Int) := of_decide_eq_true (by first | (with_reducible assumption) | assumption)
     obtain ⟨ad135, A135_3, c135_3, e135, hx135_0, hx135_1, hx135_2, hx135_3, hl135_3, hi135_3⟩ := at_T27 HR0.out 0 p135 q135
     cases e135
     have qi135 : (0 < l0.length) = True := eq_true (by omega)
     (try rw [show ((0 : Int)).toNat = 0 from rfl] at hx135_0)
     (try rw [show 0 * 4 = 0 from rfl] at hx135_0)
     (try rw [Addr.add_zero'] at hx135_0)
     (try rw [show ((0 : Int)).toNat = 0 from rfl] at hx135_1)
     (try rw [show 0 * 4 = 0 from rfl] at hx135_1)
     (try rw [Addr.add_zero'] at hx135_1)
     (try rw [show ((0 : Int)).toNat = 0 from rfl] at hx135_2)
     (try rw [show 0 * 4 = 0 from rfl] at hx135_2)
     (try rw [Addr.add_zero'] at hx135_2)
     (try rw [show ((0 : Int)).toNat = 0 from rfl] at hx135_3)
     (try rw [show 0 * 4 = 0 from rfl] at hx135_3)
     (try rw [Addr.add_zero'] at hx135_3)
     have HR135_3 := Aside0.mk hi135_3
     have HC135_3 := Aside0.mk hl135_3
     clear hi135_3 hl135_3
     replace p135 := eq_true p135
     replace q135 := eq_true q135
     go_wp2
     repeat (go_quiet (fail); try go_wp2)
     go_ret
     exact ⟨by first | rfl | (simp; done) | (simp [*]; done), by repeat (first | exact Drawn0.refl _ | apply Drawn0.step)⟩
   ·rw [if_neg c3] at H
    exact absurd H (by simp)

/-! ### spec_l01Div: function 61 -/
def spec_l01Div.f (a0 : Int) (a1 : Int) : Option (Int) := if a1 < 0 then (if (wrap64 (-a0)) < 0 then (if (wrap64 (2 * (wrap64 (-a1)))) = 0 then (none) else (some (wrap64 (-(wrap64 (Int.tdiv (wrap64 ((wrap64 (-a1)) - (wrap64 (2 * (wrap64 (-a0)))))) (wrap64 (2 * (wrap64 (-a1)))))))))) else (if (wrap64 (2 * (wrap64 (-a1)))) = 0 then (none) else (some (wrap64 (Int.tdiv (wrap64 ((wrap64 (2 * (wrap64 (-a0)))) + (wrap64 (-a1)))) (wrap64 (2 * (wrap64 (-a1))))))))) else (if a0 < 0 then (if (wrap64 (2 * a1)) = 0 then (none) else (some (wrap64 (-(wrap64 (Int.tdiv (wrap64 (a1 - (wrap64 (2 * a0)))) (wrap64 (2 * a1)))))))) else (if (wrap64 (2 * a1)) = 0 then (none) else (some (wrap64 (Int.tdiv (wrap64 ((wrap64 (2 * a0)) + a1)) (wrap64 (2 * a1)))))))
set_option maxHeartbeats 8000000 in
set_option maxRecDepth 100000 in
theorem spec_l01Div.calls (a0 : Int) (a1 : Int) (r : Int) (w : World) (h : spec_l01Div.f a0 a1 = some r) :
  Calls Try.prog 61 #[.int .i64 a0, .int .i64 a1] w fun e w' => e = .returned (.int .i64 r) ∧ Drawn0 w w' := by
 have H : (if a1 < 0 then (if (wrap64 (-a0)) < 0 then (if (wrap64 (2 * (wrap64 (-a1)))) = 0 then (none) else (some (wrap64 (-(wrap64 (Int.tdiv (wrap64 ((wrap64 (-a1)) - (wrap64 (2 * (wrap64 (-a0)))))) (wrap64 (2 * (wrap64 (-a1)))))))))) else (if (wrap64 (2 * (wrap64 (-a1)))) = 0 then (none) else (some (wrap64 (Int.tdiv (wrap64 ((wrap64 (2 * (wrap64 (-a0)))) + (wrap64 (-a1)))) (wrap64 (2 * (wrap64 (-a1))))))))) else (if a0 < 0 then (if (wrap64 (2 * a1)) = 0 then (none) else (some (wrap64 (-(wrap64 (Int.tdiv (wrap64 (a1 - (wrap64 (2 * a0)))) (wrap64 (2 * a1)))))))) else (if (wrap64 (2 * a1)) = 0 then (none) else (some (wrap64 (Int.tdiv (wrap64 ((wrap64 (2 * a0)) + a1)) (wrap64 (2 * a1)))))))) = some r := h
 clear h
 by_cases c3 : a1 < 0
 ·rw [if_pos c3] at H
  have c3b0 : decide (a1 < 0) = true := decide_eq_true c3
  clear c3
  by_cases c4 : (wrap64 (-a0)) < 0
  ·rw [if_pos c4] at H
   have c4b0 : decide ((wrap64 (-a0)) < 0) = true := decide_eq_true c4
   clear c4
   by_cases c5 : (wrap64 (2 * (wrap64 (-a1)))) = 0
   ·rw [if_pos c5] at H
    exact absurd H (by simp)
   ·rw [if_neg c5] at H
    have c5b0 : ((wrap64 (2 * (wrap64 (-a1)))) == 0) = false := beq_eq_false_iff_ne.mpr c5
    have c5b1 : ((wrap64 (2 * (wrap64 (-a1)))) != 0) = true := bne_iff_ne.mpr c5
    obtain rfl := Option.some.inj H
    go_enter Try.func61, Try.ntmps61
    go_wp2
    go_ret
    exact ⟨by first | rfl | (simp; done) | (simp [*]; done), by repeat (first | exact Drawn0.refl _ | apply Drawn0.step)⟩
  ·rw [if_neg c4] at H
   have c4b0 : decide ((wrap64 (-a0)) < 0) = false := decide_eq_false c4
   clear c4
   by_cases c6 : (wrap64 (2 * (wrap64 (-a1)))) = 0
   ·rw [if_pos c6] at H
    exact absurd H (by simp)
   ·rw [if_neg c6] at H
    have c6b0 : ((wrap64 (2 * (wrap64 (-a1)))) == 0) = false := beq_eq_false_iff_ne.mpr c6
    have c6b1 : ((wrap64 (2 * (wrap64 (-a1)))) != 0) = true := bne_iff_ne.mpr c6
    obtain rfl := Option.some.inj H
    go_enter Try.func61, Try.ntmps61
    go_wp2
    go_ret
    exact ⟨by first | rfl | (simp; done) | (simp [*]; done), by repeat (first | exact Drawn0.refl _ | apply Drawn0.step)⟩
 ·rw [if_neg c3] at H
  have c3b0 : decide (a1 < 0) = false := decide_eq_false c3
  clear c3
  by_cases c7 : a0 < 0
  ·rw [if_pos c7] at H
   have c7b0 : decide (a0 < 0) = true := decide_eq_true c7
   clear c7
   by_cases c8 : (wrap64 (2 * a1)) = 0
   ·rw [if_pos c8] at H
    exact absurd H (by simp)
   ·rw [if_neg c8] at H
    have c8b0 : ((wrap64 (2 * a1)) == 0) = false := beq_eq_false_iff_ne.mpr c8
    have c8b1 : ((wrap64 (2 * a1)) != 0) = true := bne_iff_ne.mpr c8
    obtain rfl := Option.some.inj H
    go_enter Try.func61, Try.ntmps61
    go_wp2
    go_ret
    exact ⟨by first | rfl | (simp; done) | (simp [*]; done), by repeat (first | exact Drawn0.refl _ | apply Drawn0.step)⟩
  ·rw [if_neg c7] at H
   have c7b0 : decide (a0 < 0) = false := decide_eq_false c7
   clear c7
   by_cases c9 : (wrap64 (2 * a1)) = 0
   ·rw [if_pos c9] at H
    exact absurd H (by simp)
   ·rw [if_neg c9] at H
    have c9b0 : ((wrap64 (2 * a1)) == 0) = false := beq_eq_false_iff_ne.mpr c9
    have c9b1 : ((wrap64 (2 * a1)) != 0) = true := bne_iff_ne.mpr c9
    obtain rfl := Option.some.inj H
    go_enter Try.func61, Try.ntmps61
    go_wp2
    go_ret
    exact ⟨by first | rfl | (simp; done) | (simp [*]; done), by repeat (first | exact Drawn0.refl _ | apply Drawn0.step)⟩

/-! ### spec_l21Bill: function 58 -/
def spec_l21Bill.f (k : Nat) (l0 : List (S27)) (a1 : Int) (a2 : Int) : Option (Int) := if 0 < (l0.length : Int) then ((spec_l21Cost.f k l0 a1).bind fun t157 => ((spec_l01Div.f t157 100).bind fun t158 => (some (wrap64 ((wrap64 (((rd_T27 l0 0).f1) + (wrap64 (((rd_T27 l0 0).f2) * a2)))) + t158))))) else (none)
theorem spec_l21Bill.mono : ∀ a0 a1 a2 k, LeO (spec_l21Bill.f k a0 a1 a2) (spec_l21Bill.f (k + 1) a0 a1 a2) := by
 intro a0 a1 a2 k
 unfold spec_l21Bill.f
 repeat' first
   | (with_reducible exact spec_l21Cost.mono _ _ _)
   | (with_reducible exact LeO.refl _)
   | (with_reducible exact LeO.none _)
   | (with_reducible refine LeO.ite ?_ ?_)
   | (with_reducible refine LeO.bind ?_ (fun _ => ?_))
   | exact spec_l21Cost.mono _ _ _
   | exact LeO.none _
   | refine LeO.ite ?_ ?_
   | refine LeO.bind ?_ (fun _ => ?_)
set_option maxHeartbeats 8000000 in
set_option maxRecDepth 100000 in
theorem spec_l21Bill.calls (k : Nat) (A0 : Option Addr) (c0 : Nat) (l0 : List (S27)) (a1 : Int) (a2 : Int) (r : Int) (w : World) (hr0 : Kd.C k27 w A0 l0.length l0) (hc0 : l0.length ≤ c0) (h : spec_l21Bill.f k l0 a1 a2 = some r) :
  Calls Try.prog 58 #[.pointer A0, .int .i64 a1, .int .i64 a2] w fun e w' => e = .returned (.int .i64 r) ∧ Drawn0 w w' := by
 have HR0 := Aside0.mk hr0
 have HC0 := Aside0.mk hc0
 clear hr0 hc0
 have H : (if 0 < (l0.length : Int) then ((spec_l21Cost.f k l0 a1).bind fun t157 => ((spec_l01Div.f t157 100).bind fun t158 => (some (wrap64 ((wrap64 (((rd_T27 l0 0).f1) + (wrap64 (((rd_T27 l0 0).f2) * a2)))) + t158))))) else (none)) = some r := h
 clear h
 by_cases c4 : 0 < (l0.length : Int)
 ·rw [if_pos c4] at H
  have c4b0 : decide (0 < (l0.length : Int)) = true := decide_eq_true c4
  have c4b1 : decide (0 < l0.length) = true := decide_eq_true (by omega)
  clear c4
  replace H := Option.bind_eq_some_iff.mp H
  obtain ⟨t157, A50, H⟩ := H
  replace H : ((spec_l01Div.f t157 100).bind fun t158 => (some (wrap64 ((wrap64 (((rd_T27 l0 0).f1) + (wrap64 (((rd_T27 l0 0).f2) * a2)))) + t158)))) = some r := H
  have A5 := Aside0.mk A50
  clear A50
  replace H := Option.bind_eq_some_iff.mp H
  obtain ⟨t158, A60, H⟩ := H
  replace H : (some (wrap64 ((wrap64 (((rd_T27 l0 0).f1) + (wrap64 (((rd_T27 l0 0).f2) * a2)))) + t158))) = some r := H
  have A6 := Aside0.mk A60
  clear A60
  obtain rfl := Option.some.inj H
  have p155 : 0 ≤ (0 : Int) := (by omega)
  have q155 : 0 < (l0.length : Int) := of_decide_eq_true (by first | (with_reducible assumption) | assumption)
  obtain ⟨ad155, A155_3, c155_3, e155, hx155_0, hx155_1, hx155_2, hx155_3, hl155_3, hi155_3⟩ := at_T27 HR0.out 0 p155 q155
  cases e155
  have qi155 : (0 < l0.length) = True := eq_true (by omega)
  (try rw [show ((0 : Int)).toNat = 0 from rfl] at hx155_0)
  (try rw [show 0 * 4 = 0 from rfl] at hx155_0)
  (try rw [Addr.add_zero'] at hx155_0)
  (try rw [show ((0 : Int)).toNat = 0 from rfl] at hx155_1)
  (try rw [show 0 * 4 = 0 from rfl] at hx155_1)
  (try rw [Addr.add_zero'] at hx155_1)
  (try rw [show ((0 : Int)).toNat = 0 from rfl] at hx155_2)
  (try rw [show 0 * 4 = 0 from rfl] at hx155_2)
  (try rw [Addr.add_zero'] at hx155_2)
  (try rw [show ((0 : Int)).toNat = 0 from rfl] at hx155_3)
  (try rw [show 0 * 4 = 0 from rfl] at hx155_3)
  (try rw [Addr.add_zero'] at hx155_3)
  have HR155_3 := Aside0.mk hi155_3
  have HC155_3 := Aside0.mk hl155_3
  clear hi155_3 hl155_3
  replace p155 := eq_true p155
  replace q155 := eq_true q155
  have p156 : 0 ≤ (0 : Int) := (by omega)
  have q156 : 0 < (l0.length : Int) := of_decide_eq_true (by first | (with_reducible assumption) | assumption)
  obtain ⟨ad156, A156_3, c156_3, e156, hx156_0, hx156_1, hx156_2, hx156_3, hl156_3, hi156_3⟩ := at_T27 HR0.out 0 p156 q156
  obtain rfl : ad155 = ad156 := (by injection e156)
  have qi156 : (0 < l0.length) = True := eq_true (by omega)
  (try rw [show ((0 : Int)).toNat = 0 from rfl] at hx156_0)
  (try rw [show 0 * 4 = 0 from rfl] at hx156_0)
  (try rw [Addr.add_zero'] at hx156_0)
  (try rw [show ((0 : Int)).toNat = 0 from rfl] at hx156_1)
  (try rw [show 0 * 4 = 0 from rfl] at hx156_1)
  (try rw [Addr.add_zero'] at hx156_1)
  (try rw [show ((0 : Int)).toNat = 0 from rfl] at hx156_2)
  (try rw [show 0 * 4 = 0 from rfl] at hx156_2)
  (try rw [Addr.add_zero'] at hx156_2)
  (try rw [show ((0 : Int)).toNat = 0 from rfl] at hx156_3)
  (try rw [show 0 * 4 = 0 from rfl] at hx156_3)
  (try rw [Addr.add_zero'] at hx156_3)
  have HR156_3 := Aside0.mk hi156_3
  have HC156_3 := Aside0.mk hl156_3
  clear hi156_3 hl156_3
  replace p156 := eq_true p156
  replace q156 := eq_true q156
  have ea_ := Option.some.inj (hx155_3.symm.trans hx156_3)
  injection ea_ with ea_ en_ ec_
  subst ea_
  subst ec_
  clear en_
  go_enter Try.func58, Try.ntmps58
  go_wp2_with (first | (go_at_call 55; (with_reducible refine (spec_l21Cost.calls k _ c0 l0 a1 t157 _ ?side1 ?side2 A5.out).mono ?_); (case side1 => repeat (first | exact HR0.out | (with_reducible refine Kd.C_alloc ?_ _) | (with_reducible refine Kd.C_drewN ?_ _) | (with_reducible refine Kd.C_drew ?_))); (case side2 => exact HC0.out); rintro e w' ⟨rfl, ⟨nd, rfl⟩⟩; (try first | exact ⟨rfl, _, World.drewN_drewN _ _ _⟩ | exact ⟨rfl, _, Eq.trans (World.drewN_drewN _ _ _) (congrArg (World.drewN _) (Nat.add_assoc _ _ _))⟩)) | (go_at_call 61; (with_reducible refine (spec_l01Div.calls t157 100 t158 _ A6.out).mono ?_); rintro e w' ⟨rfl, ⟨nd, rfl⟩⟩; (try first | exact ⟨rfl, _, World.drewN_drewN _ _ _⟩ | exact ⟨rfl, _, Eq.trans (World.drewN_drewN _ _ _) (congrArg (World.drewN _) (Nat.add_assoc _ _ _))⟩)))
  repeat (go_quiet (first | (go_at_call 55; (with_reducible refine (spec_l21Cost.calls k _ c0 l0 a1 t157 _ ?side1 ?side2 A5.out).mono ?_); (case side1 => repeat (first | exact HR0.out | (with_reducible refine Kd.C_alloc ?_ _) | (with_reducible refine Kd.C_drewN ?_ _) | (with_reducible refine Kd.C_drew ?_))); (case side2 => exact HC0.out); rintro e w' ⟨rfl, ⟨nd, rfl⟩⟩; (try first | exact ⟨rfl, _, World.drewN_drewN _ _ _⟩ | exact ⟨rfl, _, Eq.trans (World.drewN_drewN _ _ _) (congrArg (World.drewN _) (Nat.add_assoc _ _ _))⟩)) | (go_at_call 61; (with_reducible refine (spec_l01Div.calls t157 100 t158 _ A6.out).mono ?_); rintro e w' ⟨rfl, ⟨nd, rfl⟩⟩; (try first | exact ⟨rfl, _, World.drewN_drewN _ _ _⟩ | exact ⟨rfl, _, Eq.trans (World.drewN_drewN _ _ _) (congrArg (World.drewN _) (Nat.add_assoc _ _ _))⟩))); try go_wp2_with (first | (go_at_call 55; (with_reducible refine (spec_l21Cost.calls k _ c0 l0 a1 t157 _ ?side1 ?side2 A5.out).mono ?_); (case side1 => repeat (first | exact HR0.out | (with_reducible refine Kd.C_alloc ?_ _) | (with_reducible refine Kd.C_drewN ?_ _) | (with_reducible refine Kd.C_drew ?_))); (case side2 => exact HC0.out); rintro e w' ⟨rfl, ⟨nd, rfl⟩⟩; (try first | exact ⟨rfl, _, World.drewN_drewN _ _ _⟩ | exact ⟨rfl, _, Eq.trans (World.drewN_drewN _ _ _) (congrArg (World.drewN _) (Nat.add_assoc _ _ _))⟩)) | (go_at_call 61; (with_reducible refine (spec_l01Div.calls t157 100 t158 _ A6.out).mono ?_); rintro e w' ⟨rfl, ⟨nd, rfl⟩⟩; (try first | exact ⟨rfl, _, World.drewN_drewN _ _ _⟩ | exact ⟨rfl, _, Eq.trans (World.drewN_drewN _ _ _) (congrArg (World.drewN _) (Nat.add_assoc _ _ _))⟩))))
  go_ret
  exact ⟨by first | rfl | (simp; done) | (simp [*]; done), by repeat (first | exact Drawn0.refl _ | apply Drawn0.step)⟩
 ·rw [if_neg c4] at H
  exact absurd H (by simp)

/-! ### spec_l21Peak: function 65 -/
def spec_l21Peak.f (a0 : Int) : Option (Bool) := (spec_l00In.f a0 0 10000).bind fun t159 => (some t159)
set_option maxHeartbeats 8000000 in
set_option maxRecDepth 100000 in
theorem spec_l21Peak.calls (a0 : Int) (r : Bool) (w : World) (h : spec_l21Peak.f a0 = some r) :
  Calls Try.prog 65 #[.int .i64 a0] w fun e w' => e = .returned (.bool r) ∧ Drawn0 w w' := by
 have H : ((spec_l00In.f a0 0 10000).bind fun t159 => (some t159)) = some r := h
 clear h
 replace H := Option.bind_eq_some_iff.mp H
 obtain ⟨t159, A20, H⟩ := H
 replace H : (some t159) = some r := H
 have A2 := Aside0.mk A20
 clear A20
 obtain rfl := Option.some.inj H
 go_enter Try.func65, Try.ntmps65
 go_wp2_with (first | ((with_reducible refine gate_callee (f := 60) rfl ?_); refine goesL_ (some 4) rfl rfl Try.func60 (by kernel_rfl) rfl #[.int .i64 a0, .int .i64 0, .int .i64 10000] rfl (by (try simp only [List.map_toArray, List.map_cons, List.map_nil]); first | done | rfl | (simp only [List.length_drop, List.length_take]; rfl)) ?_; (with_reducible refine (spec_l00In.calls a0 0 10000 t159 _ A2.out).mono ?_); rintro e w' ⟨rfl, ⟨nd, rfl⟩⟩; refine ⟨_, rfl, ?_⟩))
 go_ret
 exact ⟨by first | rfl | (simp; done) | (simp [*]; done), by repeat (first | exact Drawn0.refl _ | apply Drawn0.step)⟩

end Go.Proofs.Ytdafonbeinildaa.PFnExactBestTariff
