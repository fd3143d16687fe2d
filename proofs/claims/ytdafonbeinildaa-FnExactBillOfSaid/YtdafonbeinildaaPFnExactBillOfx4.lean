-- written by wip/xprint.py, a program of this session, for this claim; not trusted: Lean checks it.
import Derived.Test.YtdafonbeinildaaPFnExactBillOfx0
import Derived.Test.YtdafonbeinildaaPFnExactBillOfx2
import Derived.Test.YtdafonbeinildaaPFnExactBillOfx3
namespace Go.Proofs.Ytdafonbeinildaa.PFnExactBillOf
open Go.RowKit Go.Proofs.YtdafonbeinildaaW.PrintWords Go.Proofs.YtdafonbeinildaaW.PrintLast Go.Proofs.YtdafonbeinildaaW.PrintMore
attribute [local go_sem] max2_int min2_int max_two min_two max_three min_three max_four min_four   -- for this text's walks alone
set_option linter.unusedVariables false
set_option linter.unusedSimpArgs false

/-! ### spec_l21Heat: function 53 -/
def spec_l21Heat.f (a0 : Int) : Option (Bool) := (spec_l00In.f a0 0 1000000).bind fun t159 => (some t159)
set_option maxHeartbeats 8000000 in
set_option maxRecDepth 100000 in
theorem spec_l21Heat.calls (a0 : Int) (r : Bool) (w : World) (h : spec_l21Heat.f a0 = some r) :
  Calls Try.prog 53 #[.int .i64 a0] w fun e w' => e = .returned (.bool r) ∧ Drawn0 w w' := by
 have H : ((spec_l00In.f a0 0 1000000).bind fun t159 => (some t159)) = some r := h
 clear h
 replace H := Option.bind_eq_some_iff.mp H
 obtain ⟨t159, A20, H⟩ := H
 replace H : (some t159) = some r := H
 have A2 := Aside0.mk A20
 clear A20
 obtain rfl := Option.some.inj H
 go_enter Try.func53, Try.ntmps53
 go_wp2_with (first | ((with_reducible refine gate_callee (f := 60) rfl ?_); refine goesL_ (some 4) rfl rfl Try.func60 (by kernel_rfl) rfl #[.int .i64 a0, .int .i64 0, .int .i64 1000000] rfl (by (try simp only [List.map_toArray, List.map_cons, List.map_nil]); first | done | rfl | (simp only [List.length_drop, List.length_take]; rfl)) ?_; (with_reducible refine (spec_l00In.calls a0 0 1000000 t159 _ A2.out).mono ?_); rintro e w' ⟨rfl, ⟨nd, rfl⟩⟩; refine ⟨_, rfl, ?_⟩))
 go_ret
 exact ⟨by first | rfl | (simp; done) | (simp [*]; done), by repeat (first | exact Drawn0.refl _ | apply Drawn0.step)⟩

/-! ### spec_l21Peak: function 65 -/
def spec_l21Peak.f (a0 : Int) : Option (Bool) := (spec_l00In.f a0 0 10000).bind fun t160 => (some t160)
set_option maxHeartbeats 8000000 in
set_option maxRecDepth 100000 in
theorem spec_l21Peak.calls (a0 : Int) (r : Bool) (w : World) (h : spec_l21Peak.f a0 = some r) :
  Calls Try.prog 65 #[.int .i64 a0] w fun e w' => e = .returned (.bool r) ∧ Drawn0 w w' := by
 have H : ((spec_l00In.f a0 0 10000).bind fun t160 => (some t160)) = some r := h
 clear h
 replace H := Option.bind_eq_some_iff.mp H
 obtain ⟨t160, A20, H⟩ := H
 replace H : (some t160) = some r := H
 have A2 := Aside0.mk A20
 clear A20
 obtain rfl := Option.some.inj H
 go_enter Try.func65, Try.ntmps65
 go_wp2_with (first | ((with_reducible refine gate_callee (f := 60) rfl ?_); refine goesL_ (some 4) rfl rfl Try.func60 (by kernel_rfl) rfl #[.int .i64 a0, .int .i64 0, .int .i64 10000] rfl (by (try simp only [List.map_toArray, List.map_cons, List.map_nil]); first | done | rfl | (simp only [List.length_drop, List.length_take]; rfl)) ?_; (with_reducible refine (spec_l00In.calls a0 0 10000 t160 _ A2.out).mono ?_); rintro e w' ⟨rfl, ⟨nd, rfl⟩⟩; refine ⟨_, rfl, ?_⟩))
 go_ret
 exact ⟨by first | rfl | (simp; done) | (simp [*]; done), by repeat (first | exact Drawn0.refl _ | apply Drawn0.step)⟩

/-! ### spec_l21Ask: function 57 -/
def spec_l21Ask.f (k : Nat) (l0 : List (S27)) (a1 : Int) (a2 : Int) : Option (Int) := (spec_l21Ok.f k l0).bind fun t161 => (if t161 = true then ((spec_l21Heat.f a1).bind fun t162 => (if t162 = true then ((spec_l21Peak.f a2).bind fun t163 => (if t163 = true then (some 0) else (some 2))) else (some 2))) else (some 1))
theorem spec_l21Ask.mono : ∀ a0 a1 a2 k, LeO (spec_l21Ask.f k a0 a1 a2) (spec_l21Ask.f (k + 1) a0 a1 a2) := by
 intro a0 a1 a2 k
 unfold spec_l21Ask.f
 repeat' first
   | (with_reducible exact spec_l21Ok.mono _ _)
   | (with_reducible exact LeO.refl _)
   | (with_reducible exact LeO.none _)
   | (with_reducible refine LeO.ite ?_ ?_)
   | (with_reducible refine LeO.bind ?_ (fun _ => ?_))
   | exact spec_l21Ok.mono _ _
   | exact LeO.none _
   | refine LeO.ite ?_ ?_
   | refine LeO.bind ?_ (fun _ => ?_)
set_option maxHeartbeats 8000000 in
set_option maxRecDepth 100000 in
theorem spec_l21Ask.calls (k : Nat) (A0 : Option Addr) (c0 : Nat) (l0 : List (S27)) (a1 : Int) (a2 : Int) (r : Int) (w : World) (hr0 : Kd.C k27 w A0 l0.length l0) (hc0 : l0.length ≤ c0) (h : spec_l21Ask.f k l0 a1 a2 = some r) :
  Calls Try.prog 57 #[.pointer A0, .int .i64 a1, .int .i64 a2] w fun e w' => e = .returned (.int .i64 r) ∧ Below w.heap.size w w' := by
 have HR0 := Aside0.mk hr0
 have HC0 := Aside0.mk hc0
 clear hr0 hc0
 have HB := Aside0.mk (Below.refl w.heap.size w)
 have H : ((spec_l21Ok.f k l0).bind fun t161 => (if t161 = true then ((spec_l21Heat.f a1).bind fun t162 => (if t162 = true then ((spec_l21Peak.f a2).bind fun t163 => (if t163 = true then (some 0) else (some 2))) else (some 2))) else (some 1))) = some r := h
 clear h
 replace H := Option.bind_eq_some_iff.mp H
 obtain ⟨t161, A40, H⟩ := H
 replace H : (if t161 = true then ((spec_l21Heat.f a1).bind fun t162 => (if t162 = true then ((spec_l21Peak.f a2).bind fun t163 => (if t163 = true then (some 0) else (some 2))) else (some 2))) else (some 1)) = some r := H
 have A4 := Aside0.mk A40
 clear A40
 by_cases c5 : t161 = true
 ·subst c5
  have H1 : ((spec_l21Heat.f a1).bind fun t162 => (if t162 = true then ((spec_l21Peak.f a2).bind fun t163 => (if t163 = true then (some 0) else (some 2))) else (some 2))) = some r := by rw [if_pos rfl] at H; exact H
  clear H
  have H := H1
  clear H1
  replace H := Option.bind_eq_some_iff.mp H
  obtain ⟨t162, A60, H⟩ := H
  replace H : (if t162 = true then ((spec_l21Peak.f a2).bind fun t163 => (if t163 = true then (some 0) else (some 2))) else (some 2)) = some r := H
  have A6 := Aside0.mk A60
  clear A60
  by_cases c7 : t162 = true
  ·subst c7
   have H1 : ((spec_l21Peak.f a2).bind fun t163 => (if t163 = true then (some 0) else (some 2))) = some r := by rw [if_pos rfl] at H; exact H
   clear H
   have H := H1
   clear H1
   replace H := Option.bind_eq_some_iff.mp H
   obtain ⟨t163, A80, H⟩ := H
   replace H : (if t163 = true then (some 0) else (some 2)) = some r := H
   have A8 := Aside0.mk A80
   clear A80
   by_cases c9 : t163 = true
   ·subst c9
    have H1 : (some 0) = some r := by rw [if_pos rfl] at H; exact H
    clear H
    have H := H1
    clear H1
    obtain rfl := Option.some.inj H
    go_enter Try.func57, Try.ntmps57
    go_wp2_with (first | ((with_reducible refine gate_callee (f := 48) rfl ?_); refine goesL_ (some 8) rfl rfl Try.func48 (by kernel_rfl) rfl #[.pointer A0] rfl (by (try simp only [List.map_toArray, List.map_cons, List.map_nil]); first | done | rfl | (simp only [List.length_drop, List.length_take]; rfl)) ?_; (with_reducible refine (spec_l21Ok.calls k _ c0 l0 true _ ?side1 ?side2 A4.out).mono ?_); (case side1 => repeat (first | exact HR0.out | (with_reducible refine Kd.C_alloc ?_ _) | (with_reducible refine Kd.C_drewN ?_ _) | (with_reducible refine Kd.C_drew ?_))); (case side2 => exact HC0.out); rintro e w10 ⟨rfl, hb⟩; refine ⟨_, rfl, ?_⟩; have n0_ := Aside0.mk (below_step (by repeat (first | (with_reducible first | exact HB.out | apply below_alloc | apply pw_below_drewN | apply below_drew1) | exact HB.out)) hb); clear HB; have HB := n0_; clear n0_; (try clear hb); (try clear hb2); (try clear hk); (try clear hi)) | ((with_reducible refine gate_callee (f := 53) rfl ?_); refine goesL_ (some 11) rfl rfl Try.func53 (by kernel_rfl) rfl #[.int .i64 a1] rfl (by (try simp only [List.map_toArray, List.map_cons, List.map_nil]); first | done | rfl | (simp only [List.length_drop, List.length_take]; rfl)) ?_; (with_reducible refine (spec_l21Heat.calls a1 true _ A6.out).mono ?_); rintro e w' ⟨rfl, ⟨nd, rfl⟩⟩; refine ⟨_, rfl, ?_⟩) | (go_at_call 65; (with_reducible refine (spec_l21Peak.calls a2 true _ A8.out).mono ?_); rintro e w' ⟨rfl, ⟨nd, rfl⟩⟩))
    go_ret
    exact ⟨by first | rfl | (rw [Int.tdiv_eq_ediv_of_nonneg (by omega)]; rfl) | (simp [errW_none, errW_some] <;> rfl) | (simp [*, errW_none, errW_some] <;> rfl), by repeat (first | (with_reducible first | exact HB.out | apply below_alloc | apply pw_below_drewN | apply below_drew1) | exact HB.out)⟩
   ·replace c9 := Bool.eq_false_iff.mpr c9
    subst c9
    have H1 : (some 2) = some r := by rw [if_neg (show ¬ (false = true) by decide)] at H; exact H
    clear H
    have H := H1
    clear H1
    obtain rfl := Option.some.inj H
    go_enter Try.func57, Try.ntmps57
    go_wp2_with (first | ((with_reducible refine gate_callee (f := 48) rfl ?_); refine goesL_ (some 8) rfl rfl Try.func48 (by kernel_rfl) rfl #[.pointer A0] rfl (by (try simp only [List.map_toArray, List.map_cons, List.map_nil]); first | done | rfl | (simp only [List.length_drop, List.length_take]; rfl)) ?_; (with_reducible refine (spec_l21Ok.calls k _ c0 l0 true _ ?side1 ?side2 A4.out).mono ?_); (case side1 => repeat (first | exact HR0.out | (with_reducible refine Kd.C_alloc ?_ _) | (with_reducible refine Kd.C_drewN ?_ _) | (with_reducible refine Kd.C_drew ?_))); (case side2 => exact HC0.out); rintro e w11 ⟨rfl, hb⟩; refine ⟨_, rfl, ?_⟩; have n0_ := Aside0.mk (below_step (by repeat (first | (with_reducible first | exact HB.out | apply below_alloc | apply pw_below_drewN | apply below_drew1) | exact HB.out)) hb); clear HB; have HB := n0_; clear n0_; (try clear hb); (try clear hb2); (try clear hk); (try clear hi)) | ((with_reducible refine gate_callee (f := 53) rfl ?_); refine goesL_ (some 11) rfl rfl Try.func53 (by kernel_rfl) rfl #[.int .i64 a1] rfl (by (try simp only [List.map_toArray, List.map_cons, List.map_nil]); first | done | rfl | (simp only [List.length_drop, List.length_take]; rfl)) ?_; (with_reducible refine (spec_l21Heat.calls a1 true _ A6.out).mono ?_); rintro e w' ⟨rfl, ⟨nd, rfl⟩⟩; refine ⟨_, rfl, ?_⟩) | (go_at_call 65; (with_reducible refine (spec_l21Peak.calls a2 false _ A8.out).mono ?_); rintro e w' ⟨rfl, ⟨nd, rfl⟩⟩))
    go_ret
    exact ⟨by first | rfl | (rw [Int.tdiv_eq_ediv_of_nonneg (by omega)]; rfl) | (simp [errW_none, errW_some] <;> rfl) | (simp [*, errW_none, errW_some] <;> rfl), by repeat (first | (with_reducible first | exact HB.out | apply below_alloc | apply pw_below_drewN | apply below_drew1) | exact HB.out)⟩
  ·replace c7 := Bool.eq_false_iff.mpr c7
   subst c7
   have H1 : (some 2) = some r := by rw [if_neg (show ¬ (false = true) by decide)] at H; exact H
   clear H
   have H := H1
   clear H1
   obtain rfl := Option.some.inj H
   go_enter Try.func57, Try.ntmps57
   go_wp2_with (first | ((with_reducible refine gate_callee (f := 48) rfl ?_); refine goesL_ (some 8) rfl rfl Try.func48 (by kernel_rfl) rfl #[.pointer A0] rfl (by (try simp only [List.map_toArray, List.map_cons, List.map_nil]); first | done | rfl | (simp only [List.length_drop, List.length_take]; rfl)) ?_; (with_reducible refine (spec_l21Ok.calls k _ c0 l0 true _ ?side1 ?side2 A4.out).mono ?_); (case side1 => repeat (first | exact HR0.out | (with_reducible refine Kd.C_alloc ?_ _) | (with_reducible refine Kd.C_drewN ?_ _) | (with_reducible refine Kd.C_drew ?_))); (case side2 => exact HC0.out); rintro e w12 ⟨rfl, hb⟩; refine ⟨_, rfl, ?_⟩; have n0_ := Aside0.mk (below_step (by repeat (first | (with_reducible first | exact HB.out | apply below_alloc | apply pw_below_drewN | apply below_drew1) | exact HB.out)) hb); clear HB; have HB := n0_; clear n0_; (try clear hb); (try clear hb2); (try clear hk); (try clear hi)) | ((with_reducible refine gate_callee (f := 53) rfl ?_); refine goesL_ (some 11) rfl rfl Try.func53 (by kernel_rfl) rfl #[.int .i64 a1] rfl (by (try simp only [List.map_toArray, List.map_cons, List.map_nil]); first | done | rfl | (simp only [List.length_drop, List.length_take]; rfl)) ?_; (with_reducible refine (spec_l21Heat.calls a1 false _ A6.out).mono ?_); rintro e w' ⟨rfl, ⟨nd, rfl⟩⟩; refine ⟨_, rfl, ?_⟩))
   go_ret
   exact ⟨by first | rfl | (rw [Int.tdiv_eq_ediv_of_nonneg (by omega)]; rfl) | (simp [errW_none, errW_some] <;> rfl) | (simp [*, errW_none, errW_some] <;> rfl), by repeat (first | (with_reducible first | exact HB.out | apply below_alloc | apply pw_below_drewN | apply below_drew1) | exact HB.out)⟩
 ·replace c5 := Bool.eq_false_iff.mpr c5
  subst c5
  have H1 : (some 1) = some r := by rw [if_neg (show ¬ (false = true) by decide)] at H; exact H
  clear H
  have H := H1
  clear H1
  obtain rfl := Option.some.inj H
  go_enter Try.func57, Try.ntmps57
  go_wp2_with (first | ((with_reducible refine gate_callee (f := 48) rfl ?_); refine goesL_ (some 8) rfl rfl Try.func48 (by kernel_rfl) rfl #[.pointer A0] rfl (by (try simp only [List.map_toArray, List.map_cons, List.map_nil]); first | done | rfl | (simp only [List.length_drop, List.length_take]; rfl)) ?_; (with_reducible refine (spec_l21Ok.calls k _ c0 l0 false _ ?side1 ?side2 A4.out).mono ?_); (case side1 => repeat (first | exact HR0.out | (with_reducible refine Kd.C_alloc ?_ _) | (with_reducible refine Kd.C_drewN ?_ _) | (with_reducible refine Kd.C_drew ?_))); (case side2 => exact HC0.out); rintro e w13 ⟨rfl, hb⟩; refine ⟨_, rfl, ?_⟩; have n0_ := Aside0.mk (below_step (by repeat (first | (with_reducible first | exact HB.out | apply below_alloc | apply pw_below_drewN | apply below_drew1) | exact HB.out)) hb); clear HB; have HB := n0_; clear n0_; (try clear hb); (try clear hb2); (try clear hk); (try clear hi)))
  go_ret
  exact ⟨by first | rfl | (rw [Int.tdiv_eq_ediv_of_nonneg (by omega)]; rfl) | (simp [errW_none, errW_some] <;> rfl) | (simp [*, errW_none, errW_some] <;> rfl), by repeat (first | (with_reducible first | exact HB.out | apply below_alloc | apply pw_below_drewN | apply below_drew1) | exact HB.out)⟩

/-! ### spec_l00Min: function 79 -/
def spec_l00Min.f (a0 : Int) (a1 : Int) : Option (Int) := if a0 < a1 then (some a0) else (some a1)
set_option maxHeartbeats 8000000 in
set_option maxRecDepth 100000 in
theorem spec_l00Min.calls (a0 : Int) (a1 : Int) (r : Int) (w : World) (h : spec_l00Min.f a0 a1 = some r) :
  Calls Try.prog 79 #[.int .i64 a0, .int .i64 a1] w fun e w' => e = .returned (.int .i64 r) ∧ Drawn0 w w' := by
 have H : (if a0 < a1 then (some a0) else (some a1)) = some r := h
 clear h
 by_cases c3 : a0 < a1
 ·rw [if_pos c3] at H
  have c3b0 : decide (a0 < a1) = true := decide_eq_true c3
  clear c3
  obtain rfl := Option.some.inj H
  go_enter Try.func79, Try.ntmps79
  go_wp2
  go_ret
  exact ⟨by first | rfl | (simp; done) | (simp [*]; done), by repeat (first | exact Drawn0.refl _ | apply Drawn0.step)⟩
 ·rw [if_neg c3] at H
  have c3b0 : decide (a0 < a1) = false := decide_eq_false c3
  clear c3
  obtain rfl := Option.some.inj H
  go_enter Try.func79, Try.ntmps79
  go_wp2
  go_ret
  exact ⟨by first | rfl | (simp; done) | (simp [*]; done), by repeat (first | exact Drawn0.refl _ | apply Drawn0.step)⟩

/-! ### spec_l00Max: function 80 -/
def spec_l00Max.f (a0 : Int) (a1 : Int) : Option (Int) := if a0 > a1 then (some a0) else (some a1)
set_option maxHeartbeats 8000000 in
set_option maxRecDepth 100000 in
theorem spec_l00Max.calls (a0 : Int) (a1 : Int) (r : Int) (w : World) (h : spec_l00Max.f a0 a1 = some r) :
  Calls Try.prog 80 #[.int .i64 a0, .int .i64 a1] w fun e w' => e = .returned (.int .i64 r) ∧ Drawn0 w w' := by
 have H : (if a0 > a1 then (some a0) else (some a1)) = some r := h
 clear h
 by_cases c3 : a0 > a1
 ·rw [if_pos c3] at H
  have c3b0 : decide (a1 < a0) = true := decide_eq_true c3
  clear c3
  obtain rfl := Option.some.inj H
  go_enter Try.func80, Try.ntmps80
  go_wp2
  go_ret
  exact ⟨by first | rfl | (simp; done) | (simp [*]; done), by repeat (first | exact Drawn0.refl _ | apply Drawn0.step)⟩
 ·rw [if_neg c3] at H
  have c3b0 : decide (a1 < a0) = false := decide_eq_false c3
  clear c3
  obtain rfl := Option.some.inj H
  go_enter Try.func80, Try.ntmps80
  go_wp2
  go_ret
  exact ⟨by first | rfl | (simp; done) | (simp [*]; done), by repeat (first | exact Drawn0.refl _ | apply Drawn0.step)⟩

/-! ### spec_l21Cost: function 55 -/
def spec_l21Cost.l0 : Nat → List (S27) → Int → Int → Int → Option (Int)
 | 0, _, _, _, _ => none
 | k + 1, x0, x1, x5, x6 => if 0 < (x0.length : Int) then (if x6 < (((rd_T27 x0 0).f3).length : Int) then (if (wrap64 (x6 + 1)) < (((rd_T27 x0 0).f3).length : Int) then (if 0 ≤ (wrap64 (x6 + 1)) then (if 0 < ((rd_L1 ((rd_T27 x0 0).f3) (wrap64 (x6 + 1))).length : Int) then ((spec_l00Min.f x1 (rd (rd_L1 ((rd_T27 x0 0).f3) (wrap64 (x6 + 1))) 0)).bind fun t169 => (if 0 ≤ x6 then (if 0 < ((rd_L1 ((rd_T27 x0 0).f3) x6).length : Int) then ((spec_l00Max.f 0 (wrap64 (t169 - (rd (rd_L1 ((rd_T27 x0 0).f3) x6) 0)))).bind fun t173 => (if 1 < ((rd_L1 ((rd_T27 x0 0).f3) x6).length : Int) then (spec_l21Cost.l0 k x0 x1 (wrap64 (x5 + (wrap64 (t173 * (rd (rd_L1 ((rd_T27 x0 0).f3) x6) 1))))) (wrap64 (x6 + 1))) else (none))) else (none)) else (none))) else (none)) else (none)) else (if 0 ≤ x6 then (if 0 < ((rd_L1 ((rd_T27 x0 0).f3) x6).length : Int) then ((spec_l00Max.f 0 (wrap64 (x1 - (rd (rd_L1 ((rd_T27 x0 0).f3) x6) 0)))).bind fun t180 => (if 1 < ((rd_L1 ((rd_T27 x0 0).f3) x6).length : Int) then (spec_l21Cost.l0 k x0 x1 (wrap64 (x5 + (wrap64 (t180 * (rd (rd_L1 ((rd_T27 x0 0).f3) x6) 1))))) (wrap64 (x6 + 1))) else (none))) else (none)) else (none))) else (some x5)) else (none)
def spec_l21Cost.f (k : Nat) (l0 : List (S27)) (a1 : Int) : Option (Int) := spec_l21Cost.l0 k l0 a1 0 0
theorem spec_l21Cost.mono_l : ∀ k, (∀ y0 y1 y2 y3, LeO (spec_l21Cost.l0 k y0 y1 y2 y3) (spec_l21Cost.l0 (k + 1) y0 y1 y2 y3))
 | 0 => fun _ _ _ _ r h => by simp [spec_l21Cost.l0] at h
 | k + 1 => by
  have ih0 := spec_l21Cost.mono_l k
  ·intro y0 y1 y2 y3
   unfold spec_l21Cost.l0
   repeat' first
   | (with_reducible exact ih0 _ _ _ _)
   | (with_reducible exact LeO.refl _)
   | (with_reducible exact LeO.none _)
   | (with_reducible refine LeO.ite ?_ ?_)
   | (with_reducible refine LeO.bind ?_ (fun _ => ?_))
   | exact ih0 _ _ _ _
   | exact LeO.none _
   | refine LeO.ite ?_ ?_
   | refine LeO.bind ?_ (fun _ => ?_)
theorem spec_l21Cost.mono : ∀ a0 a1 k, LeO (spec_l21Cost.f k a0 a1) (spec_l21Cost.f (k + 1) a0 a1) := by
 intro a0 a1 k
 have ih0 := spec_l21Cost.mono_l k
 unfold spec_l21Cost.f
 repeat' first
   | (with_reducible exact ih0 _ _ _ _)
   | (with_reducible exact LeO.refl _)
   | (with_reducible exact LeO.none _)
   | (with_reducible refine LeO.ite ?_ ?_)
   | (with_reducible refine LeO.bind ?_ (fun _ => ?_))
   | exact ih0 _ _ _ _
   | exact LeO.none _
   | refine LeO.ite ?_ ?_
   | refine LeO.bind ?_ (fun _ => ?_)
set_option maxHeartbeats 8000000 in
set_option maxRecDepth 100000 in
theorem spec_l21Cost.calls (k : Nat) (A0 : Option Addr) (c0 : Nat) (l0 : List (S27)) (a1 : Int) (r : Int) (w : World) (hr0 : Kd.C k27 w A0 l0.length l0) (hc0 : l0.length ≤ c0) (h : spec_l21Cost.f k l0 a1 = some r) :
  Calls Try.prog 55 #[.pointer A0, .int .i64 a1] w fun e w' => e = .returned (.int .i64 r) ∧ Drawn0 w w' := by
 have HR0 := Aside0.mk hr0
 have HC0 := Aside0.mk hc0
 clear hr0 hc0
 have H : (spec_l21Cost.l0 k l0 a1 0 0) = some r := h
 clear h
 have H' := Aside0.mk H
 clear H
 go_enter Try.func55, Try.ntmps55
 go_wp2
 repeat (go_quiet (fail); try go_wp2)
 go_loopg [5, 6] k (fun kq v5 v6 w' => ∃ (x5_1 : Int) (x6_1 : Int), v5 = .int .i64 x5_1 ∧ v6 = .int .i64 x6_1 ∧ Aside0 (spec_l21Cost.l0 kq l0 a1 x5_1 x6_1 = some r) ∧ Aside0 (kq ≤ k) ∧ Drawn0 w w')
 case atStart => exact ⟨(0), (0), (by first | rfl | (simp; done) | (simp [*]; done)), (by first | rfl | (simp; done) | (simp [*]; done)), H', ⟨Nat.le_refl _⟩, by repeat (first | exact Drawn0.refl _ | apply Drawn0.step)⟩
 case round =>
  clear H'
  try clear p2
  obtain ⟨x5_1, x6_1, rfl, rfl, HA, HK1, ⟨m1, rfl⟩⟩ := hrel
  cases gk with
  | zero => exact absurd HA.out (by simp [spec_l21Cost.l0])
  | succ k1 =>
   have H := HA.out
   clear HA
   simp only [spec_l21Cost.l0] at H
   by_cases c3 : 0 < (l0.length : Int)
   ·rw [if_pos c3] at H
    have c3b0 : decide (0 < (l0.length : Int)) = true := decide_eq_true c3
    have c3b1 : decide (0 < l0.length) = true := decide_eq_true (by omega)
    clear c3
    by_cases c4 : x6_1 < (((rd_T27 l0 0).f3).length : Int)
    ·rw [if_pos c4] at H
     have c4b0 : decide (x6_1 < (((rd_T27 l0 0).f3).length : Int)) = true := decide_eq_true c4
     clear c4
     by_cases c5 : (wrap64 (x6_1 + 1)) < (((rd_T27 l0 0).f3).length : Int)
     ·rw [if_pos c5] at H
      have c5b0 : decide ((wrap64 (x6_1 + 1)) < (((rd_T27 l0 0).f3).length : Int)) = true := decide_eq_true c5
      clear c5
      obtain ⟨ji6, hji6⟩ : ∃ j_ : Int, (wrap64 (x6_1 + 1)) = j_ := ⟨_, rfl⟩
      replace H : (if 0 ≤ (ji6) then (if 0 < ((rd_L1 ((rd_T27 l0 0).f3) (ji6)).length : Int) then ((spec_l00Min.f a1 (rd (rd_L1 ((rd_T27 l0 0).f3) (ji6)) 0)).bind fun t169 => (if 0 ≤ x6_1 then (if 0 < ((rd_L1 ((rd_T27 l0 0).f3) x6_1).length : Int) then ((spec_l00Max.f 0 (wrap64 (t169 - (rd (rd_L1 ((rd_T27 l0 0).f3) x6_1) 0)))).bind fun t173 => (if 1 < ((rd_L1 ((rd_T27 l0 0).f3) x6_1).length : Int) then (spec_l21Cost.l0 k1 l0 a1 (wrap64 (x5_1 + (wrap64 (t173 * (rd (rd_L1 ((rd_T27 l0 0).f3) x6_1) 1))))) ji6) else (none))) else (none)) else (none))) else (none)) else (none)) = some r := by first | (rw [hji6] at H; exact H) | (simp only [hji6] at H ⊢; exact H)
      (try rw [hji6] at c5b0)
      have hji6w : (IntKind.i64.wrap (x6_1 + 1)) = ji6 := (i64_w _).trans hji6
      by_cases c7 : 0 ≤ (ji6)
      ·rw [if_pos c7] at H
       have c7b0 : decide (0 ≤ (ji6)) = true := decide_eq_true c7
       clear c7
       by_cases c8 : 0 < ((rd_L1 ((rd_T27 l0 0).f3) (ji6)).length : Int)
       ·rw [if_pos c8] at H
        have c8b0 : decide (0 < ((rd_L1 ((rd_T27 l0 0).f3) (ji6)).length : Int)) = true := decide_eq_true c8
        have c8b1 : decide (0 < (rd_L1 ((rd_T27 l0 0).f3) (ji6)).length) = true := decide_eq_true (by omega)
        clear c8
        replace H := Option.bind_eq_some_iff.mp H
        obtain ⟨t169, A90, H⟩ := H
        replace H : (if 0 ≤ x6_1 then (if 0 < ((rd_L1 ((rd_T27 l0 0).f3) x6_1).length : Int) then ((spec_l00Max.f 0 (wrap64 (t169 - (rd (rd_L1 ((rd_T27 l0 0).f3) x6_1) 0)))).bind fun t173 => (if 1 < ((rd_L1 ((rd_T27 l0 0).f3) x6_1).length : Int) then (spec_l21Cost.l0 k1 l0 a1 (wrap64 (x5_1 + (wrap64 (t173 * (rd (rd_L1 ((rd_T27 l0 0).f3) x6_1) 1))))) ji6) else (none))) else (none)) else (none)) = some r := H
        have A9 := Aside0.mk A90
        clear A90
        by_cases c10 : 0 ≤ x6_1
        ·rw [if_pos c10] at H
         have c10b0 : decide (0 ≤ x6_1) = true := decide_eq_true c10
         clear c10
         by_cases c11 : 0 < ((rd_L1 ((rd_T27 l0 0).f3) x6_1).length : Int)
         ·rw [if_pos c11] at H
          have c11b0 : decide (0 < ((rd_L1 ((rd_T27 l0 0).f3) x6_1).length : Int)) = true := decide_eq_true c11
          have c11b1 : decide (0 < (rd_L1 ((rd_T27 l0 0).f3) x6_1).length) = true := decide_eq_true (by omega)
          clear c11
          replace H := Option.bind_eq_some_iff.mp H
          obtain ⟨t173, A120, H⟩ := H
          replace H : (if 1 < ((rd_L1 ((rd_T27 l0 0).f3) x6_1).length : Int) then (spec_l21Cost.l0 k1 l0 a1 (wrap64 (x5_1 + (wrap64 (t173 * (rd (rd_L1 ((rd_T27 l0 0).f3) x6_1) 1))))) ji6) else (none)) = some r := H
          have A12 := Aside0.mk A120
          clear A120
          by_cases c13 : 1 < ((rd_L1 ((rd_T27 l0 0).f3) x6_1).length : Int)
          ·rw [if_pos c13] at H
           have c13b0 : decide (1 < ((rd_L1 ((rd_T27 l0 0).f3) x6_1).length : Int)) = true := decide_eq_true c13
           have c13b1 : decide (1 < (rd_L1 ((rd_T27 l0 0).f3) x6_1).length) = true := decide_eq_true (by omega)
           clear c13
           have H' := Aside0.mk H
           clear H
           have p164 : 0 ≤ (0 : Int) := (by omega)
           have q164 : 0 < (l0.length : Int) := of_decide_eq_true (by first | (with_reducible assumption) | assumption)
           obtain ⟨ad164, A164_3, c164_3, e164, hx164_0, hx164_1, hx164_2, hx164_3, hl164_3, hi164_3⟩ := at_T27 HR0.out 0 p164 q164
           cases e164
           have qi164 : (0 < l0.length) = True := eq_true (by omega)
           (try rw [show ((0 : Int)).toNat = 0 from rfl] at hx164_0)
           (try rw [show 0 * 4 = 0 from rfl] at hx164_0)
           (try rw [Addr.add_zero'] at hx164_0)
           (try rw [show ((0 : Int)).toNat = 0 from rfl] at hx164_1)
           (try rw [show 0 * 4 = 0 from rfl] at hx164_1)
           (try rw [Addr.add_zero'] at hx164_1)
           (try rw [show ((0 : Int)).toNat = 0 from rfl] at hx164_2)
           (try rw [show 0 * 4 = 0 from rfl] at hx164_2)
           (try rw [Addr.add_zero'] at hx164_2)
           (try rw [show ((0 : Int)).toNat = 0 from rfl] at hx164_3)
           (try rw [show 0 * 4 = 0 from rfl] at hx164_3)
           (try rw [Addr.add_zero'] at hx164_3)
           have HR164_3 := Aside0.mk hi164_3
           have HC164_3 := Aside0.mk hl164_3
           clear hi164_3 hl164_3
           replace p164 := eq_true p164
           replace q164 := eq_true q164
           have p165 : 0 ≤ (0 : Int) := (by omega)
           have q165 : 0 < (l0.length : Int) := of_decide_eq_true (by first | (with_reducible assumption) | assumption)
           obtain ⟨ad165, A165_3, c165_3, e165, hx165_0, hx165_1, hx165_2, hx165_3, hl165_3, hi165_3⟩ := at_T27 HR0.out 0 p165 q165
           obtain rfl : ad164 = ad165 := (by injection e165)
           have qi165 : (0 < l0.length) = True := eq_true (by omega)
           (try rw [show ((0 : Int)).toNat = 0 from rfl] at hx165_0)
           (try rw [show 0 * 4 = 0 from rfl] at hx165_0)
           (try rw [Addr.add_zero'] at hx165_0)
           (try rw [show ((0 : Int)).toNat = 0 from rfl] at hx165_1)
           (try rw [show 0 * 4 = 0 from rfl] at hx165_1)
           (try rw [Addr.add_zero'] at hx165_1)
           (try rw [show ((0 : Int)).toNat = 0 from rfl] at hx165_2)
           (try rw [show 0 * 4 = 0 from rfl] at hx165_2)
           (try rw [Addr.add_zero'] at hx165_2)
           (try rw [show ((0 : Int)).toNat = 0 from rfl] at hx165_3)
           (try rw [show 0 * 4 = 0 from rfl] at hx165_3)
           (try rw [Addr.add_zero'] at hx165_3)
           have HR165_3 := Aside0.mk hi165_3
           have HC165_3 := Aside0.mk hl165_3
           clear hi165_3 hl165_3
           replace p165 := eq_true p165
           replace q165 := eq_true q165
           have ea_ := Option.some.inj (hx164_3.symm.trans hx165_3)
           injection ea_ with ea_ en_ ec_
           subst ea_
           subst ec_
           clear en_
           have p166 : 0 ≤ (0 : Int) := (by omega)
           have q166 : 0 < (l0.length : Int) := of_decide_eq_true (by first | (with_reducible assumption) | assumption)
           obtain ⟨ad166, A166_3, c166_3, e166, hx166_0, hx166_1, hx166_2, hx166_3, hl166_3, hi166_3⟩ := at_T27 HR0.out 0 p166 q166
           obtain rfl : ad164 = ad166 := (by injection e166)
           have qi166 : (0 < l0.length) = True := eq_true (by omega)
           (try rw [show ((0 : Int)).toNat = 0 from rfl] at hx166_0)
           (try rw [show 0 * 4 = 0 from rfl] at hx166_0)
           (try rw [Addr.add_zero'] at hx166_0)
           (try rw [show ((0 : Int)).toNat = 0 from rfl] at hx166_1)
           (try rw [show 0 * 4 = 0 from rfl] at hx166_1)
           (try rw [Addr.add_zero'] at hx166_1)
           (try rw [show ((0 : Int)).toNat = 0 from rfl] at hx166_2)
           (try rw [show 0 * 4 = 0 from rfl] at hx166_2)
           (try rw [Addr.add_zero'] at hx166_2)
           (try rw [show ((0 : Int)).toNat = 0 from rfl] at hx166_3)
           (try rw [show 0 * 4 = 0 from rfl] at hx166_3)
           (try rw [Addr.add_zero'] at hx166_3)
           have HR166_3 := Aside0.mk hi166_3
           have HC166_3 := Aside0.mk hl166_3
           clear hi166_3 hl166_3
           replace p166 := eq_true p166
           replace q166 := eq_true q166
           have ea_ := Option.some.inj (hx164_3.symm.trans hx166_3)
           injection ea_ with ea_ en_ ec_
           subst ea_
           subst ec_
           clear en_
           have p167 : 0 ≤ ((ji6) : Int) := of_decide_eq_true (by first | (with_reducible assumption) | assumption)
           have q167 : (ji6) < (((rd_T27 l0 0).f3).length : Int) := of_decide_eq_true (by first | (with_reducible assumption) | assumption)
           obtain ⟨ad167, A167_0, c167_0, e167, hx167_0, hl167_0, hi167_0⟩ := at_L1 HR166_3.out (ji6) p167 q167
           cases e167
           have HR167_0 := Aside0.mk hi167_0
           have HC167_0 := Aside0.mk hl167_0
           clear hi167_0 hl167_0
           replace p167 := eq_true p167
           replace q167 := eq_true q167
           have p168 : 0 ≤ (0 : Int) := (by omega)
           have q168 : 0 < ((rd_L1 ((rd_T27 l0 0).f3) (ji6)).length : Int) := of_decide_eq_true (by first | (with_reducible assumption) | assumption)
           obtain ⟨ad168, e168, hx168_0⟩ := Kd.at_int HR167_0.out 0 p168 q168
           cases e168
           have qi168 : (0 < (rd_L1 ((rd_T27 l0 0).f3) (ji6)).length) = True := eq_true (by omega)
           (try rw [show ((0 : Int)).toNat = 0 from rfl] at hx168_0)
           (try rw [Addr.add_zero'] at hx168_0)
           replace p168 := eq_true p168
           replace q168 := eq_true q168
           go_wp2_with (first | (go_at_call 79; (with_reducible refine (spec_l00Min.calls a1 (rd (rd_L1 ((rd_T27 l0 0).f3) (ji6)) 0) t169 _ A9.out).mono ?_); rintro e w' ⟨rfl, ⟨nd, rfl⟩⟩; (try first | exact ⟨rfl, _, World.drewN_drewN _ _ _⟩ | exact ⟨rfl, _, Eq.trans (World.drewN_drewN _ _ _) (congrArg (World.drewN _) (Nat.add_assoc _ _ _))⟩); (try (have p170 : 0 ≤ (0 : Int) := (by omega); have q170 : 0 < (l0.length : Int) := of_decide_eq_true (by first | (with_reducible assumption) | assumption); obtain ⟨ad170, A170_3, c170_3, e170, hx170_0, hx170_1, hx170_2, hx170_3, hl170_3, hi170_3⟩ := at_T27 HR0.out 0 p170 q170; obtain rfl : ad164 = ad170 := (by injection e170); have qi170 : (0 < l0.length) = True := eq_true (by omega); (try rw [show ((0 : Int)).toNat = 0 from rfl] at hx170_0); (try rw [show 0 * 4 = 0 from rfl] at hx170_0); (try rw [Addr.add_zero'] at hx170_0); (try rw [show ((0 : Int)).toNat = 0 from rfl] at hx170_1); (try rw [show 0 * 4 = 0 from rfl] at hx170_1); (try rw [Addr.add_zero'] at hx170_1); (try rw [show ((0 : Int)).toNat = 0 from rfl] at hx170_2); (try rw [show 0 * 4 = 0 from rfl] at hx170_2); (try rw [Addr.add_zero'] at hx170_2); (try rw [show ((0 : Int)).toNat = 0 from rfl] at hx170_3); (try rw [show 0 * 4 = 0 from rfl] at hx170_3); (try rw [Addr.add_zero'] at hx170_3); have HR170_3 := Aside0.mk hi170_3; have HC170_3 := Aside0.mk hl170_3; clear hi170_3 hl170_3; replace p170 := eq_true p170; replace q170 := eq_true q170; have ea_ := Option.some.inj (hx164_3.symm.trans hx170_3); injection ea_ with ea_ en_ ec_; subst ea_; subst ec_; clear en_; have p171 : 0 ≤ (x6_1 : Int) := of_decide_eq_true (by first | (with_reducible assumption) | assumption); have q171 : x6_1 < (((rd_T27 l0 0).f3).length : Int) := of_decide_eq_true (by first | (with_reducible assumption) | assumption); obtain ⟨ad171, A171_0, c171_0, e171, hx171_0, hl171_0, hi171_0⟩ := at_L1 HR170_3.out x6_1 p171 q171; cases e171; have HR171_0 := Aside0.mk hi171_0; have HC171_0 := Aside0.mk hl171_0; clear hi171_0 hl171_0; replace p171 := eq_true p171; replace q171 := eq_true q171; have p172 : 0 ≤ (0 : Int) := (by omega); have q172 : 0 < ((rd_L1 ((rd_T27 l0 0).f3) x6_1).length : Int) := of_decide_eq_true (by first | (with_reducible assumption) | assumption); obtain ⟨ad172, e172, hx172_0⟩ := Kd.at_int HR171_0.out 0 p172 q172; cases e172; have qi172 : (0 < (rd_L1 ((rd_T27 l0 0).f3) x6_1).length) = True := eq_true (by omega); (try rw [show ((0 : Int)).toNat = 0 from rfl] at hx172_0); (try rw [Addr.add_zero'] at hx172_0); replace p172 := eq_true p172; replace q172 := eq_true q172))) | (go_at_call 80; (with_reducible refine (spec_l00Max.calls 0 (wrap64 (t169 - (rd (rd_L1 ((rd_T27 l0 0).f3) x6_1) 0))) t173 _ A12.out).mono ?_); rintro e w' ⟨rfl, ⟨nd, rfl⟩⟩; (try first | exact ⟨rfl, _, World.drewN_drewN _ _ _⟩ | exact ⟨rfl, _, Eq.trans (World.drewN_drewN _ _ _) (congrArg (World.drewN _) (Nat.add_assoc _ _ _))⟩); (try (have p174 : 0 ≤ (0 : Int) := (by omega); have q174 : 0 < (l0.length : Int) := of_decide_eq_true (by first | (with_reducible assumption) | assumption); obtain ⟨ad174, A174_3, c174_3, e174, hx174_0, hx174_1, hx174_2, hx174_3, hl174_3, hi174_3⟩ := at_T27 HR0.out 0 p174 q174; obtain rfl : ad164 = ad174 := (by injection e174); have qi174 : (0 < l0.length) = True := eq_true (by omega); (try rw [show ((0 : Int)).toNat = 0 from rfl] at hx174_0); (try rw [show 0 * 4 = 0 from rfl] at hx174_0); (try rw [Addr.add_zero'] at hx174_0); (try rw [show ((0 : Int)).toNat = 0 from rfl] at hx174_1); (try rw [show 0 * 4 = 0 from rfl] at hx174_1); (try rw [Addr.add_zero'] at hx174_1); (try rw [show ((0 : Int)).toNat = 0 from rfl] at hx174_2); (try rw [show 0 * 4 = 0 from rfl] at hx174_2); (try rw [Addr.add_zero'] at hx174_2); (try rw [show ((0 : Int)).toNat = 0 from rfl] at hx174_3); (try rw [show 0 * 4 = 0 from rfl] at hx174_3); (try rw [Addr.add_zero'] at hx174_3); have HR174_3 := Aside0.mk hi174_3; have HC174_3 := Aside0.mk hl174_3; clear hi174_3 hl174_3; replace p174 := eq_true p174; replace q174 := eq_true q174; have ea_ := Option.some.inj (hx164_3.symm.trans hx174_3); injection ea_ with ea_ en_ ec_; subst ea_; subst ec_; clear en_; have p175 : 0 ≤ (x6_1 : Int) := of_decide_eq_true (by first | (with_reducible assumption) | assumption); have q175 : x6_1 < (((rd_T27 l0 0).f3).length : Int) := of_decide_eq_true (by first | (with_reducible assumption) | assumption); obtain ⟨ad175, A175_0, c175_0, e175, hx175_0, hl175_0, hi175_0⟩ := at_L1 HR174_3.out x6_1 p175 q175; cases e175; have HR175_0 := Aside0.mk hi175_0; have HC175_0 := Aside0.mk hl175_0; clear hi175_0 hl175_0; replace p175 := eq_true p175; replace q175 := eq_true q175; have p176 : 0 ≤ (1 : Int) := (by omega); have q176 : 1 < ((rd_L1 ((rd_T27 l0 0).f3) x6_1).length : Int) := of_decide_eq_true (by first | (with_reducible assumption) | assumption); obtain ⟨ad176, e176, hx176_0⟩ := Kd.at_int HR175_0.out 1 p176 q176; cases e176; (try simp only [show (1 : Int).toNat = 1 from rfl, Nat.reduceMul, Nat.reduceEqDiff, Go.Addr.add, ↓reduceIte] at hx176_0); have qi176 : (1 < (rd_L1 ((rd_T27 l0 0).f3) x6_1).length) = True := eq_true (by omega); (try rw [show ((1 : Int)).toNat = 1 from rfl] at hx176_0); replace p176 := eq_true p176; replace q176 := eq_true q176))))
           (first | (have h_ := q172; clear h_) | (try (have p170 : 0 ≤ (0 : Int) := (by omega); have q170 : 0 < (l0.length : Int) := of_decide_eq_true (by first | (with_reducible assumption) | assumption); obtain ⟨ad170, A170_3, c170_3, e170, hx170_0, hx170_1, hx170_2, hx170_3, hl170_3, hi170_3⟩ := at_T27 HR0.out 0 p170 q170; obtain rfl : ad164 = ad170 := (by injection e170); have qi170 : (0 < l0.length) = True := eq_true (by omega); (try rw [show ((0 : Int)).toNat = 0 from rfl] at hx170_0); (try rw [show 0 * 4 = 0 from rfl] at hx170_0); (try rw [Addr.add_zero'] at hx170_0); (try rw [show ((0 : Int)).toNat = 0 from rfl] at hx170_1); (try rw [show 0 * 4 = 0 from rfl] at hx170_1); (try rw [Addr.add_zero'] at hx170_1); (try rw [show ((0 : Int)).toNat = 0 from rfl] at hx170_2); (try rw [show 0 * 4 = 0 from rfl] at hx170_2); (try rw [Addr.add_zero'] at hx170_2); (try rw [show ((0 : Int)).toNat = 0 from rfl] at hx170_3); (try rw [show 0 * 4 = 0 from rfl] at hx170_3); (try rw [Addr.add_zero'] at hx170_3); have HR170_3 := Aside0.mk hi170_3; have HC170_3 := Aside0.mk hl170_3; clear hi170_3 hl170_3; replace p170 := eq_true p170; replace q170 := eq_true q170; have ea_ := Option.some.inj (hx164_3.symm.trans hx170_3); injection ea_ with ea_ en_ ec_; subst ea_; subst ec_; clear en_; have p171 : 0 ≤ (x6_1 : Int) := of_decide_eq_true (by first | (with_reducible assumption) | assumption); have q171 : x6_1 < (((rd_T27 l0 0).f3).length : Int) := of_decide_eq_true (by first | (with_reducible assumption) | assumption); obtain ⟨ad171, A171_0, c171_0, e171, hx171_0, hl171_0, hi171_0⟩ := at_L1 HR170_3.out x6_1 p171 q171; cases e171; have HR171_0 := Aside0.mk hi171_0; have HC171_0 := Aside0.mk hl171_0; clear hi171_0 hl171_0; replace p171 := eq_true p171; replace q171 := eq_true q171; have p172 : 0 ≤ (0 : Int) := (by omega); have q172 : 0 < ((rd_L1 ((rd_T27 l0 0).f3) x6_1).length : Int) := of_decide_eq_true (by first | (with_reducible assumption) | assumption); obtain ⟨ad172, e172, hx172_0⟩ := Kd.at_int HR171_0.out 0 p172 q172; cases e172; have qi172 : (0 < (rd_L1 ((rd_T27 l0 0).f3) x6_1).length) = True := eq_true (by omega); (try rw [show ((0 : Int)).toNat = 0 from rfl] at hx172_0); (try rw [Addr.add_zero'] at hx172_0); replace p172 := eq_true p172; replace q172 := eq_true q172))); (first | (have h_ := q176; clear h_) | (try (have p174 : 0 ≤ (0 : Int) := (by omega); have q174 : 0 < (l0.length : Int) := of_decide_eq_true (by first | (with_reducible assumption) | assumption); obtain ⟨ad174, A174_3, c174_3, e174, hx174_0, hx174_1, hx174_2, hx174_3, hl174_3, hi174_3⟩ := at_T27 HR0.out 0 p174 q174; obtain rfl : ad164 = ad174 := (by injection e174); have qi174 : (0 < l0.length) = True := eq_true (by omega); (try rw [show ((0 : Int)).toNat = 0 from rfl] at hx174_0); (try rw [show 0 * 4 = 0 from rfl] at hx174_0); (try rw [Addr.add_zero'] at hx174_0); (try rw [show ((0 : Int)).toNat = 0 from rfl] at hx174_1); (try rw [show 0 * 4 = 0 from rfl] at hx174_1); (try rw [Addr.add_zero'] at hx174_1); (try rw [show ((0 : Int)).toNat = 0 from rfl] at hx174_2); (try rw [show 0 * 4 = 0 from rfl] at hx174_2); (try rw [Addr.add_zero'] at hx174_2); (try rw [show ((0 : Int)).toNat = 0 from rfl] at hx174_3); (try rw [show 0 * 4 = 0 from rfl] at hx174_3); (try rw [Addr.add_zero'] at hx174_3); have HR174_3 := Aside0.mk hi174_3; have HC174_3 := Aside0.mk hl174_3; clear hi174_3 hl174_3; replace p174 := eq_true p174; replace q174 := eq_true q174; have ea_ := Option.some.inj (hx164_3.symm.trans hx174_3); injection ea_ with ea_ en_ ec_; subst ea_; subst ec_; clear en_; have p175 : 0 ≤ (x6_1 : Int) := of_decide_eq_true (by first | (with_reducible assumption) | assumption); have q175 : x6_1 < (((rd_T27 l0 0).f3).length : Int) := of_decide_eq_true (by first | (with_reducible assumption) | assumption); obtain ⟨ad175, A175_0, c175_0, e175, hx175_0, hl175_0, hi175_0⟩ := at_L1 HR174_3.out x6_1 p175 q175; cases e175; (try (have ea_ := Option.some.inj (hx171_0.symm.trans hx175_0); injection ea_ with ea_ en_ ec_; subst ea_; subst ec_; clear en_)); have HR175_0 := Aside0.mk hi175_0; have HC175_0 := Aside0.mk hl175_0; clear hi175_0 hl175_0; replace p175 := eq_true p175; replace q175 := eq_true q175; have p176 : 0 ≤ (1 : Int) := (by omega); have q176 : 1 < ((rd_L1 ((rd_T27 l0 0).f3) x6_1).length : Int) := of_decide_eq_true (by first | (with_reducible assumption) | assumption); obtain ⟨ad176, e176, hx176_0⟩ := Kd.at_int HR175_0.out 1 p176 q176; cases e176; (try simp only [show (1 : Int).toNat = 1 from rfl, Nat.reduceMul, Nat.reduceEqDiff, Go.Addr.add, ↓reduceIte] at hx176_0); have qi176 : (1 < (rd_L1 ((rd_T27 l0 0).f3) x6_1).length) = True := eq_true (by omega); (try rw [show ((1 : Int)).toNat = 1 from rfl] at hx176_0); replace p176 := eq_true p176; replace q176 := eq_true q176)))
           repeat (go_quiet (first | (go_at_call 79; (with_reducible refine (spec_l00Min.calls a1 (rd (rd_L1 ((rd_T27 l0 0).f3) (ji6)) 0) t169 _ A9.out).mono ?_); rintro e w' ⟨rfl, ⟨nd, rfl⟩⟩; (try first | exact ⟨rfl, _, World.drewN_drewN _ _ _⟩ | exact ⟨rfl, _, Eq.trans (World.drewN_drewN _ _ _) (congrArg (World.drewN _) (Nat.add_assoc _ _ _))⟩)) | (go_at_call 80; (with_reducible refine (spec_l00Max.calls 0 (wrap64 (t169 - (rd (rd_L1 ((rd_T27 l0 0).f3) x6_1) 0))) t173 _ A12.out).mono ?_); rintro e w' ⟨rfl, ⟨nd, rfl⟩⟩; (try first | exact ⟨rfl, _, World.drewN_drewN _ _ _⟩ | exact ⟨rfl, _, Eq.trans (World.drewN_drewN _ _ _) (congrArg (World.drewN _) (Nat.add_assoc _ _ _))⟩))); try go_wp2_with (first | (go_at_call 79; (with_reducible refine (spec_l00Min.calls a1 (rd (rd_L1 ((rd_T27 l0 0).f3) (ji6)) 0) t169 _ A9.out).mono ?_); rintro e w' ⟨rfl, ⟨nd, rfl⟩⟩; (try first | exact ⟨rfl, _, World.drewN_drewN _ _ _⟩ | exact ⟨rfl, _, Eq.trans (World.drewN_drewN _ _ _) (congrArg (World.drewN _) (Nat.add_assoc _ _ _))⟩); (try (have p170 : 0 ≤ (0 : Int) := (by omega); have q170 : 0 < (l0.length : Int) := of_decide_eq_true (by first | (with_reducible assumption) | assumption); obtain ⟨ad170, A170_3, c170_3, e170, hx170_0, hx170_1, hx170_2, hx170_3, hl170_3, hi170_3⟩ := at_T27 HR0.out 0 p170 q170; obtain rfl : ad164 = ad170 := (by injection e170); have qi170 : (0 < l0.length) = True := eq_true (by omega); (try rw [show ((0 : Int)).toNat = 0 from rfl] at hx170_0); (try rw [show 0 * 4 = 0 from rfl] at hx170_0); (try rw [Addr.add_zero'] at hx170_0); (try rw [show ((0 : Int)).toNat = 0 from rfl] at hx170_1); (try rw [show 0 * 4 = 0 from rfl] at hx170_1); (try rw [Addr.add_zero'] at hx170_1); (try rw [show ((0 : Int)).toNat = 0 from rfl] at hx170_2); (try rw [show 0 * 4 = 0 from rfl] at hx170_2); (try rw [Addr.add_zero'] at hx170_2); (try rw [show ((0 : Int)).toNat = 0 from rfl] at hx170_3); (try rw [show 0 * 4 = 0 from rfl] at hx170_3); (try rw [Addr.add_zero'] at hx170_3); have HR170_3 := Aside0.mk hi170_3; have HC170_3 := Aside0.mk hl170_3; clear hi170_3 hl170_3; replace p170 := eq_true p170; replace q170 := eq_true q170; have ea_ := Option.some.inj (hx164_3.symm.trans hx170_3); injection ea_ with ea_ en_ ec_; subst ea_; subst ec_; clear en_; have p171 : 0 ≤ (x6_1 : Int) := of_decide_eq_true (by first | (with_reducible assumption) | assumption); have q171 : x6_1 < (((rd_T27 l0 0).f3).length : Int) := of_decide_eq_true (by first | (with_reducible assumption) | assumption); obtain ⟨ad171, A171_0, c171_0, e171, hx171_0, hl171_0, hi171_0⟩ := at_L1 HR170_3.out x6_1 p171 q171; cases e171; have HR171_0 := Aside0.mk hi171_0; have HC171_0 := Aside0.mk hl171_0; clear hi171_0 hl171_0; replace p171 := eq_true p171; replace q171 := eq_true q171; have p172 : 0 ≤ (0 : Int) := (by omega); have q172 : 0 < ((rd_L1 ((rd_T27 l0 0).f3) x6_1).length : Int) := of_decide_eq_true (by first | (with_reducible assumption) | assumption); obtain ⟨ad172, e172, hx172_0⟩ := Kd.at_int HR171_0.out 0 p172 q172; cases e172; have qi172 : (0 < (rd_L1 ((rd_T27 l0 0).f3) x6_1).length) = True := eq_true (by omega); (try rw [show ((0 : Int)).toNat = 0 from rfl] at hx172_0); (try rw [Addr.add_zero'] at hx172_0); replace p172 := eq_true p172; replace q172 := eq_true q172))) | (go_at_call 80; (with_reducible refine (spec_l00Max.calls 0 (wrap64 (t169 - (rd (rd_L1 ((rd_T27 l0 0).f3) x6_1) 0))) t173 _ A12.out).mono ?_); rintro e w' ⟨rfl, ⟨nd, rfl⟩⟩; (try first | exact ⟨rfl, _, World.drewN_drewN _ _ _⟩ | exact ⟨rfl, _, Eq.trans (World.drewN_drewN _ _ _) (congrArg (World.drewN _) (Nat.add_assoc _ _ _))⟩); (try (have p174 : 0 ≤ (0 : Int) := (by omega); have q174 : 0 < (l0.length : Int) := of_decide_eq_true (by first | (with_reducible assumption) | assumption); obtain ⟨ad174, A174_3, c174_3, e174, hx174_0, hx174_1, hx174_2, hx174_3, hl174_3, hi174_3⟩ := at_T27 HR0.out 0 p174 q174; obtain rfl : ad164 = ad174 := (by injection e174); have qi174 : (0 < l0.length) = True := eq_true (by omega); (try rw [show ((0 : Int)).toNat = 0 from rfl] at hx174_0); (try rw [show 0 * 4 = 0 from rfl] at hx174_0); (try rw [Addr.add_zero'] at hx174_0); (try rw [show ((0 : Int)).toNat = 0 from rfl] at hx174_1); (try rw [show 0 * 4 = 0 from rfl] at hx174_1); (try rw [Addr.add_zero'] at hx174_1); (try rw [show ((0 : Int)).toNat = 0 from rfl] at hx174_2); (try rw [show 0 * 4 = 0 from rfl] at hx174_2); (try rw [Addr.add_zero'] at hx174_2); (try rw [show ((0 : Int)).toNat = 0 from rfl] at hx174_3); (try rw [show 0 * 4 = 0 from rfl] at hx174_3); (try rw [Addr.add_zero'] at hx174_3); have HR174_3 := Aside0.mk hi174_3; have HC174_3 := Aside0.mk hl174_3; clear hi174_3 hl174_3; replace p174 := eq_true p174; replace q174 := eq_true q174; have ea_ := Option.some.inj (hx164_3.symm.trans hx174_3); injection ea_ with ea_ en_ ec_; subst ea_; subst ec_; clear en_; have p175 : 0 ≤ (x6_1 : Int) := of_decide_eq_true (by first | (with_reducible assumption) | assumption); have q175 : x6_1 < (((rd_T27 l0 0).f3).length : Int) := of_decide_eq_true (by first | (with_reducible assumption) | assumption); obtain ⟨ad175, A175_0, c175_0, e175, hx175_0, hl175_0, hi175_0⟩ := at_L1 HR174_3.out x6_1 p175 q175; cases e175; have HR175_0 := Aside0.mk hi175_0; have HC175_0 := Aside0.mk hl175_0; clear hi175_0 hl175_0; replace p175 := eq_true p175; replace q175 := eq_true q175; have p176 : 0 ≤ (1 : Int) := (by omega); have q176 : 1 < ((rd_L1 ((rd_T27 l0 0).f3) x6_1).length : Int) := of_decide_eq_true (by first | (with_reducible assumption) | assumption); obtain ⟨ad176, e176, hx176_0⟩ := Kd.at_int HR175_0.out 1 p176 q176; cases e176; (try simp only [show (1 : Int).toNat = 1 from rfl, Nat.reduceMul, Nat.reduceEqDiff, Go.Addr.add, ↓reduceIte] at hx176_0); have qi176 : (1 < (rd_L1 ((rd_T27 l0 0).f3) x6_1).length) = True := eq_true (by omega); (try rw [show ((1 : Int)).toNat = 1 from rfl] at hx176_0); replace p176 := eq_true p176; replace q176 := eq_true q176)))))
           go_roundg k1
           case measure => have := HK1.out; omega
           case rel => exact ⟨(wrap64 (x5_1 + (wrap64 (t173 * (rd (rd_L1 ((rd_T27 l0 0).f3) x6_1) 1))))), (ji6), (by first | rfl | (simp; done) | (simp [*]; done)), (by first | rfl | (simp; done) | (simp only [← hji6] <;> (first | rfl | simp)) | (simp [*]; done)), H', ⟨by have := HK1.out; omega⟩, by repeat (first | exact Drawn0.refl _ | apply Drawn0.step)⟩
          ·rw [if_neg c13] at H
           exact absurd H (by simp)
         ·rw [if_neg c11] at H
          exact absurd H (by simp)
        ·rw [if_neg c10] at H
         exact absurd H (by simp)
       ·rw [if_neg c8] at H
        exact absurd H (by simp)
      ·rw [if_neg c7] at H
       exact absurd H (by simp)
     ·rw [if_neg c5] at H
      have c5b0 : decide ((wrap64 (x6_1 + 1)) < (((rd_T27 l0 0).f3).length : Int)) = false := decide_eq_false c5
      clear c5
      by_cases c14 : 0 ≤ x6_1
      ·rw [if_pos c14] at H
       have c14b0 : decide (0 ≤ x6_1) = true := decide_eq_true c14
       clear c14
       by_cases c15 : 0 < ((rd_L1 ((rd_T27 l0 0).f3) x6_1).length : Int)
       ·rw [if_pos c15] at H
        have c15b0 : decide (0 < ((rd_L1 ((rd_T27 l0 0).f3) x6_1).length : Int)) = true := decide_eq_true c15
        have c15b1 : decide (0 < (rd_L1 ((rd_T27 l0 0).f3) x6_1).length) = true := decide_eq_true (by omega)
        clear c15
        replace H := Option.bind_eq_some_iff.mp H
        obtain ⟨t180, A160, H⟩ := H
        replace H : (if 1 < ((rd_L1 ((rd_T27 l0 0).f3) x6_1).length : Int) then (spec_l21Cost.l0 k1 l0 a1 (wrap64 (x5_1 + (wrap64 (t180 * (rd (rd_L1 ((rd_T27 l0 0).f3) x6_1) 1))))) (wrap64 (x6_1 + 1))) else (none)) = some r := H
        have A16 := Aside0.mk A160
        clear A160
        by_cases c17 : 1 < ((rd_L1 ((rd_T27 l0 0).f3) x6_1).length : Int)
        ·rw [if_pos c17] at H
         have c17b0 : decide (1 < ((rd_L1 ((rd_T27 l0 0).f3) x6_1).length : Int)) = true := decide_eq_true c17
         have c17b1 : decide (1 < (rd_L1 ((rd_T27 l0 0).f3) x6_1).length) = true := decide_eq_true (by omega)
         clear c17
         have H' := Aside0.mk H
         clear H
         have p164 : 0 ≤ (0 : Int) := (by omega)
         have q164 : 0 < (l0.length : Int) := of_decide_eq_true (by first | (with_reducible assumption) | assumption)
         obtain ⟨ad164, A164_3, c164_3, e164, hx164_0, hx164_1, hx164_2, hx164_3, hl164_3, hi164_3⟩ := at_T27 HR0.out 0 p164 q164
         cases e164
         have qi164 : (0 < l0.length) = True := eq_true (by omega)
         (try rw [show ((0 : Int)).toNat = 0 from rfl] at hx164_0)
         (try rw [show 0 * 4 = 0 from rfl] at hx164_0)
         (try rw [Addr.add_zero'] at hx164_0)
         (try rw [show ((0 : Int)).toNat = 0 from rfl] at hx164_1)
         (try rw [show 0 * 4 = 0 from rfl] at hx164_1)
         (try rw [Addr.add_zero'] at hx164_1)
         (try rw [show ((0 : Int)).toNat = 0 from rfl] at hx164_2)
         (try rw [show 0 * 4 = 0 from rfl] at hx164_2)
         (try rw [Addr.add_zero'] at hx164_2)
         (try rw [show ((0 : Int)).toNat = 0 from rfl] at hx164_3)
         (try rw [show 0 * 4 = 0 from rfl] at hx164_3)
         (try rw [Addr.add_zero'] at hx164_3)
         have HR164_3 := Aside0.mk hi164_3
         have HC164_3 := Aside0.mk hl164_3
         clear hi164_3 hl164_3
         replace p164 := eq_true p164
         replace q164 := eq_true q164
         have p165 : 0 ≤ (0 : Int) := (by omega)
         have q165 : 0 < (l0.length : Int) := of_decide_eq_true (by first | (with_reducible assumption) | assumption)
         obtain ⟨ad165, A165_3, c165_3, e165, hx165_0, hx165_1, hx165_2, hx165_3, hl165_3, hi165_3⟩ := at_T27 HR0.out 0 p165 q165
         obtain rfl : ad164 = ad165 := (by injection e165)
         have qi165 : (0 < l0.length) = True := eq_true (by omega)
         (try rw [show ((0 : Int)).toNat = 0 from rfl] at hx165_0)
         (try rw [show 0 * 4 = 0 from rfl] at hx165_0)
         (try rw [Addr.add_zero'] at hx165_0)
         (try rw [show ((0 : Int)).toNat = 0 from rfl] at hx165_1)
         (try rw [show 0 * 4 = 0 from rfl] at hx165_1)
         (try rw [Addr.add_zero'] at hx165_1)
         (try rw [show ((0 : Int)).toNat = 0 from rfl] at hx165_2)
         (try rw [show 0 * 4 = 0 from rfl] at hx165_2)
         (try rw [Addr.add_zero'] at hx165_2)
         (try rw [show ((0 : Int)).toNat = 0 from rfl] at hx165_3)
         (try rw [show 0 * 4 = 0 from rfl] at hx165_3)
         (try rw [Addr.add_zero'] at hx165_3)
         have HR165_3 := Aside0.mk hi165_3
         have HC165_3 := Aside0.mk hl165_3
         clear hi165_3 hl165_3
         replace p165 := eq_true p165
         replace q165 := eq_true q165
         have ea_ := Option.some.inj (hx164_3.symm.trans hx165_3)
         injection ea_ with ea_ en_ ec_
         subst ea_
         subst ec_
         clear en_
         have p177 : 0 ≤ (0 : Int) := (by omega)
         have q177 : 0 < (l0.length : Int) := of_decide_eq_true (by first | (with_reducible assumption) | assumption)
         obtain ⟨ad177, A177_3, c177_3, e177, hx177_0, hx177_1, hx177_2, hx177_3, hl177_3, hi177_3⟩ := at_T27 HR0.out 0 p177 q177
         obtain rfl : ad164 = ad177 := (by injection e177)
         have qi177 : (0 < l0.length) = True := eq_true (by omega)
         (try rw [show ((0 : Int)).toNat = 0 from rfl] at hx177_0)
         (try rw [show 0 * 4 = 0 from rfl] at hx177_0)
         (try rw [Addr.add_zero'] at hx177_0)
         (try rw [show ((0 : Int)).toNat = 0 from rfl] at hx177_1)
         (try rw [show 0 * 4 = 0 from rfl] at hx177_1)
         (try rw [Addr.add_zero'] at hx177_1)
         (try rw [show ((0 : Int)).toNat = 0 from rfl] at hx177_2)
         (try rw [show 0 * 4 = 0 from rfl] at hx177_2)
         (try rw [Addr.add_zero'] at hx177_2)
         (try rw [show ((0 : Int)).toNat = 0 from rfl] at hx177_3)
         (try rw [show 0 * 4 = 0 from rfl] at hx177_3)
         (try rw [Addr.add_zero'] at hx177_3)
         have HR177_3 := Aside0.mk hi177_3
         have HC177_3 := Aside0.mk hl177_3
         clear hi177_3 hl177_3
         replace p177 := eq_true p177
         replace q177 := eq_true q177
         have ea_ := Option.some.inj (hx164_3.symm.trans hx177_3)
         injection ea_ with ea_ en_ ec_
         subst ea_
         subst ec_
         clear en_
         have p178 : 0 ≤ (x6_1 : Int) := of_decide_eq_true (by first | (with_reducible assumption) | assumption)
         have q178 : x6_1 < (((rd_T27 l0 0).f3).length : Int) := of_decide_eq_true (by first | (with_reducible assumption) | assumption)
         obtain ⟨ad178, A178_0, c178_0, e178, hx178_0, hl178_0, hi178_0⟩ := at_L1 HR177_3.out x6_1 p178 q178
         cases e178
         have HR178_0 := Aside0.mk hi178_0
         have HC178_0 := Aside0.mk hl178_0
         clear hi178_0 hl178_0
         replace p178 := eq_true p178
         replace q178 := eq_true q178
         have p179 : 0 ≤ (0 : Int) := (by omega)
         have q179 : 0 < ((rd_L1 ((rd_T27 l0 0).f3) x6_1).length : Int) := of_decide_eq_true (by first | (with_reducible assumption) | assumption)
         obtain ⟨ad179, e179, hx179_0⟩ := Kd.at_int HR178_0.out 0 p179 q179
         cases e179
         have qi179 : (0 < (rd_L1 ((rd_T27 l0 0).f3) x6_1).length) = True := eq_true (by omega)
         (try rw [show ((0 : Int)).toNat = 0 from rfl] at hx179_0)
         (try rw [Addr.add_zero'] at hx179_0)
         replace p179 := eq_true p179
         replace q179 := eq_true q179
         go_wp2_with (first | (go_at_call 80; (with_reducible refine (spec_l00Max.calls 0 (wrap64 (a1 - (rd (rd_L1 ((rd_T27 l0 0).f3) x6_1) 0))) t180 _ A16.out).mono ?_); rintro e w' ⟨rfl, ⟨nd, rfl⟩⟩; (try first | exact ⟨rfl, _, World.drewN_drewN _ _ _⟩ | exact ⟨rfl, _, Eq.trans (World.drewN_drewN _ _ _) (congrArg (World.drewN _) (Nat.add_assoc _ _ _))⟩); (try (have p181 : 0 ≤ (0 : Int) := (by omega); have q181 : 0 < (l0.length : Int) := of_decide_eq_true (by first | (with_reducible assumption) | assumption); obtain ⟨ad181, A181_3, c181_3, e181, hx181_0, hx181_1, hx181_2, hx181_3, hl181_3, hi181_3⟩ := at_T27 HR0.out 0 p181 q181; obtain rfl : ad164 = ad181 := (by injection e181); have qi181 : (0 < l0.length) = True := eq_true (by omega); (try rw [show ((0 : Int)).toNat = 0 from rfl] at hx181_0); (try rw [show 0 * 4 = 0 from rfl] at hx181_0); (try rw [Addr.add_zero'] at hx181_0); (try rw [show ((0 : Int)).toNat = 0 from rfl] at hx181_1); (try rw [show 0 * 4 = 0 from rfl] at hx181_1); (try rw [Addr.add_zero'] at hx181_1); (try rw [show ((0 : Int)).toNat = 0 from rfl] at hx181_2); (try rw [show 0 * 4 = 0 from rfl] at hx181_2); (try rw [Addr.add_zero'] at hx181_2); (try rw [show ((0 : Int)).toNat = 0 from rfl] at hx181_3); (try rw [show 0 * 4 = 0 from rfl] at hx181_3); (try rw [Addr.add_zero'] at hx181_3); have HR181_3 := Aside0.mk hi181_3; have HC181_3 := Aside0.mk hl181_3; clear hi181_3 hl181_3; replace p181 := eq_true p181; replace q181 := eq_true q181; have ea_ := Option.some.inj (hx164_3.symm.trans hx181_3); injection ea_ with ea_ en_ ec_; subst ea_; subst ec_; clear en_; have p182 : 0 ≤ (x6_1 : Int) := of_decide_eq_true (by first | (with_reducible assumption) | assumption); have q182 : x6_1 < (((rd_T27 l0 0).f3).length : Int) := of_decide_eq_true (by first | (with_reducible assumption) | assumption); obtain ⟨ad182, A182_0, c182_0, e182, hx182_0, hl182_0, hi182_0⟩ := at_L1 HR181_3.out x6_1 p182 q182; cases e182; have HR182_0 := Aside0.mk hi182_0; have HC182_0 := Aside0.mk hl182_0; clear hi182_0 hl182_0; replace p182 := eq_true p182; replace q182 := eq_true q182; have p183 : 0 ≤ (1 : Int) := (by omega); have q183 : 1 < ((rd_L1 ((rd_T27 l0 0).f3) x6_1).length : Int) := of_decide_eq_true (by first | (with_reducible assumption) | assumption); obtain ⟨ad183, e183, hx183_0⟩ := Kd.at_int HR182_0.out 1 p183 q183; cases e183; (try simp only [show (1 : Int).toNat = 1 from rfl, Nat.reduceMul, Nat.reduceEqDiff, Go.Addr.add, ↓reduceIte] at hx183_0); have qi183 : (1 < (rd_L1 ((rd_T27 l0 0).f3) x6_1).length) = True := eq_true (by omega); (try rw [show ((1 : Int)).toNat = 1 from rfl] at hx183_0); replace p183 := eq_true p183; replace q183 := eq_true q183))))
         (first | (have h_ := q183; clear h_) | (try (have p181 : 0 ≤ (0 : Int) := (by omega); have q181 : 0 < (l0.length : Int) := of_decide_eq_true (by first | (with_reducible assumption) | assumption); obtain ⟨ad181, A181_3, c181_3, e181, hx181_0, hx181_1, hx181_2, hx181_3, hl181_3, hi181_3⟩ := at_T27 HR0.out 0 p181 q181; obtain rfl : ad164 = ad181 := (by injection e181); have qi181 : (0 < l0.length) = True := eq_true (by omega); (try rw [show ((0 : Int)).toNat = 0 from rfl] at hx181_0); (try rw [show 0 * 4 = 0 from rfl] at hx181_0); (try rw [Addr.add_zero'] at hx181_0); (try rw [show ((0 : Int)).toNat = 0 from rfl] at hx181_1); (try rw [show 0 * 4 = 0 from rfl] at hx181_1); (try rw [Addr.add_zero'] at hx181_1); (try rw [show ((0 : Int)).toNat = 0 from rfl] at hx181_2); (try rw [show 0 * 4 = 0 from rfl] at hx181_2); (try rw [Addr.add_zero'] at hx181_2); (try rw [show ((0 : Int)).toNat = 0 from rfl] at hx181_3); (try rw [show 0 * 4 = 0 from rfl] at hx181_3); (try rw [Addr.add_zero'] at hx181_3); have HR181_3 := Aside0.mk hi181_3; have HC181_3 := Aside0.mk hl181_3; clear hi181_3 hl181_3; replace p181 := eq_true p181; replace q181 := eq_true q181; have ea_ := Option.some.inj (hx164_3.symm.trans hx181_3); injection ea_ with ea_ en_ ec_; subst ea_; subst ec_; clear en_; have p182 : 0 ≤ (x6_1 : Int) := of_decide_eq_true (by first | (with_reducible assumption) | assumption); have q182 : x6_1 < (((rd_T27 l0 0).f3).length : Int) := of_decide_eq_true (by first | (with_reducible assumption) | assumption); obtain ⟨ad182, A182_0, c182_0, e182, hx182_0, hl182_0, hi182_0⟩ := at_L1 HR181_3.out x6_1 p182 q182; cases e182; (try (have ea_ := Option.some.inj (hx178_0.symm.trans hx182_0); injection ea_ with ea_ en_ ec_; subst ea_; subst ec_; clear en_)); have HR182_0 := Aside0.mk hi182_0; have HC182_0 := Aside0.mk hl182_0; clear hi182_0 hl182_0; replace p182 := eq_true p182; replace q182 := eq_true q182; have p183 : 0 ≤ (1 : Int) := (by omega); have q183 : 1 < ((rd_L1 ((rd_T27 l0 0).f3) x6_1).length : Int) := of_decide_eq_true (by first | (with_reducible assumption) | assumption); obtain ⟨ad183, e183, hx183_0⟩ := Kd.at_int HR182_0.out 1 p183 q183; cases e183; (try simp only [show (1 : Int).toNat = 1 from rfl, Nat.reduceMul, Nat.reduceEqDiff, Go.Addr.add, ↓reduceIte] at hx183_0); have qi183 : (1 < (rd_L1 ((rd_T27 l0 0).f3) x6_1).length) = True := eq_true (by omega); (try rw [show ((1 : Int)).toNat = 1 from rfl] at hx183_0); replace p183 := eq_true p183; replace q183 := eq_true q183)))
         repeat (go_quiet (first | (go_at_call 80; (with_reducible refine (spec_l00Max.calls 0 (wrap64 (a1 - (rd (rd_L1 ((rd_T27 l0 0).f3) x6_1) 0))) t180 _ A16.out).mono ?_); rintro e w' ⟨rfl, ⟨nd, rfl⟩⟩; (try first | exact ⟨rfl, _, World.drewN_drewN _ _ _⟩ | exact ⟨rfl, _, Eq.trans (World.drewN_drewN _ _ _) (congrArg (World.drewN _) (Nat.add_assoc _ _ _))⟩))); try go_wp2_with (first | (go_at_call 80; (with_reducible refine (spec_l00Max.calls 0 (wrap64 (a1 - (rd (rd_L1 ((rd_T27 l0 0).f3) x6_1) 0))) t180 _ A16.out).mono ?_); rintro e w' ⟨rfl, ⟨nd, rfl⟩⟩; (try first | exact ⟨rfl, _, World.drewN_drewN _ _ _⟩ | exact ⟨rfl, _, Eq.trans (World.drewN_drewN _ _ _) (congrArg (World.drewN _) (Nat.add_assoc _ _ _))⟩); (try (have p181 : 0 ≤ (0 : Int) := (by omega); have q181 : 0 < (l0.length : Int) := of_decide_eq_true (by first | (with_reducible assumption) | assumption); obtain ⟨ad181, A181_3, c181_3, e181, hx181_0, hx181_1, hx181_2, hx181_3, hl181_3, hi181_3⟩ := at_T27 HR0.out 0 p181 q181; obtain rfl : ad164 = ad181 := (by injection e181); have qi181 : (0 < l0.length) = True := eq_true (by omega); (try rw [show ((0 : Int)).toNat = 0 from rfl] at hx181_0); (try rw [show 0 * 4 = 0 from rfl] at hx181_0); (try rw [Addr.add_zero'] at hx181_0); (try rw [show ((0 : Int)).toNat = 0 from rfl] at hx181_1); (try rw [show 0 * 4 = 0 from rfl] at hx181_1); (try rw [Addr.add_zero'] at hx181_1); (try rw [show ((0 : Int)).toNat = 0 from rfl] at hx181_2); (try rw [show 0 * 4 = 0 from rfl] at hx181_2); (try rw [Addr.add_zero'] at hx181_2); (try rw [show ((0 : Int)).toNat = 0 from rfl] at hx181_3); (try rw [show 0 * 4 = 0 from rfl] at hx181_3); (try rw [Addr.add_zero'] at hx181_3); have HR181_3 := Aside0.mk hi181_3; have HC181_3 := Aside0.mk hl181_3; clear hi181_3 hl181_3; replace p181 := eq_true p181; replace q181 := eq_true q181; have ea_ := Option.some.inj (hx164_3.symm.trans hx181_3); injection ea_ with ea_ en_ ec_; subst ea_; subst ec_; clear en_; have p182 : 0 ≤ (x6_1 : Int) := of_decide_eq_true (by first | (with_reducible assumption) | assumption); have q182 : x6_1 < (((rd_T27 l0 0).f3).length : Int) := of_decide_eq_true (by first | (with_reducible assumption) | assumption); obtain ⟨ad182, A182_0, c182_0, e182, hx182_0, hl182_0, hi182_0⟩ := at_L1 HR181_3.out x6_1 p182 q182; cases e182; have HR182_0 := Aside0.mk hi182_0; have HC182_0 := Aside0.mk hl182_0; clear hi182_0 hl182_0; replace p182 := eq_true p182; replace q182 := eq_true q182; have p183 : 0 ≤ (1 : Int) := (by omega); have q183 : 1 < ((rd_L1 ((rd_T27 l0 0).f3) x6_1).length : Int) := of_decide_eq_true (by first | (with_reducible assumption) | assumption); obtain ⟨ad183, e183, hx183_0⟩ := Kd.at_int HR182_0.out 1 p183 q183; cases e183; (try simp only [show (1 : Int).toNat = 1 from rfl, Nat.reduceMul, Nat.reduceEqDiff, Go.Addr.add, ↓reduceIte] at hx183_0); have qi183 : (1 < (rd_L1 ((rd_T27 l0 0).f3) x6_1).length) = True := eq_true (by omega); (try rw [show ((1 : Int)).toNat = 1 from rfl] at hx183_0); replace p183 := eq_true p183; replace q183 := eq_true q183)))))
         go_roundg k1
         case measure => have := HK1.out; omega
         case rel => exact ⟨(wrap64 (x5_1 + (wrap64 (t180 * (rd (rd_L1 ((rd_T27 l0 0).f3) x6_1) 1))))), (wrap64 (x6_1 + 1)), (by first | rfl | (simp; done) | (simp [*]; done)), (by first | rfl | (simp; done) | (simp [*]; done)), H', ⟨by have := HK1.out; omega⟩, by repeat (first | exact Drawn0.refl _ | apply Drawn0.step)⟩
        ·rw [if_neg c17] at H
         exact absurd H (by simp)
       ·rw [if_neg c15] at H
        exact absurd H (by simp)
      ·rw [if_neg c14] at H
       exact absurd H (by simp)
    ·rw [if_neg c4] at H
     have c4b0 : decide (x6_1 < (((rd_T27 l0 0).f3).length : Int)) = false := decide_eq_false c4
     clear c4
     obtain rfl := Option.some.inj H
     have p164 : 0 ≤ (0 : Int) := (by omega)
     have q164 : 0 < (l0.length : Int) := of_decide_eq_true (by first | (with_reducible assumption) | assumption)
     obtain ⟨ad164, A164_3, c164_3, e164, hx164_0, hx164_1, hx164_2, hx164_3, hl164_3, hi164_3⟩ := at_T27 HR0.out 0 p164 q164
     cases e164
     have qi164 : (0 < l0.length) = True := eq_true (by omega)
     (try rw [show ((0 : Int)).toNat = 0 from rfl] at hx164_0)
     (try rw [show 0 * 4 = 0 from rfl] at hx164_0)
     (try rw [Addr.add_zero'] at hx164_0)
     (try rw [show ((0 : Int)).toNat = 0 from rfl] at hx164_1)
     (try rw [show 0 * 4 = 0 from rfl] at hx164_1)
     (try rw [Addr.add_zero'] at hx164_1)
     (try rw [show ((0 : Int)).toNat = 0 from rfl] at hx164_2)
     (try rw [show 0 * 4 = 0 from rfl] at hx164_2)
     (try rw [Addr.add_zero'] at hx164_2)
     (try rw [show ((0 : Int)).toNat = 0 from rfl] at hx164_3)
     (try rw [show 0 * 4 = 0 from rfl] at hx164_3)
     (try rw [Addr.add_zero'] at hx164_3)
     have HR164_3 := Aside0.mk hi164_3
     have HC164_3 := Aside0.mk hl164_3
     clear hi164_3 hl164_3
     replace p164 := eq_true p164
     replace q164 := eq_true q164
     go_wp2
     repeat (go_quiet (fail); try go_wp2)
     go_ret
     exact ⟨by first | rfl | (simp; done) | (simp [*]; done), by repeat (first | exact Drawn0.refl _ | apply Drawn0.step)⟩
   ·rw [if_neg c3] at H
    exact absurd H (by simp)

/-! ### spec_l01Div: function 61 -/
def spec_l01Div.f (a0 : Int) (a1 : Int) : Option (Int) := if a1 < 0 then (if (wrap64 (-a0)) < 0 then (if (wrap64 (2 * (wrap64 (-a1)))) = 0 then (none) else (some (wrap64 (-(wrap64 (Int.tdiv (wrap64 ((wrap64 (-a1)) - (wrap64 (2 * (wrap64 (-a0)))))) (wrap64 (2 * (wrap64 (-a1)))))))))) else (if (wrap64 (2 * (wrap64 (-a1)))) = 0 then (none) else (some (wrap64 (Int.tdiv (wrap64 ((wrap64 (2 * (wrap64 (-a0)))) + (wrap64 (-a1)))) (wrap64 (2 * (wrap64 (-a1))))))))) else (if a0 < 0 then (if (wrap64 (2 * a1)) = 0 then (none) else (some (wrap64 (-(wrap64 (Int.tdiv (wrap64 (a1 - (wrap64 (2 * a0)))) (wrap64 (2 * a1)))))))) else (if (wrap64 (2 * a1)) = 0 then (none) else (some (wrap64 (Int.tdiv (wrap64 ((wrap64 (2 * a0)) + a1)) (wrap64 (2 * a1)))))))
set_option maxHeartbeats 8000000 in
set_option maxRecDepth 100000 in
theorem spec_l01Div.calls (a0 : Int) (a1 : Int) (r : Int) (w : World) (h : spec_l01Div.f a0 a1 = some r) :
  Calls Try.prog 61 #[.int .i64 a0, .int .i64 a1] w fun e w' => e = .returned (.int .i64 r) ∧ Drawn0 w w' := by
 have H : (if a1 < 0 then (if (wrap64 (-a0)) < 0 then (if (wrap64 (2 * (wrap64 (-a1)))) = 0 then (none) else (some (wrap64 (-(wrap64 (Int.tdiv (wrap64 ((wrap64 (-a1)) - (wrap64 (2 * (wrap64 (-a0)))))) (wrap64 (2 * (wrap64 (-a1)))))))))) else (if (wrap64 (2 * (wrap64 (-a1)))) = 0 then (none) else (some (wrap64 (Int.tdiv (wrap64 ((wrap64 (2 * (wrap64 (-a0)))) + (wrap64 (-a1)))) (wrap64 (2 * (wrap64 (-a1))))))))) else (if a0 < 0 then (if (wrap64 (2 * a1)) = 0 then (none) else (some (wrap64 (-(wrap64 (Int.tdiv (wrap64 (a1 - (wrap64 (2 * a0)))) (wrap64 (2 * a1)))))))) else (if (wrap64 (2 * a1)) = 0 then (none) else (some (wrap64 (Int.tdiv (wrap64 ((wrap64 (2 * a0)) + a1)) (wrap64 (2 * a1)))))))) = some r := h
 clear h
 by_cases c3 : a1 < 0
 ·rw [if_pos c3] at H
  have c3b0 : decide (a1 < 0) = true := decide_eq_true c3
  clear c3
  by_cases c4 : (wrap64 (-a0)) < 0
  ·rw [if_pos c4] at H
   have c4b0 : decide ((wrap64 (-a0)) < 0) = true := decide_eq_true c4
   clear c4
   by_cases c5 : (wrap64 (2 * (wrap64 (-a1)))) = 0
   ·rw [if_pos c5] at H
    exact absurd H (by simp)
   ·rw [if_neg c5] at H
    have c5b0 : ((wrap64 (2 * (wrap64 (-a1)))) == 0) = false := beq_eq_false_iff_ne.mpr c5
    have c5b1 : ((wrap64 (2 * (wrap64 (-a1)))) != 0) = true := bne_iff_ne.mpr c5
    obtain rfl := Option.some.inj H
    go_enter Try.func61, Try.ntmps61
    go_wp2
    go_ret
    exact ⟨by first | rfl | (simp; done) | (simp [*]; done), by repeat (first | exact Drawn0.refl _ | apply Drawn0.step)⟩
  ·rw [if_neg c4] at H
   have c4b0 : decide ((wrap64 (-a0)) < 0) = false := decide_eq_false c4
   clear c4
   by_cases c6 : (wrap64 (2 * (wrap64 (-a1)))) = 0
   ·rw [if_pos c6] at H
    exact absurd H (by simp)
   ·rw [if_neg c6] at H
    have c6b0 : ((wrap64 (2 * (wrap64 (-a1)))) == 0) = false := beq_eq_false_iff_ne.mpr c6
    have c6b1 : ((wrap64 (2 * (wrap64 (-a1)))) != 0) = true := bne_iff_ne.mpr c6
    obtain rfl := Option.some.inj H
    go_enter Try.func61, Try.ntmps61
    go_wp2
    go_ret
    exact ⟨by first | rfl | (simp; done) | (simp [*]; done), by repeat (first | exact Drawn0.refl _ | apply Drawn0.step)⟩
 ·rw [if_neg c3] at H
  have c3b0 : decide (a1 < 0) = false := decide_eq_false c3
  clear c3
  by_cases c7 : a0 < 0
  ·rw [if_pos c7] at H
   have c7b0 : decide (a0 < 0) = true := decide_eq_true c7
   clear c7
   by_cases c8 : (wrap64 (2 * a1)) = 0
   ·rw [if_pos c8] at H
    exact absurd H (by simp)
   ·rw [if_neg c8] at H
    have c8b0 : ((wrap64 (2 * a1)) == 0) = false := beq_eq_false_iff_ne.mpr c8
    have c8b1 : ((wrap64 (2 * a1)) != 0) = true := bne_iff_ne.mpr c8
    obtain rfl := Option.some.inj H
    go_enter Try.func61, Try.ntmps61
    go_wp2
    go_ret
    exact ⟨by first | rfl | (simp; done) | (simp [*]; done), by repeat (first | exact Drawn0.refl _ | apply Drawn0.step)⟩
  ·rw [if_neg c7] at H
   have c7b0 : decide (a0 < 0) = false := decide_eq_false c7
   clear c7
   by_cases c9 : (wrap64 (2 * a1)) = 0
   ·rw [if_pos c9] at H
    exact absurd H (by simp)
   ·rw [if_neg c9] at H
    have c9b0 : ((wrap64 (2 * a1)) == 0) = false := beq_eq_false_iff_ne.mpr c9
    have c9b1 : ((wrap64 (2 * a1)) != 0) = true := bne_iff_ne.mpr c9
    obtain rfl := Option.some.inj H
    go_enter Try.func61, Try.ntmps61
    go_wp2
    go_ret
    exact ⟨by first | rfl | (simp; done) | (simp [*]; done), by repeat (first | exact Drawn0.refl _ | apply Drawn0.step)⟩

/-! ### spec_l21Bill: function 58 -/
def spec_l21Bill.f (k : Nat) (l0 : List (S27)) (a1 : Int) (a2 : Int) : Option (Int) := if 0 < (l0.length : Int) then ((spec_l21Cost.f k l0 a1).bind fun t186 => ((spec_l01Div.f t186 100).bind fun t187 => (some (wrap64 ((wrap64 (((rd_T27 l0 0).f1) + (wrap64 (((rd_T27 l0 0).f2) * a2)))) + t187))))) else (none)
theorem spec_l21Bill.mono : ∀ a0 a1 a2 k, LeO (spec_l21Bill.f k a0 a1 a2) (spec_l21Bill.f (k + 1) a0 a1 a2) := by
 intro a0 a1 a2 k
 unfold spec_l21Bill.f
 repeat' first
   | (with_reducible exact spec_l21Cost.mono _ _ _)
   | (with_reducible exact LeO.refl _)
   | (with_reducible exact LeO.none _)
   | (with_reducible refine LeO.ite ?_ ?_)
   | (with_reducible refine LeO.bind ?_ (fun _ => ?_))
   | exact spec_l21Cost.mono _ _ _
   | exact LeO.none _
   | refine LeO.ite ?_ ?_
   | refine LeO.bind ?_ (fun _ => ?_)
set_option maxHeartbeats 8000000 in
set_option maxRecDepth 100000 in
theorem spec_l21Bill.calls (k : Nat) (A0 : Option Addr) (c0 : Nat) (l0 : List (S27)) (a1 : Int) (a2 : Int) (r : Int) (w : World) (hr0 : Kd.C k27 w A0 l0.length l0) (hc0 : l0.length ≤ c0) (h : spec_l21Bill.f k l0 a1 a2 = some r) :
  Calls Try.prog 58 #[.pointer A0, .int .i64 a1, .int .i64 a2] w fun e w' => e = .returned (.int .i64 r) ∧ Drawn0 w w' := by
 have HR0 := Aside0.mk hr0
 have HC0 := Aside0.mk hc0
 clear hr0 hc0
 have H : (if 0 < (l0.length : Int) then ((spec_l21Cost.f k l0 a1).bind fun t186 => ((spec_l01Div.f t186 100).bind fun t187 => (some (wrap64 ((wrap64 (((rd_T27 l0 0).f1) + (wrap64 (((rd_T27 l0 0).f2) * a2)))) + t187))))) else (none)) = some r := h
 clear h
 by_cases c4 : 0 < (l0.length : Int)
 ·rw [if_pos c4] at H
  have c4b0 : decide (0 < (l0.length : Int)) = true := decide_eq_true c4
  have c4b1 : decide (0 < l0.length) = true := decide_eq_true (by omega)
  clear c4
  replace H := Option.bind_eq_some_iff.mp H
  obtain ⟨t186, A50, H⟩ := H
  replace H : ((spec_l01Div.f t186 100).bind fun t187 => (some (wrap64 ((wrap64 (((rd_T27 l0 0).f1) + (wrap64 (((rd_T27 l0 0).f2) * a2)))) + t187)))) = some r := H
  have A5 := Aside0.mk A50
  clear A50
  replace H := Option.bind_eq_some_iff.mp H
  obtain ⟨t187, A60, H⟩ := H
  replace H : (some (wrap64 ((wrap64 (((rd_T27 l0 0).f1) + (wrap64 (((rd_T27 l0 0).f2) * a2)))) + t187))) = some r := H
  have A6 := Aside0.mk A60
  clear A60
  obtain rfl := Option.some.inj H
  have p184 : 0 ≤ (0 : Int) := (by omega)
  have q184 : 0 < (l0.length : Int) := of_decide_eq_true (by first | (with_reducible assumption) | assumption)
  obtain ⟨ad184, A184_3, c184_3, e184, hx184_0, hx184_1, hx184_2, hx184_3, hl184_3, hi184_3⟩ := at_T27 HR0.out 0 p184 q184
  cases e184
  have qi184 : (0 < l0.length) = True := eq_true (by omega)
  (try rw [show ((0 : Int)).toNat = 0 from rfl] at hx184_0)
  (try rw [show 0 * 4 = 0 from rfl] at hx184_0)
  (try rw [Addr.add_zero'] at hx184_0)
  (try rw [show ((0 : Int)).toNat = 0 from rfl] at hx184_1)
  (try rw [show 0 * 4 = 0 from rfl] at hx184_1)
  (try rw [Addr.add_zero'] at hx184_1)
  (try rw [show ((0 : Int)).toNat = 0 from rfl] at hx184_2)
  (try rw [show 0 * 4 = 0 from rfl] at hx184_2)
  (try rw [Addr.add_zero'] at hx184_2)
  (try rw [show ((0 : Int)).toNat = 0 from rfl] at hx184_3)
  (try rw [show 0 * 4 = 0 from rfl] at hx184_3)
  (try rw [Addr.add_zero'] at hx184_3)
  have HR184_3 := Aside0.mk hi184_3
  have HC184_3 := Aside0.mk hl184_3
  clear hi184_3 hl184_3
  replace p184 := eq_true p184
  replace q184 := eq_true q184
  have p185 : 0 ≤ (0 : Int) := (by omega)
  have q185 : 0 < (l0.length : Int) := of_decide_eq_true (by first | (with_reducible assumption) | assumption)
  obtain ⟨ad185, A185_3, c185_3, e185, hx185_0, hx185_1, hx185_2, hx185_3, hl185_3, hi185_3⟩ := at_T27 HR0.out 0 p185 q185
  obtain rfl : ad184 = ad185 := (by injection e185)
  have qi185 : (0 < l0.length) = True := eq_true (by omega)
  (try rw [show ((0 : Int)).toNat = 0 from rfl] at hx185_0)
  (try rw [show 0 * 4 = 0 from rfl] at hx185_0)
  (try rw [Addr.add_zero'] at hx185_0)
  (try rw [show ((0 : Int)).toNat = 0 from rfl] at hx185_1)
  (try rw [show 0 * 4 = 0 from rfl] at hx185_1)
  (try rw [Addr.add_zero'] at hx185_1)
  (try rw [show ((0 : Int)).toNat = 0 from rfl] at hx185_2)
  (try rw [show 0 * 4 = 0 from rfl] at hx185_2)
  (try rw [Addr.add_zero'] at hx185_2)
  (try rw [show ((0 : Int)).toNat = 0 from rfl] at hx185_3)
  (try rw [show 0 * 4 = 0 from rfl] at hx185_3)
  (try rw [Addr.add_zero'] at hx185_3)
  have HR185_3 := Aside0.mk hi185_3
  have HC185_3 := Aside0.mk hl185_3
  clear hi185_3 hl185_3
  replace p185 := eq_true p185
  replace q185 := eq_true q185
  have ea_ := Option.some.inj (hx184_3.symm.trans hx185_3)
  injection ea_ with ea_ en_ ec_
  subst ea_
  subst ec_
  clear en_
  go_enter Try.func58, Try.ntmps58
  go_wp2_with (first | (go_at_call 55; (with_reducible refine (spec_l21Cost.calls k _ c0 l0 a1 t186 _ ?side1 ?side2 A5.out).mono ?_); (case side1 => repeat (first | exact HR0.out | (with_reducible refine Kd.C_alloc ?_ _) | (with_reducible refine Kd.C_drewN ?_ _) | (with_reducible refine Kd.C_drew ?_))); (case side2 => exact HC0.out); rintro e w' ⟨rfl, ⟨nd, rfl⟩⟩; (try first | exact ⟨rfl, _, World.drewN_drewN _ _ _⟩ | exact ⟨rfl, _, Eq.trans (World.drewN_drewN _ _ _) (congrArg (World.drewN _) (Nat.add_assoc _ _ _))⟩)) | (go_at_call 61; (with_reducible refine (spec_l01Div.calls t186 100 t187 _ A6.out).mono ?_); rintro e w' ⟨rfl, ⟨nd, rfl⟩⟩; (try first | exact ⟨rfl, _, World.drewN_drewN _ _ _⟩ | exact ⟨rfl, _, Eq.trans (World.drewN_drewN _ _ _) (congrArg (World.drewN _) (Nat.add_assoc _ _ _))⟩)))
  repeat (go_quiet (first | (go_at_call 55; (with_reducible refine (spec_l21Cost.calls k _ c0 l0 a1 t186 _ ?side1 ?side2 A5.out).mono ?_); (case side1 => repeat (first | exact HR0.out | (with_reducible refine Kd.C_alloc ?_ _) | (with_reducible refine Kd.C_drewN ?_ _) | (with_reducible refine Kd.C_drew ?_))); (case side2 => exact HC0.out); rintro e w' ⟨rfl, ⟨nd, rfl⟩⟩; (try first | exact ⟨rfl, _, World.drewN_drewN _ _ _⟩ | exact ⟨rfl, _, Eq.trans (World.drewN_drewN _ _ _) (congrArg (World.drewN _) (Nat.add_assoc _ _ _))⟩)) | (go_at_call 61; (with_reducible refine (spec_l01Div.calls t186 100 t187 _ A6.out).mono ?_); rintro e w' ⟨rfl, ⟨nd, rfl⟩⟩; (try first | exact ⟨rfl, _, World.drewN_drewN _ _ _⟩ | exact ⟨rfl, _, Eq.trans (World.drewN_drewN _ _ _) (congrArg (World.drewN _) (Nat.add_assoc _ _ _))⟩))); try go_wp2_with (first | (go_at_call 55; (with_reducible refine (spec_l21Cost.calls k _ c0 l0 a1 t186 _ ?side1 ?side2 A5.out).mono ?_); (case side1 => repeat (first | exact HR0.out | (with_reducible refine Kd.C_alloc ?_ _) | (with_reducible refine Kd.C_drewN ?_ _) | (with_reducible refine Kd.C_drew ?_))); (case side2 => exact HC0.out); rintro e w' ⟨rfl, ⟨nd, rfl⟩⟩; (try first | exact ⟨rfl, _, World.drewN_drewN _ _ _⟩ | exact ⟨rfl, _, Eq.trans (World.drewN_drewN _ _ _) (congrArg (World.drewN _) (Nat.add_assoc _ _ _))⟩)) | (go_at_call 61; (with_reducible refine (spec_l01Div.calls t186 100 t187 _ A6.out).mono ?_); rintro e w' ⟨rfl, ⟨nd, rfl⟩⟩; (try first | exact ⟨rfl, _, World.drewN_drewN _ _ _⟩ | exact ⟨rfl, _, Eq.trans (World.drewN_drewN _ _ _) (congrArg (World.drewN _) (Nat.add_assoc _ _ _))⟩))))
  go_ret
  exact ⟨by first | rfl | (simp; done) | (simp [*]; done), by repeat (first | exact Drawn0.refl _ | apply Drawn0.step)⟩
 ·rw [if_neg c4] at H
  exact absurd H (by simp)

/-! ### spec_BillOf: function 21 -/
def spec_BillOf.f (k : Nat) (a0_0 : ByteArray) (a0_1 : Int) (a0_2 : Int) (l0_3 : List (List Int)) (a1 : Int) (a2 : Int) : Option (Int × Int) := (spec_l21Ask.f k [(⟨a0_0, a0_1, a0_2, l0_3⟩ : S27)] a1 a2).bind fun t189 => (if t189 = 0 then ((spec_l21Bill.f k [(⟨a0_0, a0_1, a0_2, l0_3⟩ : S27)] a1 a2).bind fun t190 => (some (t190, 0))) else (some (0, t189)))
theorem spec_BillOf.mono : ∀ a0 a1 a2 a3 a4 a5 k, LeO (spec_BillOf.f k a0 a1 a2 a3 a4 a5) (spec_BillOf.f (k + 1) a0 a1 a2 a3 a4 a5) := by
 intro a0 a1 a2 a3 a4 a5 k
 unfold spec_BillOf.f
 repeat' first
   | (with_reducible exact spec_l21Ask.mono _ _ _ _)
   | (with_reducible exact spec_l21Bill.mono _ _ _ _)
   | (with_reducible exact LeO.refl _)
   | (with_reducible exact LeO.none _)
   | (with_reducible refine LeO.ite ?_ ?_)
   | (with_reducible refine LeO.bind ?_ (fun _ => ?_))
   | exact spec_l21Ask.mono _ _ _ _
   | exact spec_l21Bill.mono _ _ _ _
   | exact LeO.none _
   | refine LeO.ite ?_ ?_
   | refine LeO.bind ?_ (fun _ => ?_)
set_option maxHeartbeats 8000000 in
set_option maxRecDepth 100000 in
theorem spec_BillOf.calls (k : Nat) (a0_0 : ByteArray) (a0_1 : Int) (a0_2 : Int) (A0_3 : Option Addr) (c0_3 : Nat) (l0_3 : List (List Int)) (a1 : Int) (a2 : Int) (r1 : Int) (r2 : Int) (w : World) (hr0_3 : Kd.C (Kd.slice 2 (Kd.int .i64)) w A0_3 l0_3.length l0_3) (hc0_3 : l0_3.length ≤ c0_3) (h : spec_BillOf.f k a0_0 a0_1 a0_2 l0_3 a1 a2 = some (r1, r2)) :
  Calls Try.prog 21 #[.agg #[.string a0_0, .int .i64 a0_1, .int .i64 a0_2, .slice A0_3 l0_3.length c0_3], .int .i64 a1, .int .i64 a2] w fun e w' => e = .returned (.tuple #[.int .i64 r1, .int .i64 r2]) ∧ Below w.heap.size w w' := by
 have hu27 := Try.underlying27
 have HR0_3 := Aside0.mk hr0_3
 have HC0_3 := Aside0.mk hc0_3
 clear hr0_3 hc0_3
 have HB := Aside0.mk (Below.refl w.heap.size w)
 have H : ((spec_l21Ask.f k [(⟨a0_0, a0_1, a0_2, l0_3⟩ : S27)] a1 a2).bind fun t189 => (if t189 = 0 then ((spec_l21Bill.f k [(⟨a0_0, a0_1, a0_2, l0_3⟩ : S27)] a1 a2).bind fun t190 => (some (t190, 0))) else (some (0, t189)))) = some (r1, r2) := h
 clear h
 replace H := Option.bind_eq_some_iff.mp H
 obtain ⟨t189, A40, H⟩ := H
 replace H : (if t189 = 0 then ((spec_l21Bill.f k [(⟨a0_0, a0_1, a0_2, l0_3⟩ : S27)] a1 a2).bind fun t190 => (some (t190, 0))) else (some (0, t189))) = some (r1, r2) := H
 have A4 := Aside0.mk A40
 clear A40
 by_cases c5 : t189 = 0
 ·rw [if_pos c5] at H
  have c5b0 : (t189 == 0) = true := beq_iff_eq.mpr c5
  have c5b1 : (t189 != 0) = false := bne_eq_false_iff_eq.mpr c5
  clear c5
  replace H := Option.bind_eq_some_iff.mp H
  obtain ⟨t190, A60, H⟩ := H
  replace H : (some (t190, 0)) = some (r1, r2) := H
  have A6 := Aside0.mk A60
  clear A60
  simp only [Option.some.injEq, Prod.mk.injEq] at H
  obtain ⟨rfl, rfl⟩ := H
  go_enter Try.func21, Try.ntmps21
  go_wp2_with (first | ((with_reducible refine gate_dst (N := 3) rfl ?_); refine box_event ?hg (N := 3) ?hd (cs := #[.string a0_0, .int .i64 a0_1, .int .i64 a0_2, .slice A0_3 l0_3.length c0_3]) (t := 27) ?hr ?_; (case hd => rfl); (case hg => rfl); (case hr => first | (go_simp; done) | (go_simp; rfl)); intro gb188 hg w7 hbox hb; have n0_ := Aside0.mk (below_step (by repeat (first | (with_reducible first | exact HB.out | apply below_alloc | apply pw_below_drewN | apply below_drew1) | exact HB.out)) hb); have n1_ := Aside0.mk (hbox); have n2_ := Aside0.mk ((by rw [hg]; exact (below_size (by repeat (first | (with_reducible first | exact HB.out | apply below_alloc | apply pw_below_drewN | apply below_drew1) | exact HB.out))) : w.heap.size ≤ gb188)); have n3_ := Aside0.mk ((by rw [hg]; exact (below_size (by repeat (first | (with_reducible first | exact HB.out | apply below_alloc | apply pw_below_drewN | apply below_drew1) | exact HB.out))) : w.heap.size ≤ gb188)); clear HB; have HB := n0_; have BK188 := n1_; have GW188 := n2_; have GE188 := n3_; clear n0_ n1_ n2_ n3_; clear hb hbox hg) | ((with_reducible refine gate_callee (f := 57) rfl ?_); refine goesL_ (some 11) rfl rfl Try.func57 (by kernel_rfl) rfl #[.pointer (some ⟨gb188, 0, none⟩), .int .i64 a1, .int .i64 a2] rfl (by (try simp only [List.map_toArray, List.map_cons, List.map_nil]); first | done | rfl | (simp only [List.length_drop, List.length_take]; rfl)) ?_; (with_reducible refine (spec_l21Ask.calls k _ 1 [(⟨a0_0, a0_1, a0_2, l0_3⟩ : S27)] a1 a2 t189 _ ?side1 ?side2 A4.out).mono ?_); (case side1 => exact Kd.C_one (k27_mk _ (⟨a0_0, a0_1, a0_2, l0_3⟩ : S27) (by exact HC0_3.out) (by repeat (first | exact (Kd.C_below HR0_3.out HB.out) | (with_reducible refine Kd.C_alloc ?_ _) | (with_reducible refine Kd.C_drewN ?_ _) | (with_reducible refine Kd.C_drew ?_)))) (cells_blk (cs := #[.string a0_0, .int .i64 a0_1, .int .i64 a0_2, .slice A0_3 l0_3.length c0_3]) (t := 27) (by (with_reducible repeat (first | refine blk_drewN ?_ _ | refine blk_drew ?_ | refine blk_alloc ?_ _)); exact BK188.out))); (case side2 => exact Nat.le_refl _); rintro e w8 ⟨rfl, hb⟩; refine ⟨_, rfl, ?_⟩; have n0_ := Aside0.mk (blk_below (g := gb188) (o := .cells #[.string a0_0, .int .i64 a0_1, .int .i64 a0_2, .slice A0_3 l0_3.length c0_3] 27 (0, 0)) (by (with_reducible repeat (first | refine blk_drewN ?_ _ | refine blk_drew ?_ | refine blk_alloc ?_ _)); exact BK188.out) hb); have n1_ := Aside0.mk (below_step (by repeat (first | (with_reducible first | exact HB.out | apply below_alloc | apply pw_below_drewN | apply below_drew1 | refine below_set ?_ GE188.out) | exact HB.out)) hb); clear BK188; clear HB; have BK188 := n0_; have HB := n1_; clear n0_ n1_; (try clear hb); (try clear hb2); (try clear hk); (try clear hi)) | ((with_reducible refine gate_callee (f := 58) rfl ?_); refine goesL_ (some 17) rfl rfl Try.func58 (by kernel_rfl) rfl #[.pointer (some ⟨gb188, 0, none⟩), .int .i64 a1, .int .i64 a2] rfl (by (try simp only [List.map_toArray, List.map_cons, List.map_nil]); first | done | rfl | (simp only [List.length_drop, List.length_take]; rfl)) ?_; (with_reducible refine (spec_l21Bill.calls k _ 1 [(⟨a0_0, a0_1, a0_2, l0_3⟩ : S27)] a1 a2 t190 _ ?side1 ?side2 A6.out).mono ?_); (case side1 => exact Kd.C_one (k27_mk _ (⟨a0_0, a0_1, a0_2, l0_3⟩ : S27) (by exact HC0_3.out) (by repeat (first | exact (Kd.C_below HR0_3.out HB.out) | (with_reducible refine Kd.C_alloc ?_ _) | (with_reducible refine Kd.C_drewN ?_ _) | (with_reducible refine Kd.C_drew ?_)))) (cells_blk (cs := #[.string a0_0, .int .i64 a0_1, .int .i64 a0_2, .slice A0_3 l0_3.length c0_3]) (t := 27) (by (with_reducible repeat (first | refine blk_drewN ?_ _ | refine blk_drew ?_ | refine blk_alloc ?_ _)); exact BK188.out))); (case side2 => exact Nat.le_refl _); rintro e w' ⟨rfl, ⟨nd, rfl⟩⟩; refine ⟨_, rfl, ?_⟩))
  go_ret2
  exact ⟨by first | rfl | (rw [Int.tdiv_eq_ediv_of_nonneg (by omega)]; rfl) | (simp [errW_none, errW_some] <;> rfl) | (simp [*, errW_none, errW_some] <;> rfl), by repeat (first | (with_reducible first | exact HB.out | apply below_alloc | apply pw_below_drewN | apply below_drew1 | refine below_set ?_ GE188.out) | exact HB.out)⟩
 ·rw [if_neg c5] at H
  have c5b0 : (t189 == 0) = false := beq_eq_false_iff_ne.mpr c5
  have c5b1 : (t189 != 0) = true := bne_iff_ne.mpr c5
  simp only [Option.some.injEq, Prod.mk.injEq] at H
  obtain ⟨rfl, rfl⟩ := H
  go_enter Try.func21, Try.ntmps21
  go_wp2_with (first | ((with_reducible refine gate_dst (N := 3) rfl ?_); refine box_event ?hg (N := 3) ?hd (cs := #[.string a0_0, .int .i64 a0_1, .int .i64 a0_2, .slice A0_3 l0_3.length c0_3]) (t := 27) ?hr ?_; (case hd => rfl); (case hg => rfl); (case hr => first | (go_simp; done) | (go_simp; rfl)); intro gb188 hg w9 hbox hb; have n0_ := Aside0.mk (below_step (by repeat (first | (with_reducible first | exact HB.out | apply below_alloc | apply pw_below_drewN | apply below_drew1) | exact HB.out)) hb); have n1_ := Aside0.mk (hbox); have n2_ := Aside0.mk ((by rw [hg]; exact (below_size (by repeat (first | (with_reducible first | exact HB.out | apply below_alloc | apply pw_below_drewN | apply below_drew1) | exact HB.out))) : w.heap.size ≤ gb188)); have n3_ := Aside0.mk ((by rw [hg]; exact (below_size (by repeat (first | (with_reducible first | exact HB.out | apply below_alloc | apply pw_below_drewN | apply below_drew1) | exact HB.out))) : w.heap.size ≤ gb188)); clear HB; have HB := n0_; have BK188 := n1_; have GW188 := n2_; have GE188 := n3_; clear n0_ n1_ n2_ n3_; clear hb hbox hg) | ((with_reducible refine gate_callee (f := 57) rfl ?_); refine goesL_ (some 11) rfl rfl Try.func57 (by kernel_rfl) rfl #[.pointer (some ⟨gb188, 0, none⟩), .int .i64 a1, .int .i64 a2] rfl (by (try simp only [List.map_toArray, List.map_cons, List.map_nil]); first | done | rfl | (simp only [List.length_drop, List.length_take]; rfl)) ?_; (with_reducible refine (spec_l21Ask.calls k _ 1 [(⟨a0_0, a0_1, a0_2, l0_3⟩ : S27)] a1 a2 t189 _ ?side1 ?side2 A4.out).mono ?_); (case side1 => exact Kd.C_one (k27_mk _ (⟨a0_0, a0_1, a0_2, l0_3⟩ : S27) (by exact HC0_3.out) (by repeat (first | exact (Kd.C_below HR0_3.out HB.out) | (with_reducible refine Kd.C_alloc ?_ _) | (with_reducible refine Kd.C_drewN ?_ _) | (with_reducible refine Kd.C_drew ?_)))) (cells_blk (cs := #[.string a0_0, .int .i64 a0_1, .int .i64 a0_2, .slice A0_3 l0_3.length c0_3]) (t := 27) (by (with_reducible repeat (first | refine blk_drewN ?_ _ | refine blk_drew ?_ | refine blk_alloc ?_ _)); exact BK188.out))); (case side2 => exact Nat.le_refl _); rintro e w10 ⟨rfl, hb⟩; refine ⟨_, rfl, ?_⟩; have n0_ := Aside0.mk (blk_below (g := gb188) (o := .cells #[.string a0_0, .int .i64 a0_1, .int .i64 a0_2, .slice A0_3 l0_3.length c0_3] 27 (0, 0)) (by (with_reducible repeat (first | refine blk_drewN ?_ _ | refine blk_drew ?_ | refine blk_alloc ?_ _)); exact BK188.out) hb); have n1_ := Aside0.mk (below_step (by repeat (first | (with_reducible first | exact HB.out | apply below_alloc | apply pw_below_drewN | apply below_drew1 | refine below_set ?_ GE188.out) | exact HB.out)) hb); clear BK188; clear HB; have BK188 := n0_; have HB := n1_; clear n0_ n1_; (try clear hb); (try clear hb2); (try clear hk); (try clear hi)))
  go_ret2
  exact ⟨by first | rfl | (rw [Int.tdiv_eq_ediv_of_nonneg (by omega)]; rfl) | (simp [errW_none, errW_some] <;> rfl) | (simp [*, errW_none, errW_some] <;> rfl), by repeat (first | (with_reducible first | exact HB.out | apply below_alloc | apply pw_below_drewN | apply below_drew1 | refine below_set ?_ GE188.out) | exact HB.out)⟩

end Go.Proofs.Ytdafonbeinildaa.PFnExactBillOf
