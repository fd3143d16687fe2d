-- written by wip/xprint.py, a program of this session, for this claim; not trusted: Lean checks it.
import Derived.Test.YtdhpmiocpjpabaaDoorPFnTariffsx0
import Derived.Test.YtdhpmiocpjpabaaDoorPFnTariffsx7
import Derived.Test.YtdhpmiocpjpabaaDoorPFnTariffsx9
namespace Go.Proofs.YtdhpmiocpjpabaaDoor.PFnTariffs
open Go.RowKit Go.Proofs.YtdhpmiocpjpabaaDoorW.PrintWords Go.Proofs.YtdhpmiocpjpabaaDoorW.PrintLast Go.Proofs.YtdhpmiocpjpabaaDoorW.PrintMore
attribute [local go_sem] leq_less_ max2_int min2_int max_two min_two max_three min_three max_four min_four   -- for this text's walks alone
set_option linter.unusedVariables false
set_option linter.unusedSimpArgs false

/-! ### spec_l21Heat: function 46 -/
def spec_l21Heat.f (a0 : Int) : Option (Bool) := (spec_l00In.f a0 0 1000000).bind fun t307 => (some t307)
set_option maxHeartbeats 8000000 in
set_option maxRecDepth 100000 in
theorem spec_l21Heat.calls (a0 : Int) (r : Bool) (w : World) (h : spec_l21Heat.f a0 = some r) :
  Calls Tryd.prog 46 #[.int .i64 a0] w fun e w' => e = .returned (.bool r) ∧ Drawn0 w w' := by
 have H : ((spec_l00In.f a0 0 1000000).bind fun t307 => (some t307)) = some r := h
 clear h
 replace H := Option.bind_eq_some_iff.mp H
 obtain ⟨t307, A20, H⟩ := H
 replace H : (some t307) = some r := H
 have A2 := Aside0.mk A20
 clear A20
 obtain rfl := Option.some.inj H
 go_enter Tryd.func46, Tryd.ntmps46
 go_wp2_with (first | ((with_reducible refine gate_callee (f := 26) rfl ?_); refine goesL_ (some 4) rfl rfl Tryd.func26 (by kernel_rfl) rfl #[.int .i64 a0, .int .i64 0, .int .i64 1000000] rfl (by (try simp only [List.map_toArray, List.map_cons, List.map_nil]); first | done | rfl | (simp only [List.length_drop, List.length_take]; rfl)) ?_; (with_reducible refine (spec_l00In.calls a0 0 1000000 t307 _ A2.out).mono ?_); rintro e w' ⟨rfl, ⟨nd, rfl⟩⟩; refine ⟨_, rfl, ?_⟩))
 go_ret
 exact ⟨by first | rfl | (simp; done) | (simp [*]; done), by repeat (first | exact Drawn0.refl _ | apply Drawn0.step)⟩

/-! ### spec_l21Peak: function 47 -/
def spec_l21Peak.f (a0 : Int) : Option (Bool) := (spec_l00In.f a0 0 10000).bind fun t308 => (some t308)
set_option maxHeartbeats 8000000 in
set_option maxRecDepth 100000 in
theorem spec_l21Peak.calls (a0 : Int) (r : Bool) (w : World) (h : spec_l21Peak.f a0 = some r) :
  Calls Tryd.prog 47 #[.int .i64 a0] w fun e w' => e = .returned (.bool r) ∧ Drawn0 w w' := by
 have H : ((spec_l00In.f a0 0 10000).bind fun t308 => (some t308)) = some r := h
 clear h
 replace H := Option.bind_eq_some_iff.mp H
 obtain ⟨t308, A20, H⟩ := H
 replace H : (some t308) = some r := H
 have A2 := Aside0.mk A20
 clear A20
 obtain rfl := Option.some.inj H
 go_enter Tryd.func47, Tryd.ntmps47
 go_wp2_with (first | ((with_reducible refine gate_callee (f := 26) rfl ?_); refine goesL_ (some 4) rfl rfl Tryd.func26 (by kernel_rfl) rfl #[.int .i64 a0, .int .i64 0, .int .i64 10000] rfl (by (try simp only [List.map_toArray, List.map_cons, List.map_nil]); first | done | rfl | (simp only [List.length_drop, List.length_take]; rfl)) ?_; (with_reducible refine (spec_l00In.calls a0 0 10000 t308 _ A2.out).mono ?_); rintro e w' ⟨rfl, ⟨nd, rfl⟩⟩; refine ⟨_, rfl, ?_⟩))
 go_ret
 exact ⟨by first | rfl | (simp; done) | (simp [*]; done), by repeat (first | exact Drawn0.refl _ | apply Drawn0.step)⟩

/-! ### spec_l21Ask: function 32 -/
def spec_l21Ask.f (k : Nat) (l0 : List (S26)) (a1 : Int) (a2 : Int) : Option (Int) := (spec_l21Ok.f k l0).bind fun t309 => (if t309 = true then ((spec_l21Heat.f a1).bind fun t310 => (if t310 = true then ((spec_l21Peak.f a2).bind fun t311 => (if t311 = true then (some 0) else (some 2))) else (some 2))) else (some 1))
theorem spec_l21Ask.mono : ∀ a0 a1 a2 k, LeO (spec_l21Ask.f k a0 a1 a2) (spec_l21Ask.f (k + 1) a0 a1 a2) := by
 intro a0 a1 a2 k
 unfold spec_l21Ask.f
 repeat' first
   | (with_reducible exact spec_l21Ok.mono _ _)
   | (with_reducible exact LeO.refl _)
   | (with_reducible exact LeO.none _)
   | (with_reducible refine LeO.ite ?_ ?_)
   | (with_reducible refine LeO.bind ?_ (fun _ => ?_))
   | exact spec_l21Ok.mono _ _
   | exact LeO.none _
   | refine LeO.ite ?_ ?_
   | refine LeO.bind ?_ (fun _ => ?_)
set_option maxHeartbeats 8000000 in
set_option maxRecDepth 100000 in
theorem spec_l21Ask.calls (k : Nat) (A0 : Option Addr) (c0 : Nat) (l0 : List (S26)) (a1 : Int) (a2 : Int) (r : Int) (w : World) (hr0 : Kd.C k26 w A0 l0.length l0) (hc0 : l0.length ≤ c0) (h : spec_l21Ask.f k l0 a1 a2 = some r) :
  Calls Tryd.prog 32 #[.pointer A0, .int .i64 a1, .int .i64 a2] w fun e w' => e = .returned (.int .i64 r) ∧ Below w.heap.size w w' := by
 have HR0 := Aside0.mk hr0
 have HC0 := Aside0.mk hc0
 clear hr0 hc0
 have HB := Aside0.mk (Below.refl w.heap.size w)
 have H : ((spec_l21Ok.f k l0).bind fun t309 => (if t309 = true then ((spec_l21Heat.f a1).bind fun t310 => (if t310 = true then ((spec_l21Peak.f a2).bind fun t311 => (if t311 = true then (some 0) else (some 2))) else (some 2))) else (some 1))) = some r := h
 clear h
 replace H := Option.bind_eq_some_iff.mp H
 obtain ⟨t309, A40, H⟩ := H
 replace H : (if t309 = true then ((spec_l21Heat.f a1).bind fun t310 => (if t310 = true then ((spec_l21Peak.f a2).bind fun t311 => (if t311 = true then (some 0) else (some 2))) else (some 2))) else (some 1)) = some r := H
 have A4 := Aside0.mk A40
 clear A40
 by_cases c5 : t309 = true
 ·subst c5
  have H1 : ((spec_l21Heat.f a1).bind fun t310 => (if t310 = true then ((spec_l21Peak.f a2).bind fun t311 => (if t311 = true then (some 0) else (some 2))) else (some 2))) = some r := by rw [if_pos rfl] at H; exact H
  clear H
  have H := H1
  clear H1
  replace H := Option.bind_eq_some_iff.mp H
  obtain ⟨t310, A60, H⟩ := H
  replace H : (if t310 = true then ((spec_l21Peak.f a2).bind fun t311 => (if t311 = true then (some 0) else (some 2))) else (some 2)) = some r := H
  have A6 := Aside0.mk A60
  clear A60
  by_cases c7 : t310 = true
  ·subst c7
   have H1 : ((spec_l21Peak.f a2).bind fun t311 => (if t311 = true then (some 0) else (some 2))) = some r := by rw [if_pos rfl] at H; exact H
   clear H
   have H := H1
   clear H1
   replace H := Option.bind_eq_some_iff.mp H
   obtain ⟨t311, A80, H⟩ := H
   replace H : (if t311 = true then (some 0) else (some 2)) = some r := H
   have A8 := Aside0.mk A80
   clear A80
   by_cases c9 : t311 = true
   ·subst c9
    have H1 : (some 0) = some r := by rw [if_pos rfl] at H; exact H
    clear H
    have H := H1
    clear H1
    obtain rfl := Option.some.inj H
    go_enter Tryd.func32, Tryd.ntmps32
    go_wp2_with (first | ((with_reducible refine gate_callee (f := 45) rfl ?_); refine goesL_ (some 8) rfl rfl Tryd.func45 (by kernel_rfl) rfl #[.pointer A0] rfl (by (try simp only [List.map_toArray, List.map_cons, List.map_nil]); first | done | rfl | (simp only [List.length_drop, List.length_take]; rfl)) ?_; (with_reducible refine (spec_l21Ok.calls k _ c0 l0 true _ ?side1 ?side2 A4.out).mono ?_); (case side1 => repeat (first | exact HR0.out | (with_reducible refine Kd.C_alloc ?_ _) | (with_reducible refine Kd.C_drewN ?_ _) | (with_reducible refine Kd.C_drew ?_))); (case side2 => exact HC0.out); rintro e w10 ⟨rfl, hb⟩; refine ⟨_, rfl, ?_⟩; have n0_ := Aside0.mk (below_step (by repeat (first | (with_reducible first | exact HB.out | apply below_alloc | apply pw_below_drewN | apply below_drew1) | exact HB.out)) hb); clear HB; have HB := n0_; clear n0_; (try clear hb); (try clear hb2); (try clear hk); (try clear hi)) | ((with_reducible refine gate_callee (f := 46) rfl ?_); refine goesL_ (some 11) rfl rfl Tryd.func46 (by kernel_rfl) rfl #[.int .i64 a1] rfl (by (try simp only [List.map_toArray, List.map_cons, List.map_nil]); first | done | rfl | (simp only [List.length_drop, List.length_take]; rfl)) ?_; (with_reducible refine (spec_l21Heat.calls a1 true _ A6.out).mono ?_); rintro e w' ⟨rfl, ⟨nd, rfl⟩⟩; refine ⟨_, rfl, ?_⟩) | (go_at_call 47; (with_reducible refine (spec_l21Peak.calls a2 true _ A8.out).mono ?_); rintro e w' ⟨rfl, ⟨nd, rfl⟩⟩))
    go_ret
    exact ⟨by first | rfl | (rw [Int.tdiv_eq_ediv_of_nonneg (by omega)]; rfl) | (simp [errW_none, errW_some] <;> rfl) | (simp [*, errW_none, errW_some] <;> rfl), by repeat (first | (with_reducible first | exact HB.out | apply below_alloc | apply pw_below_drewN | apply below_drew1) | exact HB.out)⟩
   ·replace c9 := Bool.eq_false_iff.mpr c9
    subst c9
    have H1 : (some 2) = some r := by rw [if_neg (show ¬ (false = true) by decide)] at H; exact H
    clear H
    have H := H1
    clear H1
    obtain rfl := Option.some.inj H
    go_enter Tryd.func32, Tryd.ntmps32
    go_wp2_with (first | ((with_reducible refine gate_callee (f := 45) rfl ?_); refine goesL_ (some 8) rfl rfl Tryd.func45 (by kernel_rfl) rfl #[.pointer A0] rfl (by (try simp only [List.map_toArray, List.map_cons, List.map_nil]); first | done | rfl | (simp only [List.length_drop, List.length_take]; rfl)) ?_; (with_reducible refine (spec_l21Ok.calls k _ c0 l0 true _ ?side1 ?side2 A4.out).mono ?_); (case side1 => repeat (first | exact HR0.out | (with_reducible refine Kd.C_alloc ?_ _) | (with_reducible refine Kd.C_drewN ?_ _) | (with_reducible refine Kd.C_drew ?_))); (case side2 => exact HC0.out); rintro e w11 ⟨rfl, hb⟩; refine ⟨_, rfl, ?_⟩; have n0_ := Aside0.mk (below_step (by repeat (first | (with_reducible first | exact HB.out | apply below_alloc | apply pw_below_drewN | apply below_drew1) | exact HB.out)) hb); clear HB; have HB := n0_; clear n0_; (try clear hb); (try clear hb2); (try clear hk); (try clear hi)) | ((with_reducible refine gate_callee (f := 46) rfl ?_); refine goesL_ (some 11) rfl rfl Tryd.func46 (by kernel_rfl) rfl #[.int .i64 a1] rfl (by (try simp only [List.map_toArray, List.map_cons, List.map_nil]); first | done | rfl | (simp only [List.length_drop, List.length_take]; rfl)) ?_; (with_reducible refine (spec_l21Heat.calls a1 true _ A6.out).mono ?_); rintro e w' ⟨rfl, ⟨nd, rfl⟩⟩; refine ⟨_, rfl, ?_⟩) | (go_at_call 47; (with_reducible refine (spec_l21Peak.calls a2 false _ A8.out).mono ?_); rintro e w' ⟨rfl, ⟨nd, rfl⟩⟩))
    go_ret
    exact ⟨by first | rfl | (rw [Int.tdiv_eq_ediv_of_nonneg (by omega)]; rfl) | (simp [errW_none, errW_some] <;> rfl) | (simp [*, errW_none, errW_some] <;> rfl), by repeat (first | (with_reducible first | exact HB.out | apply below_alloc | apply pw_below_drewN | apply below_drew1) | exact HB.out)⟩
  ·replace c7 := Bool.eq_false_iff.mpr c7
   subst c7
   have H1 : (some 2) = some r := by rw [if_neg (show ¬ (false = true) by decide)] at H; exact H
   clear H
   have H := H1
   clear H1
   obtain rfl := Option.some.inj H
   go_enter Tryd.func32, Tryd.ntmps32
   go_wp2_with (first | ((with_reducible refine gate_callee (f := 45) rfl ?_); refine goesL_ (some 8) rfl rfl Tryd.func45 (by kernel_rfl) rfl #[.pointer A0] rfl (by (try simp only [List.map_toArray, List.map_cons, List.map_nil]); first | done | rfl | (simp only [List.length_drop, List.length_take]; rfl)) ?_; (with_reducible refine (spec_l21Ok.calls k _ c0 l0 true _ ?side1 ?side2 A4.out).mono ?_); (case side1 => repeat (first | exact HR0.out | (with_reducible refine Kd.C_alloc ?_ _) | (with_reducible refine Kd.C_drewN ?_ _) | (with_reducible refine Kd.C_drew ?_))); (case side2 => exact HC0.out); rintro e w12 ⟨rfl, hb⟩; refine ⟨_, rfl, ?_⟩; have n0_ := Aside0.mk (below_step (by repeat (first | (with_reducible first | exact HB.out | apply below_alloc | apply pw_below_drewN | apply below_drew1) | exact HB.out)) hb); clear HB; have HB := n0_; clear n0_; (try clear hb); (try clear hb2); (try clear hk); (try clear hi)) | ((with_reducible refine gate_callee (f := 46) rfl ?_); refine goesL_ (some 11) rfl rfl Tryd.func46 (by kernel_rfl) rfl #[.int .i64 a1] rfl (by (try simp only [List.map_toArray, List.map_cons, List.map_nil]); first | done | rfl | (simp only [List.length_drop, List.length_take]; rfl)) ?_; (with_reducible refine (spec_l21Heat.calls a1 false _ A6.out).mono ?_); rintro e w' ⟨rfl, ⟨nd, rfl⟩⟩; refine ⟨_, rfl, ?_⟩))
   go_ret
   exact ⟨by first | rfl | (rw [Int.tdiv_eq_ediv_of_nonneg (by omega)]; rfl) | (simp [errW_none, errW_some] <;> rfl) | (simp [*, errW_none, errW_some] <;> rfl), by repeat (first | (with_reducible first | exact HB.out | apply below_alloc | apply pw_below_drewN | apply below_drew1) | exact HB.out)⟩
 ·replace c5 := Bool.eq_false_iff.mpr c5
  subst c5
  have H1 : (some 1) = some r := by rw [if_neg (show ¬ (false = true) by decide)] at H; exact H
  clear H
  have H := H1
  clear H1
  obtain rfl := Option.some.inj H
  go_enter Tryd.func32, Tryd.ntmps32
  go_wp2_with (first | ((with_reducible refine gate_callee (f := 45) rfl ?_); refine goesL_ (some 8) rfl rfl Tryd.func45 (by kernel_rfl) rfl #[.pointer A0] rfl (by (try simp only [List.map_toArray, List.map_cons, List.map_nil]); first | done | rfl | (simp only [List.length_drop, List.length_take]; rfl)) ?_; (with_reducible refine (spec_l21Ok.calls k _ c0 l0 false _ ?side1 ?side2 A4.out).mono ?_); (case side1 => repeat (first | exact HR0.out | (with_reducible refine Kd.C_alloc ?_ _) | (with_reducible refine Kd.C_drewN ?_ _) | (with_reducible refine Kd.C_drew ?_))); (case side2 => exact HC0.out); rintro e w13 ⟨rfl, hb⟩; refine ⟨_, rfl, ?_⟩; have n0_ := Aside0.mk (below_step (by repeat (first | (with_reducible first | exact HB.out | apply below_alloc | apply pw_below_drewN | apply below_drew1) | exact HB.out)) hb); clear HB; have HB := n0_; clear n0_; (try clear hb); (try clear hb2); (try clear hk); (try clear hi)))
  go_ret
  exact ⟨by first | rfl | (rw [Int.tdiv_eq_ediv_of_nonneg (by omega)]; rfl) | (simp [errW_none, errW_some] <;> rfl) | (simp [*, errW_none, errW_some] <;> rfl), by repeat (first | (with_reducible first | exact HB.out | apply below_alloc | apply pw_below_drewN | apply below_drew1) | exact HB.out)⟩

/-! ### spec_l00Min: function 61 -/
def spec_l00Min.f (a0 : Int) (a1 : Int) : Option (Int) := if a0 < a1 then (some a0) else (some a1)
set_option maxHeartbeats 8000000 in
set_option maxRecDepth 100000 in
theorem spec_l00Min.calls (a0 : Int) (a1 : Int) (r : Int) (w : World) (h : spec_l00Min.f a0 a1 = some r) :
  Calls Tryd.prog 61 #[.int .i64 a0, .int .i64 a1] w fun e w' => e = .returned (.int .i64 r) ∧ Drawn0 w w' := by
 have H : (if a0 < a1 then (some a0) else (some a1)) = some r := h
 clear h
 by_cases c3 : a0 < a1
 ·rw [if_pos c3] at H
  have c3b0 : decide (a0 < a1) = true := decide_eq_true c3
  clear c3
  obtain rfl := Option.some.inj H
  go_enter Tryd.func61, Tryd.ntmps61
  go_wp2
  go_ret
  exact ⟨by first | rfl | (simp; done) | (simp [*]; done), by repeat (first | exact Drawn0.refl _ | apply Drawn0.step)⟩
 ·rw [if_neg c3] at H
  have c3b0 : decide (a0 < a1) = false := decide_eq_false c3
  clear c3
  obtain rfl := Option.some.inj H
  go_enter Tryd.func61, Tryd.ntmps61
  go_wp2
  go_ret
  exact ⟨by first | rfl | (simp; done) | (simp [*]; done), by repeat (first | exact Drawn0.refl _ | apply Drawn0.step)⟩

/-! ### spec_l00Max: function 62 -/
def spec_l00Max.f (a0 : Int) (a1 : Int) : Option (Int) := if a0 > a1 then (some a0) else (some a1)
set_option maxHeartbeats 8000000 in
set_option maxRecDepth 100000 in
theorem spec_l00Max.calls (a0 : Int) (a1 : Int) (r : Int) (w : World) (h : spec_l00Max.f a0 a1 = some r) :
  Calls Tryd.prog 62 #[.int .i64 a0, .int .i64 a1] w fun e w' => e = .returned (.int .i64 r) ∧ Drawn0 w w' := by
 have H : (if a0 > a1 then (some a0) else (some a1)) = some r := h
 clear h
 by_cases c3 : a0 > a1
 ·rw [if_pos c3] at H
  have c3b0 : decide (a1 < a0) = true := decide_eq_true c3
  clear c3
  obtain rfl := Option.some.inj H
  go_enter Tryd.func62, Tryd.ntmps62
  go_wp2
  go_ret
  exact ⟨by first | rfl | (simp; done) | (simp [*]; done), by repeat (first | exact Drawn0.refl _ | apply Drawn0.step)⟩
 ·rw [if_neg c3] at H
  have c3b0 : decide (a1 < a0) = false := decide_eq_false c3
  clear c3
  obtain rfl := Option.some.inj H
  go_enter Tryd.func62, Tryd.ntmps62
  go_wp2
  go_ret
  exact ⟨by first | rfl | (simp; done) | (simp [*]; done), by repeat (first | exact Drawn0.refl _ | apply Drawn0.step)⟩

/-! ### spec_l21Cost: function 48 -/
def spec_l21Cost.l0 : Nat → List (S26) → Int → Int → Int → Option (Int)
 | 0, _, _, _, _ => none
 | k + 1, x0, x1, x5, x6 => if 0 < (x0.length : Int) then (if x6 < (((rd_T26 x0 0).f3).length : Int) then (if (wrap64 (x6 + 1)) < (((rd_T26 x0 0).f3).length : Int) then (if 0 ≤ (wrap64 (x6 + 1)) then (if 0 < ((rd_L3 ((rd_T26 x0 0).f3) (wrap64 (x6 + 1))).length : Int) then ((spec_l00Min.f x1 (rd (rd_L3 ((rd_T26 x0 0).f3) (wrap64 (x6 + 1))) 0)).bind fun t317 => (if 0 ≤ x6 then (if 0 < ((rd_L3 ((rd_T26 x0 0).f3) x6).length : Int) then ((spec_l00Max.f 0 (wrap64 (t317 - (rd (rd_L3 ((rd_T26 x0 0).f3) x6) 0)))).bind fun t321 => (if 1 < ((rd_L3 ((rd_T26 x0 0).f3) x6).length : Int) then (spec_l21Cost.l0 k x0 x1 (wrap64 (x5 + (wrap64 (t321 * (rd (rd_L3 ((rd_T26 x0 0).f3) x6) 1))))) (wrap64 (x6 + 1))) else (none))) else (none)) else (none))) else (none)) else (none)) else (if 0 ≤ x6 then (if 0 < ((rd_L3 ((rd_T26 x0 0).f3) x6).length : Int) then ((spec_l00Max.f 0 (wrap64 (x1 - (rd (rd_L3 ((rd_T26 x0 0).f3) x6) 0)))).bind fun t328 => (if 1 < ((rd_L3 ((rd_T26 x0 0).f3) x6).length : Int) then (spec_l21Cost.l0 k x0 x1 (wrap64 (x5 + (wrap64 (t328 * (rd (rd_L3 ((rd_T26 x0 0).f3) x6) 1))))) (wrap64 (x6 + 1))) else (none))) else (none)) else (none))) else (some x5)) else (none)
def spec_l21Cost.f (k : Nat) (l0 : List (S26)) (a1 : Int) : Option (Int) := spec_l21Cost.l0 k l0 a1 0 0
theorem spec_l21Cost.mono_l : ∀ k, (∀ y0 y1 y2 y3, LeO (spec_l21Cost.l0 k y0 y1 y2 y3) (spec_l21Cost.l0 (k + 1) y0 y1 y2 y3))
 | 0 => fun _ _ _ _ r h => by simp [spec_l21Cost.l0] at h
 | k + 1 => by
  have ih0 := spec_l21Cost.mono_l k
  ·intro y0 y1 y2 y3
   unfold spec_l21Cost.l0
   repeat' first
   | (with_reducible exact ih0 _ _ _ _)
   | (with_reducible exact LeO.refl _)
   | (with_reducible exact LeO.none _)
   | (with_reducible refine LeO.ite ?_ ?_)
   | (with_reducible refine LeO.bind ?_ (fun _ => ?_))
   | exact ih0 _ _ _ _
   | exact LeO.none _
   | refine LeO.ite ?_ ?_
   | refine LeO.bind ?_ (fun _ => ?_)
theorem spec_l21Cost.mono : ∀ a0 a1 k, LeO (spec_l21Cost.f k a0 a1) (spec_l21Cost.f (k + 1) a0 a1) := by
 intro a0 a1 k
 have ih0 := spec_l21Cost.mono_l k
 unfold spec_l21Cost.f
 repeat' first
   | (with_reducible exact ih0 _ _ _ _)
   | (with_reducible exact LeO.refl _)
   | (with_reducible exact LeO.none _)
   | (with_reducible refine LeO.ite ?_ ?_)
   | (with_reducible refine LeO.bind ?_ (fun _ => ?_))
   | exact ih0 _ _ _ _
   | exact LeO.none _
   | refine LeO.ite ?_ ?_
   | refine LeO.bind ?_ (fun _ => ?_)
set_option maxHeartbeats 8000000 in
set_option maxRecDepth 100000 in
theorem spec_l21Cost.calls (k : Nat) (A0 : Option Addr) (c0 : Nat) (l0 : List (S26)) (a1 : Int) (r : Int) (w : World) (hr0 : Kd.C k26 w A0 l0.length l0) (hc0 : l0.length ≤ c0) (h : spec_l21Cost.f k l0 a1 = some r) :
  Calls Tryd.prog 48 #[.pointer A0, .int .i64 a1] w fun e w' => e = .returned (.int .i64 r) ∧ Drawn0 w w' := by
 have HR0 := Aside0.mk hr0
 have HC0 := Aside0.mk hc0
 clear hr0 hc0
 have H : (spec_l21Cost.l0 k l0 a1 0 0) = some r := h
 clear h
 have H' := Aside0.mk H
 clear H
 go_enter Tryd.func48, Tryd.ntmps48
 go_wp2
 repeat (go_quiet (fail); try go_wp2)
 go_loopg [5, 6] k (fun kq v5 v6 w' => ∃ (x5_1 : Int) (x6_1 : Int), v5 = .int .i64 x5_1 ∧ v6 = .int .i64 x6_1 ∧ Aside0 (spec_l21Cost.l0 kq l0 a1 x5_1 x6_1 = some r) ∧ Aside0 (kq ≤ k) ∧ Drawn0 w w')
 case atStart => exact ⟨(0), (0), (by first | rfl | (simp; done) | (simp [*]; done)), (by first | rfl | (simp; done) | (simp [*]; done)), H', ⟨Nat.le_refl _⟩, by repeat (first | exact Drawn0.refl _ | apply Drawn0.step)⟩
 case round =>
  clear H'
  try clear p2
  obtain ⟨x5_1, x6_1, rfl, rfl, HA, HK1, ⟨m1, rfl⟩⟩ := hrel
  cases gk with
  | zero => exact absurd HA.out (by simp [spec_l21Cost.l0])
  | succ k1 =>
   have H := HA.out
   clear HA
   simp only [spec_l21Cost.l0] at H
   by_cases c3 : 0 < (l0.length : Int)
   ·rw [if_pos c3] at H
    have c3b0 : decide (0 < (l0.length : Int)) = true := decide_eq_true c3
    have c3b1 : decide (0 < l0.length) = true := decide_eq_true (by omega)
    clear c3
    by_cases c4 : x6_1 < (((rd_T26 l0 0).f3).length : Int)
    ·rw [if_pos c4] at H
     have c4b0 : decide (x6_1 < (((rd_T26 l0 0).f3).length : Int)) = true := decide_eq_true c4
     clear c4
     by_cases c5 : (wrap64 (x6_1 + 1)) < (((rd_T26 l0 0).f3).length : Int)
     ·rw [if_pos c5] at H
      have c5b0 : decide ((wrap64 (x6_1 + 1)) < (((rd_T26 l0 0).f3).length : Int)) = true := decide_eq_true c5
      clear c5
      obtain ⟨ji6, hji6⟩ : ∃ j_ : Int, (wrap64 (x6_1 + 1)) = j_ := ⟨_, rfl⟩
      replace H : (if 0 ≤ (ji6) then (if 0 < ((rd_L3 ((rd_T26 l0 0).f3) (ji6)).length : Int) then ((spec_l00Min.f a1 (rd (rd_L3 ((rd_T26 l0 0).f3) (ji6)) 0)).bind fun t317 => (if 0 ≤ x6_1 then (if 0 < ((rd_L3 ((rd_T26 l0 0).f3) x6_1).length : Int) then ((spec_l00Max.f 0 (wrap64 (t317 - (rd (rd_L3 ((rd_T26 l0 0).f3) x6_1) 0)))).bind fun t321 => (if 1 < ((rd_L3 ((rd_T26 l0 0).f3) x6_1).length : Int) then (spec_l21Cost.l0 k1 l0 a1 (wrap64 (x5_1 + (wrap64 (t321 * (rd (rd_L3 ((rd_T26 l0 0).f3) x6_1) 1))))) ji6) else (none))) else (none)) else (none))) else (none)) else (none)) = some r := by first | (rw [hji6] at H; exact H) | (simp only [hji6] at H ⊢; exact H)
      (try rw [hji6] at c5b0)
      have hji6w : (IntKind.i64.wrap (x6_1 + 1)) = ji6 := (i64_w _).trans hji6
      by_cases c7 : 0 ≤ (ji6)
      ·rw [if_pos c7] at H
       have c7b0 : decide (0 ≤ (ji6)) = true := decide_eq_true c7
       clear c7
       by_cases c8 : 0 < ((rd_L3 ((rd_T26 l0 0).f3) (ji6)).length : Int)
       ·rw [if_pos c8] at H
        have c8b0 : decide (0 < ((rd_L3 ((rd_T26 l0 0).f3) (ji6)).length : Int)) = true := decide_eq_true c8
        have c8b1 : decide (0 < (rd_L3 ((rd_T26 l0 0).f3) (ji6)).length) = true := decide_eq_true (by omega)
        clear c8
        replace H := Option.bind_eq_some_iff.mp H
        obtain ⟨t317, A90, H⟩ := H
        replace H : (if 0 ≤ x6_1 then (if 0 < ((rd_L3 ((rd_T26 l0 0).f3) x6_1).length : Int) then ((spec_l00Max.f 0 (wrap64 (t317 - (rd (rd_L3 ((rd_T26 l0 0).f3) x6_1) 0)))).bind fun t321 => (if 1 < ((rd_L3 ((rd_T26 l0 0).f3) x6_1).length : Int) then (spec_l21Cost.l0 k1 l0 a1 (wrap64 (x5_1 + (wrap64 (t321 * (rd (rd_L3 ((rd_T26 l0 0).f3) x6_1) 1))))) ji6) else (none))) else (none)) else (none)) = some r := H
        have A9 := Aside0.mk A90
        clear A90
        by_cases c10 : 0 ≤ x6_1
        ·rw [if_pos c10] at H
         have c10b0 : decide (0 ≤ x6_1) = true := decide_eq_true c10
         clear c10
         by_cases c11 : 0 < ((rd_L3 ((rd_T26 l0 0).f3) x6_1).length : Int)
         ·rw [if_pos c11] at H
          have c11b0 : decide (0 < ((rd_L3 ((rd_T26 l0 0).f3) x6_1).length : Int)) = true := decide_eq_true c11
          have c11b1 : decide (0 < (rd_L3 ((rd_T26 l0 0).f3) x6_1).length) = true := decide_eq_true (by omega)
          clear c11
          replace H := Option.bind_eq_some_iff.mp H
          obtain ⟨t321, A120, H⟩ := H
          replace H : (if 1 < ((rd_L3 ((rd_T26 l0 0).f3) x6_1).length : Int) then (spec_l21Cost.l0 k1 l0 a1 (wrap64 (x5_1 + (wrap64 (t321 * (rd (rd_L3 ((rd_T26 l0 0).f3) x6_1) 1))))) ji6) else (none)) = some r := H
          have A12 := Aside0.mk A120
          clear A120
          by_cases c13 : 1 < ((rd_L3 ((rd_T26 l0 0).f3) x6_1).length : Int)
          ·rw [if_pos c13] at H
           have c13b0 : decide (1 < ((rd_L3 ((rd_T26 l0 0).f3) x6_1).length : Int)) = true := decide_eq_true c13
           have c13b1 : decide (1 < (rd_L3 ((rd_T26 l0 0).f3) x6_1).length) = true := decide_eq_true (by omega)
           clear c13
           have H' := Aside0.mk H
           clear H
           have p312 : 0 ≤ (0 : Int) := (by omega)
           have q312 : 0 < (l0.length : Int) := of_decide_eq_true (by first | (with_reducible assumption) | assumption)
           obtain ⟨ad312, A312_3, c312_3, e312, hx312_0, hx312_1, hx312_2, hx312_3, hl312_3, hi312_3⟩ := at_T26 HR0.out 0 p312 q312
           cases e312
           have qi312 : (0 < l0.length) = True := eq_true (by omega)
           (try rw [show ((0 : Int)).toNat = 0 from rfl] at hx312_0)
           (try rw [show 0 * 4 = 0 from rfl] at hx312_0)
           (try rw [Addr.add_zero'] at hx312_0)
           (try rw [show ((0 : Int)).toNat = 0 from rfl] at hx312_1)
           (try rw [show 0 * 4 = 0 from rfl] at hx312_1)
           (try rw [Addr.add_zero'] at hx312_1)
           (try rw [show ((0 : Int)).toNat = 0 from rfl] at hx312_2)
           (try rw [show 0 * 4 = 0 from rfl] at hx312_2)
           (try rw [Addr.add_zero'] at hx312_2)
           (try rw [show ((0 : Int)).toNat = 0 from rfl] at hx312_3)
           (try rw [show 0 * 4 = 0 from rfl] at hx312_3)
           (try rw [Addr.add_zero'] at hx312_3)
           have HR312_3 := Aside0.mk hi312_3
           have HC312_3 := Aside0.mk hl312_3
           clear hi312_3 hl312_3
           replace p312 := eq_true p312
           replace q312 := eq_true q312
           have p313 : 0 ≤ (0 : Int) := (by omega)
           have q313 : 0 < (l0.length : Int) := of_decide_eq_true (by first | (with_reducible assumption) | assumption)
           obtain ⟨ad313, A313_3, c313_3, e313, hx313_0, hx313_1, hx313_2, hx313_3, hl313_3, hi313_3⟩ := at_T26 HR0.out 0 p313 q313
           obtain rfl : ad312 = ad313 := (by injection e313)
           have qi313 : (0 < l0.length) = True := eq_true (by omega)
           (try rw [show ((0 : Int)).toNat = 0 from rfl] at hx313_0)
           (try rw [show 0 * 4 = 0 from rfl] at hx313_0)
           (try rw [Addr.add_zero'] at hx313_0)
           (try rw [show ((0 : Int)).toNat = 0 from rfl] at hx313_1)
           (try rw [show 0 * 4 = 0 from rfl] at hx313_1)
           (try rw [Addr.add_zero'] at hx313_1)
           (try rw [show ((0 : Int)).toNat = 0 from rfl] at hx313_2)
           (try rw [show 0 * 4 = 0 from rfl] at hx313_2)
           (try rw [Addr.add_zero'] at hx313_2)
           (try rw [show ((0 : Int)).toNat = 0 from rfl] at hx313_3)
           (try rw [show 0 * 4 = 0 from rfl] at hx313_3)
           (try rw [Addr.add_zero'] at hx313_3)
           have HR313_3 := Aside0.mk hi313_3
           have HC313_3 := Aside0.mk hl313_3
           clear hi313_3 hl313_3
           replace p313 := eq_true p313
           replace q313 := eq_true q313
           have ea_ := Option.some.inj (hx312_3.symm.trans hx313_3)
           injection ea_ with ea_ en_ ec_
           subst ea_
           subst ec_
           clear en_
           have p314 : 0 ≤ (0 : Int) := (by omega)
           have q314 : 0 < (l0.length : Int) := of_decide_eq_true (by first | (with_reducible assumption) | assumption)
           obtain ⟨ad314, A314_3, c314_3, e314, hx314_0, hx314_1, hx314_2, hx314_3, hl314_3, hi314_3⟩ := at_T26 HR0.out 0 p314 q314
           obtain rfl : ad312 = ad314 := (by injection e314)
           have qi314 : (0 < l0.length) = True := eq_true (by omega)
           (try rw [show ((0 : Int)).toNat = 0 from rfl] at hx314_0)
           (try rw [show 0 * 4 = 0 from rfl] at hx314_0)
           (try rw [Addr.add_zero'] at hx314_0)
           (try rw [show ((0 : Int)).toNat = 0 from rfl] at hx314_1)
           (try rw [show 0 * 4 = 0 from rfl] at hx314_1)
           (try rw [Addr.add_zero'] at hx314_1)
           (try rw [show ((0 : Int)).toNat = 0 from rfl] at hx314_2)
           (try rw [show 0 * 4 = 0 from rfl] at hx314_2)
           (try rw [Addr.add_zero'] at hx314_2)
           (try rw [show ((0 : Int)).toNat = 0 from rfl] at hx314_3)
           (try rw [show 0 * 4 = 0 from rfl] at hx314_3)
           (try rw [Addr.add_zero'] at hx314_3)
           have HR314_3 := Aside0.mk hi314_3
           have HC314_3 := Aside0.mk hl314_3
           clear hi314_3 hl314_3
           replace p314 := eq_true p314
           replace q314 := eq_true q314
           have ea_ := Option.some.inj (hx312_3.symm.trans hx314_3)
           injection ea_ with ea_ en_ ec_
           subst ea_
           subst ec_
           clear en_
           have p315 : 0 ≤ ((ji6) : Int) := of_decide_eq_true (by first | (with_reducible assumption) | assumption)
           have q315 : (ji6) < (((rd_T26 l0 0).f3).length : Int) := of_decide_eq_true (by first | (with_reducible assumption) | assumption)
           obtain ⟨ad315, A315_0, c315_0, e315, hx315_0, hl315_0, hi315_0⟩ := at_L3 HR314_3.out (ji6) p315 q315
           cases e315
           have HR315_0 := Aside0.mk hi315_0
           have HC315_0 := Aside0.mk hl315_0
           clear hi315_0 hl315_0
           replace p315 := eq_true p315
           replace q315 := eq_true q315
           have p316 : 0 ≤ (0 : Int) := (by omega)
           have q316 : 0 < ((rd_L3 ((rd_T26 l0 0).f3) (ji6)).length : Int) := of_decide_eq_true (by first | (with_reducible assumption) | assumption)
           obtain ⟨ad316, e316, hx316_0⟩ := Kd.at_int HR315_0.out 0 p316 q316
           cases e316
           have qi316 : (0 < (rd_L3 ((rd_T26 l0 0).f3) (ji6)).length) = True := eq_true (by omega)
           (try rw [show ((0 : Int)).toNat = 0 from rfl] at hx316_0)
           (try rw [Addr.add_zero'] at hx316_0)
           replace p316 := eq_true p316
           replace q316 := eq_true q316
           go_wp2_with (first | (go_at_call 61; (with_reducible refine (spec_l00Min.calls a1 (rd (rd_L3 ((rd_T26 l0 0).f3) (ji6)) 0) t317 _ A9.out).mono ?_); rintro e w' ⟨rfl, ⟨nd, rfl⟩⟩; (try first | exact ⟨rfl, _, World.drewN_drewN _ _ _⟩ | exact ⟨rfl, _, Eq.trans (World.drewN_drewN _ _ _) (congrArg (World.drewN _) (Nat.add_assoc _ _ _))⟩); (try (have p318 : 0 ≤ (0 : Int) := (by omega); have q318 : 0 < (l0.length : Int) := of_decide_eq_true (by first | (with_reducible assumption) | assumption); obtain ⟨ad318, A318_3, c318_3, e318, hx318_0, hx318_1, hx318_2, hx318_3, hl318_3, hi318_3⟩ := at_T26 HR0.out 0 p318 q318; obtain rfl : ad312 = ad318 := (by injection e318); have qi318 : (0 < l0.length) = True := eq_true (by omega); (try rw [show ((0 : Int)).toNat = 0 from rfl] at hx318_0); (try rw [show 0 * 4 = 0 from rfl] at hx318_0); (try rw [Addr.add_zero'] at hx318_0); (try rw [show ((0 : Int)).toNat = 0 from rfl] at hx318_1); (try rw [show 0 * 4 = 0 from rfl] at hx318_1); (try rw [Addr.add_zero'] at hx318_1); (try rw [show ((0 : Int)).toNat = 0 from rfl] at hx318_2); (try rw [show 0 * 4 = 0 from rfl] at hx318_2); (try rw [Addr.add_zero'] at hx318_2); (try rw [show ((0 : Int)).toNat = 0 from rfl] at hx318_3); (try rw [show 0 * 4 = 0 from rfl] at hx318_3); (try rw [Addr.add_zero'] at hx318_3); have HR318_3 := Aside0.mk hi318_3; have HC318_3 := Aside0.mk hl318_3; clear hi318_3 hl318_3; replace p318 := eq_true p318; replace q318 := eq_true q318; have ea_ := Option.some.inj (hx312_3.symm.trans hx318_3); injection ea_ with ea_ en_ ec_; subst ea_; subst ec_; clear en_; have p319 : 0 ≤ (x6_1 : Int) := of_decide_eq_true (by first | (with_reducible assumption) | assumption); have q319 : x6_1 < (((rd_T26 l0 0).f3).length : Int) := of_decide_eq_true (by first | (with_reducible assumption) | assumption); obtain ⟨ad319, A319_0, c319_0, e319, hx319_0, hl319_0, hi319_0⟩ := at_L3 HR318_3.out x6_1 p319 q319; obtain rfl : ad315 = ad319 := (by injection e319); have HR319_0 := Aside0.mk hi319_0; have HC319_0 := Aside0.mk hl319_0; clear hi319_0 hl319_0; replace p319 := eq_true p319; replace q319 := eq_true q319; have p320 : 0 ≤ (0 : Int) := (by omega); have q320 : 0 < ((rd_L3 ((rd_T26 l0 0).f3) x6_1).length : Int) := of_decide_eq_true (by first | (with_reducible assumption) | assumption); obtain ⟨ad320, e320, hx320_0⟩ := Kd.at_int HR319_0.out 0 p320 q320; cases e320; have qi320 : (0 < (rd_L3 ((rd_T26 l0 0).f3) x6_1).length) = True := eq_true (by omega); (try rw [show ((0 : Int)).toNat = 0 from rfl] at hx320_0); (try rw [Addr.add_zero'] at hx320_0); replace p320 := eq_true p320; replace q320 := eq_true q320))) | (go_at_call 62; (with_reducible refine (spec_l00Max.calls 0 (wrap64 (t317 - (rd (rd_L3 ((rd_T26 l0 0).f3) x6_1) 0))) t321 _ A12.out).mono ?_); rintro e w' ⟨rfl, ⟨nd, rfl⟩⟩; (try first | exact ⟨rfl, _, World.drewN_drewN _ _ _⟩ | exact ⟨rfl, _, Eq.trans (World.drewN_drewN _ _ _) (congrArg (World.drewN _) (Nat.add_assoc _ _ _))⟩); (try (have p322 : 0 ≤ (0 : Int) := (by omega); have q322 : 0 < (l0.length : Int) := of_decide_eq_true (by first | (with_reducible assumption) | assumption); obtain ⟨ad322, A322_3, c322_3, e322, hx322_0, hx322_1, hx322_2, hx322_3, hl322_3, hi322_3⟩ := at_T26 HR0.out 0 p322 q322; obtain rfl : ad312 = ad322 := (by injection e322); have qi322 : (0 < l0.length) = True := eq_true (by omega); (try rw [show ((0 : Int)).toNat = 0 from rfl] at hx322_0); (try rw [show 0 * 4 = 0 from rfl] at hx322_0); (try rw [Addr.add_zero'] at hx322_0); (try rw [show ((0 : Int)).toNat = 0 from rfl] at hx322_1); (try rw [show 0 * 4 = 0 from rfl] at hx322_1); (try rw [Addr.add_zero'] at hx322_1); (try rw [show ((0 : Int)).toNat = 0 from rfl] at hx322_2); (try rw [show 0 * 4 = 0 from rfl] at hx322_2); (try rw [Addr.add_zero'] at hx322_2); (try rw [show ((0 : Int)).toNat = 0 from rfl] at hx322_3); (try rw [show 0 * 4 = 0 from rfl] at hx322_3); (try rw [Addr.add_zero'] at hx322_3); have HR322_3 := Aside0.mk hi322_3; have HC322_3 := Aside0.mk hl322_3; clear hi322_3 hl322_3; replace p322 := eq_true p322; replace q322 := eq_true q322; have ea_ := Option.some.inj (hx312_3.symm.trans hx322_3); injection ea_ with ea_ en_ ec_; subst ea_; subst ec_; clear en_; have p323 : 0 ≤ (x6_1 : Int) := of_decide_eq_true (by first | (with_reducible assumption) | assumption); have q323 : x6_1 < (((rd_T26 l0 0).f3).length : Int) := of_decide_eq_true (by first | (with_reducible assumption) | assumption); obtain ⟨ad323, A323_0, c323_0, e323, hx323_0, hl323_0, hi323_0⟩ := at_L3 HR322_3.out x6_1 p323 q323; obtain rfl : ad315 = ad323 := (by injection e323); have HR323_0 := Aside0.mk hi323_0; have HC323_0 := Aside0.mk hl323_0; clear hi323_0 hl323_0; replace p323 := eq_true p323; replace q323 := eq_true q323; have p324 : 0 ≤ (1 : Int) := (by omega); have q324 : 1 < ((rd_L3 ((rd_T26 l0 0).f3) x6_1).length : Int) := of_decide_eq_true (by first | (with_reducible assumption) | assumption); obtain ⟨ad324, e324, hx324_0⟩ := Kd.at_int HR323_0.out 1 p324 q324; cases e324; (try simp only [show (1 : Int).toNat = 1 from rfl, Nat.reduceMul, Nat.reduceEqDiff, Go.Addr.add, ↓reduceIte] at hx324_0); have qi324 : (1 < (rd_L3 ((rd_T26 l0 0).f3) x6_1).length) = True := eq_true (by omega); (try rw [show ((1 : Int)).toNat = 1 from rfl] at hx324_0); replace p324 := eq_true p324; replace q324 := eq_true q324))))
           (first | (have h_ := q320; clear h_) | (try (have p318 : 0 ≤ (0 : Int) := (by omega); have q318 : 0 < (l0.length : Int) := of_decide_eq_true (by first | (with_reducible assumption) | assumption); obtain ⟨ad318, A318_3, c318_3, e318, hx318_0, hx318_1, hx318_2, hx318_3, hl318_3, hi318_3⟩ := at_T26 HR0.out 0 p318 q318; obtain rfl : ad312 = ad318 := (by injection e318); have qi318 : (0 < l0.length) = True := eq_true (by omega); (try rw [show ((0 : Int)).toNat = 0 from rfl] at hx318_0); (try rw [show 0 * 4 = 0 from rfl] at hx318_0); (try rw [Addr.add_zero'] at hx318_0); (try rw [show ((0 : Int)).toNat = 0 from rfl] at hx318_1); (try rw [show 0 * 4 = 0 from rfl] at hx318_1); (try rw [Addr.add_zero'] at hx318_1); (try rw [show ((0 : Int)).toNat = 0 from rfl] at hx318_2); (try rw [show 0 * 4 = 0 from rfl] at hx318_2); (try rw [Addr.add_zero'] at hx318_2); (try rw [show ((0 : Int)).toNat = 0 from rfl] at hx318_3); (try rw [show 0 * 4 = 0 from rfl] at hx318_3); (try rw [Addr.add_zero'] at hx318_3); have HR318_3 := Aside0.mk hi318_3; have HC318_3 := Aside0.mk hl318_3; clear hi318_3 hl318_3; replace p318 := eq_true p318; replace q318 := eq_true q318; have ea_ := Option.some.inj (hx312_3.symm.trans hx318_3); injection ea_ with ea_ en_ ec_; subst ea_; subst ec_; clear en_; have p319 : 0 ≤ (x6_1 : Int) := of_decide_eq_true (by first | (with_reducible assumption) | assumption); have q319 : x6_1 < (((rd_T26 l0 0).f3).length : Int) := of_decide_eq_true (by first | (with_reducible assumption) | assumption); obtain ⟨ad319, A319_0, c319_0, e319, hx319_0, hl319_0, hi319_0⟩ := at_L3 HR318_3.out x6_1 p319 q319; obtain rfl : ad315 = ad319 := (by injection e319); have HR319_0 := Aside0.mk hi319_0; have HC319_0 := Aside0.mk hl319_0; clear hi319_0 hl319_0; replace p319 := eq_true p319; replace q319 := eq_true q319; have p320 : 0 ≤ (0 : Int) := (by omega); have q320 : 0 < ((rd_L3 ((rd_T26 l0 0).f3) x6_1).length : Int) := of_decide_eq_true (by first | (with_reducible assumption) | assumption); obtain ⟨ad320, e320, hx320_0⟩ := Kd.at_int HR319_0.out 0 p320 q320; cases e320; have qi320 : (0 < (rd_L3 ((rd_T26 l0 0).f3) x6_1).length) = True := eq_true (by omega); (try rw [show ((0 : Int)).toNat = 0 from rfl] at hx320_0); (try rw [Addr.add_zero'] at hx320_0); replace p320 := eq_true p320; replace q320 := eq_true q320))); (first | (have h_ := q324; clear h_) | (try (have p322 : 0 ≤ (0 : Int) := (by omega); have q322 : 0 < (l0.length : Int) := of_decide_eq_true (by first | (with_reducible assumption) | assumption); obtain ⟨ad322, A322_3, c322_3, e322, hx322_0, hx322_1, hx322_2, hx322_3, hl322_3, hi322_3⟩ := at_T26 HR0.out 0 p322 q322; obtain rfl : ad312 = ad322 := (by injection e322); have qi322 : (0 < l0.length) = True := eq_true (by omega); (try rw [show ((0 : Int)).toNat = 0 from rfl] at hx322_0); (try rw [show 0 * 4 = 0 from rfl] at hx322_0); (try rw [Addr.add_zero'] at hx322_0); (try rw [show ((0 : Int)).toNat = 0 from rfl] at hx322_1); (try rw [show 0 * 4 = 0 from rfl] at hx322_1); (try rw [Addr.add_zero'] at hx322_1); (try rw [show ((0 : Int)).toNat = 0 from rfl] at hx322_2); (try rw [show 0 * 4 = 0 from rfl] at hx322_2); (try rw [Addr.add_zero'] at hx322_2); (try rw [show ((0 : Int)).toNat = 0 from rfl] at hx322_3); (try rw [show 0 * 4 = 0 from rfl] at hx322_3); (try rw [Addr.add_zero'] at hx322_3); have HR322_3 := Aside0.mk hi322_3; have HC322_3 := Aside0.mk hl322_3; clear hi322_3 hl322_3; replace p322 := eq_true p322; replace q322 := eq_true q322; have ea_ := Option.some.inj (hx312_3.symm.trans hx322_3); injection ea_ with ea_ en_ ec_; subst ea_; subst ec_; clear en_; have p323 : 0 ≤ (x6_1 : Int) := of_decide_eq_true (by first | (with_reducible assumption) | assumption); have q323 : x6_1 < (((rd_T26 l0 0).f3).length : Int) := of_decide_eq_true (by first | (with_reducible assumption) | assumption); obtain ⟨ad323, A323_0, c323_0, e323, hx323_0, hl323_0, hi323_0⟩ := at_L3 HR322_3.out x6_1 p323 q323; obtain rfl : ad315 = ad323 := (by injection e323); (try (have ea_ := Option.some.inj (hx319_0.symm.trans hx323_0); injection ea_ with ea_ en_ ec_; subst ea_; subst ec_; clear en_)); have HR323_0 := Aside0.mk hi323_0; have HC323_0 := Aside0.mk hl323_0; clear hi323_0 hl323_0; replace p323 := eq_true p323; replace q323 := eq_true q323; have p324 : 0 ≤ (1 : Int) := (by omega); have q324 : 1 < ((rd_L3 ((rd_T26 l0 0).f3) x6_1).length : Int) := of_decide_eq_true (by first | (with_reducible assumption) | assumption); obtain ⟨ad324, e324, hx324_0⟩ := Kd.at_int HR323_0.out 1 p324 q324; cases e324; (try simp only [show (1 : Int).toNat = 1 from rfl, Nat.reduceMul, Nat.reduceEqDiff, Go.Addr.add, ↓reduceIte] at hx324_0); have qi324 : (1 < (rd_L3 ((rd_T26 l0 0).f3) x6_1).length) = True := eq_true (by omega); (try rw [show ((1 : Int)).toNat = 1 from rfl] at hx324_0); replace p324 := eq_true p324; replace q324 := eq_true q324)))
           repeat (go_quiet (first | (go_at_call 61; (with_reducible refine (spec_l00Min.calls a1 (rd (rd_L3 ((rd_T26 l0 0).f3) (ji6)) 0) t317 _ A9.out).mono ?_); rintro e w' ⟨rfl, ⟨nd, rfl⟩⟩; (try first | exact ⟨rfl, _, World.drewN_drewN _ _ _⟩ | exact ⟨rfl, _, Eq.trans (World.drewN_drewN _ _ _) (congrArg (World.drewN _) (Nat.add_assoc _ _ _))⟩)) | (go_at_call 62; (with_reducible refine (spec_l00Max.calls 0 (wrap64 (t317 - (rd (rd_L3 ((rd_T26 l0 0).f3) x6_1) 0))) t321 _ A12.out).mono ?_); rintro e w' ⟨rfl, ⟨nd, rfl⟩⟩; (try first | exact ⟨rfl, _, World.drewN_drewN _ _ _⟩ | exact ⟨rfl, _, Eq.trans (World.drewN_drewN _ _ _) (congrArg (World.drewN _) (Nat.add_assoc _ _ _))⟩))); try go_wp2_with (first | (go_at_call 61; (with_reducible refine (spec_l00Min.calls a1 (rd (rd_L3 ((rd_T26 l0 0).f3) (ji6)) 0) t317 _ A9.out).mono ?_); rintro e w' ⟨rfl, ⟨nd, rfl⟩⟩; (try first | exact ⟨rfl, _, World.drewN_drewN _ _ _⟩ | exact ⟨rfl, _, Eq.trans (World.drewN_drewN _ _ _) (congrArg (World.drewN _) (Nat.add_assoc _ _ _))⟩); (try (have p318 : 0 ≤ (0 : Int) := (by omega); have q318 : 0 < (l0.length : Int) := of_decide_eq_true (by first | (with_reducible assumption) | assumption); obtain ⟨ad318, A318_3, c318_3, e318, hx318_0, hx318_1, hx318_2, hx318_3, hl318_3, hi318_3⟩ := at_T26 HR0.out 0 p318 q318; obtain rfl : ad312 = ad318 := (by injection e318); have qi318 : (0 < l0.length) = True := eq_true (by omega); (try rw [show ((0 : Int)).toNat = 0 from rfl] at hx318_0); (try rw [show 0 * 4 = 0 from rfl] at hx318_0); (try rw [Addr.add_zero'] at hx318_0); (try rw [show ((0 : Int)).toNat = 0 from rfl] at hx318_1); (try rw [show 0 * 4 = 0 from rfl] at hx318_1); (try rw [Addr.add_zero'] at hx318_1); (try rw [show ((0 : Int)).toNat = 0 from rfl] at hx318_2); (try rw [show 0 * 4 = 0 from rfl] at hx318_2); (try rw [Addr.add_zero'] at hx318_2); (try rw [show ((0 : Int)).toNat = 0 from rfl] at hx318_3); (try rw [show 0 * 4 = 0 from rfl] at hx318_3); (try rw [Addr.add_zero'] at hx318_3); have HR318_3 := Aside0.mk hi318_3; have HC318_3 := Aside0.mk hl318_3; clear hi318_3 hl318_3; replace p318 := eq_true p318; replace q318 := eq_true q318; have ea_ := Option.some.inj (hx312_3.symm.trans hx318_3); injection ea_ with ea_ en_ ec_; subst ea_; subst ec_; clear en_; have p319 : 0 ≤ (x6_1 : Int) := of_decide_eq_true (by first | (with_reducible assumption) | assumption); have q319 : x6_1 < (((rd_T26 l0 0).f3).length : Int) := of_decide_eq_true (by first | (with_reducible assumption) | assumption); obtain ⟨ad319, A319_0, c319_0, e319, hx319_0, hl319_0, hi319_0⟩ := at_L3 HR318_3.out x6_1 p319 q319; obtain rfl : ad315 = ad319 := (by injection e319); have HR319_0 := Aside0.mk hi319_0; have HC319_0 := Aside0.mk hl319_0; clear hi319_0 hl319_0; replace p319 := eq_true p319; replace q319 := eq_true q319; have p320 : 0 ≤ (0 : Int) := (by omega); have q320 : 0 < ((rd_L3 ((rd_T26 l0 0).f3) x6_1).length : Int) := of_decide_eq_true (by first | (with_reducible assumption) | assumption); obtain ⟨ad320, e320, hx320_0⟩ := Kd.at_int HR319_0.out 0 p320 q320; cases e320; have qi320 : (0 < (rd_L3 ((rd_T26 l0 0).f3) x6_1).length) = True := eq_true (by omega); (try rw [show ((0 : Int)).toNat = 0 from rfl] at hx320_0); (try rw [Addr.add_zero'] at hx320_0); replace p320 := eq_true p320; replace q320 := eq_true q320))) | (go_at_call 62; (with_reducible refine (spec_l00Max.calls 0 (wrap64 (t317 - (rd (rd_L3 ((rd_T26 l0 0).f3) x6_1) 0))) t321 _ A12.out).mono ?_); rintro e w' ⟨rfl, ⟨nd, rfl⟩⟩; (try first | exact ⟨rfl, _, World.drewN_drewN _ _ _⟩ | exact ⟨rfl, _, Eq.trans (World.drewN_drewN _ _ _) (congrArg (World.drewN _) (Nat.add_assoc _ _ _))⟩); (try (have p322 : 0 ≤ (0 : Int) := (by omega); have q322 : 0 < (l0.length : Int) := of_decide_eq_true (by first | (with_reducible assumption) | assumption); obtain ⟨ad322, A322_3, c322_3, e322, hx322_0, hx322_1, hx322_2, hx322_3, hl322_3, hi322_3⟩ := at_T26 HR0.out 0 p322 q322; obtain rfl : ad312 = ad322 := (by injection e322); have qi322 : (0 < l0.length) = True := eq_true (by omega); (try rw [show ((0 : Int)).toNat = 0 from rfl] at hx322_0); (try rw [show 0 * 4 = 0 from rfl] at hx322_0); (try rw [Addr.add_zero'] at hx322_0); (try rw [show ((0 : Int)).toNat = 0 from rfl] at hx322_1); (try rw [show 0 * 4 = 0 from rfl] at hx322_1); (try rw [Addr.add_zero'] at hx322_1); (try rw [show ((0 : Int)).toNat = 0 from rfl] at hx322_2); (try rw [show 0 * 4 = 0 from rfl] at hx322_2); (try rw [Addr.add_zero'] at hx322_2); (try rw [show ((0 : Int)).toNat = 0 from rfl] at hx322_3); (try rw [show 0 * 4 = 0 from rfl] at hx322_3); (try rw [Addr.add_zero'] at hx322_3); have HR322_3 := Aside0.mk hi322_3; have HC322_3 := Aside0.mk hl322_3; clear hi322_3 hl322_3; replace p322 := eq_true p322; replace q322 := eq_true q322; have ea_ := Option.some.inj (hx312_3.symm.trans hx322_3); injection ea_ with ea_ en_ ec_; subst ea_; subst ec_; clear en_; have p323 : 0 ≤ (x6_1 : Int) := of_decide_eq_true (by first | (with_reducible assumption) | assumption); have q323 : x6_1 < (((rd_T26 l0 0).f3).length : Int) := of_decide_eq_true (by first | (with_reducible assumption) | assumption); obtain ⟨ad323, A323_0, c323_0, e323, hx323_0, hl323_0, hi323_0⟩ := at_L3 HR322_3.out x6_1 p323 q323; obtain rfl : ad315 = ad323 := (by injection e323); have HR323_0 := Aside0.mk hi323_0; have HC323_0 := Aside0.mk hl323_0; clear hi323_0 hl323_0; replace p323 := eq_true p323; replace q323 := eq_true q323; have p324 : 0 ≤ (1 : Int) := (by omega); have q324 : 1 < ((rd_L3 ((rd_T26 l0 0).f3) x6_1).length : Int) := of_decide_eq_true (by first | (with_reducible assumption) | assumption); obtain ⟨ad324, e324, hx324_0⟩ := Kd.at_int HR323_0.out 1 p324 q324; cases e324; (try simp only [show (1 : Int).toNat = 1 from rfl, Nat.reduceMul, Nat.reduceEqDiff, Go.Addr.add, ↓reduceIte] at hx324_0); have qi324 : (1 < (rd_L3 ((rd_T26 l0 0).f3) x6_1).length) = True := eq_true (by omega); (try rw [show ((1 : Int)).toNat = 1 from rfl] at hx324_0); replace p324 := eq_true p324; replace q324 := eq_true q324)))))
           go_roundg k1
           case measure => have := HK1.out; omega
           case rel => exact ⟨(wrap64 (x5_1 + (wrap64 (t321 * (rd (rd_L3 ((rd_T26 l0 0).f3) x6_1) 1))))), (ji6), (by first | rfl | (simp; done) | (simp [*]; done)), (by first | rfl | (simp; done) | (simp only [← hji6] <;> (first | rfl | simp)) | (simp [*]; done)), H', ⟨by have := HK1.out; omega⟩, by repeat (first | exact Drawn0.refl _ | apply Drawn0.step)⟩
          ·rw [if_neg c13] at H
           exact absurd H (by simp)
         ·rw [if_neg c11] at H
          exact absurd H (by simp)
        ·rw [if_neg c10] at H
         exact absurd H (by simp)
       ·rw [if_neg c8] at H
        exact absurd H (by simp)
      ·rw [if_neg c7] at H
       exact absurd H (by simp)
     ·rw [if_neg c5] at H
      have c5b0 : decide ((wrap64 (x6_1 + 1)) < (((rd_T26 l0 0).f3).length : Int)) = false := decide_eq_false c5
      clear c5
      by_cases c14 : 0 ≤ x6_1
      ·rw [if_pos c14] at H
       have c14b0 : decide (0 ≤ x6_1) = true := decide_eq_true c14
       clear c14
       by_cases c15 : 0 < ((rd_L3 ((rd_T26 l0 0).f3) x6_1).length : Int)
       ·rw [if_pos c15] at H
        have c15b0 : decide (0 < ((rd_L3 ((rd_T26 l0 0).f3) x6_1).length : Int)) = true := decide_eq_true c15
        have c15b1 : decide (0 < (rd_L3 ((rd_T26 l0 0).f3) x6_1).length) = true := decide_eq_true (by omega)
        clear c15
        replace H := Option.bind_eq_some_iff.mp H
        obtain ⟨t328, A160, H⟩ := H
        replace H : (if 1 < ((rd_L3 ((rd_T26 l0 0).f3) x6_1).length : Int) then (spec_l21Cost.l0 k1 l0 a1 (wrap64 (x5_1 + (wrap64 (t328 * (rd (rd_L3 ((rd_T26 l0 0).f3) x6_1) 1))))) (wrap64 (x6_1 + 1))) else (none)) = some r := H
        have A16 := Aside0.mk A160
        clear A160
        by_cases c17 : 1 < ((rd_L3 ((rd_T26 l0 0).f3) x6_1).length : Int)
        ·rw [if_pos c17] at H
         have c17b0 : decide (1 < ((rd_L3 ((rd_T26 l0 0).f3) x6_1).length : Int)) = true := decide_eq_true c17
         have c17b1 : decide (1 < (rd_L3 ((rd_T26 l0 0).f3) x6_1).length) = true := decide_eq_true (by omega)
         clear c17
         have H' := Aside0.mk H
         clear H
         have p312 : 0 ≤ (0 : Int) := (by omega)
         have q312 : 0 < (l0.length : Int) := of_decide_eq_true (by first | (with_reducible assumption) | assumption)
         obtain ⟨ad312, A312_3, c312_3, e312, hx312_0, hx312_1, hx312_2, hx312_3, hl312_3, hi312_3⟩ := at_T26 HR0.out 0 p312 q312
         cases e312
         have qi312 : (0 < l0.length) = True := eq_true (by omega)
         (try rw [show ((0 : Int)).toNat = 0 from rfl] at hx312_0)
         (try rw [show 0 * 4 = 0 from rfl] at hx312_0)
         (try rw [Addr.add_zero'] at hx312_0)
         (try rw [show ((0 : Int)).toNat = 0 from rfl] at hx312_1)
         (try rw [show 0 * 4 = 0 from rfl] at hx312_1)
         (try rw [Addr.add_zero'] at hx312_1)
         (try rw [show ((0 : Int)).toNat = 0 from rfl] at hx312_2)
         (try rw [show 0 * 4 = 0 from rfl] at hx312_2)
         (try rw [Addr.add_zero'] at hx312_2)
         (try rw [show ((0 : Int)).toNat = 0 from rfl] at hx312_3)
         (try rw [show 0 * 4 = 0 from rfl] at hx312_3)
         (try rw [Addr.add_zero'] at hx312_3)
         have HR312_3 := Aside0.mk hi312_3
         have HC312_3 := Aside0.mk hl312_3
         clear hi312_3 hl312_3
         replace p312 := eq_true p312
         replace q312 := eq_true q312
         have p313 : 0 ≤ (0 : Int) := (by omega)
         have q313 : 0 < (l0.length : Int) := of_decide_eq_true (by first | (with_reducible assumption) | assumption)
         obtain ⟨ad313, A313_3, c313_3, e313, hx313_0, hx313_1, hx313_2, hx313_3, hl313_3, hi313_3⟩ := at_T26 HR0.out 0 p313 q313
         obtain rfl : ad312 = ad313 := (by injection e313)
         have qi313 : (0 < l0.length) = True := eq_true (by omega)
         (try rw [show ((0 : Int)).toNat = 0 from rfl] at hx313_0)
         (try rw [show 0 * 4 = 0 from rfl] at hx313_0)
         (try rw [Addr.add_zero'] at hx313_0)
         (try rw [show ((0 : Int)).toNat = 0 from rfl] at hx313_1)
         (try rw [show 0 * 4 = 0 from rfl] at hx313_1)
         (try rw [Addr.add_zero'] at hx313_1)
         (try rw [show ((0 : Int)).toNat = 0 from rfl] at hx313_2)
         (try rw [show 0 * 4 = 0 from rfl] at hx313_2)
         (try rw [Addr.add_zero'] at hx313_2)
         (try rw [show ((0 : Int)).toNat = 0 from rfl] at hx313_3)
         (try rw [show 0 * 4 = 0 from rfl] at hx313_3)
         (try rw [Addr.add_zero'] at hx313_3)
         have HR313_3 := Aside0.mk hi313_3
         have HC313_3 := Aside0.mk hl313_3
         clear hi313_3 hl313_3
         replace p313 := eq_true p313
         replace q313 := eq_true q313
         have ea_ := Option.some.inj (hx312_3.symm.trans hx313_3)
         injection ea_ with ea_ en_ ec_
         subst ea_
         subst ec_
         clear en_
         have p325 : 0 ≤ (0 : Int) := (by omega)
         have q325 : 0 < (l0.length : Int) := of_decide_eq_true (by first | (with_reducible assumption) | assumption)
         obtain ⟨ad325, A325_3, c325_3, e325, hx325_0, hx325_1, hx325_2, hx325_3, hl325_3, hi325_3⟩ := at_T26 HR0.out 0 p325 q325
         obtain rfl : ad312 = ad325 := (by injection e325)
         have qi325 : (0 < l0.length) = True := eq_true (by omega)
         (try rw [show ((0 : Int)).toNat = 0 from rfl] at hx325_0)
         (try rw [show 0 * 4 = 0 from rfl] at hx325_0)
         (try rw [Addr.add_zero'] at hx325_0)
         (try rw [show ((0 : Int)).toNat = 0 from rfl] at hx325_1)
         (try rw [show 0 * 4 = 0 from rfl] at hx325_1)
         (try rw [Addr.add_zero'] at hx325_1)
         (try rw [show ((0 : Int)).toNat = 0 from rfl] at hx325_2)
         (try rw [show 0 * 4 = 0 from rfl] at hx325_2)
         (try rw [Addr.add_zero'] at hx325_2)
         (try rw [show ((0 : Int)).toNat = 0 from rfl] at hx325_3)
         (try rw [show 0 * 4 = 0 from rfl] at hx325_3)
         (try rw [Addr.add_zero'] at hx325_3)
         have HR325_3 := Aside0.mk hi325_3
         have HC325_3 := Aside0.mk hl325_3
         clear hi325_3 hl325_3
         replace p325 := eq_true p325
         replace q325 := eq_true q325
         have ea_ := Option.some.inj (hx312_3.symm.trans hx325_3)
         injection ea_ with ea_ en_ ec_
         subst ea_
         subst ec_
         clear en_
         have p326 : 0 ≤ (x6_1 : Int) := of_decide_eq_true (by first | (with_reducible assumption) | assumption)
         have q326 : x6_1 < (((rd_T26 l0 0).f3).length : Int) := of_decide_eq_true (by first | (with_reducible assumption) | assumption)
         obtain ⟨ad326, A326_0, c326_0, e326, hx326_0, hl326_0, hi326_0⟩ := at_L3 HR325_3.out x6_1 p326 q326
         cases e326
         have HR326_0 := Aside0.mk hi326_0
         have HC326_0 := Aside0.mk hl326_0
         clear hi326_0 hl326_0
         replace p326 := eq_true p326
         replace q326 := eq_true q326
         have p327 : 0 ≤ (0 : Int) := (by omega)
         have q327 : 0 < ((rd_L3 ((rd_T26 l0 0).f3) x6_1).length : Int) := of_decide_eq_true (by first | (with_reducible assumption) | assumption)
         obtain ⟨ad327, e327, hx327_0⟩ := Kd.at_int HR326_0.out 0 p327 q327
         cases e327
         have qi327 : (0 < (rd_L3 ((rd_T26 l0 0).f3) x6_1).length) = True := eq_true (by omega)
         (try rw [show ((0 : Int)).toNat = 0 from rfl] at hx327_0)
         (try rw [Addr.add_zero'] at hx327_0)
         replace p327 := eq_true p327
         replace q327 := eq_true q327
         go_wp2_with (first | (go_at_call 62; (with_reducible refine (spec_l00Max.calls 0 (wrap64 (a1 - (rd (rd_L3 ((rd_T26 l0 0).f3) x6_1) 0))) t328 _ A16.out).mono ?_); rintro e w' ⟨rfl, ⟨nd, rfl⟩⟩; (try first | exact ⟨rfl, _, World.drewN_drewN _ _ _⟩ | exact ⟨rfl, _, Eq.trans (World.drewN_drewN _ _ _) (congrArg (World.drewN _) (Nat.add_assoc _ _ _))⟩); (try (have p329 : 0 ≤ (0 : Int) := (by omega); have q329 : 0 < (l0.length : Int) := of_decide_eq_true (by first | (with_reducible assumption) | assumption); obtain ⟨ad329, A329_3, c329_3, e329, hx329_0, hx329_1, hx329_2, hx329_3, hl329_3, hi329_3⟩ := at_T26 HR0.out 0 p329 q329; obtain rfl : ad312 = ad329 := (by injection e329); have qi329 : (0 < l0.length) = True := eq_true (by omega); (try rw [show ((0 : Int)).toNat = 0 from rfl] at hx329_0); (try rw [show 0 * 4 = 0 from rfl] at hx329_0); (try rw [Addr.add_zero'] at hx329_0); (try rw [show ((0 : Int)).toNat = 0 from rfl] at hx329_1); (try rw [show 0 * 4 = 0 from rfl] at hx329_1); (try rw [Addr.add_zero'] at hx329_1); (try rw [show ((0 : Int)).toNat = 0 from rfl] at hx329_2); (try rw [show 0 * 4 = 0 from rfl] at hx329_2); (try rw [Addr.add_zero'] at hx329_2); (try rw [show ((0 : Int)).toNat = 0 from rfl] at hx329_3); (try rw [show 0 * 4 = 0 from rfl] at hx329_3); (try rw [Addr.add_zero'] at hx329_3); have HR329_3 := Aside0.mk hi329_3; have HC329_3 := Aside0.mk hl329_3; clear hi329_3 hl329_3; replace p329 := eq_true p329; replace q329 := eq_true q329; have ea_ := Option.some.inj (hx312_3.symm.trans hx329_3); injection ea_ with ea_ en_ ec_; subst ea_; subst ec_; clear en_; have p330 : 0 ≤ (x6_1 : Int) := of_decide_eq_true (by first | (with_reducible assumption) | assumption); have q330 : x6_1 < (((rd_T26 l0 0).f3).length : Int) := of_decide_eq_true (by first | (with_reducible assumption) | assumption); obtain ⟨ad330, A330_0, c330_0, e330, hx330_0, hl330_0, hi330_0⟩ := at_L3 HR329_3.out x6_1 p330 q330; obtain rfl : ad326 = ad330 := (by injection e330); have HR330_0 := Aside0.mk hi330_0; have HC330_0 := Aside0.mk hl330_0; clear hi330_0 hl330_0; replace p330 := eq_true p330; replace q330 := eq_true q330; have p331 : 0 ≤ (1 : Int) := (by omega); have q331 : 1 < ((rd_L3 ((rd_T26 l0 0).f3) x6_1).length : Int) := of_decide_eq_true (by first | (with_reducible assumption) | assumption); obtain ⟨ad331, e331, hx331_0⟩ := Kd.at_int HR330_0.out 1 p331 q331; cases e331; (try simp only [show (1 : Int).toNat = 1 from rfl, Nat.reduceMul, Nat.reduceEqDiff, Go.Addr.add, ↓reduceIte] at hx331_0); have qi331 : (1 < (rd_L3 ((rd_T26 l0 0).f3) x6_1).length) = True := eq_true (by omega); (try rw [show ((1 : Int)).toNat = 1 from rfl] at hx331_0); replace p331 := eq_true p331; replace q331 := eq_true q331))))
         (first | (have h_ := q331; clear h_) | (try (have p329 : 0 ≤ (0 : Int) := (by omega); have q329 : 0 < (l0.length : Int) := of_decide_eq_true (by first | (with_reducible assumption) | assumption); obtain ⟨ad329, A329_3, c329_3, e329, hx329_0, hx329_1, hx329_2, hx329_3, hl329_3, hi329_3⟩ := at_T26 HR0.out 0 p329 q329; obtain rfl : ad312 = ad329 := (by injection e329); have qi329 : (0 < l0.length) = True := eq_true (by omega); (try rw [show ((0 : Int)).toNat = 0 from rfl] at hx329_0); (try rw [show 0 * 4 = 0 from rfl] at hx329_0); (try rw [Addr.add_zero'] at hx329_0); (try rw [show ((0 : Int)).toNat = 0 from rfl] at hx329_1); (try rw [show 0 * 4 = 0 from rfl] at hx329_1); (try rw [Addr.add_zero'] at hx329_1); (try rw [show ((0 : Int)).toNat = 0 from rfl] at hx329_2); (try rw [show 0 * 4 = 0 from rfl] at hx329_2); (try rw [Addr.add_zero'] at hx329_2); (try rw [show ((0 : Int)).toNat = 0 from rfl] at hx329_3); (try rw [show 0 * 4 = 0 from rfl] at hx329_3); (try rw [Addr.add_zero'] at hx329_3); have HR329_3 := Aside0.mk hi329_3; have HC329_3 := Aside0.mk hl329_3; clear hi329_3 hl329_3; replace p329 := eq_true p329; replace q329 := eq_true q329; have ea_ := Option.some.inj (hx312_3.symm.trans hx329_3); injection ea_ with ea_ en_ ec_; subst ea_; subst ec_; clear en_; have p330 : 0 ≤ (x6_1 : Int) := of_decide_eq_true (by first | (with_reducible assumption) | assumption); have q330 : x6_1 < (((rd_T26 l0 0).f3).length : Int) := of_decide_eq_true (by first | (with_reducible assumption) | assumption); obtain ⟨ad330, A330_0, c330_0, e330, hx330_0, hl330_0, hi330_0⟩ := at_L3 HR329_3.out x6_1 p330 q330; obtain rfl : ad326 = ad330 := (by injection e330); (try (have ea_ := Option.some.inj (hx326_0.symm.trans hx330_0); injection ea_ with ea_ en_ ec_; subst ea_; subst ec_; clear en_)); have HR330_0 := Aside0.mk hi330_0; have HC330_0 := Aside0.mk hl330_0; clear hi330_0 hl330_0; replace p330 := eq_true p330; replace q330 := eq_true q330; have p331 : 0 ≤ (1 : Int) := (by omega); have q331 : 1 < ((rd_L3 ((rd_T26 l0 0).f3) x6_1).length : Int) := of_decide_eq_true (by first | (with_reducible assumption) | assumption); obtain ⟨ad331, e331, hx331_0⟩ := Kd.at_int HR330_0.out 1 p331 q331; cases e331; (try simp only [show (1 : Int).toNat = 1 from rfl, Nat.reduceMul, Nat.reduceEqDiff, Go.Addr.add, ↓reduceIte] at hx331_0); have qi331 : (1 < (rd_L3 ((rd_T26 l0 0).f3) x6_1).length) = True := eq_true (by omega); (try rw [show ((1 : Int)).toNat = 1 from rfl] at hx331_0); replace p331 := eq_true p331; replace q331 := eq_true q331)))
         repeat (go_quiet (first | (go_at_call 62; (with_reducible refine (spec_l00Max.calls 0 (wrap64 (a1 - (rd (rd_L3 ((rd_T26 l0 0).f3) x6_1) 0))) t328 _ A16.out).mono ?_); rintro e w' ⟨rfl, ⟨nd, rfl⟩⟩; (try first | exact ⟨rfl, _, World.drewN_drewN _ _ _⟩ | exact ⟨rfl, _, Eq.trans (World.drewN_drewN _ _ _) (congrArg (World.drewN _) (Nat.add_assoc _ _ _))⟩))); try go_wp2_with (first | (go_at_call 62; (with_reducible refine (spec_l00Max.calls 0 (wrap64 (a1 - (rd (rd_L3 ((rd_T26 l0 0).f3) x6_1) 0))) t328 _ A16.out).mono ?_); rintro e w' ⟨rfl, ⟨nd, rfl⟩⟩; (try first | exact ⟨rfl, _, World.drewN_drewN _ _ _⟩ | exact ⟨rfl, _, Eq.trans (World.drewN_drewN _ _ _) (congrArg (World.drewN _) (Nat.add_assoc _ _ _))⟩); (try (have p329 : 0 ≤ (0 : Int) := (by omega); have q329 : 0 < (l0.length : Int) := of_decide_eq_true (by first | (with_reducible assumption) | assumption); obtain ⟨ad329, A329_3, c329_3, e329, hx329_0, hx329_1, hx329_2, hx329_3, hl329_3, hi329_3⟩ := at_T26 HR0.out 0 p329 q329; obtain rfl : ad312 = ad329 := (by injection e329); have qi329 : (0 < l0.length) = True := eq_true (by omega); (try rw [show ((0 : Int)).toNat = 0 from rfl] at hx329_0); (try rw [show 0 * 4 = 0 from rfl] at hx329_0); (try rw [Addr.add_zero'] at hx329_0); (try rw [show ((0 : Int)).toNat = 0 from rfl] at hx329_1); (try rw [show 0 * 4 = 0 from rfl] at hx329_1); (try rw [Addr.add_zero'] at hx329_1); (try rw [show ((0 : Int)).toNat = 0 from rfl] at hx329_2); (try rw [show 0 * 4 = 0 from rfl] at hx329_2); (try rw [Addr.add_zero'] at hx329_2); (try rw [show ((0 : Int)).toNat = 0 from rfl] at hx329_3); (try rw [show 0 * 4 = 0 from rfl] at hx329_3); (try rw [Addr.add_zero'] at hx329_3); have HR329_3 := Aside0.mk hi329_3; have HC329_3 := Aside0.mk hl329_3; clear hi329_3 hl329_3; replace p329 := eq_true p329; replace q329 := eq_true q329; have ea_ := Option.some.inj (hx312_3.symm.trans hx329_3); injection ea_ with ea_ en_ ec_; subst ea_; subst ec_; clear en_; have p330 : 0 ≤ (x6_1 : Int) := of_decide_eq_true (by first | (with_reducible assumption) | assumption); have q330 : x6_1 < (((rd_T26 l0 0).f3).length : Int) := of_decide_eq_true (by first | (with_reducible assumption) | assumption); obtain ⟨ad330, A330_0, c330_0, e330, hx330_0, hl330_0, hi330_0⟩ := at_L3 HR329_3.out x6_1 p330 q330; obtain rfl : ad326 = ad330 := (by injection e330); have HR330_0 := Aside0.mk hi330_0; have HC330_0 := Aside0.mk hl330_0; clear hi330_0 hl330_0; replace p330 := eq_true p330; replace q330 := eq_true q330; have p331 : 0 ≤ (1 : Int) := (by omega); have q331 : 1 < ((rd_L3 ((rd_T26 l0 0).f3) x6_1).length : Int) := of_decide_eq_true (by first | (with_reducible assumption) | assumption); obtain ⟨ad331, e331, hx331_0⟩ := Kd.at_int HR330_0.out 1 p331 q331; cases e331; (try simp only [show (1 : Int).toNat = 1 from rfl, Nat.reduceMul, Nat.reduceEqDiff, Go.Addr.add, ↓reduceIte] at hx331_0); have qi331 : (1 < (rd_L3 ((rd_T26 l0 0).f3) x6_1).length) = True := eq_true (by omega); (try rw [show ((1 : Int)).toNat = 1 from rfl] at hx331_0); replace p331 := eq_true p331; replace q331 := eq_true q331)))))
         go_roundg k1
         case measure => have := HK1.out; omega
         case rel => exact ⟨(wrap64 (x5_1 + (wrap64 (t328 * (rd (rd_L3 ((rd_T26 l0 0).f3) x6_1) 1))))), (wrap64 (x6_1 + 1)), (by first | rfl | (simp; done) | (simp [*]; done)), (by first | rfl | (simp; done) | (simp [*]; done)), H', ⟨by have := HK1.out; omega⟩, by repeat (first | exact Drawn0.refl _ | apply Drawn0.step)⟩
        ·rw [if_neg c17] at H
         exact absurd H (by simp)
       ·rw [if_neg c15] at H
        exact absurd H (by simp)
      ·rw [if_neg c14] at H
       exact absurd H (by simp)
    ·rw [if_neg c4] at H
     have c4b0 : decide (x6_1 < (((rd_T26 l0 0).f3).length : Int)) = false := decide_eq_false c4
     clear c4
     obtain rfl := Option.some.inj H
     have p312 : 0 ≤ (0 : Int) := (by omega)
     have q312 : 0 < (l0.length : Int) := of_decide_eq_true (by first | (with_reducible assumption) | assumption)
     obtain ⟨ad312, A312_3, c312_3, e312, hx312_0, hx312_1, hx312_2, hx312_3, hl312_3, hi312_3⟩ := at_T26 HR0.out 0 p312 q312
     cases e312
     have qi312 : (0 < l0.length) = True := eq_true (by omega)
     (try rw [show ((0 : Int)).toNat = 0 from rfl] at hx312_0)
     (try rw [show 0 * 4 = 0 from rfl] at hx312_0)
     (try rw [Addr.add_zero'] at hx312_0)
     (try rw [show ((0 : Int)).toNat = 0 from rfl] at hx312_1)
     (try rw [show 0 * 4 = 0 from rfl] at hx312_1)
     (try rw [Addr.add_zero'] at hx312_1)
     (try rw [show ((0 : Int)).toNat = 0 from rfl] at hx312_2)
     (try rw [show 0 * 4 = 0 from rfl] at hx312_2)
     (try rw [Addr.add_zero'] at hx312_2)
     (try rw [show ((0 : Int)).toNat = 0 from rfl] at hx312_3)
     (try rw [show 0 * 4 = 0 from rfl] at hx312_3)
     (try rw [Addr.add_zero'] at hx312_3)
     have HR312_3 := Aside0.mk hi312_3
     have HC312_3 := Aside0.mk hl312_3
     clear hi312_3 hl312_3
     replace p312 := eq_true p312
     replace q312 := eq_true q312
     go_wp2
     repeat (go_quiet (fail); try go_wp2)
     go_ret
     exact ⟨by first | rfl | (simp; done) | (simp [*]; done), by repeat (first | exact Drawn0.refl _ | apply Drawn0.step)⟩
   ·rw [if_neg c3] at H
    exact absurd H (by simp)

/-! ### spec_l21Bill: function 33 -/
def spec_l21Bill.f (k : Nat) (l0 : List (S26)) (a1 : Int) (a2 : Int) : Option (Int) := if 0 < (l0.length : Int) then ((spec_l21Cost.f k l0 a1).bind fun t334 => ((spec_l01Div.f t334 100).bind fun t335 => (some (wrap64 ((wrap64 (((rd_T26 l0 0).f1) + (wrap64 (((rd_T26 l0 0).f2) * a2)))) + t335))))) else (none)
theorem spec_l21Bill.mono : ∀ a0 a1 a2 k, LeO (spec_l21Bill.f k a0 a1 a2) (spec_l21Bill.f (k + 1) a0 a1 a2) := by
 intro a0 a1 a2 k
 unfold spec_l21Bill.f
 repeat' first
   | (with_reducible exact spec_l21Cost.mono _ _ _)
   | (with_reducible exact LeO.refl _)
   | (with_reducible exact LeO.none _)
   | (with_reducible refine LeO.ite ?_ ?_)
   | (with_reducible refine LeO.bind ?_ (fun _ => ?_))
   | exact spec_l21Cost.mono _ _ _
   | exact LeO.none _
   | refine LeO.ite ?_ ?_
   | refine LeO.bind ?_ (fun _ => ?_)
set_option maxHeartbeats 8000000 in
set_option maxRecDepth 100000 in
theorem spec_l21Bill.calls (k : Nat) (A0 : Option Addr) (c0 : Nat) (l0 : List (S26)) (a1 : Int) (a2 : Int) (r : Int) (w : World) (hr0 : Kd.C k26 w A0 l0.length l0) (hc0 : l0.length ≤ c0) (h : spec_l21Bill.f k l0 a1 a2 = some r) :
  Calls Tryd.prog 33 #[.pointer A0, .int .i64 a1, .int .i64 a2] w fun e w' => e = .returned (.int .i64 r) ∧ Drawn0 w w' := by
 have HR0 := Aside0.mk hr0
 have HC0 := Aside0.mk hc0
 clear hr0 hc0
 have H : (if 0 < (l0.length : Int) then ((spec_l21Cost.f k l0 a1).bind fun t334 => ((spec_l01Div.f t334 100).bind fun t335 => (some (wrap64 ((wrap64 (((rd_T26 l0 0).f1) + (wrap64 (((rd_T26 l0 0).f2) * a2)))) + t335))))) else (none)) = some r := h
 clear h
 by_cases c4 : 0 < (l0.length : Int)
 ·rw [if_pos c4] at H
  have c4b0 : decide (0 < (l0.length : Int)) = true := decide_eq_true c4
  have c4b1 : decide (0 < l0.length) = true := decide_eq_true (by omega)
  clear c4
  replace H := Option.bind_eq_some_iff.mp H
  obtain ⟨t334, A50, H⟩ := H
  replace H : ((spec_l01Div.f t334 100).bind fun t335 => (some (wrap64 ((wrap64 (((rd_T26 l0 0).f1) + (wrap64 (((rd_T26 l0 0).f2) * a2)))) + t335)))) = some r := H
  have A5 := Aside0.mk A50
  clear A50
  replace H := Option.bind_eq_some_iff.mp H
  obtain ⟨t335, A60, H⟩ := H
  replace H : (some (wrap64 ((wrap64 (((rd_T26 l0 0).f1) + (wrap64 (((rd_T26 l0 0).f2) * a2)))) + t335))) = some r := H
  have A6 := Aside0.mk A60
  clear A60
  obtain rfl := Option.some.inj H
  have p332 : 0 ≤ (0 : Int) := (by omega)
  have q332 : 0 < (l0.length : Int) := of_decide_eq_true (by first | (with_reducible assumption) | assumption)
  obtain ⟨ad332, A332_3, c332_3, e332, hx332_0, hx332_1, hx332_2, hx332_3, hl332_3, hi332_3⟩ := at_T26 HR0.out 0 p332 q332
  cases e332
  have qi332 : (0 < l0.length) = True := eq_true (by omega)
  (try rw [show ((0 : Int)).toNat = 0 from rfl] at hx332_0)
  (try rw [show 0 * 4 = 0 from rfl] at hx332_0)
  (try rw [Addr.add_zero'] at hx332_0)
  (try rw [show ((0 : Int)).toNat = 0 from rfl] at hx332_1)
  (try rw [show 0 * 4 = 0 from rfl] at hx332_1)
  (try rw [Addr.add_zero'] at hx332_1)
  (try rw [show ((0 : Int)).toNat = 0 from rfl] at hx332_2)
  (try rw [show 0 * 4 = 0 from rfl] at hx332_2)
  (try rw [Addr.add_zero'] at hx332_2)
  (try rw [show ((0 : Int)).toNat = 0 from rfl] at hx332_3)
  (try rw [show 0 * 4 = 0 from rfl] at hx332_3)
  (try rw [Addr.add_zero'] at hx332_3)
  have HR332_3 := Aside0.mk hi332_3
  have HC332_3 := Aside0.mk hl332_3
  clear hi332_3 hl332_3
  replace p332 := eq_true p332
  replace q332 := eq_true q332
  have p333 : 0 ≤ (0 : Int) := (by omega)
  have q333 : 0 < (l0.length : Int) := of_decide_eq_true (by first | (with_reducible assumption) | assumption)
  obtain ⟨ad333, A333_3, c333_3, e333, hx333_0, hx333_1, hx333_2, hx333_3, hl333_3, hi333_3⟩ := at_T26 HR0.out 0 p333 q333
  obtain rfl : ad332 = ad333 := (by injection e333)
  have qi333 : (0 < l0.length) = True := eq_true (by omega)
  (try rw [show ((0 : Int)).toNat = 0 from rfl] at hx333_0)
  (try rw [show 0 * 4 = 0 from rfl] at hx333_0)
  (try rw [Addr.add_zero'] at hx333_0)
  (try rw [show ((0 : Int)).toNat = 0 from rfl] at hx333_1)
  (try rw [show 0 * 4 = 0 from rfl] at hx333_1)
  (try rw [Addr.add_zero'] at hx333_1)
  (try rw [show ((0 : Int)).toNat = 0 from rfl] at hx333_2)
  (try rw [show 0 * 4 = 0 from rfl] at hx333_2)
  (try rw [Addr.add_zero'] at hx333_2)
  (try rw [show ((0 : Int)).toNat = 0 from rfl] at hx333_3)
  (try rw [show 0 * 4 = 0 from rfl] at hx333_3)
  (try rw [Addr.add_zero'] at hx333_3)
  have HR333_3 := Aside0.mk hi333_3
  have HC333_3 := Aside0.mk hl333_3
  clear hi333_3 hl333_3
  replace p333 := eq_true p333
  replace q333 := eq_true q333
  have ea_ := Option.some.inj (hx332_3.symm.trans hx333_3)
  injection ea_ with ea_ en_ ec_
  subst ea_
  subst ec_
  clear en_
  go_enter Tryd.func33, Tryd.ntmps33
  go_wp2_with (first | (go_at_call 48; (with_reducible refine (spec_l21Cost.calls k _ c0 l0 a1 t334 _ ?side1 ?side2 A5.out).mono ?_); (case side1 => repeat (first | exact HR0.out | (with_reducible refine Kd.C_alloc ?_ _) | (with_reducible refine Kd.C_drewN ?_ _) | (with_reducible refine Kd.C_drew ?_))); (case side2 => exact HC0.out); rintro e w' ⟨rfl, ⟨nd, rfl⟩⟩; (try first | exact ⟨rfl, _, World.drewN_drewN _ _ _⟩ | exact ⟨rfl, _, Eq.trans (World.drewN_drewN _ _ _) (congrArg (World.drewN _) (Nat.add_assoc _ _ _))⟩)) | (go_at_call 27; (with_reducible refine (spec_l01Div.calls t334 100 t335 _ A6.out).mono ?_); rintro e w' ⟨rfl, ⟨nd, rfl⟩⟩; (try first | exact ⟨rfl, _, World.drewN_drewN _ _ _⟩ | exact ⟨rfl, _, Eq.trans (World.drewN_drewN _ _ _) (congrArg (World.drewN _) (Nat.add_assoc _ _ _))⟩)))
  repeat (go_quiet (first | (go_at_call 48; (with_reducible refine (spec_l21Cost.calls k _ c0 l0 a1 t334 _ ?side1 ?side2 A5.out).mono ?_); (case side1 => repeat (first | exact HR0.out | (with_reducible refine Kd.C_alloc ?_ _) | (with_reducible refine Kd.C_drewN ?_ _) | (with_reducible refine Kd.C_drew ?_))); (case side2 => exact HC0.out); rintro e w' ⟨rfl, ⟨nd, rfl⟩⟩; (try first | exact ⟨rfl, _, World.drewN_drewN _ _ _⟩ | exact ⟨rfl, _, Eq.trans (World.drewN_drewN _ _ _) (congrArg (World.drewN _) (Nat.add_assoc _ _ _))⟩)) | (go_at_call 27; (with_reducible refine (spec_l01Div.calls t334 100 t335 _ A6.out).mono ?_); rintro e w' ⟨rfl, ⟨nd, rfl⟩⟩; (try first | exact ⟨rfl, _, World.drewN_drewN _ _ _⟩ | exact ⟨rfl, _, Eq.trans (World.drewN_drewN _ _ _) (congrArg (World.drewN _) (Nat.add_assoc _ _ _))⟩))); try go_wp2_with (first | (go_at_call 48; (with_reducible refine (spec_l21Cost.calls k _ c0 l0 a1 t334 _ ?side1 ?side2 A5.out).mono ?_); (case side1 => repeat (first | exact HR0.out | (with_reducible refine Kd.C_alloc ?_ _) | (with_reducible refine Kd.C_drewN ?_ _) | (with_reducible refine Kd.C_drew ?_))); (case side2 => exact HC0.out); rintro e w' ⟨rfl, ⟨nd, rfl⟩⟩; (try first | exact ⟨rfl, _, World.drewN_drewN _ _ _⟩ | exact ⟨rfl, _, Eq.trans (World.drewN_drewN _ _ _) (congrArg (World.drewN _) (Nat.add_assoc _ _ _))⟩)) | (go_at_call 27; (with_reducible refine (spec_l01Div.calls t334 100 t335 _ A6.out).mono ?_); rintro e w' ⟨rfl, ⟨nd, rfl⟩⟩; (try first | exact ⟨rfl, _, World.drewN_drewN _ _ _⟩ | exact ⟨rfl, _, Eq.trans (World.drewN_drewN _ _ _) (congrArg (World.drewN _) (Nat.add_assoc _ _ _))⟩))))
  go_ret
  exact ⟨by first | rfl | (simp; done) | (simp [*]; done), by repeat (first | exact Drawn0.refl _ | apply Drawn0.step)⟩
 ·rw [if_neg c4] at H
  exact absurd H (by simp)

/-! ### spec_BillOf: function 15 -/
def spec_BillOf.f (k : Nat) (a0_0 : ByteArray) (a0_1 : Int) (a0_2 : Int) (l0_3 : List (List Int)) (a1 : Int) (a2 : Int) : Option (Int × Int) := (spec_l21Ask.f k [(⟨a0_0, a0_1, a0_2, l0_3⟩ : S26)] a1 a2).bind fun t337 => (if t337 = 0 then ((spec_l21Bill.f k [(⟨a0_0, a0_1, a0_2, l0_3⟩ : S26)] a1 a2).bind fun t338 => (some (t338, 0))) else (some (0, t337)))
theorem spec_BillOf.mono : ∀ a0 a1 a2 a3 a4 a5 k, LeO (spec_BillOf.f k a0 a1 a2 a3 a4 a5) (spec_BillOf.f (k + 1) a0 a1 a2 a3 a4 a5) := by
 intro a0 a1 a2 a3 a4 a5 k
 unfold spec_BillOf.f
 repeat' first
   | (with_reducible exact spec_l21Ask.mono _ _ _ _)
   | (with_reducible exact spec_l21Bill.mono _ _ _ _)
   | (with_reducible exact LeO.refl _)
   | (with_reducible exact LeO.none _)
   | (with_reducible refine LeO.ite ?_ ?_)
   | (with_reducible refine LeO.bind ?_ (fun _ => ?_))
   | exact spec_l21Ask.mono _ _ _ _
   | exact spec_l21Bill.mono _ _ _ _
   | exact LeO.none _
   | refine LeO.ite ?_ ?_
   | refine LeO.bind ?_ (fun _ => ?_)
set_option maxHeartbeats 8000000 in
set_option maxRecDepth 100000 in
theorem spec_BillOf.calls (k : Nat) (a0_0 : ByteArray) (a0_1 : Int) (a0_2 : Int) (A0_3 : Option Addr) (c0_3 : Nat) (l0_3 : List (List Int)) (a1 : Int) (a2 : Int) (r1 : Int) (r2 : Int) (w : World) (hr0_3 : Kd.C (Kd.slice 2 (Kd.int .i64)) w A0_3 l0_3.length l0_3) (hc0_3 : l0_3.length ≤ c0_3) (h : spec_BillOf.f k a0_0 a0_1 a0_2 l0_3 a1 a2 = some (r1, r2)) :
  Calls Tryd.prog 15 #[.agg #[.string a0_0, .int .i64 a0_1, .int .i64 a0_2, .slice A0_3 l0_3.length c0_3], .int .i64 a1, .int .i64 a2] w fun e w' => e = .returned (.tuple #[.int .i64 r1, .int .i64 r2]) ∧ Below w.heap.size w w' := by
 have hu26 := Tryd.underlying26
 have HR0_3 := Aside0.mk hr0_3
 have HC0_3 := Aside0.mk hc0_3
 clear hr0_3 hc0_3
 have HB := Aside0.mk (Below.refl w.heap.size w)
 have H : ((spec_l21Ask.f k [(⟨a0_0, a0_1, a0_2, l0_3⟩ : S26)] a1 a2).bind fun t337 => (if t337 = 0 then ((spec_l21Bill.f k [(⟨a0_0, a0_1, a0_2, l0_3⟩ : S26)] a1 a2).bind fun t338 => (some (t338, 0))) else (some (0, t337)))) = some (r1, r2) := h
 clear h
 replace H := Option.bind_eq_some_iff.mp H
 obtain ⟨t337, A40, H⟩ := H
 replace H : (if t337 = 0 then ((spec_l21Bill.f k [(⟨a0_0, a0_1, a0_2, l0_3⟩ : S26)] a1 a2).bind fun t338 => (some (t338, 0))) else (some (0, t337))) = some (r1, r2) := H
 have A4 := Aside0.mk A40
 clear A40
 by_cases c5 : t337 = 0
 ·rw [if_pos c5] at H
  have c5b0 : (t337 == 0) = true := beq_iff_eq.mpr c5
  have c5b1 : (t337 != 0) = false := bne_eq_false_iff_eq.mpr c5
  clear c5
  replace H := Option.bind_eq_some_iff.mp H
  obtain ⟨t338, A60, H⟩ := H
  replace H : (some (t338, 0)) = some (r1, r2) := H
  have A6 := Aside0.mk A60
  clear A60
  simp only [Option.some.injEq, Prod.mk.injEq] at H
  obtain ⟨rfl, rfl⟩ := H
  go_enter Tryd.func15, Tryd.ntmps15
  go_wp2_with (first | ((with_reducible refine gate_dst (N := 3) rfl ?_); refine box_event ?hg (N := 3) ?hd (cs := #[.string a0_0, .int .i64 a0_1, .int .i64 a0_2, .slice A0_3 l0_3.length c0_3]) (t := 26) ?hr ?_; (case hd => rfl); (case hg => rfl); (case hr => first | (go_simp; done) | (go_simp; rfl)); intro gb336 hg w7 hbox hb; have n0_ := Aside0.mk (below_step (by repeat (first | (with_reducible first | exact HB.out | apply below_alloc | apply pw_below_drewN | apply below_drew1) | exact HB.out)) hb); have n1_ := Aside0.mk (hbox); have n2_ := Aside0.mk ((by rw [hg]; exact (below_size (by repeat (first | (with_reducible first | exact HB.out | apply below_alloc | apply pw_below_drewN | apply below_drew1) | exact HB.out))) : w.heap.size ≤ gb336)); have n3_ := Aside0.mk ((by rw [hg]; exact (below_size (by repeat (first | (with_reducible first | exact HB.out | apply below_alloc | apply pw_below_drewN | apply below_drew1) | exact HB.out))) : w.heap.size ≤ gb336)); clear HB; have HB := n0_; have BK336 := n1_; have GW336 := n2_; have GE336 := n3_; clear n0_ n1_ n2_ n3_; clear hb hbox hg) | ((with_reducible refine gate_callee (f := 32) rfl ?_); refine goesL_ (some 11) rfl rfl Tryd.func32 (by kernel_rfl) rfl #[.pointer (some ⟨gb336, 0, none⟩), .int .i64 a1, .int .i64 a2] rfl (by (try simp only [List.map_toArray, List.map_cons, List.map_nil]); first | done | rfl | (simp only [List.length_drop, List.length_take]; rfl)) ?_; (with_reducible refine (spec_l21Ask.calls k _ 1 [(⟨a0_0, a0_1, a0_2, l0_3⟩ : S26)] a1 a2 t337 _ ?side1 ?side2 A4.out).mono ?_); (case side1 => exact Kd.C_one (k26_mk _ (⟨a0_0, a0_1, a0_2, l0_3⟩ : S26) (by exact HC0_3.out) (by repeat (first | exact (Kd.C_below HR0_3.out HB.out) | (with_reducible refine Kd.C_alloc ?_ _) | (with_reducible refine Kd.C_drewN ?_ _) | (with_reducible refine Kd.C_drew ?_)))) (cells_blk (cs := #[.string a0_0, .int .i64 a0_1, .int .i64 a0_2, .slice A0_3 l0_3.length c0_3]) (t := 26) (by (with_reducible repeat (first | refine blk_drewN ?_ _ | refine blk_drew ?_ | refine blk_alloc ?_ _)); exact BK336.out))); (case side2 => exact Nat.le_refl _); rintro e w8 ⟨rfl, hb⟩; refine ⟨_, rfl, ?_⟩; have n0_ := Aside0.mk (blk_below (g := gb336) (o := .cells #[.string a0_0, .int .i64 a0_1, .int .i64 a0_2, .slice A0_3 l0_3.length c0_3] 26 (0, 0)) (by (with_reducible repeat (first | refine blk_drewN ?_ _ | refine blk_drew ?_ | refine blk_alloc ?_ _)); exact BK336.out) hb); have n1_ := Aside0.mk (below_step (by repeat (first | (with_reducible first | exact HB.out | apply below_alloc | apply pw_below_drewN | apply below_drew1 | refine below_set ?_ GE336.out) | exact HB.out)) hb); clear BK336; clear HB; have BK336 := n0_; have HB := n1_; clear n0_ n1_; (try clear hb); (try clear hb2); (try clear hk); (try clear hi)) | ((with_reducible refine gate_callee (f := 33) rfl ?_); refine goesL_ (some 17) rfl rfl Tryd.func33 (by kernel_rfl) rfl #[.pointer (some ⟨gb336, 0, none⟩), .int .i64 a1, .int .i64 a2] rfl (by (try simp only [List.map_toArray, List.map_cons, List.map_nil]); first | done | rfl | (simp only [List.length_drop, List.length_take]; rfl)) ?_; (with_reducible refine (spec_l21Bill.calls k _ 1 [(⟨a0_0, a0_1, a0_2, l0_3⟩ : S26)] a1 a2 t338 _ ?side1 ?side2 A6.out).mono ?_); (case side1 => exact Kd.C_one (k26_mk _ (⟨a0_0, a0_1, a0_2, l0_3⟩ : S26) (by exact HC0_3.out) (by repeat (first | exact (Kd.C_below HR0_3.out HB.out) | (with_reducible refine Kd.C_alloc ?_ _) | (with_reducible refine Kd.C_drewN ?_ _) | (with_reducible refine Kd.C_drew ?_)))) (cells_blk (cs := #[.string a0_0, .int .i64 a0_1, .int .i64 a0_2, .slice A0_3 l0_3.length c0_3]) (t := 26) (by (with_reducible repeat (first | refine blk_drewN ?_ _ | refine blk_drew ?_ | refine blk_alloc ?_ _)); exact BK336.out))); (case side2 => exact Nat.le_refl _); rintro e w' ⟨rfl, ⟨nd, rfl⟩⟩; refine ⟨_, rfl, ?_⟩))
  go_ret2
  exact ⟨by first | rfl | (rw [Int.tdiv_eq_ediv_of_nonneg (by omega)]; rfl) | (simp [errW_none, errW_some] <;> rfl) | (simp [*, errW_none, errW_some] <;> rfl), by repeat (first | (with_reducible first | exact HB.out | apply below_alloc | apply pw_below_drewN | apply below_drew1 | refine below_set ?_ GE336.out) | exact HB.out)⟩
 ·rw [if_neg c5] at H
  have c5b0 : (t337 == 0) = false := beq_eq_false_iff_ne.mpr c5
  have c5b1 : (t337 != 0) = true := bne_iff_ne.mpr c5
  simp only [Option.some.injEq, Prod.mk.injEq] at H
  obtain ⟨rfl, rfl⟩ := H
  go_enter Tryd.func15, Tryd.ntmps15
  go_wp2_with (first | ((with_reducible refine gate_dst (N := 3) rfl ?_); refine box_event ?hg (N := 3) ?hd (cs := #[.string a0_0, .int .i64 a0_1, .int .i64 a0_2, .slice A0_3 l0_3.length c0_3]) (t := 26) ?hr ?_; (case hd => rfl); (case hg => rfl); (case hr => first | (go_simp; done) | (go_simp; rfl)); intro gb336 hg w9 hbox hb; have n0_ := Aside0.mk (below_step (by repeat (first | (with_reducible first | exact HB.out | apply below_alloc | apply pw_below_drewN | apply below_drew1) | exact HB.out)) hb); have n1_ := Aside0.mk (hbox); have n2_ := Aside0.mk ((by rw [hg]; exact (below_size (by repeat (first | (with_reducible first | exact HB.out | apply below_alloc | apply pw_below_drewN | apply below_drew1) | exact HB.out))) : w.heap.size ≤ gb336)); have n3_ := Aside0.mk ((by rw [hg]; exact (below_size (by repeat (first | (with_reducible first | exact HB.out | apply below_alloc | apply pw_below_drewN | apply below_drew1) | exact HB.out))) : w.heap.size ≤ gb336)); clear HB; have HB := n0_; have BK336 := n1_; have GW336 := n2_; have GE336 := n3_; clear n0_ n1_ n2_ n3_; clear hb hbox hg) | ((with_reducible refine gate_callee (f := 32) rfl ?_); refine goesL_ (some 11) rfl rfl Tryd.func32 (by kernel_rfl) rfl #[.pointer (some ⟨gb336, 0, none⟩), .int .i64 a1, .int .i64 a2] rfl (by (try simp only [List.map_toArray, List.map_cons, List.map_nil]); first | done | rfl | (simp only [List.length_drop, List.length_take]; rfl)) ?_; (with_reducible refine (spec_l21Ask.calls k _ 1 [(⟨a0_0, a0_1, a0_2, l0_3⟩ : S26)] a1 a2 t337 _ ?side1 ?side2 A4.out).mono ?_); (case side1 => exact Kd.C_one (k26_mk _ (⟨a0_0, a0_1, a0_2, l0_3⟩ : S26) (by exact HC0_3.out) (by repeat (first | exact (Kd.C_below HR0_3.out HB.out) | (with_reducible refine Kd.C_alloc ?_ _) | (with_reducible refine Kd.C_drewN ?_ _) | (with_reducible refine Kd.C_drew ?_)))) (cells_blk (cs := #[.string a0_0, .int .i64 a0_1, .int .i64 a0_2, .slice A0_3 l0_3.length c0_3]) (t := 26) (by (with_reducible repeat (first | refine blk_drewN ?_ _ | refine blk_drew ?_ | refine blk_alloc ?_ _)); exact BK336.out))); (case side2 => exact Nat.le_refl _); rintro e w10 ⟨rfl, hb⟩; refine ⟨_, rfl, ?_⟩; have n0_ := Aside0.mk (blk_below (g := gb336) (o := .cells #[.string a0_0, .int .i64 a0_1, .int .i64 a0_2, .slice A0_3 l0_3.length c0_3] 26 (0, 0)) (by (with_reducible repeat (first | refine blk_drewN ?_ _ | refine blk_drew ?_ | refine blk_alloc ?_ _)); exact BK336.out) hb); have n1_ := Aside0.mk (below_step (by repeat (first | (with_reducible first | exact HB.out | apply below_alloc | apply pw_below_drewN | apply below_drew1 | refine below_set ?_ GE336.out) | exact HB.out)) hb); clear BK336; clear HB; have BK336 := n0_; have HB := n1_; clear n0_ n1_; (try clear hb); (try clear hb2); (try clear hk); (try clear hi)))
  go_ret2
  exact ⟨by first | rfl | (rw [Int.tdiv_eq_ediv_of_nonneg (by omega)]; rfl) | (simp [errW_none, errW_some] <;> rfl) | (simp [*, errW_none, errW_some] <;> rfl), by repeat (first | (with_reducible first | exact HB.out | apply below_alloc | apply pw_below_drewN | apply below_drew1 | refine below_set ?_ GE336.out) | exact HB.out)⟩

end Go.Proofs.YtdhpmiocpjpabaaDoor.PFnTariffs
