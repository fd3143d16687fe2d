-- written by wip/xprint.py, a program of this session, for this claim; not trusted: Lean checks it.
import Derived.Test.YtkacnmgcgakioaaPFnExactPlaceOfx0
namespace Go.Proofs.Ytkacnmgcgakioaa.PFnExactPlaceOf
open Go.RowKit Go.Proofs.YtkacnmgcgakioaaW.PrintWords Go.Proofs.YtkacnmgcgakioaaW.PrintLast Go.Proofs.YtkacnmgcgakioaaW.PrintMore
attribute [local go_sem] max2_int min2_int max_two min_two max_three min_three max_four min_four   -- for this text's walks alone
set_option linter.unusedVariables false
set_option linter.unusedSimpArgs false

/-! ### spec_l00In: function 51 -/
def spec_l00In.f (a0 : Int) (a1 : Int) (a2 : Int) : Option (Bool) := if a0 ≥ a1 then (some (decide (a0 ≤ a2))) else (some false)
set_option maxHeartbeats 8000000 in
set_option maxRecDepth 100000 in
theorem spec_l00In.calls (a0 : Int) (a1 : Int) (a2 : Int) (r : Bool) (w : World) (h : spec_l00In.f a0 a1 a2 = some r) :
    Calls Try.prog 51 #[.int .i64 a0, .int .i64 a1, .int .i64 a2] w fun e w' => e = .returned (.bool r) ∧ Drawn0 w w' := by
  have H : (if a0 ≥ a1 then (some (decide (a0 ≤ a2))) else (some false)) = some r := h
  clear h
  by_cases c4 : a0 ≥ a1
  · rw [if_pos c4] at H
    have c4b0 : decide (a1 ≤ a0) = true := decide_eq_true c4
    clear c4
    obtain rfl := Option.some.inj H
    go_enter Try.func51, Try.ntmps51
    go_wp2
    go_ret
    exact ⟨by first | rfl | (simp; done) | (simp [*]; done), by repeat (first | exact Drawn0.refl _ | apply Drawn0.step)⟩
  · rw [if_neg c4] at H
    have c4b0 : decide (a1 ≤ a0) = false := decide_eq_false c4
    clear c4
    obtain rfl := Option.some.inj H
    go_enter Try.func51, Try.ntmps51
    go_wp2
    go_ret
    exact ⟨by first | rfl | (simp; done) | (simp [*]; done), by repeat (first | exact Drawn0.refl _ | apply Drawn0.step)⟩

/-! ### spec_l00Max: function 52 -/
def spec_l00Max.f (a0 : Int) (a1 : Int) : Option (Int) := if a0 > a1 then (some a0) else (some a1)
set_option maxHeartbeats 8000000 in
set_option maxRecDepth 100000 in
theorem spec_l00Max.calls (a0 : Int) (a1 : Int) (r : Int) (w : World) (h : spec_l00Max.f a0 a1 = some r) :
    Calls Try.prog 52 #[.int .i64 a0, .int .i64 a1] w fun e w' => e = .returned (.int .i64 r) ∧ Drawn0 w w' := by
  have H : (if a0 > a1 then (some a0) else (some a1)) = some r := h
  clear h
  by_cases c3 : a0 > a1
  · rw [if_pos c3] at H
    have c3b0 : decide (a1 < a0) = true := decide_eq_true c3
    clear c3
    obtain rfl := Option.some.inj H
    go_enter Try.func52, Try.ntmps52
    go_wp2
    go_ret
    exact ⟨by first | rfl | (simp; done) | (simp [*]; done), by repeat (first | exact Drawn0.refl _ | apply Drawn0.step)⟩
  · rw [if_neg c3] at H
    have c3b0 : decide (a1 < a0) = false := decide_eq_false c3
    clear c3
    obtain rfl := Option.some.inj H
    go_enter Try.func52, Try.ntmps52
    go_wp2
    go_ret
    exact ⟨by first | rfl | (simp; done) | (simp [*]; done), by repeat (first | exact Drawn0.refl _ | apply Drawn0.step)⟩

/-! ### spec_l00Min: function 53 -/
def spec_l00Min.f (a0 : Int) (a1 : Int) : Option (Int) := if a0 < a1 then (some a0) else (some a1)
set_option maxHeartbeats 8000000 in
set_option maxRecDepth 100000 in
theorem spec_l00Min.calls (a0 : Int) (a1 : Int) (r : Int) (w : World) (h : spec_l00Min.f a0 a1 = some r) :
    Calls Try.prog 53 #[.int .i64 a0, .int .i64 a1] w fun e w' => e = .returned (.int .i64 r) ∧ Drawn0 w w' := by
  have H : (if a0 < a1 then (some a0) else (some a1)) = some r := h
  clear h
  by_cases c3 : a0 < a1
  · rw [if_pos c3] at H
    have c3b0 : decide (a0 < a1) = true := decide_eq_true c3
    clear c3
    obtain rfl := Option.some.inj H
    go_enter Try.func53, Try.ntmps53
    go_wp2
    go_ret
    exact ⟨by first | rfl | (simp; done) | (simp [*]; done), by repeat (first | exact Drawn0.refl _ | apply Drawn0.step)⟩
  · rw [if_neg c3] at H
    have c3b0 : decide (a0 < a1) = false := decide_eq_false c3
    clear c3
    obtain rfl := Option.some.inj H
    go_enter Try.func53, Try.ntmps53
    go_wp2
    go_ret
    exact ⟨by first | rfl | (simp; done) | (simp [*]; done), by repeat (first | exact Drawn0.refl _ | apply Drawn0.step)⟩

/-! ### spec_PlaceOf: function 15 -/
mutual
def spec_PlaceOf.j0 : Nat → Int → Int → Int → Int → Int → Bool → Option (Int × Int × Int)
  | 0, _, _, _, _, _, _ => none
  | k + 1, x0, x1, x2, x3, x4, x37 => if x37 = true then (some (0, 0, 2)) else (if (wrap64 ((wrap64 (1000 * x0)) + (wrap64 (x1 * (wrap64 ((wrap64 (x2 - x3)) + x4)))))) ≤ (-2000) then (spec_PlaceOf.j1 k x0 (wrap64 ((wrap64 (1000 * x0)) + (wrap64 (x1 * (wrap64 ((wrap64 (x2 - x3)) - x4)))))) (wrap64 ((wrap64 (1000 * x0)) + (wrap64 (x1 * (wrap64 ((wrap64 (x2 - x3)) + x4)))))) true) else (spec_PlaceOf.j1 k x0 (wrap64 ((wrap64 (1000 * x0)) + (wrap64 (x1 * (wrap64 ((wrap64 (x2 - x3)) - x4)))))) (wrap64 ((wrap64 (1000 * x0)) + (wrap64 (x1 * (wrap64 ((wrap64 (x2 - x3)) + x4)))))) (decide ((wrap64 ((wrap64 (1000 * x0)) + (wrap64 (x1 * (wrap64 ((wrap64 (x2 - x3)) - x4)))))) > (wrap64 (2000 * x0))))))
def spec_PlaceOf.j1 : Nat → Int → Int → Int → Bool → Option (Int × Int × Int)
  | 0, _, _, _, _ => none
  | k + 1, x0, x13, x14, x65 => if x65 = true then (some (0, 0, 3)) else ((spec_l00Max.f 0 x13).bind fun t106 => ((spec_l00Max.f 0 x14).bind fun t107 => ((spec_l00Min.f x0 (wrap64 (Int.tdiv (wrap64 (t107 + 1999)) 2000))).bind fun t108 => (some (wrap64 (Int.tdiv t106 2000), t108, 0)))))
end
def spec_PlaceOf.f (k : Nat) (a0 : Int) (a1 : Int) (a2 : Int) (a3 : Int) (a4 : Int) : Option (Int × Int × Int) := (spec_l00In.f a0 1 10000).bind fun t101 => (if t101 = true then ((spec_l00In.f a1 1 2000).bind fun t102 => (if t102 = true then ((spec_l00In.f a2 0 100000).bind fun t103 => (if t103 = true then ((spec_l00In.f a3 0 100000).bind fun t104 => (if t104 = true then ((spec_l00In.f a4 0 10000).bind fun t105 => (spec_PlaceOf.j0 k a0 a1 a2 a3 a4 (!t105))) else (spec_PlaceOf.j0 k a0 a1 a2 a3 a4 true))) else (spec_PlaceOf.j0 k a0 a1 a2 a3 a4 true))) else (spec_PlaceOf.j0 k a0 a1 a2 a3 a4 true))) else (spec_PlaceOf.j0 k a0 a1 a2 a3 a4 true))
theorem spec_PlaceOf.mono_l : ∀ k, (∀ y0 y1 y2 y3 y4 y5, LeO (spec_PlaceOf.j0 k y0 y1 y2 y3 y4 y5) (spec_PlaceOf.j0 (k + 1) y0 y1 y2 y3 y4 y5)) ∧ (∀ y0 y1 y2 y3, LeO (spec_PlaceOf.j1 k y0 y1 y2 y3) (spec_PlaceOf.j1 (k + 1) y0 y1 y2 y3))
  | 0 => ⟨fun _ _ _ _ _ _ r h => by simp [spec_PlaceOf.j0] at h, fun _ _ _ _ r h => by simp [spec_PlaceOf.j1] at h⟩
  | k + 1 => by
    obtain ⟨ih0, ih1⟩ := spec_PlaceOf.mono_l k
    refine ⟨?_, ?_⟩
    · intro y0 y1 y2 y3 y4 y5
      unfold spec_PlaceOf.j0
      repeat' first
      | (with_reducible exact ih0 _ _ _ _ _ _)
      | (with_reducible exact ih1 _ _ _ _)
      | (with_reducible exact LeO.refl _)
      | (with_reducible exact LeO.none _)
      | (with_reducible refine LeO.ite ?_ ?_)
      | (with_reducible refine LeO.bind ?_ (fun _ => ?_))
      | exact ih0 _ _ _ _ _ _
      | exact ih1 _ _ _ _
      | exact LeO.none _
      | refine LeO.ite ?_ ?_
      | refine LeO.bind ?_ (fun _ => ?_)
    · intro y0 y1 y2 y3
      unfold spec_PlaceOf.j1
      repeat' first
      | (with_reducible exact ih0 _ _ _ _ _ _)
      | (with_reducible exact ih1 _ _ _ _)
      | (with_reducible exact LeO.refl _)
      | (with_reducible exact LeO.none _)
      | (with_reducible refine LeO.ite ?_ ?_)
      | (with_reducible refine LeO.bind ?_ (fun _ => ?_))
      | exact ih0 _ _ _ _ _ _
      | exact ih1 _ _ _ _
      | exact LeO.none _
      | refine LeO.ite ?_ ?_
      | refine LeO.bind ?_ (fun _ => ?_)
theorem spec_PlaceOf.mono : ∀ a0 a1 a2 a3 a4 k, LeO (spec_PlaceOf.f k a0 a1 a2 a3 a4) (spec_PlaceOf.f (k + 1) a0 a1 a2 a3 a4) := by
  intro a0 a1 a2 a3 a4 k
  obtain ⟨ih0, ih1⟩ := spec_PlaceOf.mono_l k
  unfold spec_PlaceOf.f
  repeat' first
      | (with_reducible exact ih0 _ _ _ _ _ _)
      | (with_reducible exact ih1 _ _ _ _)
      | (with_reducible exact LeO.refl _)
      | (with_reducible exact LeO.none _)
      | (with_reducible refine LeO.ite ?_ ?_)
      | (with_reducible refine LeO.bind ?_ (fun _ => ?_))
      | exact ih0 _ _ _ _ _ _
      | exact ih1 _ _ _ _
      | exact LeO.none _
      | refine LeO.ite ?_ ?_
      | refine LeO.bind ?_ (fun _ => ?_)
set_option maxHeartbeats 8000000 in
set_option maxRecDepth 100000 in
theorem spec_PlaceOf.calls (k : Nat) (a0 : Int) (a1 : Int) (a2 : Int) (a3 : Int) (a4 : Int) (r1 : Int) (r2 : Int) (r3 : Int) (w : World) (h : spec_PlaceOf.f k a0 a1 a2 a3 a4 = some (r1, r2, r3)) :
    Calls Try.prog 15 #[.int .i64 a0, .int .i64 a1, .int .i64 a2, .int .i64 a3, .int .i64 a4] w fun e w' => e = .returned (.tuple #[.int .i64 r1, .int .i64 r2, .int .i64 r3]) ∧ Drawn0 w w' := by
  have H : ((spec_l00In.f a0 1 10000).bind fun t101 => (if t101 = true then ((spec_l00In.f a1 1 2000).bind fun t102 => (if t102 = true then ((spec_l00In.f a2 0 100000).bind fun t103 => (if t103 = true then ((spec_l00In.f a3 0 100000).bind fun t104 => (if t104 = true then ((spec_l00In.f a4 0 10000).bind fun t105 => (spec_PlaceOf.j0 k a0 a1 a2 a3 a4 (!t105))) else (spec_PlaceOf.j0 k a0 a1 a2 a3 a4 true))) else (spec_PlaceOf.j0 k a0 a1 a2 a3 a4 true))) else (spec_PlaceOf.j0 k a0 a1 a2 a3 a4 true))) else (spec_PlaceOf.j0 k a0 a1 a2 a3 a4 true))) = some (r1, r2, r3) := h
  clear h
  have HC6 := Aside0.mk H
  clear H
  go_enter Try.func15, Try.ntmps15
  go_upto_region 1 with (fail)
  go_cut [37] (fun v37 wc => ∃ (kq : Nat) (x37_5 : Bool), v37 = .bool x37_5 ∧ Aside0 (spec_PlaceOf.j0 kq a0 a1 a2 a3 a4 x37_5 = some (r1, r2, r3)) ∧ Aside0 (kq ≤ k) ∧ Drawn0 w wc)
  case first =>
    have H := HC6.out
    clear HC6
    replace H := Option.bind_eq_some_iff.mp H
    obtain ⟨t101, A70, H⟩ := H
    replace H : (if t101 = true then ((spec_l00In.f a1 1 2000).bind fun t102 => (if t102 = true then ((spec_l00In.f a2 0 100000).bind fun t103 => (if t103 = true then ((spec_l00In.f a3 0 100000).bind fun t104 => (if t104 = true then ((spec_l00In.f a4 0 10000).bind fun t105 => (spec_PlaceOf.j0 k a0 a1 a2 a3 a4 (!t105))) else (spec_PlaceOf.j0 k a0 a1 a2 a3 a4 true))) else (spec_PlaceOf.j0 k a0 a1 a2 a3 a4 true))) else (spec_PlaceOf.j0 k a0 a1 a2 a3 a4 true))) else (spec_PlaceOf.j0 k a0 a1 a2 a3 a4 true)) = some (r1, r2, r3) := H
    have A7 := Aside0.mk A70
    clear A70
    by_cases c8 : t101 = true
    · subst c8
      have H1 : ((spec_l00In.f a1 1 2000).bind fun t102 => (if t102 = true then ((spec_l00In.f a2 0 100000).bind fun t103 => (if t103 = true then ((spec_l00In.f a3 0 100000).bind fun t104 => (if t104 = true then ((spec_l00In.f a4 0 10000).bind fun t105 => (spec_PlaceOf.j0 k a0 a1 a2 a3 a4 (!t105))) else (spec_PlaceOf.j0 k a0 a1 a2 a3 a4 true))) else (spec_PlaceOf.j0 k a0 a1 a2 a3 a4 true))) else (spec_PlaceOf.j0 k a0 a1 a2 a3 a4 true))) = some (r1, r2, r3) := by rw [if_pos rfl] at H; exact H
      clear H
      have H := H1
      clear H1
      replace H := Option.bind_eq_some_iff.mp H
      obtain ⟨t102, A90, H⟩ := H
      replace H : (if t102 = true then ((spec_l00In.f a2 0 100000).bind fun t103 => (if t103 = true then ((spec_l00In.f a3 0 100000).bind fun t104 => (if t104 = true then ((spec_l00In.f a4 0 10000).bind fun t105 => (spec_PlaceOf.j0 k a0 a1 a2 a3 a4 (!t105))) else (spec_PlaceOf.j0 k a0 a1 a2 a3 a4 true))) else (spec_PlaceOf.j0 k a0 a1 a2 a3 a4 true))) else (spec_PlaceOf.j0 k a0 a1 a2 a3 a4 true)) = some (r1, r2, r3) := H
      have A9 := Aside0.mk A90
      clear A90
      by_cases c10 : t102 = true
      · subst c10
        have H1 : ((spec_l00In.f a2 0 100000).bind fun t103 => (if t103 = true then ((spec_l00In.f a3 0 100000).bind fun t104 => (if t104 = true then ((spec_l00In.f a4 0 10000).bind fun t105 => (spec_PlaceOf.j0 k a0 a1 a2 a3 a4 (!t105))) else (spec_PlaceOf.j0 k a0 a1 a2 a3 a4 true))) else (spec_PlaceOf.j0 k a0 a1 a2 a3 a4 true))) = some (r1, r2, r3) := by rw [if_pos rfl] at H; exact H
        clear H
        have H := H1
        clear H1
        replace H := Option.bind_eq_some_iff.mp H
        obtain ⟨t103, A110, H⟩ := H
        replace H : (if t103 = true then ((spec_l00In.f a3 0 100000).bind fun t104 => (if t104 = true then ((spec_l00In.f a4 0 10000).bind fun t105 => (spec_PlaceOf.j0 k a0 a1 a2 a3 a4 (!t105))) else (spec_PlaceOf.j0 k a0 a1 a2 a3 a4 true))) else (spec_PlaceOf.j0 k a0 a1 a2 a3 a4 true)) = some (r1, r2, r3) := H
        have A11 := Aside0.mk A110
        clear A110
        by_cases c12 : t103 = true
        · subst c12
          have H1 : ((spec_l00In.f a3 0 100000).bind fun t104 => (if t104 = true then ((spec_l00In.f a4 0 10000).bind fun t105 => (spec_PlaceOf.j0 k a0 a1 a2 a3 a4 (!t105))) else (spec_PlaceOf.j0 k a0 a1 a2 a3 a4 true))) = some (r1, r2, r3) := by rw [if_pos rfl] at H; exact H
          clear H
          have H := H1
          clear H1
          replace H := Option.bind_eq_some_iff.mp H
          obtain ⟨t104, A130, H⟩ := H
          replace H : (if t104 = true then ((spec_l00In.f a4 0 10000).bind fun t105 => (spec_PlaceOf.j0 k a0 a1 a2 a3 a4 (!t105))) else (spec_PlaceOf.j0 k a0 a1 a2 a3 a4 true)) = some (r1, r2, r3) := H
          have A13 := Aside0.mk A130
          clear A130
          by_cases c14 : t104 = true
          · subst c14
            have H1 : ((spec_l00In.f a4 0 10000).bind fun t105 => (spec_PlaceOf.j0 k a0 a1 a2 a3 a4 (!t105))) = some (r1, r2, r3) := by rw [if_pos rfl] at H; exact H
            clear H
            have H := H1
            clear H1
            replace H := Option.bind_eq_some_iff.mp H
            obtain ⟨t105, A150, H⟩ := H
            replace H : (spec_PlaceOf.j0 k a0 a1 a2 a3 a4 (!t105)) = some (r1, r2, r3) := H
            have A15 := Aside0.mk A150
            clear A150
            have H' := Aside0.mk H
            clear H
            go_wp2_with (first | ((with_reducible refine gate_callee (f := 51) rfl ?_); refine goesL_ (some 16) rfl rfl Try.func51 (by kernel_rfl) rfl #[.int .i64 a0, .int .i64 1, .int .i64 10000] rfl (by (try simp only [List.map_toArray, List.map_cons, List.map_nil]); first | done | rfl | (simp only [List.length_drop, List.length_take]; rfl)) ?_; (with_reducible refine (spec_l00In.calls a0 1 10000 true _ A7.out).mono ?_); rintro e w' ⟨rfl, ⟨nd, rfl⟩⟩; refine ⟨_, rfl, ?_⟩) | (go_at_call 51; (with_reducible refine (spec_l00In.calls a1 1 2000 true _ A9.out).mono ?_); rintro e w' ⟨rfl, ⟨nd, rfl⟩⟩) | (go_at_call 51; (with_reducible refine (spec_l00In.calls a2 0 100000 true _ A11.out).mono ?_); rintro e w' ⟨rfl, ⟨nd, rfl⟩⟩) | (go_at_call 51; (with_reducible refine (spec_l00In.calls a3 0 100000 true _ A13.out).mono ?_); rintro e w' ⟨rfl, ⟨nd, rfl⟩⟩) | (go_at_call 51; (with_reducible refine (spec_l00In.calls a4 0 10000 t105 _ A15.out).mono ?_); rintro e w' ⟨rfl, ⟨nd, rfl⟩⟩))
            go_meet
            case rel => exact ⟨_, (!t105), (by first | rfl | (simp; done) | (simp [*]; done)), H', ⟨by first | omega | exact Nat.le_refl _⟩, by repeat (first | exact Drawn0.refl _ | apply Drawn0.step)⟩
          · replace c14 := Bool.eq_false_iff.mpr c14
            subst c14
            have H1 : (spec_PlaceOf.j0 k a0 a1 a2 a3 a4 true) = some (r1, r2, r3) := by rw [if_neg (show ¬ (false = true) by decide)] at H; exact H
            clear H
            have H := H1
            clear H1
            have H' := Aside0.mk H
            clear H
            go_wp2_with (first | ((with_reducible refine gate_callee (f := 51) rfl ?_); refine goesL_ (some 16) rfl rfl Try.func51 (by kernel_rfl) rfl #[.int .i64 a0, .int .i64 1, .int .i64 10000] rfl (by (try simp only [List.map_toArray, List.map_cons, List.map_nil]); first | done | rfl | (simp only [List.length_drop, List.length_take]; rfl)) ?_; (with_reducible refine (spec_l00In.calls a0 1 10000 true _ A7.out).mono ?_); rintro e w' ⟨rfl, ⟨nd, rfl⟩⟩; refine ⟨_, rfl, ?_⟩) | (go_at_call 51; (with_reducible refine (spec_l00In.calls a1 1 2000 true _ A9.out).mono ?_); rintro e w' ⟨rfl, ⟨nd, rfl⟩⟩) | (go_at_call 51; (with_reducible refine (spec_l00In.calls a2 0 100000 true _ A11.out).mono ?_); rintro e w' ⟨rfl, ⟨nd, rfl⟩⟩) | (go_at_call 51; (with_reducible refine (spec_l00In.calls a3 0 100000 false _ A13.out).mono ?_); rintro e w' ⟨rfl, ⟨nd, rfl⟩⟩))
            go_meet
            case rel => exact ⟨_, (true), (by first | rfl | (simp; done) | (simp [*]; done)), H', ⟨by first | omega | exact Nat.le_refl _⟩, by repeat (first | exact Drawn0.refl _ | apply Drawn0.step)⟩
        · replace c12 := Bool.eq_false_iff.mpr c12
          subst c12
          have H1 : (spec_PlaceOf.j0 k a0 a1 a2 a3 a4 true) = some (r1, r2, r3) := by rw [if_neg (show ¬ (false = true) by decide)] at H; exact H
          clear H
          have H := H1
          clear H1
          have H' := Aside0.mk H
          clear H
          go_wp2_with (first | ((with_reducible refine gate_callee (f := 51) rfl ?_); refine goesL_ (some 16) rfl rfl Try.func51 (by kernel_rfl) rfl #[.int .i64 a0, .int .i64 1, .int .i64 10000] rfl (by (try simp only [List.map_toArray, List.map_cons, List.map_nil]); first | done | rfl | (simp only [List.length_drop, List.length_take]; rfl)) ?_; (with_reducible refine (spec_l00In.calls a0 1 10000 true _ A7.out).mono ?_); rintro e w' ⟨rfl, ⟨nd, rfl⟩⟩; refine ⟨_, rfl, ?_⟩) | (go_at_call 51; (with_reducible refine (spec_l00In.calls a1 1 2000 true _ A9.out).mono ?_); rintro e w' ⟨rfl, ⟨nd, rfl⟩⟩) | (go_at_call 51; (with_reducible refine (spec_l00In.calls a2 0 100000 false _ A11.out).mono ?_); rintro e w' ⟨rfl, ⟨nd, rfl⟩⟩))
          go_meet
          case rel => exact ⟨_, (true), (by first | rfl | (simp; done) | (simp [*]; done)), H', ⟨by first | omega | exact Nat.le_refl _⟩, by repeat (first | exact Drawn0.refl _ | apply Drawn0.step)⟩
      · replace c10 := Bool.eq_false_iff.mpr c10
        subst c10
        have H1 : (spec_PlaceOf.j0 k a0 a1 a2 a3 a4 true) = some (r1, r2, r3) := by rw [if_neg (show ¬ (false = true) by decide)] at H; exact H
        clear H
        have H := H1
        clear H1
        have H' := Aside0.mk H
        clear H
        go_wp2_with (first | ((with_reducible refine gate_callee (f := 51) rfl ?_); refine goesL_ (some 16) rfl rfl Try.func51 (by kernel_rfl) rfl #[.int .i64 a0, .int .i64 1, .int .i64 10000] rfl (by (try simp only [List.map_toArray, List.map_cons, List.map_nil]); first | done | rfl | (simp only [List.length_drop, List.length_take]; rfl)) ?_; (with_reducible refine (spec_l00In.calls a0 1 10000 true _ A7.out).mono ?_); rintro e w' ⟨rfl, ⟨nd, rfl⟩⟩; refine ⟨_, rfl, ?_⟩) | (go_at_call 51; (with_reducible refine (spec_l00In.calls a1 1 2000 false _ A9.out).mono ?_); rintro e w' ⟨rfl, ⟨nd, rfl⟩⟩))
        go_meet
        case rel => exact ⟨_, (true), (by first | rfl | (simp; done) | (simp [*]; done)), H', ⟨by first | omega | exact Nat.le_refl _⟩, by repeat (first | exact Drawn0.refl _ | apply Drawn0.step)⟩
    · replace c8 := Bool.eq_false_iff.mpr c8
      subst c8
      have H1 : (spec_PlaceOf.j0 k a0 a1 a2 a3 a4 true) = some (r1, r2, r3) := by rw [if_neg (show ¬ (false = true) by decide)] at H; exact H
      clear H
      have H := H1
      clear H1
      have H' := Aside0.mk H
      clear H
      go_wp2_with (first | ((with_reducible refine gate_callee (f := 51) rfl ?_); refine goesL_ (some 16) rfl rfl Try.func51 (by kernel_rfl) rfl #[.int .i64 a0, .int .i64 1, .int .i64 10000] rfl (by (try simp only [List.map_toArray, List.map_cons, List.map_nil]); first | done | rfl | (simp only [List.length_drop, List.length_take]; rfl)) ?_; (with_reducible refine (spec_l00In.calls a0 1 10000 false _ A7.out).mono ?_); rintro e w' ⟨rfl, ⟨nd, rfl⟩⟩; refine ⟨_, rfl, ?_⟩))
      go_meet
      case rel => exact ⟨_, (true), (by first | rfl | (simp; done) | (simp [*]; done)), H', ⟨by first | omega | exact Nat.le_refl _⟩, by repeat (first | exact Drawn0.refl _ | apply Drawn0.step)⟩
  case rest =>
    clear HC6
    try clear c1
    try clear p2
    try clear c5
    try clear c8
    try clear c10
    try clear c12
    try clear c14
    try clear c15
    obtain ⟨kq, x37_5, rfl, HA, HJ5, ⟨mc5, rfl⟩⟩ := hcut
    cases kq with
    | zero => exact absurd HA.out (by simp [spec_PlaceOf.j0])
    | succ kj5 =>
      have H := HA.out
      clear HA
      simp only [spec_PlaceOf.j0] at H
      by_cases c16 : x37_5 = true
      · subst c16
        have H1 : (some (0, 0, 2)) = some (r1, r2, r3) := by rw [if_pos rfl] at H; exact H
        clear H
        have H := H1
        clear H1
        simp only [Option.some.injEq, Prod.mk.injEq] at H
        obtain ⟨rfl, rfl, rfl⟩ := H
        go_wp2
        go_ret3
        exact ⟨by first | rfl | (simp; done) | (simp [*]; done), by repeat (first | exact Drawn0.refl _ | apply Drawn0.step)⟩
      · replace c16 := Bool.eq_false_iff.mpr c16
        subst c16
        have H1 : (if (wrap64 ((wrap64 (1000 * a0)) + (wrap64 (a1 * (wrap64 ((wrap64 (a2 - a3)) + a4)))))) ≤ (-2000) then (spec_PlaceOf.j1 kj5 a0 (wrap64 ((wrap64 (1000 * a0)) + (wrap64 (a1 * (wrap64 ((wrap64 (a2 - a3)) - a4)))))) (wrap64 ((wrap64 (1000 * a0)) + (wrap64 (a1 * (wrap64 ((wrap64 (a2 - a3)) + a4)))))) true) else (spec_PlaceOf.j1 kj5 a0 (wrap64 ((wrap64 (1000 * a0)) + (wrap64 (a1 * (wrap64 ((wrap64 (a2 - a3)) - a4)))))) (wrap64 ((wrap64 (1000 * a0)) + (wrap64 (a1 * (wrap64 ((wrap64 (a2 - a3)) + a4)))))) (decide ((wrap64 ((wrap64 (1000 * a0)) + (wrap64 (a1 * (wrap64 ((wrap64 (a2 - a3)) - a4)))))) > (wrap64 (2000 * a0)))))) = some (r1, r2, r3) := by rw [if_neg (show ¬ (false = true) by decide)] at H; exact H
        clear H
        have H := H1
        clear H1
        have HC17 := Aside0.mk H
        clear H
        go_upto_region 5 with (fail)
        go_cut [65] (fun v65 wc => ∃ (kq : Nat) (x65_16 : Bool), v65 = .bool x65_16 ∧ Aside0 (spec_PlaceOf.j1 kq a0 (wrap64 ((wrap64 (1000 * a0)) + (wrap64 (a1 * (wrap64 ((wrap64 (a2 - a3)) - a4)))))) (wrap64 ((wrap64 (1000 * a0)) + (wrap64 (a1 * (wrap64 ((wrap64 (a2 - a3)) + a4)))))) x65_16 = some (r1, r2, r3)) ∧ Aside0 (kq ≤ kj5) ∧ Drawn0 w wc)
        case first =>
          have H := HC17.out
          clear HC17
          by_cases c18 : (wrap64 ((wrap64 (1000 * a0)) + (wrap64 (a1 * (wrap64 ((wrap64 (a2 - a3)) + a4)))))) ≤ (-2000)
          · rw [if_pos c18] at H
            have c18b0 : decide ((wrap64 ((wrap64 (1000 * a0)) + (wrap64 (a1 * (wrap64 ((wrap64 (a2 - a3)) + a4)))))) ≤ (-2000)) = true := decide_eq_true c18
            clear c18
            (first | rw [c18b0] | (simp only [i64_w, i32_w]; rw [c18b0]) | skip)
            have H' := Aside0.mk H
            clear H
            go_wp2
            go_meet
            case rel => exact ⟨_, (true), (by first | rfl | (simp; done) | (simp [*]; done)), H', ⟨by have := HJ5.out; first | omega | exact Nat.le_refl _⟩, by repeat (first | exact Drawn0.refl _ | apply Drawn0.step)⟩
          · rw [if_neg c18] at H
            have c18b0 : decide ((wrap64 ((wrap64 (1000 * a0)) + (wrap64 (a1 * (wrap64 ((wrap64 (a2 - a3)) + a4)))))) ≤ (-2000)) = false := decide_eq_false c18
            clear c18
            (first | rw [c18b0] | (simp only [i64_w, i32_w]; rw [c18b0]) | skip)
            have H' := Aside0.mk H
            clear H
            go_wp2
            go_meet
            case rel => exact ⟨_, (decide ((wrap64 ((wrap64 (1000 * a0)) + (wrap64 (a1 * (wrap64 ((wrap64 (a2 - a3)) - a4)))))) > (wrap64 (2000 * a0)))), (by first | rfl | (simp; done) | (simp [*]; done)), H', ⟨by have := HJ5.out; first | omega | exact Nat.le_refl _⟩, by repeat (first | exact Drawn0.refl _ | apply Drawn0.step)⟩
        case rest =>
          clear HC17
          try clear c1
          try clear p2
          try clear c5
          try clear p6
          try clear c8
          try clear c10
          try clear c12
          try clear c14
          try clear c15
          try clear c16
          try clear c18
          try clear c18b0
          try clear p2
          obtain ⟨kq, x65_16, rfl, HA, HJ16, ⟨mc16, rfl⟩⟩ := hcut
          cases kq with
          | zero => exact absurd HA.out (by simp [spec_PlaceOf.j1])
          | succ kj16 =>
            have H := HA.out
            clear HA
            simp only [spec_PlaceOf.j1] at H
            by_cases c19 : x65_16 = true
            · subst c19
              have H1 : (some (0, 0, 3)) = some (r1, r2, r3) := by rw [if_pos rfl] at H; exact H
              clear H
              have H := H1
              clear H1
              simp only [Option.some.injEq, Prod.mk.injEq] at H
              obtain ⟨rfl, rfl, rfl⟩ := H
              go_wp2
              go_ret3
              exact ⟨by first | rfl | (simp; done) | (simp [*]; done), by repeat (first | exact Drawn0.refl _ | apply Drawn0.step)⟩
            · replace c19 := Bool.eq_false_iff.mpr c19
              subst c19
              have H1 : ((spec_l00Max.f 0 (wrap64 ((wrap64 (1000 * a0)) + (wrap64 (a1 * (wrap64 ((wrap64 (a2 - a3)) - a4))))))).bind fun t106 => ((spec_l00Max.f 0 (wrap64 ((wrap64 (1000 * a0)) + (wrap64 (a1 * (wrap64 ((wrap64 (a2 - a3)) + a4))))))).bind fun t107 => ((spec_l00Min.f a0 (wrap64 (Int.tdiv (wrap64 (t107 + 1999)) 2000))).bind fun t108 => (some (wrap64 (Int.tdiv t106 2000), t108, 0))))) = some (r1, r2, r3) := by rw [if_neg (show ¬ (false = true) by decide)] at H; exact H
              clear H
              have H := H1
              clear H1
              replace H := Option.bind_eq_some_iff.mp H
              obtain ⟨t106, A200, H⟩ := H
              replace H : ((spec_l00Max.f 0 (wrap64 ((wrap64 (1000 * a0)) + (wrap64 (a1 * (wrap64 ((wrap64 (a2 - a3)) + a4))))))).bind fun t107 => ((spec_l00Min.f a0 (wrap64 (Int.tdiv (wrap64 (t107 + 1999)) 2000))).bind fun t108 => (some (wrap64 (Int.tdiv t106 2000), t108, 0)))) = some (r1, r2, r3) := H
              have A20 := Aside0.mk A200
              clear A200
              replace H := Option.bind_eq_some_iff.mp H
              obtain ⟨t107, A210, H⟩ := H
              replace H : ((spec_l00Min.f a0 (wrap64 (Int.tdiv (wrap64 (t107 + 1999)) 2000))).bind fun t108 => (some (wrap64 (Int.tdiv t106 2000), t108, 0))) = some (r1, r2, r3) := H
              have A21 := Aside0.mk A210
              clear A210
              replace H := Option.bind_eq_some_iff.mp H
              obtain ⟨t108, A220, H⟩ := H
              replace H : (some (wrap64 (Int.tdiv t106 2000), t108, 0)) = some (r1, r2, r3) := H
              have A22 := Aside0.mk A220
              clear A220
              simp only [Option.some.injEq, Prod.mk.injEq] at H
              obtain ⟨rfl, rfl, rfl⟩ := H
              go_wp2_with (first | ((with_reducible refine gate_callee (f := 52) rfl ?_); refine goesL_ (some 67) rfl rfl Try.func52 (by kernel_rfl) rfl #[.int .i64 0, .int .i64 (wrap64 ((wrap64 (1000 * a0)) + (wrap64 (a1 * (wrap64 ((wrap64 (a2 - a3)) - a4))))))] rfl (by (try simp only [List.map_toArray, List.map_cons, List.map_nil]); first | done | rfl | (simp only [List.length_drop, List.length_take]; rfl)) ?_; (with_reducible refine (spec_l00Max.calls 0 (wrap64 ((wrap64 (1000 * a0)) + (wrap64 (a1 * (wrap64 ((wrap64 (a2 - a3)) - a4)))))) t106 _ A20.out).mono ?_); rintro e w' ⟨rfl, ⟨nd, rfl⟩⟩; refine ⟨_, rfl, ?_⟩) | ((with_reducible refine gate_callee (f := 52) rfl ?_); refine goesL_ (some 71) rfl rfl Try.func52 (by kernel_rfl) rfl #[.int .i64 0, .int .i64 (wrap64 ((wrap64 (1000 * a0)) + (wrap64 (a1 * (wrap64 ((wrap64 (a2 - a3)) + a4))))))] rfl (by (try simp only [List.map_toArray, List.map_cons, List.map_nil]); first | done | rfl | (simp only [List.length_drop, List.length_take]; rfl)) ?_; (with_reducible refine (spec_l00Max.calls 0 (wrap64 ((wrap64 (1000 * a0)) + (wrap64 (a1 * (wrap64 ((wrap64 (a2 - a3)) + a4)))))) t107 _ A21.out).mono ?_); rintro e w' ⟨rfl, ⟨nd, rfl⟩⟩; refine ⟨_, rfl, ?_⟩) | ((with_reducible refine gate_callee (f := 53) rfl ?_); refine goesL_ (some 74) rfl rfl Try.func53 (by kernel_rfl) rfl #[.int .i64 a0, .int .i64 (wrap64 (Int.tdiv (wrap64 (t107 + 1999)) 2000))] rfl (by (try simp only [List.map_toArray, List.map_cons, List.map_nil]); first | done | rfl | (simp only [List.length_drop, List.length_take]; rfl)) ?_; (with_reducible refine (spec_l00Min.calls a0 (wrap64 (Int.tdiv (wrap64 (t107 + 1999)) 2000)) t108 _ A22.out).mono ?_); rintro e w' ⟨rfl, ⟨nd, rfl⟩⟩; refine ⟨_, rfl, ?_⟩))
              go_ret3
              exact ⟨by first | rfl | (simp; done) | (simp [*]; done), by repeat (first | exact Drawn0.refl _ | apply Drawn0.step)⟩

/-! ### impl_within: function 54 -/
def impl_within.f (a0 : Int) (a1 : Int) (a2 : Int) : Option (Bool) := if a0 ≥ a1 then (some (decide (a0 ≤ a2))) else (some false)
set_option maxHeartbeats 8000000 in
set_option maxRecDepth 100000 in
theorem impl_within.calls (a0 : Int) (a1 : Int) (a2 : Int) (r : Bool) (w : World) (h : impl_within.f a0 a1 a2 = some r) :
    Calls Try.prog 54 #[.int .i64 a0, .int .i64 a1, .int .i64 a2] w fun e w' => e = .returned (.bool r) ∧ Drawn0 w w' := by
  have H : (if a0 ≥ a1 then (some (decide (a0 ≤ a2))) else (some false)) = some r := h
  clear h
  by_cases c4 : a0 ≥ a1
  · rw [if_pos c4] at H
    have c4b0 : decide (a1 ≤ a0) = true := decide_eq_true c4
    clear c4
    obtain rfl := Option.some.inj H
    go_enter Try.func54, Try.ntmps54
    go_wp2
    go_ret
    exact ⟨by first | rfl | (simp; done) | (simp [*]; done), by repeat (first | exact Drawn0.refl _ | apply Drawn0.step)⟩
  · rw [if_neg c4] at H
    have c4b0 : decide (a1 ≤ a0) = false := decide_eq_false c4
    clear c4
    obtain rfl := Option.some.inj H
    go_enter Try.func54, Try.ntmps54
    go_wp2
    go_ret
    exact ⟨by first | rfl | (simp; done) | (simp [*]; done), by repeat (first | exact Drawn0.refl _ | apply Drawn0.step)⟩

/-! ### impl_divUp: function 55 -/
def impl_divUp.f (a0 : Int) (a1 : Int) : Option (Int) := if a1 = 0 then (none) else (some (wrap64 (Int.tdiv (wrap64 ((wrap64 (a0 + a1)) - 1)) a1)))
set_option maxHeartbeats 8000000 in
set_option maxRecDepth 100000 in
theorem impl_divUp.calls (a0 : Int) (a1 : Int) (r : Int) (w : World) (h : impl_divUp.f a0 a1 = some r) :
    Calls Try.prog 55 #[.int .i64 a0, .int .i64 a1] w fun e w' => e = .returned (.int .i64 r) ∧ Drawn0 w w' := by
  have H : (if a1 = 0 then (none) else (some (wrap64 (Int.tdiv (wrap64 ((wrap64 (a0 + a1)) - 1)) a1)))) = some r := h
  clear h
  by_cases c3 : a1 = 0
  · rw [if_pos c3] at H
    exact absurd H (by simp)
  · rw [if_neg c3] at H
    have c3b0 : (a1 == 0) = false := beq_eq_false_iff_ne.mpr c3
    have c3b1 : (a1 != 0) = true := bne_iff_ne.mpr c3
    obtain rfl := Option.some.inj H
    go_enter Try.func55, Try.ntmps55
    go_wp2
    go_ret
    exact ⟨by first | rfl | (simp; done) | (simp [*]; done), by repeat (first | exact Drawn0.refl _ | apply Drawn0.step)⟩

/-! ### impl_PlaceOf: function 16 -/
def impl_PlaceOf.j0 : Nat → Int → Int → Int → Int → Int → Bool → Option (Int × Int × Int)
  | 0, _, _, _, _, _, _ => none
  | k + 1, x0, x1, x2, x3, x4, x38 => if x38 = true then (some (0, 0, 2)) else (if (wrap64 ((wrap64 (1000 * x0)) + (wrap64 (x1 * (wrap64 ((wrap64 (x2 - x3)) + x4)))))) ≤ (-2000) then (some (0, 0, 3)) else (if (wrap64 ((wrap64 (1000 * x0)) + (wrap64 (x1 * (wrap64 ((wrap64 (x2 - x3)) - x4)))))) > (wrap64 (2000 * x0)) then (some (0, 0, 3)) else ((impl_divUp.f (mx (wrap64 ((wrap64 (1000 * x0)) + (wrap64 (x1 * (wrap64 ((wrap64 (x2 - x3)) + x4)))))) 0) 2000).bind fun t114 => (some (wrap64 ((mx (wrap64 ((wrap64 (1000 * x0)) + (wrap64 (x1 * (wrap64 ((wrap64 (x2 - x3)) - x4)))))) 0) / 2000), mn t114 x0, 0)))))
def impl_PlaceOf.f (k : Nat) (a0 : Int) (a1 : Int) (a2 : Int) (a3 : Int) (a4 : Int) : Option (Int × Int × Int) := (impl_within.f a0 1 10000).bind fun t109 => (if t109 = true then ((impl_within.f a1 1 2000).bind fun t110 => (if t110 = true then ((impl_within.f a2 0 100000).bind fun t111 => (if t111 = true then ((impl_within.f a3 0 100000).bind fun t112 => (if t112 = true then ((impl_within.f a4 0 10000).bind fun t113 => (impl_PlaceOf.j0 k a0 a1 a2 a3 a4 (!t113))) else (impl_PlaceOf.j0 k a0 a1 a2 a3 a4 true))) else (impl_PlaceOf.j0 k a0 a1 a2 a3 a4 true))) else (impl_PlaceOf.j0 k a0 a1 a2 a3 a4 true))) else (impl_PlaceOf.j0 k a0 a1 a2 a3 a4 true))
theorem impl_PlaceOf.mono_l : ∀ k, (∀ y0 y1 y2 y3 y4 y5, LeO (impl_PlaceOf.j0 k y0 y1 y2 y3 y4 y5) (impl_PlaceOf.j0 (k + 1) y0 y1 y2 y3 y4 y5))
  | 0 => fun _ _ _ _ _ _ r h => by simp [impl_PlaceOf.j0] at h
  | k + 1 => by
    have ih0 := impl_PlaceOf.mono_l k
    · intro y0 y1 y2 y3 y4 y5
      unfold impl_PlaceOf.j0
      repeat' first
      | (with_reducible exact ih0 _ _ _ _ _ _)
      | (with_reducible exact LeO.refl _)
      | (with_reducible exact LeO.none _)
      | (with_reducible refine LeO.ite ?_ ?_)
      | (with_reducible refine LeO.bind ?_ (fun _ => ?_))
      | exact ih0 _ _ _ _ _ _
      | exact LeO.none _
      | refine LeO.ite ?_ ?_
      | refine LeO.bind ?_ (fun _ => ?_)
theorem impl_PlaceOf.mono : ∀ a0 a1 a2 a3 a4 k, LeO (impl_PlaceOf.f k a0 a1 a2 a3 a4) (impl_PlaceOf.f (k + 1) a0 a1 a2 a3 a4) := by
  intro a0 a1 a2 a3 a4 k
  have ih0 := impl_PlaceOf.mono_l k
  unfold impl_PlaceOf.f
  repeat' first
      | (with_reducible exact ih0 _ _ _ _ _ _)
      | (with_reducible exact LeO.refl _)
      | (with_reducible exact LeO.none _)
      | (with_reducible refine LeO.ite ?_ ?_)
      | (with_reducible refine LeO.bind ?_ (fun _ => ?_))
      | exact ih0 _ _ _ _ _ _
      | exact LeO.none _
      | refine LeO.ite ?_ ?_
      | refine LeO.bind ?_ (fun _ => ?_)
set_option maxHeartbeats 8000000 in
set_option maxRecDepth 100000 in
theorem impl_PlaceOf.calls (k : Nat) (a0 : Int) (a1 : Int) (a2 : Int) (a3 : Int) (a4 : Int) (r1 : Int) (r2 : Int) (r3 : Int) (w : World) (h : impl_PlaceOf.f k a0 a1 a2 a3 a4 = some (r1, r2, r3)) :
    Calls Try.prog 16 #[.int .i64 a0, .int .i64 a1, .int .i64 a2, .int .i64 a3, .int .i64 a4] w fun e w' => e = .returned (.tuple #[.int .i64 r1, .int .i64 r2, .int .i64 r3]) ∧ Below w.heap.size w w' := by
  have HB := Aside0.mk (Below.refl w.heap.size w)
  have H : ((impl_within.f a0 1 10000).bind fun t109 => (if t109 = true then ((impl_within.f a1 1 2000).bind fun t110 => (if t110 = true then ((impl_within.f a2 0 100000).bind fun t111 => (if t111 = true then ((impl_within.f a3 0 100000).bind fun t112 => (if t112 = true then ((impl_within.f a4 0 10000).bind fun t113 => (impl_PlaceOf.j0 k a0 a1 a2 a3 a4 (!t113))) else (impl_PlaceOf.j0 k a0 a1 a2 a3 a4 true))) else (impl_PlaceOf.j0 k a0 a1 a2 a3 a4 true))) else (impl_PlaceOf.j0 k a0 a1 a2 a3 a4 true))) else (impl_PlaceOf.j0 k a0 a1 a2 a3 a4 true))) = some (r1, r2, r3) := h
  clear h
  have HC6 := Aside0.mk H
  clear H
  go_enter Try.func16, Try.ntmps16
  go_upto_region 1 with (fail)
  go_cut [38] (fun v38 wc => ∃ (kq : Nat) (x38_5 : Bool), v38 = .bool x38_5 ∧ Aside0 (impl_PlaceOf.j0 kq a0 a1 a2 a3 a4 x38_5 = some (r1, r2, r3)) ∧ Aside0 (kq ≤ k) ∧ Aside0 (Below w.heap.size w wc))
  case first =>
    have H := HC6.out
    clear HC6
    replace H := Option.bind_eq_some_iff.mp H
    obtain ⟨t109, A70, H⟩ := H
    replace H : (if t109 = true then ((impl_within.f a1 1 2000).bind fun t110 => (if t110 = true then ((impl_within.f a2 0 100000).bind fun t111 => (if t111 = true then ((impl_within.f a3 0 100000).bind fun t112 => (if t112 = true then ((impl_within.f a4 0 10000).bind fun t113 => (impl_PlaceOf.j0 k a0 a1 a2 a3 a4 (!t113))) else (impl_PlaceOf.j0 k a0 a1 a2 a3 a4 true))) else (impl_PlaceOf.j0 k a0 a1 a2 a3 a4 true))) else (impl_PlaceOf.j0 k a0 a1 a2 a3 a4 true))) else (impl_PlaceOf.j0 k a0 a1 a2 a3 a4 true)) = some (r1, r2, r3) := H
    have A7 := Aside0.mk A70
    clear A70
    by_cases c8 : t109 = true
    · subst c8
      have H1 : ((impl_within.f a1 1 2000).bind fun t110 => (if t110 = true then ((impl_within.f a2 0 100000).bind fun t111 => (if t111 = true then ((impl_within.f a3 0 100000).bind fun t112 => (if t112 = true then ((impl_within.f a4 0 10000).bind fun t113 => (impl_PlaceOf.j0 k a0 a1 a2 a3 a4 (!t113))) else (impl_PlaceOf.j0 k a0 a1 a2 a3 a4 true))) else (impl_PlaceOf.j0 k a0 a1 a2 a3 a4 true))) else (impl_PlaceOf.j0 k a0 a1 a2 a3 a4 true))) = some (r1, r2, r3) := by rw [if_pos rfl] at H; exact H
      clear H
      have H := H1
      clear H1
      replace H := Option.bind_eq_some_iff.mp H
      obtain ⟨t110, A90, H⟩ := H
      replace H : (if t110 = true then ((impl_within.f a2 0 100000).bind fun t111 => (if t111 = true then ((impl_within.f a3 0 100000).bind fun t112 => (if t112 = true then ((impl_within.f a4 0 10000).bind fun t113 => (impl_PlaceOf.j0 k a0 a1 a2 a3 a4 (!t113))) else (impl_PlaceOf.j0 k a0 a1 a2 a3 a4 true))) else (impl_PlaceOf.j0 k a0 a1 a2 a3 a4 true))) else (impl_PlaceOf.j0 k a0 a1 a2 a3 a4 true)) = some (r1, r2, r3) := H
      have A9 := Aside0.mk A90
      clear A90
      by_cases c10 : t110 = true
      · subst c10
        have H1 : ((impl_within.f a2 0 100000).bind fun t111 => (if t111 = true then ((impl_within.f a3 0 100000).bind fun t112 => (if t112 = true then ((impl_within.f a4 0 10000).bind fun t113 => (impl_PlaceOf.j0 k a0 a1 a2 a3 a4 (!t113))) else (impl_PlaceOf.j0 k a0 a1 a2 a3 a4 true))) else (impl_PlaceOf.j0 k a0 a1 a2 a3 a4 true))) = some (r1, r2, r3) := by rw [if_pos rfl] at H; exact H
        clear H
        have H := H1
        clear H1
        replace H := Option.bind_eq_some_iff.mp H
        obtain ⟨t111, A110, H⟩ := H
        replace H : (if t111 = true then ((impl_within.f a3 0 100000).bind fun t112 => (if t112 = true then ((impl_within.f a4 0 10000).bind fun t113 => (impl_PlaceOf.j0 k a0 a1 a2 a3 a4 (!t113))) else (impl_PlaceOf.j0 k a0 a1 a2 a3 a4 true))) else (impl_PlaceOf.j0 k a0 a1 a2 a3 a4 true)) = some (r1, r2, r3) := H
        have A11 := Aside0.mk A110
        clear A110
        by_cases c12 : t111 = true
        · subst c12
          have H1 : ((impl_within.f a3 0 100000).bind fun t112 => (if t112 = true then ((impl_within.f a4 0 10000).bind fun t113 => (impl_PlaceOf.j0 k a0 a1 a2 a3 a4 (!t113))) else (impl_PlaceOf.j0 k a0 a1 a2 a3 a4 true))) = some (r1, r2, r3) := by rw [if_pos rfl] at H; exact H
          clear H
          have H := H1
          clear H1
          replace H := Option.bind_eq_some_iff.mp H
          obtain ⟨t112, A130, H⟩ := H
          replace H : (if t112 = true then ((impl_within.f a4 0 10000).bind fun t113 => (impl_PlaceOf.j0 k a0 a1 a2 a3 a4 (!t113))) else (impl_PlaceOf.j0 k a0 a1 a2 a3 a4 true)) = some (r1, r2, r3) := H
          have A13 := Aside0.mk A130
          clear A130
          by_cases c14 : t112 = true
          · subst c14
            have H1 : ((impl_within.f a4 0 10000).bind fun t113 => (impl_PlaceOf.j0 k a0 a1 a2 a3 a4 (!t113))) = some (r1, r2, r3) := by rw [if_pos rfl] at H; exact H
            clear H
            have H := H1
            clear H1
            replace H := Option.bind_eq_some_iff.mp H
            obtain ⟨t113, A150, H⟩ := H
            replace H : (impl_PlaceOf.j0 k a0 a1 a2 a3 a4 (!t113)) = some (r1, r2, r3) := H
            have A15 := Aside0.mk A150
            clear A150
            have H' := Aside0.mk H
            clear H
            go_wp2_with (first | ((with_reducible refine gate_callee (f := 54) rfl ?_); refine goesL_ (some 17) rfl rfl Try.func54 (by kernel_rfl) rfl #[.int .i64 a0, .int .i64 1, .int .i64 10000] rfl (by (try simp only [List.map_toArray, List.map_cons, List.map_nil]); first | done | rfl | (simp only [List.length_drop, List.length_take]; rfl)) ?_; (with_reducible refine (impl_within.calls a0 1 10000 true _ A7.out).mono ?_); rintro e w' ⟨rfl, ⟨nd, rfl⟩⟩; refine ⟨_, rfl, ?_⟩) | (go_at_call 54; (with_reducible refine (impl_within.calls a1 1 2000 true _ A9.out).mono ?_); rintro e w' ⟨rfl, ⟨nd, rfl⟩⟩) | (go_at_call 54; (with_reducible refine (impl_within.calls a2 0 100000 true _ A11.out).mono ?_); rintro e w' ⟨rfl, ⟨nd, rfl⟩⟩) | (go_at_call 54; (with_reducible refine (impl_within.calls a3 0 100000 true _ A13.out).mono ?_); rintro e w' ⟨rfl, ⟨nd, rfl⟩⟩) | (go_at_call 54; (with_reducible refine (impl_within.calls a4 0 10000 t113 _ A15.out).mono ?_); rintro e w' ⟨rfl, ⟨nd, rfl⟩⟩))
            go_meet
            case rel => exact ⟨_, (!t113), (by first | rfl | (simp; done) | (simp [*]; done)), H', ⟨by first | omega | exact Nat.le_refl _⟩, ⟨by repeat (first | (with_reducible first | exact HB.out | apply below_alloc | apply pw_below_drewN | apply below_drew1) | exact HB.out)⟩⟩
          · replace c14 := Bool.eq_false_iff.mpr c14
            subst c14
            have H1 : (impl_PlaceOf.j0 k a0 a1 a2 a3 a4 true) = some (r1, r2, r3) := by rw [if_neg (show ¬ (false = true) by decide)] at H; exact H
            clear H
            have H := H1
            clear H1
            have H' := Aside0.mk H
            clear H
            go_wp2_with (first | ((with_reducible refine gate_callee (f := 54) rfl ?_); refine goesL_ (some 17) rfl rfl Try.func54 (by kernel_rfl) rfl #[.int .i64 a0, .int .i64 1, .int .i64 10000] rfl (by (try simp only [List.map_toArray, List.map_cons, List.map_nil]); first | done | rfl | (simp only [List.length_drop, List.length_take]; rfl)) ?_; (with_reducible refine (impl_within.calls a0 1 10000 true _ A7.out).mono ?_); rintro e w' ⟨rfl, ⟨nd, rfl⟩⟩; refine ⟨_, rfl, ?_⟩) | (go_at_call 54; (with_reducible refine (impl_within.calls a1 1 2000 true _ A9.out).mono ?_); rintro e w' ⟨rfl, ⟨nd, rfl⟩⟩) | (go_at_call 54; (with_reducible refine (impl_within.calls a2 0 100000 true _ A11.out).mono ?_); rintro e w' ⟨rfl, ⟨nd, rfl⟩⟩) | (go_at_call 54; (with_reducible refine (impl_within.calls a3 0 100000 false _ A13.out).mono ?_); rintro e w' ⟨rfl, ⟨nd, rfl⟩⟩))
            go_meet
            case rel => exact ⟨_, (true), (by first | rfl | (simp; done) | (simp [*]; done)), H', ⟨by first | omega | exact Nat.le_refl _⟩, ⟨by repeat (first | (with_reducible first | exact HB.out | apply below_alloc | apply pw_below_drewN | apply below_drew1) | exact HB.out)⟩⟩
        · replace c12 := Bool.eq_false_iff.mpr c12
          subst c12
          have H1 : (impl_PlaceOf.j0 k a0 a1 a2 a3 a4 true) = some (r1, r2, r3) := by rw [if_neg (show ¬ (false = true) by decide)] at H; exact H
          clear H
          have H := H1
          clear H1
          have H' := Aside0.mk H
          clear H
          go_wp2_with (first | ((with_reducible refine gate_callee (f := 54) rfl ?_); refine goesL_ (some 17) rfl rfl Try.func54 (by kernel_rfl) rfl #[.int .i64 a0, .int .i64 1, .int .i64 10000] rfl (by (try simp only [List.map_toArray, List.map_cons, List.map_nil]); first | done | rfl | (simp only [List.length_drop, List.length_take]; rfl)) ?_; (with_reducible refine (impl_within.calls a0 1 10000 true _ A7.out).mono ?_); rintro e w' ⟨rfl, ⟨nd, rfl⟩⟩; refine ⟨_, rfl, ?_⟩) | (go_at_call 54; (with_reducible refine (impl_within.calls a1 1 2000 true _ A9.out).mono ?_); rintro e w' ⟨rfl, ⟨nd, rfl⟩⟩) | (go_at_call 54; (with_reducible refine (impl_within.calls a2 0 100000 false _ A11.out).mono ?_); rintro e w' ⟨rfl, ⟨nd, rfl⟩⟩))
          go_meet
          case rel => exact ⟨_, (true), (by first | rfl | (simp; done) | (simp [*]; done)), H', ⟨by first | omega | exact Nat.le_refl _⟩, ⟨by repeat (first | (with_reducible first | exact HB.out | apply below_alloc | apply pw_below_drewN | apply below_drew1) | exact HB.out)⟩⟩
      · replace c10 := Bool.eq_false_iff.mpr c10
        subst c10
        have H1 : (impl_PlaceOf.j0 k a0 a1 a2 a3 a4 true) = some (r1, r2, r3) := by rw [if_neg (show ¬ (false = true) by decide)] at H; exact H
        clear H
        have H := H1
        clear H1
        have H' := Aside0.mk H
        clear H
        go_wp2_with (first | ((with_reducible refine gate_callee (f := 54) rfl ?_); refine goesL_ (some 17) rfl rfl Try.func54 (by kernel_rfl) rfl #[.int .i64 a0, .int .i64 1, .int .i64 10000] rfl (by (try simp only [List.map_toArray, List.map_cons, List.map_nil]); first | done | rfl | (simp only [List.length_drop, List.length_take]; rfl)) ?_; (with_reducible refine (impl_within.calls a0 1 10000 true _ A7.out).mono ?_); rintro e w' ⟨rfl, ⟨nd, rfl⟩⟩; refine ⟨_, rfl, ?_⟩) | (go_at_call 54; (with_reducible refine (impl_within.calls a1 1 2000 false _ A9.out).mono ?_); rintro e w' ⟨rfl, ⟨nd, rfl⟩⟩))
        go_meet
        case rel => exact ⟨_, (true), (by first | rfl | (simp; done) | (simp [*]; done)), H', ⟨by first | omega | exact Nat.le_refl _⟩, ⟨by repeat (first | (with_reducible first | exact HB.out | apply below_alloc | apply pw_below_drewN | apply below_drew1) | exact HB.out)⟩⟩
    · replace c8 := Bool.eq_false_iff.mpr c8
      subst c8
      have H1 : (impl_PlaceOf.j0 k a0 a1 a2 a3 a4 true) = some (r1, r2, r3) := by rw [if_neg (show ¬ (false = true) by decide)] at H; exact H
      clear H
      have H := H1
      clear H1
      have H' := Aside0.mk H
      clear H
      go_wp2_with (first | ((with_reducible refine gate_callee (f := 54) rfl ?_); refine goesL_ (some 17) rfl rfl Try.func54 (by kernel_rfl) rfl #[.int .i64 a0, .int .i64 1, .int .i64 10000] rfl (by (try simp only [List.map_toArray, List.map_cons, List.map_nil]); first | done | rfl | (simp only [List.length_drop, List.length_take]; rfl)) ?_; (with_reducible refine (impl_within.calls a0 1 10000 false _ A7.out).mono ?_); rintro e w' ⟨rfl, ⟨nd, rfl⟩⟩; refine ⟨_, rfl, ?_⟩))
      go_meet
      case rel => exact ⟨_, (true), (by first | rfl | (simp; done) | (simp [*]; done)), H', ⟨by first | omega | exact Nat.le_refl _⟩, ⟨by repeat (first | (with_reducible first | exact HB.out | apply below_alloc | apply pw_below_drewN | apply below_drew1) | exact HB.out)⟩⟩
  case rest =>
    clear HC6
    try clear c1
    try clear p2
    try clear c5
    try clear c8
    try clear c10
    try clear c12
    try clear c14
    obtain ⟨kq, x38_5, rfl, HA, HJ5, HB⟩ := hcut
    cases kq with
    | zero => exact absurd HA.out (by simp [impl_PlaceOf.j0])
    | succ kj5 =>
      have H := HA.out
      clear HA
      simp only [impl_PlaceOf.j0] at H
      by_cases c16 : x38_5 = true
      · subst c16
        have H1 : (some (0, 0, 2)) = some (r1, r2, r3) := by rw [if_pos rfl] at H; exact H
        clear H
        have H := H1
        clear H1
        simp only [Option.some.injEq, Prod.mk.injEq] at H
        obtain ⟨rfl, rfl, rfl⟩ := H
        go_wp2
        go_ret3
        exact ⟨by first | rfl | (rw [Int.tdiv_eq_ediv_of_nonneg (by omega)]; rfl) | (simp [errW_none, errW_some] <;> rfl) | (simp [*, errW_none, errW_some] <;> rfl), by repeat (first | (with_reducible first | exact HB.out | apply below_alloc | apply pw_below_drewN | apply below_drew1) | exact HB.out)⟩
      · replace c16 := Bool.eq_false_iff.mpr c16
        subst c16
        have H1 : (if (wrap64 ((wrap64 (1000 * a0)) + (wrap64 (a1 * (wrap64 ((wrap64 (a2 - a3)) + a4)))))) ≤ (-2000) then (some (0, 0, 3)) else (if (wrap64 ((wrap64 (1000 * a0)) + (wrap64 (a1 * (wrap64 ((wrap64 (a2 - a3)) - a4)))))) > (wrap64 (2000 * a0)) then (some (0, 0, 3)) else ((impl_divUp.f (mx (wrap64 ((wrap64 (1000 * a0)) + (wrap64 (a1 * (wrap64 ((wrap64 (a2 - a3)) + a4)))))) 0) 2000).bind fun t114 => (some (wrap64 ((mx (wrap64 ((wrap64 (1000 * a0)) + (wrap64 (a1 * (wrap64 ((wrap64 (a2 - a3)) - a4)))))) 0) / 2000), mn t114 a0, 0))))) = some (r1, r2, r3) := by rw [if_neg (show ¬ (false = true) by decide)] at H; exact H
        clear H
        have H := H1
        clear H1
        by_cases c17 : (wrap64 ((wrap64 (1000 * a0)) + (wrap64 (a1 * (wrap64 ((wrap64 (a2 - a3)) + a4)))))) ≤ (-2000)
        · rw [if_pos c17] at H
          have c17b0 : decide ((wrap64 ((wrap64 (1000 * a0)) + (wrap64 (a1 * (wrap64 ((wrap64 (a2 - a3)) + a4)))))) ≤ (-2000)) = true := decide_eq_true c17
          clear c17
          simp only [Option.some.injEq, Prod.mk.injEq] at H
          obtain ⟨rfl, rfl, rfl⟩ := H
          go_wp2
          go_ret3
          exact ⟨by first | rfl | (rw [Int.tdiv_eq_ediv_of_nonneg (by omega)]; rfl) | (simp [errW_none, errW_some] <;> rfl) | (simp [*, errW_none, errW_some] <;> rfl), by repeat (first | (with_reducible first | exact HB.out | apply below_alloc | apply pw_below_drewN | apply below_drew1) | exact HB.out)⟩
        · rw [if_neg c17] at H
          have c17b0 : decide ((wrap64 ((wrap64 (1000 * a0)) + (wrap64 (a1 * (wrap64 ((wrap64 (a2 - a3)) + a4)))))) ≤ (-2000)) = false := decide_eq_false c17
          clear c17
          by_cases c18 : (wrap64 ((wrap64 (1000 * a0)) + (wrap64 (a1 * (wrap64 ((wrap64 (a2 - a3)) - a4)))))) > (wrap64 (2000 * a0))
          · rw [if_pos c18] at H
            have c18b0 : decide ((wrap64 (2000 * a0)) < (wrap64 ((wrap64 (1000 * a0)) + (wrap64 (a1 * (wrap64 ((wrap64 (a2 - a3)) - a4))))))) = true := decide_eq_true c18
            clear c18
            simp only [Option.some.injEq, Prod.mk.injEq] at H
            obtain ⟨rfl, rfl, rfl⟩ := H
            go_wp2
            go_ret3
            exact ⟨by first | rfl | (rw [Int.tdiv_eq_ediv_of_nonneg (by omega)]; rfl) | (simp [errW_none, errW_some] <;> rfl) | (simp [*, errW_none, errW_some] <;> rfl), by repeat (first | (with_reducible first | exact HB.out | apply below_alloc | apply pw_below_drewN | apply below_drew1) | exact HB.out)⟩
          · rw [if_neg c18] at H
            have c18b0 : decide ((wrap64 (2000 * a0)) < (wrap64 ((wrap64 (1000 * a0)) + (wrap64 (a1 * (wrap64 ((wrap64 (a2 - a3)) - a4))))))) = false := decide_eq_false c18
            clear c18
            obtain ⟨ji19, hji19⟩ : ∃ j_ : Int, (mx (wrap64 ((wrap64 (1000 * a0)) + (wrap64 (a1 * (wrap64 ((wrap64 (a2 - a3)) - a4)))))) 0) = j_ := ⟨_, rfl⟩
            replace H : ((impl_divUp.f (mx (wrap64 ((wrap64 (1000 * a0)) + (wrap64 (a1 * (wrap64 ((wrap64 (a2 - a3)) + a4)))))) 0) 2000).bind fun t114 => (some (wrap64 ((ji19) / 2000), mn t114 a0, 0))) = some (r1, r2, r3) := by first | (rw [hji19] at H; exact H) | (simp only [hji19] at H ⊢; exact H)
            have hji19n : 0 ≤ ji19 := by rw [← hji19]; unfold mx; split <;> omega
            have hji19_ : (if (wrap64 ((wrap64 (1000 * a0)) + (wrap64 (a1 * (wrap64 ((wrap64 (a2 - a3)) - a4)))))) < 0 then 0 else (wrap64 ((wrap64 (1000 * a0)) + (wrap64 (a1 * (wrap64 ((wrap64 (a2 - a3)) - a4))))))) = ji19 := hji19
            obtain ⟨ji20, hji20⟩ : ∃ j_ : Int, (mx (wrap64 ((wrap64 (1000 * a0)) + (wrap64 (a1 * (wrap64 ((wrap64 (a2 - a3)) + a4)))))) 0) = j_ := ⟨_, rfl⟩
            replace H : ((impl_divUp.f (ji20) 2000).bind fun t114 => (some (wrap64 ((ji19) / 2000), mn t114 a0, 0))) = some (r1, r2, r3) := by first | (rw [hji20] at H; exact H) | (simp only [hji20] at H ⊢; exact H)
            have hji20n : 0 ≤ ji20 := by rw [← hji20]; unfold mx; split <;> omega
            have hji20_ : (if (wrap64 ((wrap64 (1000 * a0)) + (wrap64 (a1 * (wrap64 ((wrap64 (a2 - a3)) + a4)))))) < 0 then 0 else (wrap64 ((wrap64 (1000 * a0)) + (wrap64 (a1 * (wrap64 ((wrap64 (a2 - a3)) + a4))))))) = ji20 := hji20
            replace H := Option.bind_eq_some_iff.mp H
            obtain ⟨t114, A210, H⟩ := H
            replace H : (some (wrap64 ((ji19) / 2000), mn t114 a0, 0)) = some (r1, r2, r3) := H
            have A21 := Aside0.mk A210
            clear A210
            obtain ⟨ji22, hji22⟩ : ∃ j_ : Int, (mn t114 a0) = j_ := ⟨_, rfl⟩
            replace H : (some (wrap64 ((ji19) / 2000), ji22, 0)) = some (r1, r2, r3) := by first | (rw [hji22] at H; exact H) | (simp only [hji22] at H ⊢; exact H)
            (try rw [hji22] at A21)
            have hji22_ : (if a0 < t114 then a0 else t114) = ji22 := hji22
            simp only [Option.some.injEq, Prod.mk.injEq] at H
            obtain ⟨rfl, rfl, rfl⟩ := H
            go_wp2_with (first | ((with_reducible refine gate_callee (f := 55) rfl ?_); refine goesL_ (some 71) rfl rfl Try.func55 (by kernel_rfl) rfl #[.int .i64 ji20, .int .i64 2000] rfl (by (try simp only [List.map_toArray, List.map_cons, List.map_nil]); first | done | (simp only [hji20]; rfl) | rfl | (simp only [List.length_drop, List.length_take]; rfl)) ?_; (with_reducible refine (impl_divUp.calls ji20 2000 t114 _ A21.out).mono ?_); rintro e w' ⟨rfl, ⟨nd, rfl⟩⟩; refine ⟨_, rfl, ?_⟩))
            go_ret3
            exact ⟨by first | rfl | (rw [Int.tdiv_eq_ediv_of_nonneg (by omega)]; rfl) | (simp [errW_none, errW_some] <;> rfl) | (simp only [← hji19, ← hji20, ← hji22]; first | rfl | (simp [errW_none, errW_some] <;> rfl)) | (simp [*, errW_none, errW_some] <;> rfl), by repeat (first | (with_reducible first | exact HB.out | apply below_alloc | apply pw_below_drewN | apply below_drew1) | exact HB.out)⟩

/-! ### laws_FnExactPlaceOf: function 3 -/
def laws_FnExactPlaceOf.f (k : Nat) (a0 : Int) (a1 : Int) (a2 : Int) (a3 : Int) (a4 : Int) : Option (Bool) := (spec_PlaceOf.f k a0 a1 a2 a3 a4).bind fun bt115 => ((impl_PlaceOf.f k a0 a1 a2 a3 a4).bind fun bt118 => (if bt118.1 = bt115.1 then (if bt118.2.1 = bt115.2.1 then (if bt118.2.2 = bt115.2.2 then (some true) else (some false)) else (some false)) else (some false)))
theorem laws_FnExactPlaceOf.mono : ∀ a0 a1 a2 a3 a4 k, LeO (laws_FnExactPlaceOf.f k a0 a1 a2 a3 a4) (laws_FnExactPlaceOf.f (k + 1) a0 a1 a2 a3 a4) := by
  intro a0 a1 a2 a3 a4 k
  unfold laws_FnExactPlaceOf.f
  repeat' first
      | (with_reducible exact impl_PlaceOf.mono _ _ _ _ _ _)
      | (with_reducible exact spec_PlaceOf.mono _ _ _ _ _ _)
      | (with_reducible exact LeO.refl _)
      | (with_reducible exact LeO.none _)
      | (with_reducible refine LeO.ite ?_ ?_)
      | (with_reducible refine LeO.bind ?_ (fun _ => ?_))
      | exact impl_PlaceOf.mono _ _ _ _ _ _
      | exact spec_PlaceOf.mono _ _ _ _ _ _
      | exact LeO.none _
      | refine LeO.ite ?_ ?_
      | refine LeO.bind ?_ (fun _ => ?_)
set_option maxHeartbeats 8000000 in
set_option maxRecDepth 100000 in
theorem laws_FnExactPlaceOf.calls (k : Nat) (a0 : Int) (a1 : Int) (a2 : Int) (a3 : Int) (a4 : Int) (r : Bool) (w : World) (h : laws_FnExactPlaceOf.f k a0 a1 a2 a3 a4 = some r) :
    Calls Try.prog 3 #[.int .i64 a0, .int .i64 a1, .int .i64 a2, .int .i64 a3, .int .i64 a4] w fun e w' => e = .returned (.bool r) ∧ Below w.heap.size w w' := by
  have HB := Aside0.mk (Below.refl w.heap.size w)
  have H : ((spec_PlaceOf.f k a0 a1 a2 a3 a4).bind fun bt115 => ((impl_PlaceOf.f k a0 a1 a2 a3 a4).bind fun bt118 => (if bt118.1 = bt115.1 then (if bt118.2.1 = bt115.2.1 then (if bt118.2.2 = bt115.2.2 then (some true) else (some false)) else (some false)) else (some false)))) = some r := h
  clear h
  replace H := Option.bind_eq_some_iff.mp H
  obtain ⟨⟨t115, t116, t117⟩, A60, H⟩ := H
  replace H : ((impl_PlaceOf.f k a0 a1 a2 a3 a4).bind fun bt118 => (if bt118.1 = t115 then (if bt118.2.1 = t116 then (if bt118.2.2 = t117 then (some true) else (some false)) else (some false)) else (some false))) = some r := H
  have A6 := Aside0.mk A60
  clear A60
  replace H := Option.bind_eq_some_iff.mp H
  obtain ⟨⟨t118, t119, t120⟩, A70, H⟩ := H
  replace H : (if t118 = t115 then (if t119 = t116 then (if t120 = t117 then (some true) else (some false)) else (some false)) else (some false)) = some r := H
  have A7 := Aside0.mk A70
  clear A70
  by_cases c8 : t118 = t115
  · rw [if_pos c8] at H
    have c8b0 : (t118 == t115) = true := beq_iff_eq.mpr c8
    have c8b1 : (t118 != t115) = false := bne_eq_false_iff_eq.mpr c8
    clear c8
    by_cases c9 : t119 = t116
    · rw [if_pos c9] at H
      have c9b0 : (t119 == t116) = true := beq_iff_eq.mpr c9
      have c9b1 : (t119 != t116) = false := bne_eq_false_iff_eq.mpr c9
      clear c9
      by_cases c10 : t120 = t117
      · rw [if_pos c10] at H
        have c10b0 : (t120 == t117) = true := beq_iff_eq.mpr c10
        have c10b1 : (t120 != t117) = false := bne_eq_false_iff_eq.mpr c10
        clear c10
        obtain rfl := Option.some.inj H
        go_enter Try.func3, Try.ntmps3
        go_wp2_with (first | ((with_reducible refine gate_callee (f := 15) rfl ?_); refine goesL_ (some 23) rfl rfl Try.func15 (by kernel_rfl) rfl #[.int .i64 a0, .int .i64 a1, .int .i64 a2, .int .i64 a3, .int .i64 a4] rfl (by (try simp only [List.map_toArray, List.map_cons, List.map_nil]); first | done | rfl | (simp only [List.length_drop, List.length_take]; rfl)) ?_; (with_reducible refine (spec_PlaceOf.calls k a0 a1 a2 a3 a4 t115 t116 t117 _ A6.out).mono ?_); rintro e w' ⟨rfl, ⟨nd, rfl⟩⟩; refine ⟨_, rfl, ?_⟩) | ((with_reducible refine gate_callee (f := 16) rfl ?_); refine goesL_ (some 33) rfl rfl Try.func16 (by kernel_rfl) rfl #[.int .i64 a0, .int .i64 a1, .int .i64 a2, .int .i64 a3, .int .i64 a4] rfl (by (try simp only [List.map_toArray, List.map_cons, List.map_nil]); first | done | rfl | (simp only [List.length_drop, List.length_take]; rfl)) ?_; (with_reducible refine (impl_PlaceOf.calls k a0 a1 a2 a3 a4 t118 t119 t120 _ A7.out).mono ?_); rintro e w11 ⟨rfl, hb⟩; refine ⟨_, rfl, ?_⟩; have n0_ := Aside0.mk (below_step (by repeat (first | (with_reducible first | exact HB.out | apply below_alloc | apply pw_below_drewN | apply below_drew1) | exact HB.out)) hb); clear HB; have HB := n0_; clear n0_; (try clear hb); (try clear hb2); (try clear hk); (try clear hi)))
        go_ret
        exact ⟨by first | rfl | (rw [Int.tdiv_eq_ediv_of_nonneg (by omega)]; rfl) | (simp [errW_none, errW_some] <;> rfl) | (simp [*, errW_none, errW_some] <;> rfl), by repeat (first | (with_reducible first | exact HB.out | apply below_alloc | apply pw_below_drewN | apply below_drew1) | exact HB.out)⟩
      · rw [if_neg c10] at H
        have c10b0 : (t120 == t117) = false := beq_eq_false_iff_ne.mpr c10
        have c10b1 : (t120 != t117) = true := bne_iff_ne.mpr c10
        obtain rfl := Option.some.inj H
        go_enter Try.func3, Try.ntmps3
        go_wp2_with (first | ((with_reducible refine gate_callee (f := 15) rfl ?_); refine goesL_ (some 23) rfl rfl Try.func15 (by kernel_rfl) rfl #[.int .i64 a0, .int .i64 a1, .int .i64 a2, .int .i64 a3, .int .i64 a4] rfl (by (try simp only [List.map_toArray, List.map_cons, List.map_nil]); first | done | rfl | (simp only [List.length_drop, List.length_take]; rfl)) ?_; (with_reducible refine (spec_PlaceOf.calls k a0 a1 a2 a3 a4 t115 t116 t117 _ A6.out).mono ?_); rintro e w' ⟨rfl, ⟨nd, rfl⟩⟩; refine ⟨_, rfl, ?_⟩) | ((with_reducible refine gate_callee (f := 16) rfl ?_); refine goesL_ (some 33) rfl rfl Try.func16 (by kernel_rfl) rfl #[.int .i64 a0, .int .i64 a1, .int .i64 a2, .int .i64 a3, .int .i64 a4] rfl (by (try simp only [List.map_toArray, List.map_cons, List.map_nil]); first | done | rfl | (simp only [List.length_drop, List.length_take]; rfl)) ?_; (with_reducible refine (impl_PlaceOf.calls k a0 a1 a2 a3 a4 t118 t119 t120 _ A7.out).mono ?_); rintro e w12 ⟨rfl, hb⟩; refine ⟨_, rfl, ?_⟩; have n0_ := Aside0.mk (below_step (by repeat (first | (with_reducible first | exact HB.out | apply below_alloc | apply pw_below_drewN | apply below_drew1) | exact HB.out)) hb); clear HB; have HB := n0_; clear n0_; (try clear hb); (try clear hb2); (try clear hk); (try clear hi)))
        go_ret
        exact ⟨by first | rfl | (rw [Int.tdiv_eq_ediv_of_nonneg (by omega)]; rfl) | (simp [errW_none, errW_some] <;> rfl) | (simp [*, errW_none, errW_some] <;> rfl), by repeat (first | (with_reducible first | exact HB.out | apply below_alloc | apply pw_below_drewN | apply below_drew1) | exact HB.out)⟩
    · rw [if_neg c9] at H
      have c9b0 : (t119 == t116) = false := beq_eq_false_iff_ne.mpr c9
      have c9b1 : (t119 != t116) = true := bne_iff_ne.mpr c9
      obtain rfl := Option.some.inj H
      go_enter Try.func3, Try.ntmps3
      go_wp2_with (first | ((with_reducible refine gate_callee (f := 15) rfl ?_); refine goesL_ (some 23) rfl rfl Try.func15 (by kernel_rfl) rfl #[.int .i64 a0, .int .i64 a1, .int .i64 a2, .int .i64 a3, .int .i64 a4] rfl (by (try simp only [List.map_toArray, List.map_cons, List.map_nil]); first | done | rfl | (simp only [List.length_drop, List.length_take]; rfl)) ?_; (with_reducible refine (spec_PlaceOf.calls k a0 a1 a2 a3 a4 t115 t116 t117 _ A6.out).mono ?_); rintro e w' ⟨rfl, ⟨nd, rfl⟩⟩; refine ⟨_, rfl, ?_⟩) | ((with_reducible refine gate_callee (f := 16) rfl ?_); refine goesL_ (some 33) rfl rfl Try.func16 (by kernel_rfl) rfl #[.int .i64 a0, .int .i64 a1, .int .i64 a2, .int .i64 a3, .int .i64 a4] rfl (by (try simp only [List.map_toArray, List.map_cons, List.map_nil]); first | done | rfl | (simp only [List.length_drop, List.length_take]; rfl)) ?_; (with_reducible refine (impl_PlaceOf.calls k a0 a1 a2 a3 a4 t118 t119 t120 _ A7.out).mono ?_); rintro e w13 ⟨rfl, hb⟩; refine ⟨_, rfl, ?_⟩; have n0_ := Aside0.mk (below_step (by repeat (first | (with_reducible first | exact HB.out | apply below_alloc | apply pw_below_drewN | apply below_drew1) | exact HB.out)) hb); clear HB; have HB := n0_; clear n0_; (try clear hb); (try clear hb2); (try clear hk); (try clear hi)))
      go_ret
      exact ⟨by first | rfl | (rw [Int.tdiv_eq_ediv_of_nonneg (by omega)]; rfl) | (simp [errW_none, errW_some] <;> rfl) | (simp [*, errW_none, errW_some] <;> rfl), by repeat (first | (with_reducible first | exact HB.out | apply below_alloc | apply pw_below_drewN | apply below_drew1) | exact HB.out)⟩
  · rw [if_neg c8] at H
    have c8b0 : (t118 == t115) = false := beq_eq_false_iff_ne.mpr c8
    have c8b1 : (t118 != t115) = true := bne_iff_ne.mpr c8
    obtain rfl := Option.some.inj H
    go_enter Try.func3, Try.ntmps3
    go_wp2_with (first | ((with_reducible refine gate_callee (f := 15) rfl ?_); refine goesL_ (some 23) rfl rfl Try.func15 (by kernel_rfl) rfl #[.int .i64 a0, .int .i64 a1, .int .i64 a2, .int .i64 a3, .int .i64 a4] rfl (by (try simp only [List.map_toArray, List.map_cons, List.map_nil]); first | done | rfl | (simp only [List.length_drop, List.length_take]; rfl)) ?_; (with_reducible refine (spec_PlaceOf.calls k a0 a1 a2 a3 a4 t115 t116 t117 _ A6.out).mono ?_); rintro e w' ⟨rfl, ⟨nd, rfl⟩⟩; refine ⟨_, rfl, ?_⟩) | ((with_reducible refine gate_callee (f := 16) rfl ?_); refine goesL_ (some 33) rfl rfl Try.func16 (by kernel_rfl) rfl #[.int .i64 a0, .int .i64 a1, .int .i64 a2, .int .i64 a3, .int .i64 a4] rfl (by (try simp only [List.map_toArray, List.map_cons, List.map_nil]); first | done | rfl | (simp only [List.length_drop, List.length_take]; rfl)) ?_; (with_reducible refine (impl_PlaceOf.calls k a0 a1 a2 a3 a4 t118 t119 t120 _ A7.out).mono ?_); rintro e w14 ⟨rfl, hb⟩; refine ⟨_, rfl, ?_⟩; have n0_ := Aside0.mk (below_step (by repeat (first | (with_reducible first | exact HB.out | apply below_alloc | apply pw_below_drewN | apply below_drew1) | exact HB.out)) hb); clear HB; have HB := n0_; clear n0_; (try clear hb); (try clear hb2); (try clear hk); (try clear hi)))
    go_ret
    exact ⟨by first | rfl | (rw [Int.tdiv_eq_ediv_of_nonneg (by omega)]; rfl) | (simp [errW_none, errW_some] <;> rfl) | (simp [*, errW_none, errW_some] <;> rfl), by repeat (first | (with_reducible first | exact HB.out | apply below_alloc | apply pw_below_drewN | apply below_drew1) | exact HB.out)⟩

/-- THE ONE PURE STATEMENT of laws_FnExactPlaceOf: yours. -/
def laws_FnExactPlaceOf.Pure : Prop := ∀ (a0 : Int) (a1 : Int) (a2 : Int) (a3 : Int) (a4 : Int), (Lit.int .i64 a0).wf = true → (Lit.int .i64 a1).wf = true → (Lit.int .i64 a2).wf = true → (Lit.int .i64 a3).wf = true → (Lit.int .i64 a4).wf = true → ∃ k, laws_FnExactPlaceOf.f k a0 a1 a2 a3 a4 = some true
theorem laws_FnExactPlaceOf.walk (P : laws_FnExactPlaceOf.Pure) (a0 : Int) (a1 : Int) (a2 : Int) (a3 : Int) (a4 : Int) (w : World) (w0 : (Lit.int .i64 a0).wf = true) (w1 : (Lit.int .i64 a1).wf = true) (w2 : (Lit.int .i64 a2).wf = true) (w3 : (Lit.int .i64 a3).wf = true) (w4 : (Lit.int .i64 a4).wf = true) :
    Calls Try.prog 3 #[.int .i64 a0, .int .i64 a1, .int .i64 a2, .int .i64 a3, .int .i64 a4] w fun e w' => e = .returned (.bool true) ∧ Below w.heap.size w w' := by
  obtain ⟨k, h⟩ := P a0 a1 a2 a3 a4 w0 w1 w2 w3 w4
  refine (laws_FnExactPlaceOf.calls k a0 a1 a2 a3 a4 true w h).mono ?_
  rintro e w' ⟨rfl, hd⟩
  exact ⟨rfl, hd⟩

end Go.Proofs.Ytkacnmgcgakioaa.PFnExactPlaceOf
