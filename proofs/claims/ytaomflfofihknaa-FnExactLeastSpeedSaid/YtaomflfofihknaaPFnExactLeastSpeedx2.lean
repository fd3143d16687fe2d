-- written by wip/xprint.py, a program of this session, for this claim; not trusted: Lean checks it.
import Derived.Test.YtaomflfofihknaaPFnExactLeastSpeedx0
import Derived.Test.YtaomflfofihknaaPFnExactLeastSpeedx1
namespace Go.Proofs.Ytaomflfofihknaa.PFnExactLeastSpeed
open Go.RowKit Go.Proofs.YtaomflfofihknaaW.PrintWords Go.Proofs.YtaomflfofihknaaW.PrintLast Go.Proofs.YtaomflfofihknaaW.PrintMore
attribute [local go_sem] max2_int min2_int max_two min_two max_three min_three max_four min_four   -- for this text's walks alone
set_option linter.unusedVariables false
set_option linter.unusedSimpArgs false

/-! ### spec_l08Ok: function 81 -/
mutual
def spec_l08Ok.j0 : Nat → List (S54) → Bool → Option (Bool)
 | 0, _, _ => none
 | k + 1, x0, x26 => if x26 = true then (some false) else (spec_l08Ok.l0 k x0 0)
def spec_l08Ok.l0 : Nat → List (S54) → Int → Option (Bool)
 | 0, _, _ => none
 | k + 1, x0, x3 => if 0 < (x0.length : Int) then (if x3 < (((rd_T54 x0 0).f1).length : Int) then (if 0 ≤ x3 then (if ((rd_L1 ((rd_T54 x0 0).f1) x3).length : Int) = 2 then (if 0 < ((rd_L1 ((rd_T54 x0 0).f1) x3).length : Int) then ((spec_l02Flow.f (rd (rd_L1 ((rd_T54 x0 0).f1) x3) 0)).bind fun t117 => (if t117 = true then (if 1 < ((rd_L1 ((rd_T54 x0 0).f1) x3).length : Int) then ((spec_l00In.f (rd (rd_L1 ((rd_T54 x0 0).f1) x3) 1) 0 2000000).bind fun t119 => (spec_l08Ok.j2 k x0 x3 (rd_L1 ((rd_T54 x0 0).f1) x3) (!t119))) else (none)) else (spec_l08Ok.j2 k x0 x3 (rd_L1 ((rd_T54 x0 0).f1) x3) true))) else (none)) else (spec_l08Ok.j2 k x0 x3 (rd_L1 ((rd_T54 x0 0).f1) x3) true)) else (none)) else (some true)) else (none)
def spec_l08Ok.j2 : Nat → List (S54) → Int → List Int → Bool → Option (Bool)
 | 0, _, _, _, _ => none
 | k + 1, x0, x3, x4, x59 => if x59 = true then (some false) else (if x3 = 0 then (if 0 < (x4.length : Int) then (if (rd x4 0) = 0 then (if x3 > 0 then (if 0 < (x0.length : Int) then (if 0 ≤ (wrap64 (x3 - 1)) then (if (wrap64 (x3 - 1)) < (((rd_T54 x0 0).f1).length : Int) then (if 0 < ((rd_L1 ((rd_T54 x0 0).f1) (wrap64 (x3 - 1))).length : Int) then (if (rd (rd_L1 ((rd_T54 x0 0).f1) (wrap64 (x3 - 1))) 0) ≥ (rd x4 0) then (spec_l08Ok.j3 k x0 x3 true) else (if 1 < ((rd_L1 ((rd_T54 x0 0).f1) (wrap64 (x3 - 1))).length : Int) then (if 1 < (x4.length : Int) then (spec_l08Ok.j3 k x0 x3 (decide ((rd (rd_L1 ((rd_T54 x0 0).f1) (wrap64 (x3 - 1))) 1) < (rd x4 1)))) else (none)) else (none))) else (none)) else (none)) else (none)) else (none)) else (spec_l08Ok.j3 k x0 x3 false)) else (spec_l08Ok.j3 k x0 x3 true)) else (none)) else (if x3 > 0 then (if 0 < (x0.length : Int) then (if 0 ≤ (wrap64 (x3 - 1)) then (if (wrap64 (x3 - 1)) < (((rd_T54 x0 0).f1).length : Int) then (if 0 < ((rd_L1 ((rd_T54 x0 0).f1) (wrap64 (x3 - 1))).length : Int) then (if 0 < (x4.length : Int) then (if (rd (rd_L1 ((rd_T54 x0 0).f1) (wrap64 (x3 - 1))) 0) ≥ (rd x4 0) then (spec_l08Ok.j3 k x0 x3 true) else (if 1 < ((rd_L1 ((rd_T54 x0 0).f1) (wrap64 (x3 - 1))).length : Int) then (if 1 < (x4.length : Int) then (spec_l08Ok.j3 k x0 x3 (decide ((rd (rd_L1 ((rd_T54 x0 0).f1) (wrap64 (x3 - 1))) 1) < (rd x4 1)))) else (none)) else (none))) else (none)) else (none)) else (none)) else (none)) else (none)) else (spec_l08Ok.j3 k x0 x3 false)))
def spec_l08Ok.j3 : Nat → List (S54) → Int → Bool → Option (Bool)
 | 0, _, _, _ => none
 | k + 1, x0, x3, x103 => if x103 = true then (some false) else (spec_l08Ok.l0 k x0 (wrap64 (x3 + 1)))
end
def spec_l08Ok.f (k : Nat) (l0 : List (S54)) : Option (Bool) := if 0 < (l0.length : Int) then ((spec_l01Name.f k ((rd_T54 l0 0).f0)).bind fun t110 => (if t110 = true then (if (((rd_T54 l0 0).f1).length : Int) < 2 then (spec_l08Ok.j0 k l0 true) else (spec_l08Ok.j0 k l0 (decide ((((rd_T54 l0 0).f1).length : Int) > 8)))) else (spec_l08Ok.j0 k l0 true))) else (none)
theorem spec_l08Ok.mono_l : ∀ k, (∀ y0 y1, LeO (spec_l08Ok.j0 k y0 y1) (spec_l08Ok.j0 (k + 1) y0 y1)) ∧ (∀ y0 y1, LeO (spec_l08Ok.l0 k y0 y1) (spec_l08Ok.l0 (k + 1) y0 y1)) ∧ (∀ y0 y1 y2 y3, LeO (spec_l08Ok.j2 k y0 y1 y2 y3) (spec_l08Ok.j2 (k + 1) y0 y1 y2 y3)) ∧ (∀ y0 y1 y2, LeO (spec_l08Ok.j3 k y0 y1 y2) (spec_l08Ok.j3 (k + 1) y0 y1 y2))
 | 0 => ⟨fun _ _ r h => by simp [spec_l08Ok.j0] at h, fun _ _ r h => by simp [spec_l08Ok.l0] at h, fun _ _ _ _ r h => by simp [spec_l08Ok.j2] at h, fun _ _ _ r h => by simp [spec_l08Ok.j3] at h⟩
 | k + 1 => by
  obtain ⟨ih0, ih1, ih2, ih3⟩ := spec_l08Ok.mono_l k
  refine ⟨?_, ?_, ?_, ?_⟩
  ·intro y0 y1
   unfold spec_l08Ok.j0
   repeat' first
   | (with_reducible exact ih0 _ _)
   | (with_reducible exact ih1 _ _)
   | (with_reducible exact ih2 _ _ _ _)
   | (with_reducible exact ih3 _ _ _)
   | (with_reducible exact spec_l01Name.mono _ _)
   | (with_reducible exact LeO.refl _)
   | (with_reducible exact LeO.none _)
   | (with_reducible refine LeO.ite ?_ ?_)
   | (with_reducible refine LeO.bind ?_ (fun _ => ?_))
   | exact ih0 _ _
   | exact ih1 _ _
   | exact ih2 _ _ _ _
   | exact ih3 _ _ _
   | exact spec_l01Name.mono _ _
   | exact LeO.none _
   | refine LeO.ite ?_ ?_
   | refine LeO.bind ?_ (fun _ => ?_)
  ·intro y0 y1
   unfold spec_l08Ok.l0
   repeat' first
   | (with_reducible exact ih0 _ _)
   | (with_reducible exact ih1 _ _)
   | (with_reducible exact ih2 _ _ _ _)
   | (with_reducible exact ih3 _ _ _)
   | (with_reducible exact spec_l01Name.mono _ _)
   | (with_reducible exact LeO.refl _)
   | (with_reducible exact LeO.none _)
   | (with_reducible refine LeO.ite ?_ ?_)
   | (with_reducible refine LeO.bind ?_ (fun _ => ?_))
   | exact ih0 _ _
   | exact ih1 _ _
   | exact ih2 _ _ _ _
   | exact ih3 _ _ _
   | exact spec_l01Name.mono _ _
   | exact LeO.none _
   | refine LeO.ite ?_ ?_
   | refine LeO.bind ?_ (fun _ => ?_)
  ·intro y0 y1 y2 y3
   unfold spec_l08Ok.j2
   repeat' first
   | (with_reducible exact ih0 _ _)
   | (with_reducible exact ih1 _ _)
   | (with_reducible exact ih2 _ _ _ _)
   | (with_reducible exact ih3 _ _ _)
   | (with_reducible exact spec_l01Name.mono _ _)
   | (with_reducible exact LeO.refl _)
   | (with_reducible exact LeO.none _)
   | (with_reducible refine LeO.ite ?_ ?_)
   | (with_reducible refine LeO.bind ?_ (fun _ => ?_))
   | exact ih0 _ _
   | exact ih1 _ _
   | exact ih2 _ _ _ _
   | exact ih3 _ _ _
   | exact spec_l01Name.mono _ _
   | exact LeO.none _
   | refine LeO.ite ?_ ?_
   | refine LeO.bind ?_ (fun _ => ?_)
  ·intro y0 y1 y2
   unfold spec_l08Ok.j3
   repeat' first
   | (with_reducible exact ih0 _ _)
   | (with_reducible exact ih1 _ _)
   | (with_reducible exact ih2 _ _ _ _)
   | (with_reducible exact ih3 _ _ _)
   | (with_reducible exact spec_l01Name.mono _ _)
   | (with_reducible exact LeO.refl _)
   | (with_reducible exact LeO.none _)
   | (with_reducible refine LeO.ite ?_ ?_)
   | (with_reducible refine LeO.bind ?_ (fun _ => ?_))
   | exact ih0 _ _
   | exact ih1 _ _
   | exact ih2 _ _ _ _
   | exact ih3 _ _ _
   | exact spec_l01Name.mono _ _
   | exact LeO.none _
   | refine LeO.ite ?_ ?_
   | refine LeO.bind ?_ (fun _ => ?_)
theorem spec_l08Ok.mono : ∀ a0 k, LeO (spec_l08Ok.f k a0) (spec_l08Ok.f (k + 1) a0) := by
 intro a0 k
 obtain ⟨ih0, ih1, ih2, ih3⟩ := spec_l08Ok.mono_l k
 unfold spec_l08Ok.f
 repeat' first
   | (with_reducible exact ih0 _ _)
   | (with_reducible exact ih1 _ _)
   | (with_reducible exact ih2 _ _ _ _)
   | (with_reducible exact ih3 _ _ _)
   | (with_reducible exact spec_l01Name.mono _ _)
   | (with_reducible exact LeO.refl _)
   | (with_reducible exact LeO.none _)
   | (with_reducible refine LeO.ite ?_ ?_)
   | (with_reducible refine LeO.bind ?_ (fun _ => ?_))
   | exact ih0 _ _
   | exact ih1 _ _
   | exact ih2 _ _ _ _
   | exact ih3 _ _ _
   | exact spec_l01Name.mono _ _
   | exact LeO.none _
   | refine LeO.ite ?_ ?_
   | refine LeO.bind ?_ (fun _ => ?_)
set_option maxHeartbeats 8000000 in
set_option maxRecDepth 100000 in
theorem spec_l08Ok.calls (k : Nat) (A0 : Option Addr) (c0 : Nat) (l0 : List (S54)) (r : Bool) (w : World) (hr0 : Kd.C k54 w A0 l0.length l0) (hc0 : l0.length ≤ c0) (h : spec_l08Ok.f k l0 = some r) :
  Calls Try.prog 81 #[.pointer A0] w fun e w' => e = .returned (.bool r) ∧ Drawn0 w w' := by
 have HR0 := Aside0.mk hr0
 have HC0 := Aside0.mk hc0
 clear hr0 hc0
 have H : (if 0 < (l0.length : Int) then ((spec_l01Name.f k ((rd_T54 l0 0).f0)).bind fun t110 => (if t110 = true then (if (((rd_T54 l0 0).f1).length : Int) < 2 then (spec_l08Ok.j0 k l0 true) else (spec_l08Ok.j0 k l0 (decide ((((rd_T54 l0 0).f1).length : Int) > 8)))) else (spec_l08Ok.j0 k l0 true))) else (none)) = some r := h
 clear h
 have HC2 := Aside0.mk H
 clear H
 go_enter Try.func81, Try.ntmps81
 go_upto_region 1 with (fail)
 repeat (go_quiet (fail); go_upto_region 1 with (fail))
 go_cut [26] (fun v26 wc => ∃ (kq : Nat) (x26_1 : Bool), v26 = .bool x26_1 ∧ Aside0 (spec_l08Ok.j0 kq l0 x26_1 = some r) ∧ Aside0 (kq ≤ k) ∧ Drawn0 w wc)
 case first =>
  have H := HC2.out
  clear HC2
  by_cases c3 : 0 < (l0.length : Int)
  ·rw [if_pos c3] at H
   have c3b0 : decide (0 < (l0.length : Int)) = true := decide_eq_true c3
   have c3b1 : decide (0 < l0.length) = true := decide_eq_true (by omega)
   clear c3
   (first | rw [c3b0] | (simp only [i64_w, i32_w]; rw [c3b0]) | skip)
   replace H := Option.bind_eq_some_iff.mp H
   obtain ⟨t110, A40, H⟩ := H
   replace H : (if t110 = true then (if (((rd_T54 l0 0).f1).length : Int) < 2 then (spec_l08Ok.j0 k l0 true) else (spec_l08Ok.j0 k l0 (decide ((((rd_T54 l0 0).f1).length : Int) > 8)))) else (spec_l08Ok.j0 k l0 true)) = some r := H
   have A4 := Aside0.mk A40
   clear A40
   by_cases c5 : t110 = true
   ·subst c5
    have H1 : (if (((rd_T54 l0 0).f1).length : Int) < 2 then (spec_l08Ok.j0 k l0 true) else (spec_l08Ok.j0 k l0 (decide ((((rd_T54 l0 0).f1).length : Int) > 8)))) = some r := by rw [if_pos rfl] at H; exact H
    clear H
    have H := H1
    clear H1
    by_cases c6 : (((rd_T54 l0 0).f1).length : Int) < 2
    ·rw [if_pos c6] at H
     have c6b0 : decide ((((rd_T54 l0 0).f1).length : Int) < 2) = true := decide_eq_true c6
     have c6b1 : decide (((rd_T54 l0 0).f1).length < 2) = true := decide_eq_true (by omega)
     clear c6
     have H' := Aside0.mk H
     clear H
     have p109 : 0 ≤ (0 : Int) := (by omega)
     have q109 : 0 < (l0.length : Int) := of_decide_eq_true (by first | (with_reducible assumption) | assumption)
     obtain ⟨ad109, A109_1, c109_1, e109, hx109_0, hx109_1, hl109_1, hi109_1⟩ := at_T54 HR0.out 0 p109 q109
     cases e109
     have qi109 : (0 < l0.length) = True := eq_true (by omega)
     (try rw [show ((0 : Int)).toNat = 0 from rfl] at hx109_0)
     (try rw [show 0 * 2 = 0 from rfl] at hx109_0)
     (try rw [Addr.add_zero'] at hx109_0)
     (try rw [show ((0 : Int)).toNat = 0 from rfl] at hx109_1)
     (try rw [show 0 * 2 = 0 from rfl] at hx109_1)
     (try rw [Addr.add_zero'] at hx109_1)
     have HR109_1 := Aside0.mk hi109_1
     have HC109_1 := Aside0.mk hl109_1
     clear hi109_1 hl109_1
     replace p109 := eq_true p109
     replace q109 := eq_true q109
     go_wp2_with (first | (go_at_call 133; (with_reducible refine (spec_l01Name.calls k ((rd_T54 l0 0).f0) true _ A4.out).mono ?_); rintro e w' ⟨rfl, ⟨nd, rfl⟩⟩; (try first | exact ⟨rfl, _, World.drewN_drewN _ _ _⟩ | exact ⟨rfl, _, Eq.trans (World.drewN_drewN _ _ _) (congrArg (World.drewN _) (Nat.add_assoc _ _ _))⟩); (try (have p111 : 0 ≤ (0 : Int) := (by omega); have q111 : 0 < (l0.length : Int) := of_decide_eq_true (by first | (with_reducible assumption) | assumption); obtain ⟨ad111, A111_1, c111_1, e111, hx111_0, hx111_1, hl111_1, hi111_1⟩ := at_T54 HR0.out 0 p111 q111; obtain rfl : ad109 = ad111 := (by injection e111); have qi111 : (0 < l0.length) = True := eq_true (by omega); (try rw [show ((0 : Int)).toNat = 0 from rfl] at hx111_0); (try rw [show 0 * 2 = 0 from rfl] at hx111_0); (try rw [Addr.add_zero'] at hx111_0); (try rw [show ((0 : Int)).toNat = 0 from rfl] at hx111_1); (try rw [show 0 * 2 = 0 from rfl] at hx111_1); (try rw [Addr.add_zero'] at hx111_1); have HR111_1 := Aside0.mk hi111_1; have HC111_1 := Aside0.mk hl111_1; clear hi111_1 hl111_1; replace p111 := eq_true p111; replace q111 := eq_true q111; have ea_ := Option.some.inj (hx109_1.symm.trans hx111_1); injection ea_ with ea_ en_ ec_; subst ea_; subst ec_; clear en_))))
     (first | (have h_ := q111; clear h_) | (try (have p111 : 0 ≤ (0 : Int) := (by omega); have q111 : 0 < (l0.length : Int) := of_decide_eq_true (by first | (with_reducible assumption) | assumption); obtain ⟨ad111, A111_1, c111_1, e111, hx111_0, hx111_1, hl111_1, hi111_1⟩ := at_T54 HR0.out 0 p111 q111; obtain rfl : ad109 = ad111 := (by injection e111); have qi111 : (0 < l0.length) = True := eq_true (by omega); (try rw [show ((0 : Int)).toNat = 0 from rfl] at hx111_0); (try rw [show 0 * 2 = 0 from rfl] at hx111_0); (try rw [Addr.add_zero'] at hx111_0); (try rw [show ((0 : Int)).toNat = 0 from rfl] at hx111_1); (try rw [show 0 * 2 = 0 from rfl] at hx111_1); (try rw [Addr.add_zero'] at hx111_1); have HR111_1 := Aside0.mk hi111_1; have HC111_1 := Aside0.mk hl111_1; clear hi111_1 hl111_1; replace p111 := eq_true p111; replace q111 := eq_true q111; have ea_ := Option.some.inj (hx109_1.symm.trans hx111_1); injection ea_ with ea_ en_ ec_; subst ea_; subst ec_; clear en_)))
     repeat (go_quiet (first | (go_at_call 133; (with_reducible refine (spec_l01Name.calls k ((rd_T54 l0 0).f0) true _ A4.out).mono ?_); rintro e w' ⟨rfl, ⟨nd, rfl⟩⟩; (try first | exact ⟨rfl, _, World.drewN_drewN _ _ _⟩ | exact ⟨rfl, _, Eq.trans (World.drewN_drewN _ _ _) (congrArg (World.drewN _) (Nat.add_assoc _ _ _))⟩))); try go_wp2_with (first | (go_at_call 133; (with_reducible refine (spec_l01Name.calls k ((rd_T54 l0 0).f0) true _ A4.out).mono ?_); rintro e w' ⟨rfl, ⟨nd, rfl⟩⟩; (try first | exact ⟨rfl, _, World.drewN_drewN _ _ _⟩ | exact ⟨rfl, _, Eq.trans (World.drewN_drewN _ _ _) (congrArg (World.drewN _) (Nat.add_assoc _ _ _))⟩); (try (have p111 : 0 ≤ (0 : Int) := (by omega); have q111 : 0 < (l0.length : Int) := of_decide_eq_true (by first | (with_reducible assumption) | assumption); obtain ⟨ad111, A111_1, c111_1, e111, hx111_0, hx111_1, hl111_1, hi111_1⟩ := at_T54 HR0.out 0 p111 q111; obtain rfl : ad109 = ad111 := (by injection e111); have qi111 : (0 < l0.length) = True := eq_true (by omega); (try rw [show ((0 : Int)).toNat = 0 from rfl] at hx111_0); (try rw [show 0 * 2 = 0 from rfl] at hx111_0); (try rw [Addr.add_zero'] at hx111_0); (try rw [show ((0 : Int)).toNat = 0 from rfl] at hx111_1); (try rw [show 0 * 2 = 0 from rfl] at hx111_1); (try rw [Addr.add_zero'] at hx111_1); have HR111_1 := Aside0.mk hi111_1; have HC111_1 := Aside0.mk hl111_1; clear hi111_1 hl111_1; replace p111 := eq_true p111; replace q111 := eq_true q111; have ea_ := Option.some.inj (hx109_1.symm.trans hx111_1); injection ea_ with ea_ en_ ec_; subst ea_; subst ec_; clear en_)))))
     go_meet
     case rel => exact ⟨_, (true), (by first | rfl | (simp; done) | (simp [*]; done)), H', ⟨by first | omega | exact Nat.le_refl _⟩, by repeat (first | exact Drawn0.refl _ | apply Drawn0.step)⟩
    ·rw [if_neg c6] at H
     have c6b0 : decide ((((rd_T54 l0 0).f1).length : Int) < 2) = false := decide_eq_false c6
     have c6b1 : decide (((rd_T54 l0 0).f1).length < 2) = false := decide_eq_false (by omega)
     clear c6
     have H' := Aside0.mk H
     clear H
     have p109 : 0 ≤ (0 : Int) := (by omega)
     have q109 : 0 < (l0.length : Int) := of_decide_eq_true (by first | (with_reducible assumption) | assumption)
     obtain ⟨ad109, A109_1, c109_1, e109, hx109_0, hx109_1, hl109_1, hi109_1⟩ := at_T54 HR0.out 0 p109 q109
     cases e109
     have qi109 : (0 < l0.length) = True := eq_true (by omega)
     (try rw [show ((0 : Int)).toNat = 0 from rfl] at hx109_0)
     (try rw [show 0 * 2 = 0 from rfl] at hx109_0)
     (try rw [Addr.add_zero'] at hx109_0)
     (try rw [show ((0 : Int)).toNat = 0 from rfl] at hx109_1)
     (try rw [show 0 * 2 = 0 from rfl] at hx109_1)
     (try rw [Addr.add_zero'] at hx109_1)
     have HR109_1 := Aside0.mk hi109_1
     have HC109_1 := Aside0.mk hl109_1
     clear hi109_1 hl109_1
     replace p109 := eq_true p109
     replace q109 := eq_true q109
     go_wp2_with (first | (go_at_call 133; (with_reducible refine (spec_l01Name.calls k ((rd_T54 l0 0).f0) true _ A4.out).mono ?_); rintro e w' ⟨rfl, ⟨nd, rfl⟩⟩; (try first | exact ⟨rfl, _, World.drewN_drewN _ _ _⟩ | exact ⟨rfl, _, Eq.trans (World.drewN_drewN _ _ _) (congrArg (World.drewN _) (Nat.add_assoc _ _ _))⟩); (try (have p111 : 0 ≤ (0 : Int) := (by omega); have q111 : 0 < (l0.length : Int) := of_decide_eq_true (by first | (with_reducible assumption) | assumption); obtain ⟨ad111, A111_1, c111_1, e111, hx111_0, hx111_1, hl111_1, hi111_1⟩ := at_T54 HR0.out 0 p111 q111; obtain rfl : ad109 = ad111 := (by injection e111); have qi111 : (0 < l0.length) = True := eq_true (by omega); (try rw [show ((0 : Int)).toNat = 0 from rfl] at hx111_0); (try rw [show 0 * 2 = 0 from rfl] at hx111_0); (try rw [Addr.add_zero'] at hx111_0); (try rw [show ((0 : Int)).toNat = 0 from rfl] at hx111_1); (try rw [show 0 * 2 = 0 from rfl] at hx111_1); (try rw [Addr.add_zero'] at hx111_1); have HR111_1 := Aside0.mk hi111_1; have HC111_1 := Aside0.mk hl111_1; clear hi111_1 hl111_1; replace p111 := eq_true p111; replace q111 := eq_true q111; have ea_ := Option.some.inj (hx109_1.symm.trans hx111_1); injection ea_ with ea_ en_ ec_; subst ea_; subst ec_; clear en_; have p112 : 0 ≤ (0 : Int) := (by omega); have q112 : 0 < (l0.length : Int) := of_decide_eq_true (by first | (with_reducible assumption) | assumption); obtain ⟨ad112, A112_1, c112_1, e112, hx112_0, hx112_1, hl112_1, hi112_1⟩ := at_T54 HR0.out 0 p112 q112; obtain rfl : ad109 = ad112 := (by injection e112); have qi112 : (0 < l0.length) = True := eq_true (by omega); (try rw [show ((0 : Int)).toNat = 0 from rfl] at hx112_0); (try rw [show 0 * 2 = 0 from rfl] at hx112_0); (try rw [Addr.add_zero'] at hx112_0); (try rw [show ((0 : Int)).toNat = 0 from rfl] at hx112_1); (try rw [show 0 * 2 = 0 from rfl] at hx112_1); (try rw [Addr.add_zero'] at hx112_1); have HR112_1 := Aside0.mk hi112_1; have HC112_1 := Aside0.mk hl112_1; clear hi112_1 hl112_1; replace p112 := eq_true p112; replace q112 := eq_true q112; have ea_ := Option.some.inj (hx109_1.symm.trans hx112_1); injection ea_ with ea_ en_ ec_; subst ea_; subst ec_; clear en_))))
     (first | (have h_ := q112; clear h_) | (try (have p111 : 0 ≤ (0 : Int) := (by omega); have q111 : 0 < (l0.length : Int) := of_decide_eq_true (by first | (with_reducible assumption) | assumption); obtain ⟨ad111, A111_1, c111_1, e111, hx111_0, hx111_1, hl111_1, hi111_1⟩ := at_T54 HR0.out 0 p111 q111; obtain rfl : ad109 = ad111 := (by injection e111); have qi111 : (0 < l0.length) = True := eq_true (by omega); (try rw [show ((0 : Int)).toNat = 0 from rfl] at hx111_0); (try rw [show 0 * 2 = 0 from rfl] at hx111_0); (try rw [Addr.add_zero'] at hx111_0); (try rw [show ((0 : Int)).toNat = 0 from rfl] at hx111_1); (try rw [show 0 * 2 = 0 from rfl] at hx111_1); (try rw [Addr.add_zero'] at hx111_1); have HR111_1 := Aside0.mk hi111_1; have HC111_1 := Aside0.mk hl111_1; clear hi111_1 hl111_1; replace p111 := eq_true p111; replace q111 := eq_true q111; have ea_ := Option.some.inj (hx109_1.symm.trans hx111_1); injection ea_ with ea_ en_ ec_; subst ea_; subst ec_; clear en_; have p112 : 0 ≤ (0 : Int) := (by omega); have q112 : 0 < (l0.length : Int) := of_decide_eq_true (by first | (with_reducible assumption) | assumption); obtain ⟨ad112, A112_1, c112_1, e112, hx112_0, hx112_1, hl112_1, hi112_1⟩ := at_T54 HR0.out 0 p112 q112; obtain rfl : ad109 = ad112 := (by injection e112); have qi112 : (0 < l0.length) = True := eq_true (by omega); (try rw [show ((0 : Int)).toNat = 0 from rfl] at hx112_0); (try rw [show 0 * 2 = 0 from rfl] at hx112_0); (try rw [Addr.add_zero'] at hx112_0); (try rw [show ((0 : Int)).toNat = 0 from rfl] at hx112_1); (try rw [show 0 * 2 = 0 from rfl] at hx112_1); (try rw [Addr.add_zero'] at hx112_1); have HR112_1 := Aside0.mk hi112_1; have HC112_1 := Aside0.mk hl112_1; clear hi112_1 hl112_1; replace p112 := eq_true p112; replace q112 := eq_true q112; have ea_ := Option.some.inj (hx109_1.symm.trans hx112_1); injection ea_ with ea_ en_ ec_; subst ea_; subst ec_; clear en_)))
     repeat (go_quiet (first | (go_at_call 133; (with_reducible refine (spec_l01Name.calls k ((rd_T54 l0 0).f0) true _ A4.out).mono ?_); rintro e w' ⟨rfl, ⟨nd, rfl⟩⟩; (try first | exact ⟨rfl, _, World.drewN_drewN _ _ _⟩ | exact ⟨rfl, _, Eq.trans (World.drewN_drewN _ _ _) (congrArg (World.drewN _) (Nat.add_assoc _ _ _))⟩))); try go_wp2_with (first | (go_at_call 133; (with_reducible refine (spec_l01Name.calls k ((rd_T54 l0 0).f0) true _ A4.out).mono ?_); rintro e w' ⟨rfl, ⟨nd, rfl⟩⟩; (try first | exact ⟨rfl, _, World.drewN_drewN _ _ _⟩ | exact ⟨rfl, _, Eq.trans (World.drewN_drewN _ _ _) (congrArg (World.drewN _) (Nat.add_assoc _ _ _))⟩); (try (have p111 : 0 ≤ (0 : Int) := (by omega); have q111 : 0 < (l0.length : Int) := of_decide_eq_true (by first | (with_reducible assumption) | assumption); obtain ⟨ad111, A111_1, c111_1, e111, hx111_0, hx111_1, hl111_1, hi111_1⟩ := at_T54 HR0.out 0 p111 q111; obtain rfl : ad109 = ad111 := (by injection e111); have qi111 : (0 < l0.length) = True := eq_true (by omega); (try rw [show ((0 : Int)).toNat = 0 from rfl] at hx111_0); (try rw [show 0 * 2 = 0 from rfl] at hx111_0); (try rw [Addr.add_zero'] at hx111_0); (try rw [show ((0 : Int)).toNat = 0 from rfl] at hx111_1); (try rw [show 0 * 2 = 0 from rfl] at hx111_1); (try rw [Addr.add_zero'] at hx111_1); have HR111_1 := Aside0.mk hi111_1; have HC111_1 := Aside0.mk hl111_1; clear hi111_1 hl111_1; replace p111 := eq_true p111; replace q111 := eq_true q111; have ea_ := Option.some.inj (hx109_1.symm.trans hx111_1); injection ea_ with ea_ en_ ec_; subst ea_; subst ec_; clear en_; have p112 : 0 ≤ (0 : Int) := (by omega); have q112 : 0 < (l0.length : Int) := of_decide_eq_true (by first | (with_reducible assumption) | assumption); obtain ⟨ad112, A112_1, c112_1, e112, hx112_0, hx112_1, hl112_1, hi112_1⟩ := at_T54 HR0.out 0 p112 q112; obtain rfl : ad109 = ad112 := (by injection e112); have qi112 : (0 < l0.length) = True := eq_true (by omega); (try rw [show ((0 : Int)).toNat = 0 from rfl] at hx112_0); (try rw [show 0 * 2 = 0 from rfl] at hx112_0); (try rw [Addr.add_zero'] at hx112_0); (try rw [show ((0 : Int)).toNat = 0 from rfl] at hx112_1); (try rw [show 0 * 2 = 0 from rfl] at hx112_1); (try rw [Addr.add_zero'] at hx112_1); have HR112_1 := Aside0.mk hi112_1; have HC112_1 := Aside0.mk hl112_1; clear hi112_1 hl112_1; replace p112 := eq_true p112; replace q112 := eq_true q112; have ea_ := Option.some.inj (hx109_1.symm.trans hx112_1); injection ea_ with ea_ en_ ec_; subst ea_; subst ec_; clear en_)))))
     go_meet
     case rel => exact ⟨_, (decide ((((rd_T54 l0 0).f1).length : Int) > 8)), (by first | rfl | (simp; done) | (simp [*]; done)), H', ⟨by first | omega | exact Nat.le_refl _⟩, by repeat (first | exact Drawn0.refl _ | apply Drawn0.step)⟩
   ·replace c5 := Bool.eq_false_iff.mpr c5
    subst c5
    have H1 : (spec_l08Ok.j0 k l0 true) = some r := by rw [if_neg (show ¬ (false = true) by decide)] at H; exact H
    clear H
    have H := H1
    clear H1
    have H' := Aside0.mk H
    clear H
    have p109 : 0 ≤ (0 : Int) := (by omega)
    have q109 : 0 < (l0.length : Int) := of_decide_eq_true (by first | (with_reducible assumption) | assumption)
    obtain ⟨ad109, A109_1, c109_1, e109, hx109_0, hx109_1, hl109_1, hi109_1⟩ := at_T54 HR0.out 0 p109 q109
    cases e109
    have qi109 : (0 < l0.length) = True := eq_true (by omega)
    (try rw [show ((0 : Int)).toNat = 0 from rfl] at hx109_0)
    (try rw [show 0 * 2 = 0 from rfl] at hx109_0)
    (try rw [Addr.add_zero'] at hx109_0)
    (try rw [show ((0 : Int)).toNat = 0 from rfl] at hx109_1)
    (try rw [show 0 * 2 = 0 from rfl] at hx109_1)
    (try rw [Addr.add_zero'] at hx109_1)
    have HR109_1 := Aside0.mk hi109_1
    have HC109_1 := Aside0.mk hl109_1
    clear hi109_1 hl109_1
    replace p109 := eq_true p109
    replace q109 := eq_true q109
    go_wp2_with (first | (go_at_call 133; (with_reducible refine (spec_l01Name.calls k ((rd_T54 l0 0).f0) false _ A4.out).mono ?_); rintro e w' ⟨rfl, ⟨nd, rfl⟩⟩; (try first | exact ⟨rfl, _, World.drewN_drewN _ _ _⟩ | exact ⟨rfl, _, Eq.trans (World.drewN_drewN _ _ _) (congrArg (World.drewN _) (Nat.add_assoc _ _ _))⟩)))
    repeat (go_quiet (first | (go_at_call 133; (with_reducible refine (spec_l01Name.calls k ((rd_T54 l0 0).f0) false _ A4.out).mono ?_); rintro e w' ⟨rfl, ⟨nd, rfl⟩⟩; (try first | exact ⟨rfl, _, World.drewN_drewN _ _ _⟩ | exact ⟨rfl, _, Eq.trans (World.drewN_drewN _ _ _) (congrArg (World.drewN _) (Nat.add_assoc _ _ _))⟩))); try go_wp2_with (first | (go_at_call 133; (with_reducible refine (spec_l01Name.calls k ((rd_T54 l0 0).f0) false _ A4.out).mono ?_); rintro e w' ⟨rfl, ⟨nd, rfl⟩⟩; (try first | exact ⟨rfl, _, World.drewN_drewN _ _ _⟩ | exact ⟨rfl, _, Eq.trans (World.drewN_drewN _ _ _) (congrArg (World.drewN _) (Nat.add_assoc _ _ _))⟩))))
    go_meet
    case rel => exact ⟨_, (true), (by first | rfl | (simp; done) | (simp [*]; done)), H', ⟨by first | omega | exact Nat.le_refl _⟩, by repeat (first | exact Drawn0.refl _ | apply Drawn0.step)⟩
  ·rw [if_neg c3] at H
   exact absurd H (by simp)
 case rest =>
  clear HC2
  try clear c1
  try clear p1
  try clear q1
  try clear hx1
  try clear qi1
  try clear p2
  try clear c3
  try clear c3b0
  try clear c3b1
  try clear c5
  try clear c6
  try clear c6b0
  try clear c6b1
  try clear hx109_0
  try clear hx109_1
  try clear hx111_0
  try clear hx111_1
  try clear hx112_0
  try clear hx112_1
  try clear p109
  try clear p111
  try clear p112
  try clear q109
  try clear q111
  try clear q112
  obtain ⟨kq, x26_1, rfl, HA, HJ1, ⟨mc1, rfl⟩⟩ := hcut
  cases kq with
  | zero => exact absurd HA.out (by simp [spec_l08Ok.j0])
  | succ kj1 =>
   have H := HA.out
   clear HA
   simp only [spec_l08Ok.j0] at H
   by_cases c7 : x26_1 = true
   ·subst c7
    have H1 : (some false) = some r := by rw [if_pos rfl] at H; exact H
    clear H
    have H := H1
    clear H1
    obtain rfl := Option.some.inj H
    go_wp2
    repeat (go_quiet (fail); try go_wp2)
    go_ret
    exact ⟨by first | rfl | (simp; done) | (simp [*]; done), by repeat (first | exact Drawn0.refl _ | apply Drawn0.step)⟩
   ·replace c7 := Bool.eq_false_iff.mpr c7
    subst c7
    have H1 : (spec_l08Ok.l0 kj1 l0 0) = some r := by rw [if_neg (show ¬ (false = true) by decide)] at H; exact H
    clear H
    have H := H1
    clear H1
    have H' := Aside0.mk H
    clear H
    go_wp2
    repeat (go_quiet (fail); try go_wp2)
    go_loopg [3] kj1 (fun kq v3 w' => ∃ (x3_2 : Int), v3 = .int .i64 x3_2 ∧ Aside0 (spec_l08Ok.l0 kq l0 x3_2 = some r) ∧ Aside0 (kq ≤ kj1) ∧ Drawn0 w w')
    case atStart => exact ⟨(0), (by first | rfl | (simp; done) | (simp [*]; done)), H', ⟨Nat.le_refl _⟩, by repeat (first | exact Drawn0.refl _ | apply Drawn0.step)⟩
    case round =>
     clear H'
     try clear c1
     try clear p1
     try clear q1
     try clear hx1
     try clear qi1
     try clear p2
     try clear c3
     try clear c3b0
     try clear c3b1
     try clear c5
     try clear c6
     try clear c6b0
     try clear c6b1
     try clear c7
     try clear hx109_0
     try clear hx109_1
     try clear hx111_0
     try clear hx111_1
     try clear hx112_0
     try clear hx112_1
     try clear p1
     try clear p109
     try clear p111
     try clear p112
     try clear p2
     try clear q1
     try clear q109
     try clear q111
     try clear q112
     obtain ⟨x3_2, rfl, HA, HK2, ⟨m2, rfl⟩⟩ := hrel
     cases gk with
     | zero => exact absurd HA.out (by simp [spec_l08Ok.l0])
     | succ k2 =>
      have H := HA.out
      clear HA
      simp only [spec_l08Ok.l0] at H
      by_cases c8 : 0 < (l0.length : Int)
      ·rw [if_pos c8] at H
       have c8b0 : decide (0 < (l0.length : Int)) = true := decide_eq_true c8
       have c8b1 : decide (0 < l0.length) = true := decide_eq_true (by omega)
       clear c8
       by_cases c9 : x3_2 < (((rd_T54 l0 0).f1).length : Int)
       ·rw [if_pos c9] at H
        have c9b0 : decide (x3_2 < (((rd_T54 l0 0).f1).length : Int)) = true := decide_eq_true c9
        clear c9
        by_cases c10 : 0 ≤ x3_2
        ·rw [if_pos c10] at H
         have c10b0 : decide (0 ≤ x3_2) = true := decide_eq_true c10
         clear c10
         have HC11 := Aside0.mk H
         clear H
         have p113 : 0 ≤ (0 : Int) := (by omega)
         have q113 : 0 < (l0.length : Int) := of_decide_eq_true (by first | (with_reducible assumption) | assumption)
         obtain ⟨ad113, A113_1, c113_1, e113, hx113_0, hx113_1, hl113_1, hi113_1⟩ := at_T54 HR0.out 0 p113 q113
         cases e113
         have qi113 : (0 < l0.length) = True := eq_true (by omega)
         (try rw [show ((0 : Int)).toNat = 0 from rfl] at hx113_0)
         (try rw [show 0 * 2 = 0 from rfl] at hx113_0)
         (try rw [Addr.add_zero'] at hx113_0)
         (try rw [show ((0 : Int)).toNat = 0 from rfl] at hx113_1)
         (try rw [show 0 * 2 = 0 from rfl] at hx113_1)
         (try rw [Addr.add_zero'] at hx113_1)
         have HR113_1 := Aside0.mk hi113_1
         have HC113_1 := Aside0.mk hl113_1
         clear hi113_1 hl113_1
         replace p113 := eq_true p113
         replace q113 := eq_true q113
         have p114 : 0 ≤ (0 : Int) := (by omega)
         have q114 : 0 < (l0.length : Int) := of_decide_eq_true (by first | (with_reducible assumption) | assumption)
         obtain ⟨ad114, A114_1, c114_1, e114, hx114_0, hx114_1, hl114_1, hi114_1⟩ := at_T54 HR0.out 0 p114 q114
         obtain rfl : ad113 = ad114 := (by injection e114)
         have qi114 : (0 < l0.length) = True := eq_true (by omega)
         (try rw [show ((0 : Int)).toNat = 0 from rfl] at hx114_0)
         (try rw [show 0 * 2 = 0 from rfl] at hx114_0)
         (try rw [Addr.add_zero'] at hx114_0)
         (try rw [show ((0 : Int)).toNat = 0 from rfl] at hx114_1)
         (try rw [show 0 * 2 = 0 from rfl] at hx114_1)
         (try rw [Addr.add_zero'] at hx114_1)
         have HR114_1 := Aside0.mk hi114_1
         have HC114_1 := Aside0.mk hl114_1
         clear hi114_1 hl114_1
         replace p114 := eq_true p114
         replace q114 := eq_true q114
         have ea_ := Option.some.inj (hx113_1.symm.trans hx114_1)
         injection ea_ with ea_ en_ ec_
         subst ea_
         subst ec_
         clear en_
         have p115 : 0 ≤ (x3_2 : Int) := of_decide_eq_true (by first | (with_reducible assumption) | assumption)
         have q115 : x3_2 < (((rd_T54 l0 0).f1).length : Int) := of_decide_eq_true (by first | (with_reducible assumption) | assumption)
         obtain ⟨ad115, A115_0, c115_0, e115, hx115_0, hl115_0, hi115_0⟩ := at_L1 HR114_1.out x3_2 p115 q115
         cases e115
         have HR115_0 := Aside0.mk hi115_0
         have HC115_0 := Aside0.mk hl115_0
         clear hi115_0 hl115_0
         replace p115 := eq_true p115
         replace q115 := eq_true q115
         go_upto_region 7 with (fail)
         repeat (go_quiet (fail); go_upto_region 7 with (fail))
         go_cut [59] (fun v59 wc => ∃ (kq : Nat) (x59_10 : Bool), v59 = .bool x59_10 ∧ Aside0 (spec_l08Ok.j2 kq l0 x3_2 (rd_L1 ((rd_T54 l0 0).f1) x3_2) x59_10 = some r) ∧ Aside0 (kq ≤ k2) ∧ Drawn0 w wc)
         case first =>
          have H := HC11.out
          clear HC11
          by_cases c12 : ((rd_L1 ((rd_T54 l0 0).f1) x3_2).length : Int) = 2
          ·rw [if_pos c12] at H
           have c12b0 : (((rd_L1 ((rd_T54 l0 0).f1) x3_2).length : Int) == 2) = true := beq_iff_eq.mpr c12
           have c12b1 : (((rd_L1 ((rd_T54 l0 0).f1) x3_2).length : Int) != 2) = false := bne_eq_false_iff_eq.mpr c12
           clear c12
           (first | rw [c12b0] | (simp only [i64_w, i32_w]; rw [c12b0]) | skip)
           by_cases c13 : 0 < ((rd_L1 ((rd_T54 l0 0).f1) x3_2).length : Int)
           ·rw [if_pos c13] at H
            have c13b0 : decide (0 < ((rd_L1 ((rd_T54 l0 0).f1) x3_2).length : Int)) = true := decide_eq_true c13
            have c13b1 : decide (0 < (rd_L1 ((rd_T54 l0 0).f1) x3_2).length) = true := decide_eq_true (by omega)
            clear c13
            replace H := Option.bind_eq_some_iff.mp H
            obtain ⟨t117, A140, H⟩ := H
            replace H : (if t117 = true then (if 1 < ((rd_L1 ((rd_T54 l0 0).f1) x3_2).length : Int) then ((spec_l00In.f (rd (rd_L1 ((rd_T54 l0 0).f1) x3_2) 1) 0 2000000).bind fun t119 => (spec_l08Ok.j2 k2 l0 x3_2 (rd_L1 ((rd_T54 l0 0).f1) x3_2) (!t119))) else (none)) else (spec_l08Ok.j2 k2 l0 x3_2 (rd_L1 ((rd_T54 l0 0).f1) x3_2) true)) = some r := H
            have A14 := Aside0.mk A140
            clear A140
            by_cases c15 : t117 = true
            ·subst c15
             have H1 : (if 1 < ((rd_L1 ((rd_T54 l0 0).f1) x3_2).length : Int) then ((spec_l00In.f (rd (rd_L1 ((rd_T54 l0 0).f1) x3_2) 1) 0 2000000).bind fun t119 => (spec_l08Ok.j2 k2 l0 x3_2 (rd_L1 ((rd_T54 l0 0).f1) x3_2) (!t119))) else (none)) = some r := by rw [if_pos rfl] at H; exact H
             clear H
             have H := H1
             clear H1
             by_cases c16 : 1 < ((rd_L1 ((rd_T54 l0 0).f1) x3_2).length : Int)
             ·rw [if_pos c16] at H
              have c16b0 : decide (1 < ((rd_L1 ((rd_T54 l0 0).f1) x3_2).length : Int)) = true := decide_eq_true c16
              have c16b1 : decide (1 < (rd_L1 ((rd_T54 l0 0).f1) x3_2).length) = true := decide_eq_true (by omega)
              clear c16
              replace H := Option.bind_eq_some_iff.mp H
              obtain ⟨t119, A170, H⟩ := H
              replace H : (spec_l08Ok.j2 k2 l0 x3_2 (rd_L1 ((rd_T54 l0 0).f1) x3_2) (!t119)) = some r := H
              have A17 := Aside0.mk A170
              clear A170
              have H' := Aside0.mk H
              clear H
              have p116 : 0 ≤ (0 : Int) := (by omega)
              have q116 : 0 < ((rd_L1 ((rd_T54 l0 0).f1) x3_2).length : Int) := of_decide_eq_true (by first | (with_reducible assumption) | assumption)
              obtain ⟨ad116, e116, hx116_0⟩ := Kd.at_int HR115_0.out 0 p116 q116
              cases e116
              have qi116 : (0 < (rd_L1 ((rd_T54 l0 0).f1) x3_2).length) = True := eq_true (by omega)
              (try rw [show ((0 : Int)).toNat = 0 from rfl] at hx116_0)
              (try rw [Addr.add_zero'] at hx116_0)
              replace p116 := eq_true p116
              replace q116 := eq_true q116
              go_wp2_with (first | (go_at_call 83; (with_reducible refine (spec_l02Flow.calls (rd (rd_L1 ((rd_T54 l0 0).f1) x3_2) 0) true _ A14.out).mono ?_); rintro e w' ⟨rfl, ⟨nd, rfl⟩⟩; (try first | exact ⟨rfl, _, World.drewN_drewN _ _ _⟩ | exact ⟨rfl, _, Eq.trans (World.drewN_drewN _ _ _) (congrArg (World.drewN _) (Nat.add_assoc _ _ _))⟩); (try (have p118 : 0 ≤ (1 : Int) := (by omega); have q118 : 1 < ((rd_L1 ((rd_T54 l0 0).f1) x3_2).length : Int) := of_decide_eq_true (by first | (with_reducible assumption) | assumption); obtain ⟨ad118, e118, hx118_0⟩ := Kd.at_int HR115_0.out 1 p118 q118; obtain rfl : ad116 = ad118 := (by injection e118); (try simp only [show (1 : Int).toNat = 1 from rfl, Nat.reduceMul, Nat.reduceEqDiff, Go.Addr.add, ↓reduceIte] at hx118_0); have qi118 : (1 < (rd_L1 ((rd_T54 l0 0).f1) x3_2).length) = True := eq_true (by omega); (try rw [show ((1 : Int)).toNat = 1 from rfl] at hx118_0); replace p118 := eq_true p118; replace q118 := eq_true q118))) | (go_at_call 60; (with_reducible refine (spec_l00In.calls (rd (rd_L1 ((rd_T54 l0 0).f1) x3_2) 1) 0 2000000 t119 _ A17.out).mono ?_); rintro e w' ⟨rfl, ⟨nd, rfl⟩⟩; (try first | exact ⟨rfl, _, World.drewN_drewN _ _ _⟩ | exact ⟨rfl, _, Eq.trans (World.drewN_drewN _ _ _) (congrArg (World.drewN _) (Nat.add_assoc _ _ _))⟩)))
              (first | (have h_ := q118; clear h_) | (try (have p118 : 0 ≤ (1 : Int) := (by omega); have q118 : 1 < ((rd_L1 ((rd_T54 l0 0).f1) x3_2).length : Int) := of_decide_eq_true (by first | (with_reducible assumption) | assumption); obtain ⟨ad118, e118, hx118_0⟩ := Kd.at_int HR115_0.out 1 p118 q118; obtain rfl : ad116 = ad118 := (by injection e118); (try simp only [show (1 : Int).toNat = 1 from rfl, Nat.reduceMul, Nat.reduceEqDiff, Go.Addr.add, ↓reduceIte] at hx118_0); have qi118 : (1 < (rd_L1 ((rd_T54 l0 0).f1) x3_2).length) = True := eq_true (by omega); (try rw [show ((1 : Int)).toNat = 1 from rfl] at hx118_0); replace p118 := eq_true p118; replace q118 := eq_true q118)))
              repeat (go_quiet (first | (go_at_call 83; (with_reducible refine (spec_l02Flow.calls (rd (rd_L1 ((rd_T54 l0 0).f1) x3_2) 0) true _ A14.out).mono ?_); rintro e w' ⟨rfl, ⟨nd, rfl⟩⟩; (try first | exact ⟨rfl, _, World.drewN_drewN _ _ _⟩ | exact ⟨rfl, _, Eq.trans (World.drewN_drewN _ _ _) (congrArg (World.drewN _) (Nat.add_assoc _ _ _))⟩)) | (go_at_call 60; (with_reducible refine (spec_l00In.calls (rd (rd_L1 ((rd_T54 l0 0).f1) x3_2) 1) 0 2000000 t119 _ A17.out).mono ?_); rintro e w' ⟨rfl, ⟨nd, rfl⟩⟩; (try first | exact ⟨rfl, _, World.drewN_drewN _ _ _⟩ | exact ⟨rfl, _, Eq.trans (World.drewN_drewN _ _ _) (congrArg (World.drewN _) (Nat.add_assoc _ _ _))⟩))); try go_wp2_with (first | (go_at_call 83; (with_reducible refine (spec_l02Flow.calls (rd (rd_L1 ((rd_T54 l0 0).f1) x3_2) 0) true _ A14.out).mono ?_); rintro e w' ⟨rfl, ⟨nd, rfl⟩⟩; (try first | exact ⟨rfl, _, World.drewN_drewN _ _ _⟩ | exact ⟨rfl, _, Eq.trans (World.drewN_drewN _ _ _) (congrArg (World.drewN _) (Nat.add_assoc _ _ _))⟩); (try (have p118 : 0 ≤ (1 : Int) := (by omega); have q118 : 1 < ((rd_L1 ((rd_T54 l0 0).f1) x3_2).length : Int) := of_decide_eq_true (by first | (with_reducible assumption) | assumption); obtain ⟨ad118, e118, hx118_0⟩ := Kd.at_int HR115_0.out 1 p118 q118; obtain rfl : ad116 = ad118 := (by injection e118); (try simp only [show (1 : Int).toNat = 1 from rfl, Nat.reduceMul, Nat.reduceEqDiff, Go.Addr.add, ↓reduceIte] at hx118_0); have qi118 : (1 < (rd_L1 ((rd_T54 l0 0).f1) x3_2).length) = True := eq_true (by omega); (try rw [show ((1 : Int)).toNat = 1 from rfl] at hx118_0); replace p118 := eq_true p118; replace q118 := eq_true q118))) | (go_at_call 60; (with_reducible refine (spec_l00In.calls (rd (rd_L1 ((rd_T54 l0 0).f1) x3_2) 1) 0 2000000 t119 _ A17.out).mono ?_); rintro e w' ⟨rfl, ⟨nd, rfl⟩⟩; (try first | exact ⟨rfl, _, World.drewN_drewN _ _ _⟩ | exact ⟨rfl, _, Eq.trans (World.drewN_drewN _ _ _) (congrArg (World.drewN _) (Nat.add_assoc _ _ _))⟩))))
              go_meet
              case rel => exact ⟨_, (!t119), (by first | rfl | (simp; done) | (simp [*]; done)), H', ⟨by have := HJ1.out; have := HK2.out; first | omega | exact Nat.le_refl _⟩, by repeat (first | exact Drawn0.refl _ | apply Drawn0.step)⟩
             ·rw [if_neg c16] at H
              exact absurd H (by simp)
            ·replace c15 := Bool.eq_false_iff.mpr c15
             subst c15
             have H1 : (spec_l08Ok.j2 k2 l0 x3_2 (rd_L1 ((rd_T54 l0 0).f1) x3_2) true) = some r := by rw [if_neg (show ¬ (false = true) by decide)] at H; exact H
             clear H
             have H := H1
             clear H1
             have H' := Aside0.mk H
             clear H
             have p116 : 0 ≤ (0 : Int) := (by omega)
             have q116 : 0 < ((rd_L1 ((rd_T54 l0 0).f1) x3_2).length : Int) := of_decide_eq_true (by first | (with_reducible assumption) | assumption)
             obtain ⟨ad116, e116, hx116_0⟩ := Kd.at_int HR115_0.out 0 p116 q116
             cases e116
             have qi116 : (0 < (rd_L1 ((rd_T54 l0 0).f1) x3_2).length) = True := eq_true (by omega)
             (try rw [show ((0 : Int)).toNat = 0 from rfl] at hx116_0)
             (try rw [Addr.add_zero'] at hx116_0)
             replace p116 := eq_true p116
             replace q116 := eq_true q116
             go_wp2_with (first | (go_at_call 83; (with_reducible refine (spec_l02Flow.calls (rd (rd_L1 ((rd_T54 l0 0).f1) x3_2) 0) false _ A14.out).mono ?_); rintro e w' ⟨rfl, ⟨nd, rfl⟩⟩; (try first | exact ⟨rfl, _, World.drewN_drewN _ _ _⟩ | exact ⟨rfl, _, Eq.trans (World.drewN_drewN _ _ _) (congrArg (World.drewN _) (Nat.add_assoc _ _ _))⟩)))
             repeat (go_quiet (first | (go_at_call 83; (with_reducible refine (spec_l02Flow.calls (rd (rd_L1 ((rd_T54 l0 0).f1) x3_2) 0) false _ A14.out).mono ?_); rintro e w' ⟨rfl, ⟨nd, rfl⟩⟩; (try first | exact ⟨rfl, _, World.drewN_drewN _ _ _⟩ | exact ⟨rfl, _, Eq.trans (World.drewN_drewN _ _ _) (congrArg (World.drewN _) (Nat.add_assoc _ _ _))⟩))); try go_wp2_with (first | (go_at_call 83; (with_reducible refine (spec_l02Flow.calls (rd (rd_L1 ((rd_T54 l0 0).f1) x3_2) 0) false _ A14.out).mono ?_); rintro e w' ⟨rfl, ⟨nd, rfl⟩⟩; (try first | exact ⟨rfl, _, World.drewN_drewN _ _ _⟩ | exact ⟨rfl, _, Eq.trans (World.drewN_drewN _ _ _) (congrArg (World.drewN _) (Nat.add_assoc _ _ _))⟩))))
             go_meet
             case rel => exact ⟨_, (true), (by first | rfl | (simp; done) | (simp [*]; done)), H', ⟨by have := HJ1.out; have := HK2.out; first | omega | exact Nat.le_refl _⟩, by repeat (first | exact Drawn0.refl _ | apply Drawn0.step)⟩
           ·rw [if_neg c13] at H
            exact absurd H (by simp)
          ·rw [if_neg c12] at H
           have c12b0 : (((rd_L1 ((rd_T54 l0 0).f1) x3_2).length : Int) == 2) = false := beq_eq_false_iff_ne.mpr c12
           have c12b1 : (((rd_L1 ((rd_T54 l0 0).f1) x3_2).length : Int) != 2) = true := bne_iff_ne.mpr c12
           (first | rw [c12b0] | (simp only [i64_w, i32_w]; rw [c12b0]) | skip)
           have H' := Aside0.mk H
           clear H
           go_wp2
           repeat (go_quiet (fail); try go_wp2)
           go_meet
           case rel => exact ⟨_, (true), (by first | rfl | (simp; done) | (simp [*]; done)), H', ⟨by have := HJ1.out; have := HK2.out; first | omega | exact Nat.le_refl _⟩, by repeat (first | exact Drawn0.refl _ | apply Drawn0.step)⟩
         case rest =>
          clear HC11
          try clear c1
          try clear p1
          try clear q1
          try clear hx1
          try clear qi1
          try clear p2
          try clear c3
          try clear c3b0
          try clear c3b1
          try clear c5
          try clear c6
          try clear c6b0
          try clear c6b1
          try clear c7
          try clear c8
          try clear c8b0
          try clear c8b1
          try clear c9
          try clear c9b0
          try clear c10
          try clear c10b0
          try clear p10
          try clear q10
          try clear hx10
          try clear qi10
          try clear c11
          try clear p11
          try clear q11
          try clear hx11
          try clear qi11
          try clear c12
          try clear c12b0
          try clear c12b1
          try clear c13
          try clear c13b0
          try clear c13b1
          try clear c15
          try clear c16
          try clear c16b0
          try clear c16b1
          try clear hx109_0
          try clear hx109_1
          try clear hx111_0
          try clear hx111_1
          try clear hx112_0
          try clear hx112_1
          try clear hx113_0
          try clear hx113_1
          try clear hx114_0
          try clear hx114_1
          try clear hx115_0
          try clear hx116_0
          try clear hx118_0
          try clear p1
          try clear p109
          try clear p111
          try clear p112
          try clear p113
          try clear p114
          try clear p115
          try clear p116
          try clear p118
          try clear p2
          try clear q1
          try clear q109
          try clear q111
          try clear q112
          try clear q113
          try clear q114
          try clear q115
          try clear q116
          try clear q118
          obtain ⟨kq, x59_10, rfl, HA, HJ10, ⟨mc10, rfl⟩⟩ := hcut
          cases kq with
          | zero => exact absurd HA.out (by simp [spec_l08Ok.j2])
          | succ kj10 =>
           have H := HA.out
           clear HA
           simp only [spec_l08Ok.j2] at H
           by_cases c18 : x59_10 = true
           ·subst c18
            have H1 : (some false) = some r := by rw [if_pos rfl] at H; exact H
            clear H
            have H := H1
            clear H1
            obtain rfl := Option.some.inj H
            go_wp2
            repeat (go_quiet (fail); try go_wp2)
            go_ret
            exact ⟨by first | rfl | (simp; done) | (simp [*]; done), by repeat (first | exact Drawn0.refl _ | apply Drawn0.step)⟩
           ·replace c18 := Bool.eq_false_iff.mpr c18
            subst c18
            have H1 : (if x3_2 = 0 then (if 0 < ((rd_L1 ((rd_T54 l0 0).f1) x3_2).length : Int) then (if (rd (rd_L1 ((rd_T54 l0 0).f1) x3_2) 0) = 0 then (if x3_2 > 0 then (if 0 < (l0.length : Int) then (if 0 ≤ (wrap64 (x3_2 - 1)) then (if (wrap64 (x3_2 - 1)) < (((rd_T54 l0 0).f1).length : Int) then (if 0 < ((rd_L1 ((rd_T54 l0 0).f1) (wrap64 (x3_2 - 1))).length : Int) then (if (rd (rd_L1 ((rd_T54 l0 0).f1) (wrap64 (x3_2 - 1))) 0) ≥ (rd (rd_L1 ((rd_T54 l0 0).f1) x3_2) 0) then (spec_l08Ok.j3 kj10 l0 x3_2 true) else (if 1 < ((rd_L1 ((rd_T54 l0 0).f1) (wrap64 (x3_2 - 1))).length : Int) then (if 1 < ((rd_L1 ((rd_T54 l0 0).f1) x3_2).length : Int) then (spec_l08Ok.j3 kj10 l0 x3_2 (decide ((rd (rd_L1 ((rd_T54 l0 0).f1) (wrap64 (x3_2 - 1))) 1) < (rd (rd_L1 ((rd_T54 l0 0).f1) x3_2) 1)))) else (none)) else (none))) else (none)) else (none)) else (none)) else (none)) else (spec_l08Ok.j3 kj10 l0 x3_2 false)) else (spec_l08Ok.j3 kj10 l0 x3_2 true)) else (none)) else (if x3_2 > 0 then (if 0 < (l0.length : Int) then (if 0 ≤ (wrap64 (x3_2 - 1)) then (if (wrap64 (x3_2 - 1)) < (((rd_T54 l0 0).f1).length : Int) then (if 0 < ((rd_L1 ((rd_T54 l0 0).f1) (wrap64 (x3_2 - 1))).length : Int) then (if 0 < ((rd_L1 ((rd_T54 l0 0).f1) x3_2).length : Int) then (if (rd (rd_L1 ((rd_T54 l0 0).f1) (wrap64 (x3_2 - 1))) 0) ≥ (rd (rd_L1 ((rd_T54 l0 0).f1) x3_2) 0) then (spec_l08Ok.j3 kj10 l0 x3_2 true) else (if 1 < ((rd_L1 ((rd_T54 l0 0).f1) (wrap64 (x3_2 - 1))).length : Int) then (if 1 < ((rd_L1 ((rd_T54 l0 0).f1) x3_2).length : Int) then (spec_l08Ok.j3 kj10 l0 x3_2 (decide ((rd (rd_L1 ((rd_T54 l0 0).f1) (wrap64 (x3_2 - 1))) 1) < (rd (rd_L1 ((rd_T54 l0 0).f1) x3_2) 1)))) else (none)) else (none))) else (none)) else (none)) else (none)) else (none)) else (none)) else (spec_l08Ok.j3 kj10 l0 x3_2 false))) = some r := by rw [if_neg (show ¬ (false = true) by decide)] at H; exact H
            clear H
            have H := H1
            clear H1
            have HC19 := Aside0.mk H
            clear H
            go_upto_region 9 with (fail)
            repeat (go_quiet (fail); go_upto_region 9 with (fail))
            go_cut [103] (fun v103 wc => ∃ (kq : Nat) (x103_18 : Bool), v103 = .bool x103_18 ∧ Aside0 (spec_l08Ok.j3 kq l0 x3_2 x103_18 = some r) ∧ Aside0 (kq ≤ kj10) ∧ Drawn0 w wc)
            case first =>
             have H := HC19.out
             clear HC19
             by_cases c20 : x3_2 = 0
             ·rw [if_pos c20] at H
              have c20b0 : (x3_2 == 0) = true := beq_iff_eq.mpr c20
              have c20b1 : (x3_2 != 0) = false := bne_eq_false_iff_eq.mpr c20
              clear c20
              (first | rw [c20b0] | (simp only [i64_w, i32_w]; rw [c20b0]) | skip)
              by_cases c21 : 0 < ((rd_L1 ((rd_T54 l0 0).f1) x3_2).length : Int)
              ·rw [if_pos c21] at H
               have c21b0 : decide (0 < ((rd_L1 ((rd_T54 l0 0).f1) x3_2).length : Int)) = true := decide_eq_true c21
               have c21b1 : decide (0 < (rd_L1 ((rd_T54 l0 0).f1) x3_2).length) = true := decide_eq_true (by omega)
               clear c21
               by_cases c22 : (rd (rd_L1 ((rd_T54 l0 0).f1) x3_2) 0) = 0
               ·rw [if_pos c22] at H
                have c22b0 : ((rd (rd_L1 ((rd_T54 l0 0).f1) x3_2) 0) == 0) = true := beq_iff_eq.mpr c22
                have c22b1 : ((rd (rd_L1 ((rd_T54 l0 0).f1) x3_2) 0) != 0) = false := bne_eq_false_iff_eq.mpr c22
                clear c22
                by_cases c23 : x3_2 > 0
                ·rw [if_pos c23] at H
                 have c23b0 : decide (0 < x3_2) = true := decide_eq_true c23
                 clear c23
                 by_cases c24 : 0 < (l0.length : Int)
                 ·rw [if_pos c24] at H
                  have c24b0 : decide (0 < (l0.length : Int)) = true := decide_eq_true c24
                  have c24b1 : decide (0 < l0.length) = true := decide_eq_true (by omega)
                  clear c24
                  obtain ⟨ji25, hji25⟩ : ∃ j_ : Int, (wrap64 (x3_2 - 1)) = j_ := ⟨_, rfl⟩
                  replace H : (if 0 ≤ (ji25) then (if (ji25) < (((rd_T54 l0 0).f1).length : Int) then (if 0 < ((rd_L1 ((rd_T54 l0 0).f1) (ji25)).length : Int) then (if (rd (rd_L1 ((rd_T54 l0 0).f1) (ji25)) 0) ≥ (rd (rd_L1 ((rd_T54 l0 0).f1) x3_2) 0) then (spec_l08Ok.j3 kj10 l0 x3_2 true) else (if 1 < ((rd_L1 ((rd_T54 l0 0).f1) (ji25)).length : Int) then (if 1 < ((rd_L1 ((rd_T54 l0 0).f1) x3_2).length : Int) then (spec_l08Ok.j3 kj10 l0 x3_2 (decide ((rd (rd_L1 ((rd_T54 l0 0).f1) (ji25)) 1) < (rd (rd_L1 ((rd_T54 l0 0).f1) x3_2) 1)))) else (none)) else (none))) else (none)) else (none)) else (none)) = some r := by first | (rw [hji25] at H; exact H) | (simp only [hji25] at H ⊢; exact H)
                  have hji25w : (IntKind.i64.wrap (x3_2 - 1)) = ji25 := (i64_w _).trans hji25
                  by_cases c26 : 0 ≤ (ji25)
                  ·rw [if_pos c26] at H
                   have c26b0 : decide (0 ≤ (ji25)) = true := decide_eq_true c26
                   clear c26
                   by_cases c27 : (ji25) < (((rd_T54 l0 0).f1).length : Int)
                   ·rw [if_pos c27] at H
                    have c27b0 : decide ((ji25) < (((rd_T54 l0 0).f1).length : Int)) = true := decide_eq_true c27
                    clear c27
                    by_cases c28 : 0 < ((rd_L1 ((rd_T54 l0 0).f1) (ji25)).length : Int)
                    ·rw [if_pos c28] at H
                     have c28b0 : decide (0 < ((rd_L1 ((rd_T54 l0 0).f1) (ji25)).length : Int)) = true := decide_eq_true c28
                     have c28b1 : decide (0 < (rd_L1 ((rd_T54 l0 0).f1) (ji25)).length) = true := decide_eq_true (by omega)
                     clear c28
                     by_cases c29 : (rd (rd_L1 ((rd_T54 l0 0).f1) (ji25)) 0) ≥ (rd (rd_L1 ((rd_T54 l0 0).f1) x3_2) 0)
                     ·rw [if_pos c29] at H
                      have c29b0 : decide ((rd (rd_L1 ((rd_T54 l0 0).f1) x3_2) 0) ≤ (rd (rd_L1 ((rd_T54 l0 0).f1) (ji25)) 0)) = true := decide_eq_true c29
                      clear c29
                      have H' := Aside0.mk H
                      clear H
                      have p120 : 0 ≤ (0 : Int) := (by omega)
                      have q120 : 0 < ((rd_L1 ((rd_T54 l0 0).f1) x3_2).length : Int) := of_decide_eq_true (by first | (with_reducible assumption) | assumption)
                      obtain ⟨ad120, e120, hx120_0⟩ := Kd.at_int HR115_0.out 0 p120 q120
                      cases e120
                      have qi120 : (0 < (rd_L1 ((rd_T54 l0 0).f1) x3_2).length) = True := eq_true (by omega)
                      (try rw [show ((0 : Int)).toNat = 0 from rfl] at hx120_0)
                      (try rw [Addr.add_zero'] at hx120_0)
                      replace p120 := eq_true p120
                      replace q120 := eq_true q120
                      have p121 : 0 ≤ (0 : Int) := (by omega)
                      have q121 : 0 < (l0.length : Int) := of_decide_eq_true (by first | (with_reducible assumption) | assumption)
                      obtain ⟨ad121, A121_1, c121_1, e121, hx121_0, hx121_1, hl121_1, hi121_1⟩ := at_T54 HR0.out 0 p121 q121
                      obtain rfl : ad113 = ad121 := (by injection e121)
                      have qi121 : (0 < l0.length) = True := eq_true (by omega)
                      (try rw [show ((0 : Int)).toNat = 0 from rfl] at hx121_0)
                      (try rw [show 0 * 2 = 0 from rfl] at hx121_0)
                      (try rw [Addr.add_zero'] at hx121_0)
                      (try rw [show ((0 : Int)).toNat = 0 from rfl] at hx121_1)
                      (try rw [show 0 * 2 = 0 from rfl] at hx121_1)
                      (try rw [Addr.add_zero'] at hx121_1)
                      have HR121_1 := Aside0.mk hi121_1
                      have HC121_1 := Aside0.mk hl121_1
                      clear hi121_1 hl121_1
                      replace p121 := eq_true p121
                      replace q121 := eq_true q121
                      have p122 : 0 ≤ ((ji25) : Int) := of_decide_eq_true (by first | (with_reducible assumption) | assumption)
                      have q122 : (ji25) < (((rd_T54 l0 0).f1).length : Int) := of_decide_eq_true (by first | (with_reducible assumption) | assumption)
                      obtain ⟨ad122, A122_0, c122_0, e122, hx122_0, hl122_0, hi122_0⟩ := at_L1 HR121_1.out (ji25) p122 q122
                      cases e122
                      have HR122_0 := Aside0.mk hi122_0
                      have HC122_0 := Aside0.mk hl122_0
                      clear hi122_0 hl122_0
                      replace p122 := eq_true p122
                      replace q122 := eq_true q122
                      have p123 : 0 ≤ (0 : Int) := (by omega)
                      have q123 : 0 < ((rd_L1 ((rd_T54 l0 0).f1) (ji25)).length : Int) := of_decide_eq_true (by first | (with_reducible assumption) | assumption)
                      obtain ⟨ad123, e123, hx123_0⟩ := Kd.at_int HR122_0.out 0 p123 q123
                      cases e123
                      have qi123 : (0 < (rd_L1 ((rd_T54 l0 0).f1) (ji25)).length) = True := eq_true (by omega)
                      (try rw [show ((0 : Int)).toNat = 0 from rfl] at hx123_0)
                      (try rw [Addr.add_zero'] at hx123_0)
                      replace p123 := eq_true p123
                      replace q123 := eq_true q123
                      have p124 : 0 ≤ (0 : Int) := (by omega)
                      have q124 : 0 < ((rd_L1 ((rd_T54 l0 0).f1) x3_2).length : Int) := of_decide_eq_true (by first | (with_reducible assumption) | assumption)
                      obtain ⟨ad124, e124, hx124_0⟩ := Kd.at_int HR115_0.out 0 p124 q124
                      obtain rfl : ad120 = ad124 := (by injection e124)
                      have qi124 : (0 < (rd_L1 ((rd_T54 l0 0).f1) x3_2).length) = True := eq_true (by omega)
                      (try rw [show ((0 : Int)).toNat = 0 from rfl] at hx124_0)
                      (try rw [Addr.add_zero'] at hx124_0)
                      replace p124 := eq_true p124
                      replace q124 := eq_true q124
                      go_wp2
                      repeat (go_quiet (fail); try go_wp2)
                      go_meet
                      case rel => exact ⟨_, (true), (by first | rfl | (simp; done) | (simp [*]; done)), H', ⟨by have := HJ1.out; have := HK2.out; have := HJ10.out; first | omega | exact Nat.le_refl _⟩, by repeat (first | exact Drawn0.refl _ | apply Drawn0.step)⟩
                     ·rw [if_neg c29] at H
                      have c29b0 : decide ((rd (rd_L1 ((rd_T54 l0 0).f1) x3_2) 0) ≤ (rd (rd_L1 ((rd_T54 l0 0).f1) (ji25)) 0)) = false := decide_eq_false c29
                      clear c29
                      by_cases c30 : 1 < ((rd_L1 ((rd_T54 l0 0).f1) (ji25)).length : Int)
                      ·rw [if_pos c30] at H
                       have c30b0 : decide (1 < ((rd_L1 ((rd_T54 l0 0).f1) (ji25)).length : Int)) = true := decide_eq_true c30
                       have c30b1 : decide (1 < (rd_L1 ((rd_T54 l0 0).f1) (ji25)).length) = true := decide_eq_true (by omega)
                       clear c30
                       by_cases c31 : 1 < ((rd_L1 ((rd_T54 l0 0).f1) x3_2).length : Int)
                       ·rw [if_pos c31] at H
                        have c31b0 : decide (1 < ((rd_L1 ((rd_T54 l0 0).f1) x3_2).length : Int)) = true := decide_eq_true c31
                        have c31b1 : decide (1 < (rd_L1 ((rd_T54 l0 0).f1) x3_2).length) = true := decide_eq_true (by omega)
                        clear c31
                        have H' := Aside0.mk H
                        clear H
                        have p120 : 0 ≤ (0 : Int) := (by omega)
                        have q120 : 0 < ((rd_L1 ((rd_T54 l0 0).f1) x3_2).length : Int) := of_decide_eq_true (by first | (with_reducible assumption) | assumption)
                        obtain ⟨ad120, e120, hx120_0⟩ := Kd.at_int HR115_0.out 0 p120 q120
                        cases e120
                        have qi120 : (0 < (rd_L1 ((rd_T54 l0 0).f1) x3_2).length) = True := eq_true (by omega)
                        (try rw [show ((0 : Int)).toNat = 0 from rfl] at hx120_0)
                        (try rw [Addr.add_zero'] at hx120_0)
                        replace p120 := eq_true p120
                        replace q120 := eq_true q120
                        have p121 : 0 ≤ (0 : Int) := (by omega)
                        have q121 : 0 < (l0.length : Int) := of_decide_eq_true (by first | (with_reducible assumption) | assumption)
                        obtain ⟨ad121, A121_1, c121_1, e121, hx121_0, hx121_1, hl121_1, hi121_1⟩ := at_T54 HR0.out 0 p121 q121
                        obtain rfl : ad113 = ad121 := (by injection e121)
                        have qi121 : (0 < l0.length) = True := eq_true (by omega)
                        (try rw [show ((0 : Int)).toNat = 0 from rfl] at hx121_0)
                        (try rw [show 0 * 2 = 0 from rfl] at hx121_0)
                        (try rw [Addr.add_zero'] at hx121_0)
                        (try rw [show ((0 : Int)).toNat = 0 from rfl] at hx121_1)
                        (try rw [show 0 * 2 = 0 from rfl] at hx121_1)
                        (try rw [Addr.add_zero'] at hx121_1)
                        have HR121_1 := Aside0.mk hi121_1
                        have HC121_1 := Aside0.mk hl121_1
                        clear hi121_1 hl121_1
                        replace p121 := eq_true p121
                        replace q121 := eq_true q121
                        have p122 : 0 ≤ ((ji25) : Int) := of_decide_eq_true (by first | (with_reducible assumption) | assumption)
                        have q122 : (ji25) < (((rd_T54 l0 0).f1).length : Int) := of_decide_eq_true (by first | (with_reducible assumption) | assumption)
                        obtain ⟨ad122, A122_0, c122_0, e122, hx122_0, hl122_0, hi122_0⟩ := at_L1 HR121_1.out (ji25) p122 q122
                        cases e122
                        have HR122_0 := Aside0.mk hi122_0
                        have HC122_0 := Aside0.mk hl122_0
                        clear hi122_0 hl122_0
                        replace p122 := eq_true p122
                        replace q122 := eq_true q122
                        have p123 : 0 ≤ (0 : Int) := (by omega)
                        have q123 : 0 < ((rd_L1 ((rd_T54 l0 0).f1) (ji25)).length : Int) := of_decide_eq_true (by first | (with_reducible assumption) | assumption)
                        obtain ⟨ad123, e123, hx123_0⟩ := Kd.at_int HR122_0.out 0 p123 q123
                        cases e123
                        have qi123 : (0 < (rd_L1 ((rd_T54 l0 0).f1) (ji25)).length) = True := eq_true (by omega)
                        (try rw [show ((0 : Int)).toNat = 0 from rfl] at hx123_0)
                        (try rw [Addr.add_zero'] at hx123_0)
                        replace p123 := eq_true p123
                        replace q123 := eq_true q123
                        have p124 : 0 ≤ (0 : Int) := (by omega)
                        have q124 : 0 < ((rd_L1 ((rd_T54 l0 0).f1) x3_2).length : Int) := of_decide_eq_true (by first | (with_reducible assumption) | assumption)
                        obtain ⟨ad124, e124, hx124_0⟩ := Kd.at_int HR115_0.out 0 p124 q124
                        obtain rfl : ad120 = ad124 := (by injection e124)
                        have qi124 : (0 < (rd_L1 ((rd_T54 l0 0).f1) x3_2).length) = True := eq_true (by omega)
                        (try rw [show ((0 : Int)).toNat = 0 from rfl] at hx124_0)
                        (try rw [Addr.add_zero'] at hx124_0)
                        replace p124 := eq_true p124
                        replace q124 := eq_true q124
                        have p125 : 0 ≤ (0 : Int) := (by omega)
                        have q125 : 0 < (l0.length : Int) := of_decide_eq_true (by first | (with_reducible assumption) | assumption)
                        obtain ⟨ad125, A125_1, c125_1, e125, hx125_0, hx125_1, hl125_1, hi125_1⟩ := at_T54 HR0.out 0 p125 q125
                        obtain rfl : ad113 = ad125 := (by injection e125)
                        have qi125 : (0 < l0.length) = True := eq_true (by omega)
                        (try rw [show ((0 : Int)).toNat = 0 from rfl] at hx125_0)
                        (try rw [show 0 * 2 = 0 from rfl] at hx125_0)
                        (try rw [Addr.add_zero'] at hx125_0)
                        (try rw [show ((0 : Int)).toNat = 0 from rfl] at hx125_1)
                        (try rw [show 0 * 2 = 0 from rfl] at hx125_1)
                        (try rw [Addr.add_zero'] at hx125_1)
                        have HR125_1 := Aside0.mk hi125_1
                        have HC125_1 := Aside0.mk hl125_1
                        clear hi125_1 hl125_1
                        replace p125 := eq_true p125
                        replace q125 := eq_true q125
                        have ea_ := Option.some.inj (hx121_1.symm.trans hx125_1)
                        injection ea_ with ea_ en_ ec_
                        subst ea_
                        subst ec_
                        clear en_
                        have p126 : 0 ≤ ((ji25) : Int) := of_decide_eq_true (by first | (with_reducible assumption) | assumption)
                        have q126 : (ji25) < (((rd_T54 l0 0).f1).length : Int) := of_decide_eq_true (by first | (with_reducible assumption) | assumption)
                        obtain ⟨ad126, A126_0, c126_0, e126, hx126_0, hl126_0, hi126_0⟩ := at_L1 HR125_1.out (ji25) p126 q126
                        cases e126
                        have HR126_0 := Aside0.mk hi126_0
                        have HC126_0 := Aside0.mk hl126_0
                        clear hi126_0 hl126_0
                        (try (have ea_ := Option.some.inj (hx122_0.symm.trans hx126_0); injection ea_ with ea_ en_ ec_; (first | subst ea_ | (injection ea_ with ea_; subst ea_)); subst ec_; clear en_))
                        replace p126 := eq_true p126
                        replace q126 := eq_true q126
                        have p127 : 0 ≤ (1 : Int) := (by omega)
                        have q127 : 1 < ((rd_L1 ((rd_T54 l0 0).f1) (ji25)).length : Int) := of_decide_eq_true (by first | (with_reducible assumption) | assumption)
                        obtain ⟨ad127, e127, hx127_0⟩ := Kd.at_int HR126_0.out 1 p127 q127
                        cases e127
                        (try simp only [show (1 : Int).toNat = 1 from rfl, Nat.reduceMul, Nat.reduceEqDiff, Go.Addr.add, ↓reduceIte] at hx127_0)
                        have qi127 : (1 < (rd_L1 ((rd_T54 l0 0).f1) (ji25)).length) = True := eq_true (by omega)
                        (try rw [show ((1 : Int)).toNat = 1 from rfl] at hx127_0)
                        replace p127 := eq_true p127
                        replace q127 := eq_true q127
                        have p128 : 0 ≤ (1 : Int) := (by omega)
                        have q128 : 1 < ((rd_L1 ((rd_T54 l0 0).f1) x3_2).length : Int) := of_decide_eq_true (by first | (with_reducible assumption) | assumption)
                        obtain ⟨ad128, e128, hx128_0⟩ := Kd.at_int HR115_0.out 1 p128 q128
                        obtain rfl : ad120 = ad128 := (by injection e128)
                        (try simp only [show (1 : Int).toNat = 1 from rfl, Nat.reduceMul, Nat.reduceEqDiff, Go.Addr.add, ↓reduceIte] at hx128_0)
                        have qi128 : (1 < (rd_L1 ((rd_T54 l0 0).f1) x3_2).length) = True := eq_true (by omega)
                        (try rw [show ((1 : Int)).toNat = 1 from rfl] at hx128_0)
                        replace p128 := eq_true p128
                        replace q128 := eq_true q128
                        go_wp2
                        repeat (go_quiet (fail); try go_wp2)
                        go_meet
                        case rel => exact ⟨_, (decide ((rd (rd_L1 ((rd_T54 l0 0).f1) (ji25)) 1) < (rd (rd_L1 ((rd_T54 l0 0).f1) x3_2) 1))), (by first | rfl | (simp; done) | (simp only [← hji25] <;> (first | rfl | simp)) | (simp [*]; done)), H', ⟨by have := HJ1.out; have := HK2.out; have := HJ10.out; first | omega | exact Nat.le_refl _⟩, by repeat (first | exact Drawn0.refl _ | apply Drawn0.step)⟩
                       ·rw [if_neg c31] at H
                        exact absurd H (by simp)
                      ·rw [if_neg c30] at H
                       exact absurd H (by simp)
                    ·rw [if_neg c28] at H
                     exact absurd H (by simp)
                   ·rw [if_neg c27] at H
                    exact absurd H (by simp)
                  ·rw [if_neg c26] at H
                   exact absurd H (by simp)
                 ·rw [if_neg c24] at H
                  exact absurd H (by simp)
                ·rw [if_neg c23] at H
                 have c23b0 : decide (0 < x3_2) = false := decide_eq_false c23
                 clear c23
                 have H' := Aside0.mk H
                 clear H
                 have p120 : 0 ≤ (0 : Int) := (by omega)
                 have q120 : 0 < ((rd_L1 ((rd_T54 l0 0).f1) x3_2).length : Int) := of_decide_eq_true (by first | (with_reducible assumption) | assumption)
                 obtain ⟨ad120, e120, hx120_0⟩ := Kd.at_int HR115_0.out 0 p120 q120
                 cases e120
                 have qi120 : (0 < (rd_L1 ((rd_T54 l0 0).f1) x3_2).length) = True := eq_true (by omega)
                 (try rw [show ((0 : Int)).toNat = 0 from rfl] at hx120_0)
                 (try rw [Addr.add_zero'] at hx120_0)
                 replace p120 := eq_true p120
                 replace q120 := eq_true q120
                 go_wp2
                 repeat (go_quiet (fail); try go_wp2)
                 go_meet
                 case rel => exact ⟨_, (false), (by first | rfl | (simp; done) | (simp [*]; done)), H', ⟨by have := HJ1.out; have := HK2.out; have := HJ10.out; first | omega | exact Nat.le_refl _⟩, by repeat (first | exact Drawn0.refl _ | apply Drawn0.step)⟩
               ·rw [if_neg c22] at H
                have c22b0 : ((rd (rd_L1 ((rd_T54 l0 0).f1) x3_2) 0) == 0) = false := beq_eq_false_iff_ne.mpr c22
                have c22b1 : ((rd (rd_L1 ((rd_T54 l0 0).f1) x3_2) 0) != 0) = true := bne_iff_ne.mpr c22
                have H' := Aside0.mk H
                clear H
                have p120 : 0 ≤ (0 : Int) := (by omega)
                have q120 : 0 < ((rd_L1 ((rd_T54 l0 0).f1) x3_2).length : Int) := of_decide_eq_true (by first | (with_reducible assumption) | assumption)
                obtain ⟨ad120, e120, hx120_0⟩ := Kd.at_int HR115_0.out 0 p120 q120
                cases e120
                have qi120 : (0 < (rd_L1 ((rd_T54 l0 0).f1) x3_2).length) = True := eq_true (by omega)
                (try rw [show ((0 : Int)).toNat = 0 from rfl] at hx120_0)
                (try rw [Addr.add_zero'] at hx120_0)
                replace p120 := eq_true p120
                replace q120 := eq_true q120
                go_wp2
                repeat (go_quiet (fail); try go_wp2)
                go_meet
                case rel => exact ⟨_, (true), (by first | rfl | (simp; done) | (simp [*]; done)), H', ⟨by have := HJ1.out; have := HK2.out; have := HJ10.out; first | omega | exact Nat.le_refl _⟩, by repeat (first | exact Drawn0.refl _ | apply Drawn0.step)⟩
              ·rw [if_neg c21] at H
               exact absurd H (by simp)
             ·rw [if_neg c20] at H
              have c20b0 : (x3_2 == 0) = false := beq_eq_false_iff_ne.mpr c20
              have c20b1 : (x3_2 != 0) = true := bne_iff_ne.mpr c20
              (first | rw [c20b0] | (simp only [i64_w, i32_w]; rw [c20b0]) | skip)
              by_cases c32 : x3_2 > 0
              ·rw [if_pos c32] at H
               have c32b0 : decide (0 < x3_2) = true := decide_eq_true c32
               clear c32
               by_cases c33 : 0 < (l0.length : Int)
               ·rw [if_pos c33] at H
                have c33b0 : decide (0 < (l0.length : Int)) = true := decide_eq_true c33
                have c33b1 : decide (0 < l0.length) = true := decide_eq_true (by omega)
                clear c33
                obtain ⟨ji34, hji34⟩ : ∃ j_ : Int, (wrap64 (x3_2 - 1)) = j_ := ⟨_, rfl⟩
                replace H : (if 0 ≤ (ji34) then (if (ji34) < (((rd_T54 l0 0).f1).length : Int) then (if 0 < ((rd_L1 ((rd_T54 l0 0).f1) (ji34)).length : Int) then (if 0 < ((rd_L1 ((rd_T54 l0 0).f1) x3_2).length : Int) then (if (rd (rd_L1 ((rd_T54 l0 0).f1) (ji34)) 0) ≥ (rd (rd_L1 ((rd_T54 l0 0).f1) x3_2) 0) then (spec_l08Ok.j3 kj10 l0 x3_2 true) else (if 1 < ((rd_L1 ((rd_T54 l0 0).f1) (ji34)).length : Int) then (if 1 < ((rd_L1 ((rd_T54 l0 0).f1) x3_2).length : Int) then (spec_l08Ok.j3 kj10 l0 x3_2 (decide ((rd (rd_L1 ((rd_T54 l0 0).f1) (ji34)) 1) < (rd (rd_L1 ((rd_T54 l0 0).f1) x3_2) 1)))) else (none)) else (none))) else (none)) else (none)) else (none)) else (none)) = some r := by first | (rw [hji34] at H; exact H) | (simp only [hji34] at H ⊢; exact H)
                have hji34w : (IntKind.i64.wrap (x3_2 - 1)) = ji34 := (i64_w _).trans hji34
                (try clear hji25w)
                by_cases c35 : 0 ≤ (ji34)
                ·rw [if_pos c35] at H
                 have c35b0 : decide (0 ≤ (ji34)) = true := decide_eq_true c35
                 clear c35
                 by_cases c36 : (ji34) < (((rd_T54 l0 0).f1).length : Int)
                 ·rw [if_pos c36] at H
                  have c36b0 : decide ((ji34) < (((rd_T54 l0 0).f1).length : Int)) = true := decide_eq_true c36
                  clear c36
                  by_cases c37 : 0 < ((rd_L1 ((rd_T54 l0 0).f1) (ji34)).length : Int)
                  ·rw [if_pos c37] at H
                   have c37b0 : decide (0 < ((rd_L1 ((rd_T54 l0 0).f1) (ji34)).length : Int)) = true := decide_eq_true c37
                   have c37b1 : decide (0 < (rd_L1 ((rd_T54 l0 0).f1) (ji34)).length) = true := decide_eq_true (by omega)
                   clear c37
                   by_cases c38 : 0 < ((rd_L1 ((rd_T54 l0 0).f1) x3_2).length : Int)
                   ·rw [if_pos c38] at H
                    have c38b0 : decide (0 < ((rd_L1 ((rd_T54 l0 0).f1) x3_2).length : Int)) = true := decide_eq_true c38
                    have c38b1 : decide (0 < (rd_L1 ((rd_T54 l0 0).f1) x3_2).length) = true := decide_eq_true (by omega)
                    clear c38
                    by_cases c39 : (rd (rd_L1 ((rd_T54 l0 0).f1) (ji34)) 0) ≥ (rd (rd_L1 ((rd_T54 l0 0).f1) x3_2) 0)
                    ·rw [if_pos c39] at H
                     have c39b0 : decide ((rd (rd_L1 ((rd_T54 l0 0).f1) x3_2) 0) ≤ (rd (rd_L1 ((rd_T54 l0 0).f1) (ji34)) 0)) = true := decide_eq_true c39
                     clear c39
                     have H' := Aside0.mk H
                     clear H
                     have p129 : 0 ≤ (0 : Int) := (by omega)
                     have q129 : 0 < (l0.length : Int) := of_decide_eq_true (by first | (with_reducible assumption) | assumption)
                     obtain ⟨ad129, A129_1, c129_1, e129, hx129_0, hx129_1, hl129_1, hi129_1⟩ := at_T54 HR0.out 0 p129 q129
                     obtain rfl : ad113 = ad129 := (by injection e129)
                     have qi129 : (0 < l0.length) = True := eq_true (by omega)
                     (try rw [show ((0 : Int)).toNat = 0 from rfl] at hx129_0)
                     (try rw [show 0 * 2 = 0 from rfl] at hx129_0)
                     (try rw [Addr.add_zero'] at hx129_0)
                     (try rw [show ((0 : Int)).toNat = 0 from rfl] at hx129_1)
                     (try rw [show 0 * 2 = 0 from rfl] at hx129_1)
                     (try rw [Addr.add_zero'] at hx129_1)
                     have HR129_1 := Aside0.mk hi129_1
                     have HC129_1 := Aside0.mk hl129_1
                     clear hi129_1 hl129_1
                     replace p129 := eq_true p129
                     replace q129 := eq_true q129
                     have p130 : 0 ≤ ((ji34) : Int) := of_decide_eq_true (by first | (with_reducible assumption) | assumption)
                     have q130 : (ji34) < (((rd_T54 l0 0).f1).length : Int) := of_decide_eq_true (by first | (with_reducible assumption) | assumption)
                     obtain ⟨ad130, A130_0, c130_0, e130, hx130_0, hl130_0, hi130_0⟩ := at_L1 HR129_1.out (ji34) p130 q130
                     cases e130
                     have HR130_0 := Aside0.mk hi130_0
                     have HC130_0 := Aside0.mk hl130_0
                     clear hi130_0 hl130_0
                     replace p130 := eq_true p130
                     replace q130 := eq_true q130
                     have p131 : 0 ≤ (0 : Int) := (by omega)
                     have q131 : 0 < ((rd_L1 ((rd_T54 l0 0).f1) (ji34)).length : Int) := of_decide_eq_true (by first | (with_reducible assumption) | assumption)
                     obtain ⟨ad131, e131, hx131_0⟩ := Kd.at_int HR130_0.out 0 p131 q131
                     cases e131
                     have qi131 : (0 < (rd_L1 ((rd_T54 l0 0).f1) (ji34)).length) = True := eq_true (by omega)
                     (try rw [show ((0 : Int)).toNat = 0 from rfl] at hx131_0)
                     (try rw [Addr.add_zero'] at hx131_0)
                     replace p131 := eq_true p131
                     replace q131 := eq_true q131
                     have p132 : 0 ≤ (0 : Int) := (by omega)
                     have q132 : 0 < ((rd_L1 ((rd_T54 l0 0).f1) x3_2).length : Int) := of_decide_eq_true (by first | (with_reducible assumption) | assumption)
                     obtain ⟨ad132, e132, hx132_0⟩ := Kd.at_int HR115_0.out 0 p132 q132
                     cases e132
                     have qi132 : (0 < (rd_L1 ((rd_T54 l0 0).f1) x3_2).length) = True := eq_true (by omega)
                     (try rw [show ((0 : Int)).toNat = 0 from rfl] at hx132_0)
                     (try rw [Addr.add_zero'] at hx132_0)
                     replace p132 := eq_true p132
                     replace q132 := eq_true q132
                     go_wp2
                     repeat (go_quiet (fail); try go_wp2)
                     go_meet
                     case rel => exact ⟨_, (true), (by first | rfl | (simp; done) | (simp [*]; done)), H', ⟨by have := HJ1.out; have := HK2.out; have := HJ10.out; first | omega | exact Nat.le_refl _⟩, by repeat (first | exact Drawn0.refl _ | apply Drawn0.step)⟩
                    ·rw [if_neg c39] at H
                     have c39b0 : decide ((rd (rd_L1 ((rd_T54 l0 0).f1) x3_2) 0) ≤ (rd (rd_L1 ((rd_T54 l0 0).f1) (ji34)) 0)) = false := decide_eq_false c39
                     clear c39
                     by_cases c40 : 1 < ((rd_L1 ((rd_T54 l0 0).f1) (ji34)).length : Int)
                     ·rw [if_pos c40] at H
                      have c40b0 : decide (1 < ((rd_L1 ((rd_T54 l0 0).f1) (ji34)).length : Int)) = true := decide_eq_true c40
                      have c40b1 : decide (1 < (rd_L1 ((rd_T54 l0 0).f1) (ji34)).length) = true := decide_eq_true (by omega)
                      clear c40
                      by_cases c41 : 1 < ((rd_L1 ((rd_T54 l0 0).f1) x3_2).length : Int)
                      ·rw [if_pos c41] at H
                       have c41b0 : decide (1 < ((rd_L1 ((rd_T54 l0 0).f1) x3_2).length : Int)) = true := decide_eq_true c41
                       have c41b1 : decide (1 < (rd_L1 ((rd_T54 l0 0).f1) x3_2).length) = true := decide_eq_true (by omega)
                       clear c41
                       have H' := Aside0.mk H
                       clear H
                       have p129 : 0 ≤ (0 : Int) := (by omega)
                       have q129 : 0 < (l0.length : Int) := of_decide_eq_true (by first | (with_reducible assumption) | assumption)
                       obtain ⟨ad129, A129_1, c129_1, e129, hx129_0, hx129_1, hl129_1, hi129_1⟩ := at_T54 HR0.out 0 p129 q129
                       obtain rfl : ad113 = ad129 := (by injection e129)
                       have qi129 : (0 < l0.length) = True := eq_true (by omega)
                       (try rw [show ((0 : Int)).toNat = 0 from rfl] at hx129_0)
                       (try rw [show 0 * 2 = 0 from rfl] at hx129_0)
                       (try rw [Addr.add_zero'] at hx129_0)
                       (try rw [show ((0 : Int)).toNat = 0 from rfl] at hx129_1)
                       (try rw [show 0 * 2 = 0 from rfl] at hx129_1)
                       (try rw [Addr.add_zero'] at hx129_1)
                       have HR129_1 := Aside0.mk hi129_1
                       have HC129_1 := Aside0.mk hl129_1
                       clear hi129_1 hl129_1
                       replace p129 := eq_true p129
                       replace q129 := eq_true q129
                       have p130 : 0 ≤ ((ji34) : Int) := of_decide_eq_true (by first | (with_reducible assumption) | assumption)
                       have q130 : (ji34) < (((rd_T54 l0 0).f1).length : Int) := of_decide_eq_true (by first | (with_reducible assumption) | assumption)
                       obtain ⟨ad130, A130_0, c130_0, e130, hx130_0, hl130_0, hi130_0⟩ := at_L1 HR129_1.out (ji34) p130 q130
                       cases e130
                       have HR130_0 := Aside0.mk hi130_0
                       have HC130_0 := Aside0.mk hl130_0
                       clear hi130_0 hl130_0
                       replace p130 := eq_true p130
                       replace q130 := eq_true q130
                       have p131 : 0 ≤ (0 : Int) := (by omega)
                       have q131 : 0 < ((rd_L1 ((rd_T54 l0 0).f1) (ji34)).length : Int) := of_decide_eq_true (by first | (with_reducible assumption) | assumption)
                       obtain ⟨ad131, e131, hx131_0⟩ := Kd.at_int HR130_0.out 0 p131 q131
                       cases e131
                       have qi131 : (0 < (rd_L1 ((rd_T54 l0 0).f1) (ji34)).length) = True := eq_true (by omega)
                       (try rw [show ((0 : Int)).toNat = 0 from rfl] at hx131_0)
                       (try rw [Addr.add_zero'] at hx131_0)
                       replace p131 := eq_true p131
                       replace q131 := eq_true q131
                       have p132 : 0 ≤ (0 : Int) := (by omega)
                       have q132 : 0 < ((rd_L1 ((rd_T54 l0 0).f1) x3_2).length : Int) := of_decide_eq_true (by first | (with_reducible assumption) | assumption)
                       obtain ⟨ad132, e132, hx132_0⟩ := Kd.at_int HR115_0.out 0 p132 q132
                       cases e132
                       have qi132 : (0 < (rd_L1 ((rd_T54 l0 0).f1) x3_2).length) = True := eq_true (by omega)
                       (try rw [show ((0 : Int)).toNat = 0 from rfl] at hx132_0)
                       (try rw [Addr.add_zero'] at hx132_0)
                       replace p132 := eq_true p132
                       replace q132 := eq_true q132
                       have p133 : 0 ≤ (0 : Int) := (by omega)
                       have q133 : 0 < (l0.length : Int) := of_decide_eq_true (by first | (with_reducible assumption) | assumption)
                       obtain ⟨ad133, A133_1, c133_1, e133, hx133_0, hx133_1, hl133_1, hi133_1⟩ := at_T54 HR0.out 0 p133 q133
                       obtain rfl : ad113 = ad133 := (by injection e133)
                       have qi133 : (0 < l0.length) = True := eq_true (by omega)
                       (try rw [show ((0 : Int)).toNat = 0 from rfl] at hx133_0)
                       (try rw [show 0 * 2 = 0 from rfl] at hx133_0)
                       (try rw [Addr.add_zero'] at hx133_0)
                       (try rw [show ((0 : Int)).toNat = 0 from rfl] at hx133_1)
                       (try rw [show 0 * 2 = 0 from rfl] at hx133_1)
                       (try rw [Addr.add_zero'] at hx133_1)
                       have HR133_1 := Aside0.mk hi133_1
                       have HC133_1 := Aside0.mk hl133_1
                       clear hi133_1 hl133_1
                       replace p133 := eq_true p133
                       replace q133 := eq_true q133
                       have ea_ := Option.some.inj (hx129_1.symm.trans hx133_1)
                       injection ea_ with ea_ en_ ec_
                       subst ea_
                       subst ec_
                       clear en_
                       have p134 : 0 ≤ ((ji34) : Int) := of_decide_eq_true (by first | (with_reducible assumption) | assumption)
                       have q134 : (ji34) < (((rd_T54 l0 0).f1).length : Int) := of_decide_eq_true (by first | (with_reducible assumption) | assumption)
                       obtain ⟨ad134, A134_0, c134_0, e134, hx134_0, hl134_0, hi134_0⟩ := at_L1 HR133_1.out (ji34) p134 q134
                       cases e134
                       have HR134_0 := Aside0.mk hi134_0
                       have HC134_0 := Aside0.mk hl134_0
                       clear hi134_0 hl134_0
                       (try (have ea_ := Option.some.inj (hx130_0.symm.trans hx134_0); injection ea_ with ea_ en_ ec_; (first | subst ea_ | (injection ea_ with ea_; subst ea_)); subst ec_; clear en_))
                       replace p134 := eq_true p134
                       replace q134 := eq_true q134
                       have p135 : 0 ≤ (1 : Int) := (by omega)
                       have q135 : 1 < ((rd_L1 ((rd_T54 l0 0).f1) (ji34)).length : Int) := of_decide_eq_true (by first | (with_reducible assumption) | assumption)
                       obtain ⟨ad135, e135, hx135_0⟩ := Kd.at_int HR134_0.out 1 p135 q135
                       cases e135
                       (try simp only [show (1 : Int).toNat = 1 from rfl, Nat.reduceMul, Nat.reduceEqDiff, Go.Addr.add, ↓reduceIte] at hx135_0)
                       have qi135 : (1 < (rd_L1 ((rd_T54 l0 0).f1) (ji34)).length) = True := eq_true (by omega)
                       (try rw [show ((1 : Int)).toNat = 1 from rfl] at hx135_0)
                       replace p135 := eq_true p135
                       replace q135 := eq_true q135
                       have p136 : 0 ≤ (1 : Int) := (by omega)
                       have q136 : 1 < ((rd_L1 ((rd_T54 l0 0).f1) x3_2).length : Int) := of_decide_eq_true (by first | (with_reducible assumption) | assumption)
                       obtain ⟨ad136, e136, hx136_0⟩ := Kd.at_int HR115_0.out 1 p136 q136
                       obtain rfl : ad132 = ad136 := (by injection e136)
                       (try simp only [show (1 : Int).toNat = 1 from rfl, Nat.reduceMul, Nat.reduceEqDiff, Go.Addr.add, ↓reduceIte] at hx136_0)
                       have qi136 : (1 < (rd_L1 ((rd_T54 l0 0).f1) x3_2).length) = True := eq_true (by omega)
                       (try rw [show ((1 : Int)).toNat = 1 from rfl] at hx136_0)
                       replace p136 := eq_true p136
                       replace q136 := eq_true q136
                       go_wp2
                       repeat (go_quiet (fail); try go_wp2)
                       go_meet
                       case rel => exact ⟨_, (decide ((rd (rd_L1 ((rd_T54 l0 0).f1) (ji34)) 1) < (rd (rd_L1 ((rd_T54 l0 0).f1) x3_2) 1))), (by first | rfl | (simp; done) | (simp only [← hji34] <;> (first | rfl | simp)) | (simp [*]; done)), H', ⟨by have := HJ1.out; have := HK2.out; have := HJ10.out; first | omega | exact Nat.le_refl _⟩, by repeat (first | exact Drawn0.refl _ | apply Drawn0.step)⟩
                      ·rw [if_neg c41] at H
                       exact absurd H (by simp)
                     ·rw [if_neg c40] at H
                      exact absurd H (by simp)
                   ·rw [if_neg c38] at H
                    exact absurd H (by simp)
                  ·rw [if_neg c37] at H
                   exact absurd H (by simp)
                 ·rw [if_neg c36] at H
                  exact absurd H (by simp)
                ·rw [if_neg c35] at H
                 exact absurd H (by simp)
               ·rw [if_neg c33] at H
                exact absurd H (by simp)
              ·rw [if_neg c32] at H
               have c32b0 : decide (0 < x3_2) = false := decide_eq_false c32
               clear c32
               have H' := Aside0.mk H
               clear H
               go_wp2
               repeat (go_quiet (fail); try go_wp2)
               go_meet
               case rel => exact ⟨_, (false), (by first | rfl | (simp; done) | (simp [*]; done)), H', ⟨by have := HJ1.out; have := HK2.out; have := HJ10.out; first | omega | exact Nat.le_refl _⟩, by repeat (first | exact Drawn0.refl _ | apply Drawn0.step)⟩
            case rest =>
             clear HC19
             try clear c1
             try clear p1
             try clear q1
             try clear hx1
             try clear qi1
             try clear c2
             try clear p2
             try clear c3
             try clear c3b0
             try clear c3b1
             try clear c4
             try clear c5
             try clear c6
             try clear c6b0
             try clear c6b1
             try clear p6
             try clear c7
             try clear c8
             try clear c8b0
             try clear c8b1
             try clear c9
             try clear c9b0
             try clear c10
             try clear c10b0
             try clear p10
             try clear q10
             try clear hx10
             try clear qi10
             try clear c11
             try clear p11
             try clear q11
             try clear hx11
             try clear qi11
             try clear c12
             try clear c12b0
             try clear c12b1
             try clear p12
             try clear q12
             try clear hx12
             try clear qi12
             try clear c13
             try clear c13b0
             try clear c13b1
             try clear p13
             try clear q13
             try clear hx13
             try clear qi13
             try clear c15
             try clear c16
             try clear c16b0
             try clear c16b1
             try clear c18
             try clear c20
             try clear c20b0
             try clear c20b1
             try clear c21
             try clear c21b0
             try clear c21b1
             try clear c22
             try clear c22b0
             try clear c22b1
             try clear c23
             try clear c23b0
             try clear c24
             try clear c24b0
             try clear c24b1
             try clear c26
             try clear c26b0
             try clear c27
             try clear c27b0
             try clear c28
             try clear c28b0
             try clear c28b1
             try clear c29
             try clear c29b0
             try clear c30
             try clear c30b0
             try clear c30b1
             try clear c31
             try clear c31b0
             try clear c31b1
             try clear c32
             try clear c32b0
             try clear c33
             try clear c33b0
             try clear c33b1
             try clear c35
             try clear c35b0
             try clear c36
             try clear c36b0
             try clear c37
             try clear c37b0
             try clear c37b1
             try clear c38
             try clear c38b0
             try clear c38b1
             try clear c39
             try clear c39b0
             try clear c40
             try clear c40b0
             try clear c40b1
             try clear c41
             try clear c41b0
             try clear c41b1
             try clear hx109_0
             try clear hx109_1
             try clear hx111_0
             try clear hx111_1
             try clear hx112_0
             try clear hx112_1
             try clear hx113_0
             try clear hx113_1
             try clear hx114_0
             try clear hx114_1
             try clear hx115_0
             try clear hx116_0
             try clear hx118_0
             try clear hx120_0
             try clear hx121_0
             try clear hx121_1
             try clear hx122_0
             try clear hx123_0
             try clear hx124_0
             try clear hx125_0
             try clear hx125_1
             try clear hx126_0
             try clear hx127_0
             try clear hx128_0
             try clear hx129_0
             try clear hx129_1
             try clear hx130_0
             try clear hx131_0
             try clear hx132_0
             try clear hx133_0
             try clear hx133_1
             try clear hx134_0
             try clear hx135_0
             try clear hx136_0
             try clear p1
             try clear p10
             try clear p109
             try clear p11
             try clear p111
             try clear p112
             try clear p113
             try clear p114
             try clear p115
             try clear p116
             try clear p118
             try clear p120
             try clear p121
             try clear p122
             try clear p123
             try clear p124
             try clear p125
             try clear p126
             try clear p127
             try clear p128
             try clear p129
             try clear p130
             try clear p131
             try clear p132
             try clear p133
             try clear p134
             try clear p135
             try clear p136
             try clear p2
             try clear q1
             try clear q10
             try clear q109
             try clear q11
             try clear q111
             try clear q112
             try clear q113
             try clear q114
             try clear q115
             try clear q116
             try clear q118
             try clear q120
             try clear q121
             try clear q122
             try clear q123
             try clear q124
             try clear q125
             try clear q126
             try clear q127
             try clear q128
             try clear q129
             try clear q130
             try clear q131
             try clear q132
             try clear q133
             try clear q134
             try clear q135
             try clear q136
             obtain ⟨kq, x103_18, rfl, HA, HJ18, ⟨mc18, rfl⟩⟩ := hcut
             cases kq with
             | zero => exact absurd HA.out (by simp [spec_l08Ok.j3])
             | succ kj18 =>
              have H := HA.out
              clear HA
              simp only [spec_l08Ok.j3] at H
              by_cases c42 : x103_18 = true
              ·subst c42
               have H1 : (some false) = some r := by rw [if_pos rfl] at H; exact H
               clear H
               have H := H1
               clear H1
               obtain rfl := Option.some.inj H
               go_wp2
               repeat (go_quiet (fail); try go_wp2)
               go_ret
               exact ⟨by first | rfl | (simp; done) | (simp [*]; done), by repeat (first | exact Drawn0.refl _ | apply Drawn0.step)⟩
              ·replace c42 := Bool.eq_false_iff.mpr c42
               subst c42
               have H1 : (spec_l08Ok.l0 kj18 l0 (wrap64 (x3_2 + 1))) = some r := by rw [if_neg (show ¬ (false = true) by decide)] at H; exact H
               clear H
               have H := H1
               clear H1
               have H' := Aside0.mk H
               clear H
               go_wp2
               repeat (go_quiet (fail); try go_wp2)
               go_roundg kj18
               case measure => have := HJ1.out; have := HK2.out; have := HJ10.out; have := HJ18.out; omega
               case rel => exact ⟨(wrap64 (x3_2 + 1)), (by first | rfl | (simp; done) | (simp [*]; done)), H', ⟨by have := HJ1.out; have := HK2.out; have := HJ10.out; have := HJ18.out; omega⟩, by repeat (first | exact Drawn0.refl _ | apply Drawn0.step)⟩
        ·rw [if_neg c10] at H
         exact absurd H (by simp)
       ·rw [if_neg c9] at H
        have c9b0 : decide (x3_2 < (((rd_T54 l0 0).f1).length : Int)) = false := decide_eq_false c9
        clear c9
        obtain rfl := Option.some.inj H
        have p113 : 0 ≤ (0 : Int) := (by omega)
        have q113 : 0 < (l0.length : Int) := of_decide_eq_true (by first | (with_reducible assumption) | assumption)
        obtain ⟨ad113, A113_1, c113_1, e113, hx113_0, hx113_1, hl113_1, hi113_1⟩ := at_T54 HR0.out 0 p113 q113
        cases e113
        have qi113 : (0 < l0.length) = True := eq_true (by omega)
        (try rw [show ((0 : Int)).toNat = 0 from rfl] at hx113_0)
        (try rw [show 0 * 2 = 0 from rfl] at hx113_0)
        (try rw [Addr.add_zero'] at hx113_0)
        (try rw [show ((0 : Int)).toNat = 0 from rfl] at hx113_1)
        (try rw [show 0 * 2 = 0 from rfl] at hx113_1)
        (try rw [Addr.add_zero'] at hx113_1)
        have HR113_1 := Aside0.mk hi113_1
        have HC113_1 := Aside0.mk hl113_1
        clear hi113_1 hl113_1
        replace p113 := eq_true p113
        replace q113 := eq_true q113
        go_wp2
        repeat (go_quiet (fail); try go_wp2)
        go_ret
        exact ⟨by first | rfl | (simp; done) | (simp [*]; done), by repeat (first | exact Drawn0.refl _ | apply Drawn0.step)⟩
      ·rw [if_neg c8] at H
       exact absurd H (by simp)

end Go.Proofs.Ytaomflfofihknaa.PFnExactLeastSpeed
