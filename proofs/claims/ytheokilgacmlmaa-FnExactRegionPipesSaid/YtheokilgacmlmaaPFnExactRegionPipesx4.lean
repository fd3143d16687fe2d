-- written by wip/xprint.py, a program of this session, for this claim; not trusted: Lean checks it.
import Derived.Test.YtheokilgacmlmaaPFnExactRegionPipesx0
namespace Go.Proofs.Ytheokilgacmlmaa.PFnExactRegionPipes
open Go.RowKit Go.Proofs.YtheokilgacmlmaaW.PrintWords Go.Proofs.YtheokilgacmlmaaW.PrintLast Go.Proofs.YtheokilgacmlmaaW.PrintMore
attribute [local go_sem] leq_less_ max2_int min2_int max_two min_two max_three min_three max_four min_four   -- for this text's walks alone
set_option linter.unusedVariables false
set_option linter.unusedSimpArgs false

/-! ### spec_l01Small: function 104 -/
def spec_l01Small.f (a0 : Int) : Option (Bool) := if a0 ≥ 97 then (some (decide (a0 ≤ 122))) else (some false)
set_option maxHeartbeats 8000000 in
set_option maxRecDepth 100000 in
theorem spec_l01Small.calls (a0 : Int) (r : Bool) (w : World) (h : spec_l01Small.f a0 = some r) :
  Calls Try.prog 104 #[.int .u8 a0] w fun e w' => e = .returned (.bool r) ∧ Drawn0 w w' := by
 have H : (if a0 ≥ 97 then (some (decide (a0 ≤ 122))) else (some false)) = some r := h; clear h; by_cases c2 : a0 ≥ 97
 ·rw [if_pos c2] at H; have c2b0 : decide (97 ≤ a0) = true := decide_eq_true c2; clear c2; obtain rfl := Option.some.inj H; go_enter Try.func104, Try.ntmps104; go_wp2; go_ret
  exact ⟨t7_, t15_⟩
 ·rw [if_neg c2] at H; have c2b0 : decide (97 ≤ a0) = false := decide_eq_false c2; clear c2; obtain rfl := Option.some.inj H; go_enter Try.func104, Try.ntmps104; go_wp2; go_ret
  exact ⟨t7_, t15_⟩

/-! ### spec_l01Digit: function 105 -/
def spec_l01Digit.f (a0 : Int) : Option (Bool) := if a0 ≥ 48 then (some (decide (a0 ≤ 57))) else (some false)
set_option maxHeartbeats 8000000 in
set_option maxRecDepth 100000 in
theorem spec_l01Digit.calls (a0 : Int) (r : Bool) (w : World) (h : spec_l01Digit.f a0 = some r) :
  Calls Try.prog 105 #[.int .u8 a0] w fun e w' => e = .returned (.bool r) ∧ Drawn0 w w' := by
 have H : (if a0 ≥ 48 then (some (decide (a0 ≤ 57))) else (some false)) = some r := h; clear h; by_cases c2 : a0 ≥ 48
 ·rw [if_pos c2] at H; have c2b0 : decide (48 ≤ a0) = true := decide_eq_true c2; clear c2; obtain rfl := Option.some.inj H; go_enter Try.func105, Try.ntmps105; go_wp2; go_ret
  exact ⟨t7_, t15_⟩
 ·rw [if_neg c2] at H; have c2b0 : decide (48 ≤ a0) = false := decide_eq_false c2; clear c2; obtain rfl := Option.some.inj H; go_enter Try.func105, Try.ntmps105; go_wp2; go_ret
  exact ⟨t7_, t15_⟩

/-! ### spec_l01Name: function 72 -/
mutual
def spec_l01Name.j0 : Nat → ByteArray → Bool → Option (Bool)
 | 0, _, _ => none
 | k + 1, x0, x16 => if x16 = true then (some false) else (spec_l01Name.l0 k x0 0)
def spec_l01Name.l0 : Nat → ByteArray → Int → Option (Bool)
 | 0, _, _ => none
 | k + 1, x0, x3 => if x3 < (x0.size : Int) then (if 0 ≤ x3 then ((spec_l01Small.f (bt x0 x3)).bind fun t188 => (if t188 = true then (spec_l01Name.l0 k x0 (wrap64 (x3 + 1))) else ((spec_l01Digit.f (bt x0 x3)).bind fun t189 => (if t189 = true then (spec_l01Name.l0 k x0 (wrap64 (x3 + 1))) else (some false))))) else (none)) else (some true)
end
def spec_l01Name.f (k : Nat) (a0 : ByteArray) : Option (Bool) := if a0.toList = ([] : List UInt8) then (spec_l01Name.j0 k a0 true) else (if (a0.size : Int) > 10 then (spec_l01Name.j0 k a0 true) else (if 0 < (a0.size : Int) then ((spec_l01Small.f (bt a0 0)).bind fun t187 => (spec_l01Name.j0 k a0 (!t187))) else (none)))
theorem spec_l01Name.mono_l : ∀ k, (∀ y0 y1, LeO (spec_l01Name.j0 k y0 y1) (spec_l01Name.j0 (k + 1) y0 y1)) ∧ (∀ y0 y1, LeO (spec_l01Name.l0 k y0 y1) (spec_l01Name.l0 (k + 1) y0 y1))
 | 0 => ⟨fun _ _ r h => by simp [spec_l01Name.j0] at h, fun _ _ r h => by simp [spec_l01Name.l0] at h⟩
 | k + 1 => by
  obtain ⟨ih0, ih1⟩ := spec_l01Name.mono_l k
  refine ⟨?_, ?_⟩ <;> intros <;> first | unfold spec_l01Name.j0 | unfold spec_l01Name.l0
  all_goals
   repeat' first
   | (with_reducible exact ih0 _ _)
   | (with_reducible exact ih1 _ _)
   | (with_reducible exact LeO.refl _)
   | (with_reducible exact LeO.none _)
   | (with_reducible refine LeO.ite ?_ ?_)
   | (with_reducible refine LeO.bind ?_ (fun _ => ?_))
   | exact ih0 _ _
   | exact ih1 _ _
   | exact LeO.none _
   | refine LeO.ite ?_ ?_
   | refine LeO.bind ?_ (fun _ => ?_)
theorem spec_l01Name.mono : ∀ a0 k, LeO (spec_l01Name.f k a0) (spec_l01Name.f (k + 1) a0) := by
 intro a0 k; obtain ⟨ih0, ih1⟩ := spec_l01Name.mono_l k; unfold spec_l01Name.f
 repeat' first
   | (with_reducible exact ih0 _ _)
   | (with_reducible exact ih1 _ _)
   | (with_reducible exact LeO.refl _)
   | (with_reducible exact LeO.none _)
   | (with_reducible refine LeO.ite ?_ ?_)
   | (with_reducible refine LeO.bind ?_ (fun _ => ?_))
   | exact ih0 _ _
   | exact ih1 _ _
   | exact LeO.none _
   | refine LeO.ite ?_ ?_
   | refine LeO.bind ?_ (fun _ => ?_)
set_option maxHeartbeats 8000000 in
set_option maxRecDepth 100000 in
theorem spec_l01Name.calls (k : Nat) (a0 : ByteArray) (r : Bool) (w : World) (h : spec_l01Name.f k a0 = some r) :
  Calls Try.prog 72 #[.string a0] w fun e w' => e = .returned (.bool r) ∧ Drawn0 w w' := by
 have H : (if a0.toList = ([] : List UInt8) then (spec_l01Name.j0 k a0 true) else (if (a0.size : Int) > 10 then (spec_l01Name.j0 k a0 true) else (if 0 < (a0.size : Int) then ((spec_l01Small.f (bt a0 0)).bind fun t187 => (spec_l01Name.j0 k a0 (!t187))) else (none)))) = some r := h; clear h; have HC2 := Aside0.mk H; clear H; go_enter Try.func72, Try.ntmps72; go_upto_region 1 with (fail); go_cut [16] (fun v16 wc => ∃ (kq : Nat) (x16_1 : Bool), v16 = .bool x16_1 ∧ Aside0 (spec_l01Name.j0 kq a0 x16_1 = some r) ∧ Aside0 (kq ≤ k) ∧ Drawn0 w wc)
 case first =>
  have H := HC2.out; clear HC2; by_cases c3 : a0.toList = ([] : List UInt8)
  ·rw [if_pos c3] at H; have c3b0 : (a0.toList == ([] : List UInt8)) = true := beq_iff_eq.mpr c3; have c3b1 : (a0.toList != ([] : List UInt8)) = false := bne_eq_false_iff_eq.mpr c3; clear c3; (first | rw [c3b0] | (simp only [i64_w, i32_w]; rw [c3b0]) | skip); have H' := Aside0.mk H; clear H; go_wp2; go_meet
   case rel => exact ⟨_, (true), t7_, H', ⟨t53_⟩, t15_⟩
  ·rw [if_neg c3] at H; have c3b0 : (a0.toList == ([] : List UInt8)) = false := beq_eq_false_iff_ne.mpr c3; have c3b1 : (a0.toList != ([] : List UInt8)) = true := bne_iff_ne.mpr c3; (first | rw [c3b0] | (simp only [i64_w, i32_w]; rw [c3b0]) | skip); by_cases c4 : (a0.size : Int) > 10
   ·rw [if_pos c4] at H; have c4b0 : decide (10 < (a0.size : Int)) = true := decide_eq_true c4; have c4b1 : decide (10 < a0.size) = true := decide_eq_true t24_; clear c4; have H' := Aside0.mk H; clear H; go_wp2; go_meet
    case rel => exact ⟨_, (true), t7_, H', ⟨t53_⟩, t15_⟩
   ·rw [if_neg c4] at H; have c4b0 : decide (10 < (a0.size : Int)) = false := decide_eq_false c4; have c4b1 : decide (10 < a0.size) = false := decide_eq_false t24_; clear c4; by_cases c5 : 0 < (a0.size : Int)
    ·rw [if_pos c5] at H; have c5b0 : decide (0 < (a0.size : Int)) = true := decide_eq_true c5; have c5b1 : decide (0 < a0.size) = true := decide_eq_true t24_; clear c5; replace H := Option.bind_eq_some_iff.mp H; obtain ⟨t187, A70, H⟩ := H; have A7 := Aside0.mk A70; clear A70; have H' := Aside0.mk H; clear H; have p6 : 0 ≤ (0 : Int) := t24_; have q6 : 0 < a0.size := (by have : (0 : Int) < (a0.size : Int) := of_decide_eq_true t2_; omega); have hx6 : ∀ h : 0 < a0.size, ((a0[0]'h).toNat : Int) = bt a0 0 := bt_at a0 0; clear p6; have qi6 : (0 < (a0.size : Int)) = True := eq_true (of_decide_eq_true t2_); replace q6 := eq_true q6; go_wp2_with (first | (go_at_call 104; (with_reducible refine (spec_l01Small.calls (bt a0 0) t187 _ A7.out).mono ?_); rintro e w' ⟨rfl, ⟨nd, rfl⟩⟩)); go_meet
     case rel => exact ⟨_, (!t187), t7_, H', ⟨t53_⟩, t15_⟩
    ·rw [if_neg c5] at H; exact absurd H t54_
 case rest =>
  clear HC2; (try clear p2); (try clear c3); (try clear c3b0); (try clear c3b1); (try clear c4); (try clear c4b0); (try clear c4b1); (try clear c5); (try clear c5b0); (try clear c5b1); (try clear p6); (try clear q6); (try clear hx6); (try clear qi6); (try clear c7); (try clear p6); (try clear q6); obtain ⟨kq, x16_1, rfl, HA, HJ1, ⟨mc1, rfl⟩⟩ := hcut; cases kq with
  | zero => exact absurd HA.out (by simp [spec_l01Name.j0])
  | succ kj1 =>
   have H := HA.out; clear HA; simp only [spec_l01Name.j0] at H; by_cases c8 : x16_1 = true
   ·subst c8; replace H := (if_pos rfl).symm.trans H; obtain rfl := Option.some.inj H; go_wp2; go_ret
    exact ⟨t7_, t15_⟩
   ·replace c8 := Bool.eq_false_iff.mpr c8; subst c8; replace H := (if_neg (show ¬ (false = true) by decide)).symm.trans H; have H' := Aside0.mk H; clear H; go_wp2; go_loopg [3] kj1 (fun kq v3 w' => ∃ (x3_2 : Int), v3 = .int .i64 x3_2 ∧ Aside0 (spec_l01Name.l0 kq a0 x3_2 = some r) ∧ Aside0 (kq ≤ kj1) ∧ Drawn0 w w')
    case atStart => exact ⟨(0), t7_, H', ⟨Nat.le_refl _⟩, t15_⟩
    case round =>
     clear H'; (try clear c1); (try clear p2); (try clear c3); (try clear c3b0); (try clear c3b1); (try clear c4); (try clear c4b0); (try clear c4b1); (try clear c5); (try clear c5b0); (try clear c5b1); (try clear p6); (try clear q6); (try clear hx6); (try clear qi6); (try clear c7); (try clear c8); (try clear p2); (try clear p6); (try clear q6); obtain ⟨x3_2, rfl, HA, HK2, ⟨m2, rfl⟩⟩ := hrel; cases gk with
     | zero => exact absurd HA.out (by simp [spec_l01Name.l0])
     | succ k2 =>
      have H := HA.out; clear HA; simp only [spec_l01Name.l0] at H; by_cases c9 : x3_2 < (a0.size : Int)
      ·rw [if_pos c9] at H; have c9b0 : decide (x3_2 < (a0.size : Int)) = true := decide_eq_true c9; clear c9; by_cases c10 : 0 ≤ x3_2
       ·rw [if_pos c10] at H; have c10b0 : decide (0 ≤ x3_2) = true := decide_eq_true c10; clear c10; replace H := Option.bind_eq_some_iff.mp H; obtain ⟨t188, A120, H⟩ := H; have A12 := Aside0.mk A120; clear A120; by_cases c13 : t188 = true
        ·subst c13; replace H := (if_pos rfl).symm.trans H; have H' := Aside0.mk H; clear H; have p11 : 0 ≤ (x3_2 : Int) := of_decide_eq_true t2_; have q11 : x3_2 < (a0.size : Int) := of_decide_eq_true t2_; have hx11 := bt_at a0 x3_2; replace p11 := eq_true p11; replace q11 := eq_true q11; go_wp2_with (first | ((with_reducible refine gate_callee (f := 104) rfl ?_); refine goesL_ (some 26) rfl rfl Try.func104 t13_ rfl #[.int .u8 (bt a0 x3_2)] rfl t3_ ?_; (with_reducible refine (spec_l01Small.calls (bt a0 x3_2) true _ A12.out).mono ?_); rintro e w' ⟨rfl, ⟨nd, rfl⟩⟩; refine ⟨_, rfl, ?_⟩)); go_roundg k2
         case measure => have := HJ1.out; have := HK2.out; omega
         case rel => exact ⟨(wrap64 (x3_2 + 1)), t7_, H', ⟨(by have := HJ1.out; have := HK2.out; omega)⟩, t15_⟩
        ·replace c13 := Bool.eq_false_iff.mpr c13; subst c13; replace H := (if_neg (show ¬ (false = true) by decide)).symm.trans H; replace H := Option.bind_eq_some_iff.mp H; obtain ⟨t189, A150, H⟩ := H; have A15 := Aside0.mk A150; clear A150; by_cases c16 : t189 = true
         ·subst c16; replace H := (if_pos rfl).symm.trans H; have H' := Aside0.mk H; clear H; have p11 : 0 ≤ (x3_2 : Int) := of_decide_eq_true t2_; have q11 : x3_2 < (a0.size : Int) := of_decide_eq_true t2_; have hx11 := bt_at a0 x3_2; replace p11 := eq_true p11; replace q11 := eq_true q11; go_wp2_with (first | ((with_reducible refine gate_callee (f := 104) rfl ?_); refine goesL_ (some 26) rfl rfl Try.func104 t13_ rfl #[.int .u8 (bt a0 x3_2)] rfl t3_ ?_; (with_reducible refine (spec_l01Small.calls (bt a0 x3_2) false _ A12.out).mono ?_); rintro e w' ⟨rfl, ⟨nd, rfl⟩⟩; refine ⟨_, rfl, ?_⟩; have p14 : 0 ≤ (x3_2 : Int) := of_decide_eq_true t2_; have q14 : x3_2 < (a0.size : Int) := of_decide_eq_true t2_; have hx14 := bt_at a0 x3_2; replace p14 := eq_true p14; replace q14 := eq_true q14) | (go_at_call 105; (with_reducible refine (spec_l01Digit.calls (bt a0 x3_2) true _ A15.out).mono ?_); rintro e w' ⟨rfl, ⟨nd, rfl⟩⟩)); go_roundg k2
          case measure => have := HJ1.out; have := HK2.out; omega
          case rel => exact ⟨(wrap64 (x3_2 + 1)), t7_, H', ⟨(by have := HJ1.out; have := HK2.out; omega)⟩, t15_⟩
         ·replace c16 := Bool.eq_false_iff.mpr c16; subst c16; replace H := (if_neg (show ¬ (false = true) by decide)).symm.trans H; obtain rfl := Option.some.inj H; have p11 : 0 ≤ (x3_2 : Int) := of_decide_eq_true t2_; have q11 : x3_2 < (a0.size : Int) := of_decide_eq_true t2_; have hx11 := bt_at a0 x3_2; replace p11 := eq_true p11; replace q11 := eq_true q11; go_wp2_with (first | ((with_reducible refine gate_callee (f := 104) rfl ?_); refine goesL_ (some 26) rfl rfl Try.func104 t13_ rfl #[.int .u8 (bt a0 x3_2)] rfl t3_ ?_; (with_reducible refine (spec_l01Small.calls (bt a0 x3_2) false _ A12.out).mono ?_); rintro e w' ⟨rfl, ⟨nd, rfl⟩⟩; refine ⟨_, rfl, ?_⟩; have p14 : 0 ≤ (x3_2 : Int) := of_decide_eq_true t2_; have q14 : x3_2 < (a0.size : Int) := of_decide_eq_true t2_; have hx14 := bt_at a0 x3_2; replace p14 := eq_true p14; replace q14 := eq_true q14) | (go_at_call 105; (with_reducible refine (spec_l01Digit.calls (bt a0 x3_2) false _ A15.out).mono ?_); rintro e w' ⟨rfl, ⟨nd, rfl⟩⟩)); go_ret
          exact ⟨t7_, t15_⟩
       ·rw [if_neg c10] at H; exact absurd H t54_
      ·rw [if_neg c9] at H; have c9b0 : decide (x3_2 < (a0.size : Int)) = false := decide_eq_false c9; clear c9; obtain rfl := Option.some.inj H; go_wp2; go_ret
       exact ⟨t7_, t15_⟩

/-! ### spec_l18Pipe: function 81 -/
def spec_l18Pipe.l0 : Nat → List (S33) → List (S51) → Int → Option (Int)
 | 0, _, _, _ => none
 | k + 1, x0, x1, x5 => if 0 < (x0.length : Int) then (if x5 < (((rd_T33 x0 0).f1).length : Int) then (if 0 ≤ x5 then (if 0 < (x1.length : Int) then (if ((rd_T100 ((rd_T33 x0 0).f1) x5).f0).toList = ((rd_T51 x1 0).f1).toList then (some x5) else (spec_l18Pipe.l0 k x0 x1 (wrap64 (x5 + 1)))) else (none)) else (none)) else (some (-1))) else (none)
def spec_l18Pipe.f (k : Nat) (l0 : List (S33)) (l1 : List (S51)) : Option (Int) := spec_l18Pipe.l0 k l0 l1 0
theorem spec_l18Pipe.mono_l : ∀ k, (∀ y0 y1 y2, LeO (spec_l18Pipe.l0 k y0 y1 y2) (spec_l18Pipe.l0 (k + 1) y0 y1 y2))
 | 0 => fun _ _ _ r h => by simp [spec_l18Pipe.l0] at h
 | k + 1 => by
  have ih0 := spec_l18Pipe.mono_l k
  ·intro y0 y1 y2
   unfold spec_l18Pipe.l0
   repeat' first
   | (with_reducible exact ih0 _ _ _)
   | (with_reducible exact LeO.refl _)
   | (with_reducible exact LeO.none _)
   | (with_reducible refine LeO.ite ?_ ?_)
   | (with_reducible refine LeO.bind ?_ (fun _ => ?_))
   | exact ih0 _ _ _
   | exact LeO.none _
   | refine LeO.ite ?_ ?_
   | refine LeO.bind ?_ (fun _ => ?_)
theorem spec_l18Pipe.mono : ∀ a0 a1 k, LeO (spec_l18Pipe.f k a0 a1) (spec_l18Pipe.f (k + 1) a0 a1) := by
 intro a0 a1 k; have ih0 := spec_l18Pipe.mono_l k; unfold spec_l18Pipe.f
 repeat' first
   | (with_reducible exact ih0 _ _ _)
   | (with_reducible exact LeO.refl _)
   | (with_reducible exact LeO.none _)
   | (with_reducible refine LeO.ite ?_ ?_)
   | (with_reducible refine LeO.bind ?_ (fun _ => ?_))
   | exact ih0 _ _ _
   | exact LeO.none _
   | refine LeO.ite ?_ ?_
   | refine LeO.bind ?_ (fun _ => ?_)
set_option maxHeartbeats 8000000 in
set_option maxRecDepth 100000 in
theorem spec_l18Pipe.calls (k : Nat) (A0 : Option Addr) (c0 : Nat) (l0 : List (S33)) (A1 : Option Addr) (c1 : Nat) (l1 : List (S51)) (r : Int) (w : World) (hr0 : Kd.C k33 w A0 l0.length l0) (hc0 : l0.length ≤ c0) (hr1 : Kd.C k51 w A1 l1.length l1) (hc1 : l1.length ≤ c1) (h : spec_l18Pipe.f k l0 l1 = some r) :
  Calls Try.prog 81 #[.pointer A0, .pointer A1] w fun e w' => e = .returned (.int .i64 r) ∧ Drawn0 w w' := by
 have HR0 := Aside0.mk hr0; have HC0 := Aside0.mk hc0; clear hr0 hc0; have HR1 := Aside0.mk hr1; have HC1 := Aside0.mk hc1; clear hr1 hc1; have H : (spec_l18Pipe.l0 k l0 l1 0) = some r := h; clear h; have H' := Aside0.mk H; clear H; go_enter Try.func81, Try.ntmps81; go_wp2; (repeat (go_quiet (fail); try go_wp2)); go_loopg [5] k (fun kq v5 w' => ∃ (x5_1 : Int), v5 = .int .i64 x5_1 ∧ Aside0 (spec_l18Pipe.l0 kq l0 l1 x5_1 = some r) ∧ Aside0 (kq ≤ k) ∧ Drawn0 w w')
 case atStart => exact ⟨(0), t7_, H', ⟨Nat.le_refl _⟩, t15_⟩
 case round =>
  clear H'; (try clear c1); (try clear p2); obtain ⟨x5_1, rfl, HA, HK1, ⟨m1, rfl⟩⟩ := hrel; cases gk with
  | zero => exact absurd HA.out (by simp [spec_l18Pipe.l0])
  | succ k1 =>
   have H := HA.out; clear HA; simp only [spec_l18Pipe.l0] at H; by_cases c3 : 0 < (l0.length : Int)
   ·rw [if_pos c3] at H; have c3b0 : decide (0 < (l0.length : Int)) = true := decide_eq_true c3; have c3b1 : decide (0 < l0.length) = true := decide_eq_true t24_; clear c3; by_cases c4 : x5_1 < (((rd_T33 l0 0).f1).length : Int)
    ·rw [if_pos c4] at H; have c4b0 : decide (x5_1 < (((rd_T33 l0 0).f1).length : Int)) = true := decide_eq_true c4; clear c4; by_cases c5 : 0 ≤ x5_1
     ·rw [if_pos c5] at H; have c5b0 : decide (0 ≤ x5_1) = true := decide_eq_true c5; clear c5; by_cases c6 : 0 < (l1.length : Int)
      ·rw [if_pos c6] at H; have c6b0 : decide (0 < (l1.length : Int)) = true := decide_eq_true c6; have c6b1 : decide (0 < l1.length) = true := decide_eq_true t24_; clear c6; by_cases c7 : ((rd_T100 ((rd_T33 l0 0).f1) x5_1).f0).toList = ((rd_T51 l1 0).f1).toList
       ·rw [if_pos c7] at H; have c7b0 : (((rd_T100 ((rd_T33 l0 0).f1) x5_1).f0).toList == ((rd_T51 l1 0).f1).toList) = true := beq_iff_eq.mpr c7; have c7b1 : (((rd_T100 ((rd_T33 l0 0).f1) x5_1).f0).toList != ((rd_T51 l1 0).f1).toList) = false := bne_eq_false_iff_eq.mpr c7; clear c7; obtain rfl := Option.some.inj H; have p190 : 0 ≤ (0 : Int) := t24_; have q190 : 0 < (l0.length : Int) := of_decide_eq_true t2_; obtain ⟨ad190, A190_0, c190_0, A190_1, c190_1, e190, hx190_0, hx190_1, hl190_0, hi190_0, hl190_1, hi190_1⟩ := at_T33 HR0.out 0 p190 q190; cases e190; have qi190 : (0 < l0.length) = True := eq_true t24_; (try rw [za_] at hx190_0); (try rw [za_] at hx190_1); have HR190_0 := Aside0.mk hi190_0; have HC190_0 := Aside0.mk hl190_0; clear hi190_0 hl190_0; have HR190_1 := Aside0.mk hi190_1; have HC190_1 := Aside0.mk hl190_1; clear hi190_1 hl190_1; replace p190 := eq_true p190; replace q190 := eq_true q190; have p191 : 0 ≤ (0 : Int) := t24_; have q191 : 0 < (l0.length : Int) := of_decide_eq_true t2_; obtain ⟨ad191, A191_0, c191_0, A191_1, c191_1, e191, hx191_0, hx191_1, hl191_0, hi191_0, hl191_1, hi191_1⟩ := at_T33 HR0.out 0 p191 q191; obtain rfl : ad190 = ad191 := (by injection e191); have qi191 : (0 < l0.length) = True := eq_true t24_; (try rw [za_] at hx191_0); (try rw [za_] at hx191_1); have HR191_0 := Aside0.mk hi191_0; have HC191_0 := Aside0.mk hl191_0; clear hi191_0 hl191_0; have HR191_1 := Aside0.mk hi191_1; have HC191_1 := Aside0.mk hl191_1; clear hi191_1 hl191_1; replace p191 := eq_true p191; replace q191 := eq_true q191; have ea_ := Option.some.inj (hx190_0.symm.trans hx191_0); injection ea_ with ea_ en_ ec_; subst ea_; subst ec_; clear en_; have ea_ := Option.some.inj (hx190_1.symm.trans hx191_1); injection ea_ with ea_ en_ ec_; subst ea_; subst ec_; clear en_; have p192 : 0 ≤ (x5_1 : Int) := of_decide_eq_true t2_; have q192 : x5_1 < (((rd_T33 l0 0).f1).length : Int) := of_decide_eq_true t2_; obtain ⟨ad192, e192, hx192_0, hx192_1, hx192_2, hx192_3, hx192_4, hx192_5⟩ := at_T100 HR191_1.out x5_1 p192 q192; cases e192; replace p192 := eq_true p192; replace q192 := eq_true q192; have p193 : 0 ≤ (0 : Int) := t24_; have q193 : 0 < (l1.length : Int) := of_decide_eq_true t2_; obtain ⟨ad193, e193, hx193_0, hx193_1, hx193_2⟩ := at_T51 HR1.out 0 p193 q193; cases e193; have qi193 : (0 < l1.length) = True := eq_true t24_; (try rw [za_] at hx193_0); (try rw [za_] at hx193_1); (try rw [za_] at hx193_2); replace p193 := eq_true p193; replace q193 := eq_true q193; go_wp2; (repeat (go_quiet (fail); try go_wp2)); go_ret
        exact ⟨t7_, t15_⟩
       ·rw [if_neg c7] at H; have c7b0 : (((rd_T100 ((rd_T33 l0 0).f1) x5_1).f0).toList == ((rd_T51 l1 0).f1).toList) = false := beq_eq_false_iff_ne.mpr c7; have c7b1 : (((rd_T100 ((rd_T33 l0 0).f1) x5_1).f0).toList != ((rd_T51 l1 0).f1).toList) = true := bne_iff_ne.mpr c7; have H' := Aside0.mk H; clear H; have p190 : 0 ≤ (0 : Int) := t24_; have q190 : 0 < (l0.length : Int) := of_decide_eq_true t2_; obtain ⟨ad190, A190_0, c190_0, A190_1, c190_1, e190, hx190_0, hx190_1, hl190_0, hi190_0, hl190_1, hi190_1⟩ := at_T33 HR0.out 0 p190 q190; cases e190; have qi190 : (0 < l0.length) = True := eq_true t24_; (try rw [za_] at hx190_0); (try rw [za_] at hx190_1); have HR190_0 := Aside0.mk hi190_0; have HC190_0 := Aside0.mk hl190_0; clear hi190_0 hl190_0; have HR190_1 := Aside0.mk hi190_1; have HC190_1 := Aside0.mk hl190_1; clear hi190_1 hl190_1; replace p190 := eq_true p190; replace q190 := eq_true q190; have p191 : 0 ≤ (0 : Int) := t24_; have q191 : 0 < (l0.length : Int) := of_decide_eq_true t2_; obtain ⟨ad191, A191_0, c191_0, A191_1, c191_1, e191, hx191_0, hx191_1, hl191_0, hi191_0, hl191_1, hi191_1⟩ := at_T33 HR0.out 0 p191 q191; obtain rfl : ad190 = ad191 := (by injection e191); have qi191 : (0 < l0.length) = True := eq_true t24_; (try rw [za_] at hx191_0); (try rw [za_] at hx191_1); have HR191_0 := Aside0.mk hi191_0; have HC191_0 := Aside0.mk hl191_0; clear hi191_0 hl191_0; have HR191_1 := Aside0.mk hi191_1; have HC191_1 := Aside0.mk hl191_1; clear hi191_1 hl191_1; replace p191 := eq_true p191; replace q191 := eq_true q191; have ea_ := Option.some.inj (hx190_0.symm.trans hx191_0); injection ea_ with ea_ en_ ec_; subst ea_; subst ec_; clear en_; have ea_ := Option.some.inj (hx190_1.symm.trans hx191_1); injection ea_ with ea_ en_ ec_; subst ea_; subst ec_; clear en_; have p192 : 0 ≤ (x5_1 : Int) := of_decide_eq_true t2_; have q192 : x5_1 < (((rd_T33 l0 0).f1).length : Int) := of_decide_eq_true t2_; obtain ⟨ad192, e192, hx192_0, hx192_1, hx192_2, hx192_3, hx192_4, hx192_5⟩ := at_T100 HR191_1.out x5_1 p192 q192; cases e192; replace p192 := eq_true p192; replace q192 := eq_true q192; have p193 : 0 ≤ (0 : Int) := t24_; have q193 : 0 < (l1.length : Int) := of_decide_eq_true t2_; obtain ⟨ad193, e193, hx193_0, hx193_1, hx193_2⟩ := at_T51 HR1.out 0 p193 q193; cases e193; have qi193 : (0 < l1.length) = True := eq_true t24_; (try rw [za_] at hx193_0); (try rw [za_] at hx193_1); (try rw [za_] at hx193_2); replace p193 := eq_true p193; replace q193 := eq_true q193; go_wp2; (repeat (go_quiet (fail); try go_wp2)); go_roundg k1
        case measure => have := HK1.out; omega
        case rel => exact ⟨(wrap64 (x5_1 + 1)), t7_, H', ⟨t51_⟩, t15_⟩
      ·rw [if_neg c6] at H; exact absurd H t54_
     ·rw [if_neg c5] at H; exact absurd H t54_
    ·rw [if_neg c4] at H; have c4b0 : decide (x5_1 < (((rd_T33 l0 0).f1).length : Int)) = false := decide_eq_false c4; clear c4; obtain rfl := Option.some.inj H; have p190 : 0 ≤ (0 : Int) := t24_; have q190 : 0 < (l0.length : Int) := of_decide_eq_true t2_; obtain ⟨ad190, A190_0, c190_0, A190_1, c190_1, e190, hx190_0, hx190_1, hl190_0, hi190_0, hl190_1, hi190_1⟩ := at_T33 HR0.out 0 p190 q190; cases e190; have qi190 : (0 < l0.length) = True := eq_true t24_; (try rw [za_] at hx190_0); (try rw [za_] at hx190_1); have HR190_0 := Aside0.mk hi190_0; have HC190_0 := Aside0.mk hl190_0; clear hi190_0 hl190_0; have HR190_1 := Aside0.mk hi190_1; have HC190_1 := Aside0.mk hl190_1; clear hi190_1 hl190_1; replace p190 := eq_true p190; replace q190 := eq_true q190; go_wp2; (repeat (go_quiet (fail); try go_wp2)); go_ret
     exact ⟨t7_, t15_⟩
   ·rw [if_neg c3] at H; exact absurd H t54_

/-! ### spec_l00In: function 98 -/
def spec_l00In.f (a0 : Int) (a1 : Int) (a2 : Int) : Option (Bool) := if a0 ≥ a1 then (some (decide (a0 ≤ a2))) else (some false)
set_option maxHeartbeats 8000000 in
set_option maxRecDepth 100000 in
theorem spec_l00In.calls (a0 : Int) (a1 : Int) (a2 : Int) (r : Bool) (w : World) (h : spec_l00In.f a0 a1 a2 = some r) :
  Calls Try.prog 98 #[.int .i64 a0, .int .i64 a1, .int .i64 a2] w fun e w' => e = .returned (.bool r) ∧ Drawn0 w w' := by
 have H : (if a0 ≥ a1 then (some (decide (a0 ≤ a2))) else (some false)) = some r := h; clear h; by_cases c4 : a0 ≥ a1
 ·rw [if_pos c4] at H; have c4b0 : decide (a1 ≤ a0) = true := decide_eq_true c4; clear c4; obtain rfl := Option.some.inj H; go_enter Try.func98, Try.ntmps98; go_wp2; go_ret
  exact ⟨t7_, t15_⟩
 ·rw [if_neg c4] at H; have c4b0 : decide (a1 ≤ a0) = false := decide_eq_false c4; clear c4; obtain rfl := Option.some.inj H; go_enter Try.func98, Try.ntmps98; go_wp2; go_ret
  exact ⟨t7_, t15_⟩

end Go.Proofs.Ytheokilgacmlmaa.PFnExactRegionPipes
