-- written by wip/xprint.py, a program of this session, for this claim; not trusted: Lean checks it.
import Derived.Test.YtaomflfofihknaaPFnExactLeastSpeedx0
import Derived.Test.YtaomflfofihknaaPFnExactLeastSpeedx1
import Derived.Test.YtaomflfofihknaaPFnExactLeastSpeedx2
import Derived.Test.YtaomflfofihknaaPFnExactLeastSpeedx3
namespace Go.Proofs.Ytaomflfofihknaa.PFnExactLeastSpeed
open Go.RowKit Go.Proofs.YtaomflfofihknaaW.PrintWords Go.Proofs.YtaomflfofihknaaW.PrintLast Go.Proofs.YtaomflfofihknaaW.PrintMore
attribute [local go_sem] max2_int min2_int max_two min_two max_three min_three max_four min_four   -- for this text's walks alone
set_option linter.unusedVariables false
set_option linter.unusedSimpArgs false

/-! ### spec_l08Head: function 86 -/
def spec_l08Head.l0 : Nat → List (S54) → Int → Int → Option (Int)
 | 0, _, _, _ => none
 | k + 1, x0, x1, x5 => if 0 < (x0.length : Int) then (if x5 < (((rd_T54 x0 0).f1).length : Int) then (if 0 ≤ (wrap64 (x5 - 1)) then (if (wrap64 (x5 - 1)) < (((rd_T54 x0 0).f1).length : Int) then (if 0 ≤ x5 then (if 0 < ((rd_L1 ((rd_T54 x0 0).f1) x5).length : Int) then (if x1 ≤ (rd (rd_L1 ((rd_T54 x0 0).f1) x5) 0) then (if 0 < ((rd_L1 ((rd_T54 x0 0).f1) (wrap64 (x5 - 1))).length : Int) then (if 1 < ((rd_L1 ((rd_T54 x0 0).f1) (wrap64 (x5 - 1))).length : Int) then (if 1 < ((rd_L1 ((rd_T54 x0 0).f1) x5).length : Int) then ((spec_l01Line.f k (rd (rd_L1 ((rd_T54 x0 0).f1) (wrap64 (x5 - 1))) 0) (rd (rd_L1 ((rd_T54 x0 0).f1) (wrap64 (x5 - 1))) 1) (rd (rd_L1 ((rd_T54 x0 0).f1) x5) 0) (rd (rd_L1 ((rd_T54 x0 0).f1) x5) 1) x1).bind fun t169 => (some t169)) else (none)) else (none)) else (none)) else (spec_l08Head.l0 k x0 x1 (wrap64 (x5 + 1)))) else (none)) else (none)) else (none)) else (none)) else (some 0)) else (none)
def spec_l08Head.f (k : Nat) (l0 : List (S54)) (a1 : Int) : Option (Int) := spec_l08Head.l0 k l0 a1 1
theorem spec_l08Head.mono_l : ∀ k, (∀ y0 y1 y2, LeO (spec_l08Head.l0 k y0 y1 y2) (spec_l08Head.l0 (k + 1) y0 y1 y2))
 | 0 => fun _ _ _ r h => by simp [spec_l08Head.l0] at h
 | k + 1 => by
  have ih0 := spec_l08Head.mono_l k
  ·intro y0 y1 y2
   unfold spec_l08Head.l0
   repeat' first
   | (with_reducible exact ih0 _ _ _)
   | (with_reducible exact spec_l01Line.mono _ _ _ _ _ _)
   | (with_reducible exact LeO.refl _)
   | (with_reducible exact LeO.none _)
   | (with_reducible refine LeO.ite ?_ ?_)
   | (with_reducible refine LeO.bind ?_ (fun _ => ?_))
   | exact ih0 _ _ _
   | exact spec_l01Line.mono _ _ _ _ _ _
   | exact LeO.none _
   | refine LeO.ite ?_ ?_
   | refine LeO.bind ?_ (fun _ => ?_)
theorem spec_l08Head.mono : ∀ a0 a1 k, LeO (spec_l08Head.f k a0 a1) (spec_l08Head.f (k + 1) a0 a1) := by
 intro a0 a1 k
 have ih0 := spec_l08Head.mono_l k
 unfold spec_l08Head.f
 repeat' first
   | (with_reducible exact ih0 _ _ _)
   | (with_reducible exact spec_l01Line.mono _ _ _ _ _ _)
   | (with_reducible exact LeO.refl _)
   | (with_reducible exact LeO.none _)
   | (with_reducible refine LeO.ite ?_ ?_)
   | (with_reducible refine LeO.bind ?_ (fun _ => ?_))
   | exact ih0 _ _ _
   | exact spec_l01Line.mono _ _ _ _ _ _
   | exact LeO.none _
   | refine LeO.ite ?_ ?_
   | refine LeO.bind ?_ (fun _ => ?_)
set_option maxHeartbeats 8000000 in
set_option maxRecDepth 100000 in
theorem spec_l08Head.calls (k : Nat) (A0 : Option Addr) (c0 : Nat) (l0 : List (S54)) (a1 : Int) (r : Int) (w : World) (hr0 : Kd.C k54 w A0 l0.length l0) (hc0 : l0.length ≤ c0) (h : spec_l08Head.f k l0 a1 = some r) :
  Calls Try.prog 86 #[.pointer A0, .int .i64 a1] w fun e w' => e = .returned (.int .i64 r) ∧ Drawn0 w w' := by
 have HR0 := Aside0.mk hr0
 have HC0 := Aside0.mk hc0
 clear hr0 hc0
 have H : (spec_l08Head.l0 k l0 a1 1) = some r := h
 clear h
 have H' := Aside0.mk H
 clear H
 go_enter Try.func86, Try.ntmps86
 go_wp2
 repeat (go_quiet (fail); try go_wp2)
 go_loopg [5] k (fun kq v5 w' => ∃ (x5_1 : Int), v5 = .int .i64 x5_1 ∧ Aside0 (spec_l08Head.l0 kq l0 a1 x5_1 = some r) ∧ Aside0 (kq ≤ k) ∧ Drawn0 w w')
 case atStart => exact ⟨(1), (by first | rfl | (simp; done) | (simp [*]; done)), H', ⟨Nat.le_refl _⟩, by repeat (first | exact Drawn0.refl _ | apply Drawn0.step)⟩
 case round =>
  clear H'
  try clear p2
  obtain ⟨x5_1, rfl, HA, HK1, ⟨m1, rfl⟩⟩ := hrel
  cases gk with
  | zero => exact absurd HA.out (by simp [spec_l08Head.l0])
  | succ k1 =>
   have H := HA.out
   clear HA
   simp only [spec_l08Head.l0] at H
   by_cases c3 : 0 < (l0.length : Int)
   ·rw [if_pos c3] at H
    have c3b0 : decide (0 < (l0.length : Int)) = true := decide_eq_true c3
    have c3b1 : decide (0 < l0.length) = true := decide_eq_true (by omega)
    clear c3
    by_cases c4 : x5_1 < (((rd_T54 l0 0).f1).length : Int)
    ·rw [if_pos c4] at H
     have c4b0 : decide (x5_1 < (((rd_T54 l0 0).f1).length : Int)) = true := decide_eq_true c4
     clear c4
     obtain ⟨ji5, hji5⟩ : ∃ j_ : Int, (wrap64 (x5_1 - 1)) = j_ := ⟨_, rfl⟩
     replace H : (if 0 ≤ (ji5) then (if (ji5) < (((rd_T54 l0 0).f1).length : Int) then (if 0 ≤ x5_1 then (if 0 < ((rd_L1 ((rd_T54 l0 0).f1) x5_1).length : Int) then (if a1 ≤ (rd (rd_L1 ((rd_T54 l0 0).f1) x5_1) 0) then (if 0 < ((rd_L1 ((rd_T54 l0 0).f1) (ji5)).length : Int) then (if 1 < ((rd_L1 ((rd_T54 l0 0).f1) (ji5)).length : Int) then (if 1 < ((rd_L1 ((rd_T54 l0 0).f1) x5_1).length : Int) then ((spec_l01Line.f k1 (rd (rd_L1 ((rd_T54 l0 0).f1) (ji5)) 0) (rd (rd_L1 ((rd_T54 l0 0).f1) (ji5)) 1) (rd (rd_L1 ((rd_T54 l0 0).f1) x5_1) 0) (rd (rd_L1 ((rd_T54 l0 0).f1) x5_1) 1) a1).bind fun t169 => (some t169)) else (none)) else (none)) else (none)) else (spec_l08Head.l0 k1 l0 a1 (wrap64 (x5_1 + 1)))) else (none)) else (none)) else (none)) else (none)) = some r := by first | (rw [hji5] at H; exact H) | (simp only [hji5] at H ⊢; exact H)
     have hji5w : (IntKind.i64.wrap (x5_1 - 1)) = ji5 := (i64_w _).trans hji5
     by_cases c6 : 0 ≤ (ji5)
     ·rw [if_pos c6] at H
      have c6b0 : decide (0 ≤ (ji5)) = true := decide_eq_true c6
      clear c6
      by_cases c7 : (ji5) < (((rd_T54 l0 0).f1).length : Int)
      ·rw [if_pos c7] at H
       have c7b0 : decide ((ji5) < (((rd_T54 l0 0).f1).length : Int)) = true := decide_eq_true c7
       clear c7
       by_cases c8 : 0 ≤ x5_1
       ·rw [if_pos c8] at H
        have c8b0 : decide (0 ≤ x5_1) = true := decide_eq_true c8
        clear c8
        by_cases c9 : 0 < ((rd_L1 ((rd_T54 l0 0).f1) x5_1).length : Int)
        ·rw [if_pos c9] at H
         have c9b0 : decide (0 < ((rd_L1 ((rd_T54 l0 0).f1) x5_1).length : Int)) = true := decide_eq_true c9
         have c9b1 : decide (0 < (rd_L1 ((rd_T54 l0 0).f1) x5_1).length) = true := decide_eq_true (by omega)
         clear c9
         by_cases c10 : a1 ≤ (rd (rd_L1 ((rd_T54 l0 0).f1) x5_1) 0)
         ·rw [if_pos c10] at H
          have c10b0 : decide (a1 ≤ (rd (rd_L1 ((rd_T54 l0 0).f1) x5_1) 0)) = true := decide_eq_true c10
          clear c10
          by_cases c11 : 0 < ((rd_L1 ((rd_T54 l0 0).f1) (ji5)).length : Int)
          ·rw [if_pos c11] at H
           have c11b0 : decide (0 < ((rd_L1 ((rd_T54 l0 0).f1) (ji5)).length : Int)) = true := decide_eq_true c11
           have c11b1 : decide (0 < (rd_L1 ((rd_T54 l0 0).f1) (ji5)).length) = true := decide_eq_true (by omega)
           clear c11
           by_cases c12 : 1 < ((rd_L1 ((rd_T54 l0 0).f1) (ji5)).length : Int)
           ·rw [if_pos c12] at H
            have c12b0 : decide (1 < ((rd_L1 ((rd_T54 l0 0).f1) (ji5)).length : Int)) = true := decide_eq_true c12
            have c12b1 : decide (1 < (rd_L1 ((rd_T54 l0 0).f1) (ji5)).length) = true := decide_eq_true (by omega)
            clear c12
            by_cases c13 : 1 < ((rd_L1 ((rd_T54 l0 0).f1) x5_1).length : Int)
            ·rw [if_pos c13] at H
             have c13b0 : decide (1 < ((rd_L1 ((rd_T54 l0 0).f1) x5_1).length : Int)) = true := decide_eq_true c13
             have c13b1 : decide (1 < (rd_L1 ((rd_T54 l0 0).f1) x5_1).length) = true := decide_eq_true (by omega)
             clear c13
             replace H := Option.bind_eq_some_iff.mp H
             obtain ⟨t169, A140, H⟩ := H
             replace H : (some t169) = some r := H
             have A14 := Aside0.mk A140
             clear A140
             obtain rfl := Option.some.inj H
             have p159 : 0 ≤ (0 : Int) := (by omega)
             have q159 : 0 < (l0.length : Int) := of_decide_eq_true (by first | (with_reducible assumption) | assumption)
             obtain ⟨ad159, A159_1, c159_1, e159, hx159_0, hx159_1, hl159_1, hi159_1⟩ := at_T54 HR0.out 0 p159 q159
             cases e159
             have qi159 : (0 < l0.length) = True := eq_true (by omega)
             (try rw [show ((0 : Int)).toNat = 0 from rfl] at hx159_0)
             (try rw [show 0 * 2 = 0 from rfl] at hx159_0)
             (try rw [Addr.add_zero'] at hx159_0)
             (try rw [show ((0 : Int)).toNat = 0 from rfl] at hx159_1)
             (try rw [show 0 * 2 = 0 from rfl] at hx159_1)
             (try rw [Addr.add_zero'] at hx159_1)
             have HR159_1 := Aside0.mk hi159_1
             have HC159_1 := Aside0.mk hl159_1
             clear hi159_1 hl159_1
             replace p159 := eq_true p159
             replace q159 := eq_true q159
             have p160 : 0 ≤ (0 : Int) := (by omega)
             have q160 : 0 < (l0.length : Int) := of_decide_eq_true (by first | (with_reducible assumption) | assumption)
             obtain ⟨ad160, A160_1, c160_1, e160, hx160_0, hx160_1, hl160_1, hi160_1⟩ := at_T54 HR0.out 0 p160 q160
             obtain rfl : ad159 = ad160 := (by injection e160)
             have qi160 : (0 < l0.length) = True := eq_true (by omega)
             (try rw [show ((0 : Int)).toNat = 0 from rfl] at hx160_0)
             (try rw [show 0 * 2 = 0 from rfl] at hx160_0)
             (try rw [Addr.add_zero'] at hx160_0)
             (try rw [show ((0 : Int)).toNat = 0 from rfl] at hx160_1)
             (try rw [show 0 * 2 = 0 from rfl] at hx160_1)
             (try rw [Addr.add_zero'] at hx160_1)
             have HR160_1 := Aside0.mk hi160_1
             have HC160_1 := Aside0.mk hl160_1
             clear hi160_1 hl160_1
             replace p160 := eq_true p160
             replace q160 := eq_true q160
             have ea_ := Option.some.inj (hx159_1.symm.trans hx160_1)
             injection ea_ with ea_ en_ ec_
             subst ea_
             subst ec_
             clear en_
             have p161 : 0 ≤ ((ji5) : Int) := of_decide_eq_true (by first | (with_reducible assumption) | assumption)
             have q161 : (ji5) < (((rd_T54 l0 0).f1).length : Int) := of_decide_eq_true (by first | (with_reducible assumption) | assumption)
             obtain ⟨ad161, A161_0, c161_0, e161, hx161_0, hl161_0, hi161_0⟩ := at_L1 HR160_1.out (ji5) p161 q161
             cases e161
             have HR161_0 := Aside0.mk hi161_0
             have HC161_0 := Aside0.mk hl161_0
             clear hi161_0 hl161_0
             replace p161 := eq_true p161
             replace q161 := eq_true q161
             have p162 : 0 ≤ (0 : Int) := (by omega)
             have q162 : 0 < (l0.length : Int) := of_decide_eq_true (by first | (with_reducible assumption) | assumption)
             obtain ⟨ad162, A162_1, c162_1, e162, hx162_0, hx162_1, hl162_1, hi162_1⟩ := at_T54 HR0.out 0 p162 q162
             obtain rfl : ad159 = ad162 := (by injection e162)
             have qi162 : (0 < l0.length) = True := eq_true (by omega)
             (try rw [show ((0 : Int)).toNat = 0 from rfl] at hx162_0)
             (try rw [show 0 * 2 = 0 from rfl] at hx162_0)
             (try rw [Addr.add_zero'] at hx162_0)
             (try rw [show ((0 : Int)).toNat = 0 from rfl] at hx162_1)
             (try rw [show 0 * 2 = 0 from rfl] at hx162_1)
             (try rw [Addr.add_zero'] at hx162_1)
             have HR162_1 := Aside0.mk hi162_1
             have HC162_1 := Aside0.mk hl162_1
             clear hi162_1 hl162_1
             replace p162 := eq_true p162
             replace q162 := eq_true q162
             have ea_ := Option.some.inj (hx159_1.symm.trans hx162_1)
             injection ea_ with ea_ en_ ec_
             subst ea_
             subst ec_
             clear en_
             have p163 : 0 ≤ (x5_1 : Int) := of_decide_eq_true (by first | (with_reducible assumption) | assumption)
             have q163 : x5_1 < (((rd_T54 l0 0).f1).length : Int) := of_decide_eq_true (by first | (with_reducible assumption) | assumption)
             obtain ⟨ad163, A163_0, c163_0, e163, hx163_0, hl163_0, hi163_0⟩ := at_L1 HR162_1.out x5_1 p163 q163
             cases e163
             have HR163_0 := Aside0.mk hi163_0
             have HC163_0 := Aside0.mk hl163_0
             clear hi163_0 hl163_0
             replace p163 := eq_true p163
             replace q163 := eq_true q163
             have p164 : 0 ≤ (0 : Int) := (by omega)
             have q164 : 0 < ((rd_L1 ((rd_T54 l0 0).f1) x5_1).length : Int) := of_decide_eq_true (by first | (with_reducible assumption) | assumption)
             obtain ⟨ad164, e164, hx164_0⟩ := Kd.at_int HR163_0.out 0 p164 q164
             cases e164
             have qi164 : (0 < (rd_L1 ((rd_T54 l0 0).f1) x5_1).length) = True := eq_true (by omega)
             (try rw [show ((0 : Int)).toNat = 0 from rfl] at hx164_0)
             (try rw [Addr.add_zero'] at hx164_0)
             replace p164 := eq_true p164
             replace q164 := eq_true q164
             have p165 : 0 ≤ (0 : Int) := (by omega)
             have q165 : 0 < ((rd_L1 ((rd_T54 l0 0).f1) (ji5)).length : Int) := of_decide_eq_true (by first | (with_reducible assumption) | assumption)
             obtain ⟨ad165, e165, hx165_0⟩ := Kd.at_int HR161_0.out 0 p165 q165
             cases e165
             have qi165 : (0 < (rd_L1 ((rd_T54 l0 0).f1) (ji5)).length) = True := eq_true (by omega)
             (try rw [show ((0 : Int)).toNat = 0 from rfl] at hx165_0)
             (try rw [Addr.add_zero'] at hx165_0)
             replace p165 := eq_true p165
             replace q165 := eq_true q165
             have p166 : 0 ≤ (1 : Int) := (by omega)
             have q166 : 1 < ((rd_L1 ((rd_T54 l0 0).f1) (ji5)).length : Int) := of_decide_eq_true (by first | (with_reducible assumption) | assumption)
             obtain ⟨ad166, e166, hx166_0⟩ := Kd.at_int HR161_0.out 1 p166 q166
             obtain rfl : ad165 = ad166 := (by injection e166)
             (try simp only [show (1 : Int).toNat = 1 from rfl, Nat.reduceMul, Nat.reduceEqDiff, Go.Addr.add, ↓reduceIte] at hx166_0)
             have qi166 : (1 < (rd_L1 ((rd_T54 l0 0).f1) (ji5)).length) = True := eq_true (by omega)
             (try rw [show ((1 : Int)).toNat = 1 from rfl] at hx166_0)
             replace p166 := eq_true p166
             replace q166 := eq_true q166
             have p167 : 0 ≤ (0 : Int) := (by omega)
             have q167 : 0 < ((rd_L1 ((rd_T54 l0 0).f1) x5_1).length : Int) := of_decide_eq_true (by first | (with_reducible assumption) | assumption)
             obtain ⟨ad167, e167, hx167_0⟩ := Kd.at_int HR163_0.out 0 p167 q167
             obtain rfl : ad164 = ad167 := (by injection e167)
             have qi167 : (0 < (rd_L1 ((rd_T54 l0 0).f1) x5_1).length) = True := eq_true (by omega)
             (try rw [show ((0 : Int)).toNat = 0 from rfl] at hx167_0)
             (try rw [Addr.add_zero'] at hx167_0)
             replace p167 := eq_true p167
             replace q167 := eq_true q167
             have p168 : 0 ≤ (1 : Int) := (by omega)
             have q168 : 1 < ((rd_L1 ((rd_T54 l0 0).f1) x5_1).length : Int) := of_decide_eq_true (by first | (with_reducible assumption) | assumption)
             obtain ⟨ad168, e168, hx168_0⟩ := Kd.at_int HR163_0.out 1 p168 q168
             obtain rfl : ad164 = ad168 := (by injection e168)
             (try simp only [show (1 : Int).toNat = 1 from rfl, Nat.reduceMul, Nat.reduceEqDiff, Go.Addr.add, ↓reduceIte] at hx168_0)
             have qi168 : (1 < (rd_L1 ((rd_T54 l0 0).f1) x5_1).length) = True := eq_true (by omega)
             (try rw [show ((1 : Int)).toNat = 1 from rfl] at hx168_0)
             replace p168 := eq_true p168
             replace q168 := eq_true q168
             go_wp2_with (first | (go_at_call 145; (with_reducible refine (spec_l01Line.calls k1 (rd (rd_L1 ((rd_T54 l0 0).f1) (ji5)) 0) (rd (rd_L1 ((rd_T54 l0 0).f1) (ji5)) 1) (rd (rd_L1 ((rd_T54 l0 0).f1) x5_1) 0) (rd (rd_L1 ((rd_T54 l0 0).f1) x5_1) 1) a1 t169 _ A14.out).mono ?_); rintro e w' ⟨rfl, ⟨nd, rfl⟩⟩; (try first | exact ⟨rfl, _, World.drewN_drewN _ _ _⟩ | exact ⟨rfl, _, Eq.trans (World.drewN_drewN _ _ _) (congrArg (World.drewN _) (Nat.add_assoc _ _ _))⟩)))
             repeat (go_quiet (first | (go_at_call 145; (with_reducible refine (spec_l01Line.calls k1 (rd (rd_L1 ((rd_T54 l0 0).f1) (ji5)) 0) (rd (rd_L1 ((rd_T54 l0 0).f1) (ji5)) 1) (rd (rd_L1 ((rd_T54 l0 0).f1) x5_1) 0) (rd (rd_L1 ((rd_T54 l0 0).f1) x5_1) 1) a1 t169 _ A14.out).mono ?_); rintro e w' ⟨rfl, ⟨nd, rfl⟩⟩; (try first | exact ⟨rfl, _, World.drewN_drewN _ _ _⟩ | exact ⟨rfl, _, Eq.trans (World.drewN_drewN _ _ _) (congrArg (World.drewN _) (Nat.add_assoc _ _ _))⟩))); try go_wp2_with (first | (go_at_call 145; (with_reducible refine (spec_l01Line.calls k1 (rd (rd_L1 ((rd_T54 l0 0).f1) (ji5)) 0) (rd (rd_L1 ((rd_T54 l0 0).f1) (ji5)) 1) (rd (rd_L1 ((rd_T54 l0 0).f1) x5_1) 0) (rd (rd_L1 ((rd_T54 l0 0).f1) x5_1) 1) a1 t169 _ A14.out).mono ?_); rintro e w' ⟨rfl, ⟨nd, rfl⟩⟩; (try first | exact ⟨rfl, _, World.drewN_drewN _ _ _⟩ | exact ⟨rfl, _, Eq.trans (World.drewN_drewN _ _ _) (congrArg (World.drewN _) (Nat.add_assoc _ _ _))⟩))))
             go_ret
             exact ⟨by first | rfl | (simp; done) | (simp only [← hji5] <;> (first | rfl | simp)) | (simp [*]; done), by repeat (first | exact Drawn0.refl _ | apply Drawn0.step)⟩
            ·rw [if_neg c13] at H
             exact absurd H (by simp)
           ·rw [if_neg c12] at H
            exact absurd H (by simp)
          ·rw [if_neg c11] at H
           exact absurd H (by simp)
         ·rw [if_neg c10] at H
          have c10b0 : decide (a1 ≤ (rd (rd_L1 ((rd_T54 l0 0).f1) x5_1) 0)) = false := decide_eq_false c10
          clear c10
          have H' := Aside0.mk H
          clear H
          have p159 : 0 ≤ (0 : Int) := (by omega)
          have q159 : 0 < (l0.length : Int) := of_decide_eq_true (by first | (with_reducible assumption) | assumption)
          obtain ⟨ad159, A159_1, c159_1, e159, hx159_0, hx159_1, hl159_1, hi159_1⟩ := at_T54 HR0.out 0 p159 q159
          cases e159
          have qi159 : (0 < l0.length) = True := eq_true (by omega)
          (try rw [show ((0 : Int)).toNat = 0 from rfl] at hx159_0)
          (try rw [show 0 * 2 = 0 from rfl] at hx159_0)
          (try rw [Addr.add_zero'] at hx159_0)
          (try rw [show ((0 : Int)).toNat = 0 from rfl] at hx159_1)
          (try rw [show 0 * 2 = 0 from rfl] at hx159_1)
          (try rw [Addr.add_zero'] at hx159_1)
          have HR159_1 := Aside0.mk hi159_1
          have HC159_1 := Aside0.mk hl159_1
          clear hi159_1 hl159_1
          replace p159 := eq_true p159
          replace q159 := eq_true q159
          have p160 : 0 ≤ (0 : Int) := (by omega)
          have q160 : 0 < (l0.length : Int) := of_decide_eq_true (by first | (with_reducible assumption) | assumption)
          obtain ⟨ad160, A160_1, c160_1, e160, hx160_0, hx160_1, hl160_1, hi160_1⟩ := at_T54 HR0.out 0 p160 q160
          obtain rfl : ad159 = ad160 := (by injection e160)
          have qi160 : (0 < l0.length) = True := eq_true (by omega)
          (try rw [show ((0 : Int)).toNat = 0 from rfl] at hx160_0)
          (try rw [show 0 * 2 = 0 from rfl] at hx160_0)
          (try rw [Addr.add_zero'] at hx160_0)
          (try rw [show ((0 : Int)).toNat = 0 from rfl] at hx160_1)
          (try rw [show 0 * 2 = 0 from rfl] at hx160_1)
          (try rw [Addr.add_zero'] at hx160_1)
          have HR160_1 := Aside0.mk hi160_1
          have HC160_1 := Aside0.mk hl160_1
          clear hi160_1 hl160_1
          replace p160 := eq_true p160
          replace q160 := eq_true q160
          have ea_ := Option.some.inj (hx159_1.symm.trans hx160_1)
          injection ea_ with ea_ en_ ec_
          subst ea_
          subst ec_
          clear en_
          have p161 : 0 ≤ ((ji5) : Int) := of_decide_eq_true (by first | (with_reducible assumption) | assumption)
          have q161 : (ji5) < (((rd_T54 l0 0).f1).length : Int) := of_decide_eq_true (by first | (with_reducible assumption) | assumption)
          obtain ⟨ad161, A161_0, c161_0, e161, hx161_0, hl161_0, hi161_0⟩ := at_L1 HR160_1.out (ji5) p161 q161
          cases e161
          have HR161_0 := Aside0.mk hi161_0
          have HC161_0 := Aside0.mk hl161_0
          clear hi161_0 hl161_0
          replace p161 := eq_true p161
          replace q161 := eq_true q161
          have p162 : 0 ≤ (0 : Int) := (by omega)
          have q162 : 0 < (l0.length : Int) := of_decide_eq_true (by first | (with_reducible assumption) | assumption)
          obtain ⟨ad162, A162_1, c162_1, e162, hx162_0, hx162_1, hl162_1, hi162_1⟩ := at_T54 HR0.out 0 p162 q162
          obtain rfl : ad159 = ad162 := (by injection e162)
          have qi162 : (0 < l0.length) = True := eq_true (by omega)
          (try rw [show ((0 : Int)).toNat = 0 from rfl] at hx162_0)
          (try rw [show 0 * 2 = 0 from rfl] at hx162_0)
          (try rw [Addr.add_zero'] at hx162_0)
          (try rw [show ((0 : Int)).toNat = 0 from rfl] at hx162_1)
          (try rw [show 0 * 2 = 0 from rfl] at hx162_1)
          (try rw [Addr.add_zero'] at hx162_1)
          have HR162_1 := Aside0.mk hi162_1
          have HC162_1 := Aside0.mk hl162_1
          clear hi162_1 hl162_1
          replace p162 := eq_true p162
          replace q162 := eq_true q162
          have ea_ := Option.some.inj (hx159_1.symm.trans hx162_1)
          injection ea_ with ea_ en_ ec_
          subst ea_
          subst ec_
          clear en_
          have p163 : 0 ≤ (x5_1 : Int) := of_decide_eq_true (by first | (with_reducible assumption) | assumption)
          have q163 : x5_1 < (((rd_T54 l0 0).f1).length : Int) := of_decide_eq_true (by first | (with_reducible assumption) | assumption)
          obtain ⟨ad163, A163_0, c163_0, e163, hx163_0, hl163_0, hi163_0⟩ := at_L1 HR162_1.out x5_1 p163 q163
          cases e163
          have HR163_0 := Aside0.mk hi163_0
          have HC163_0 := Aside0.mk hl163_0
          clear hi163_0 hl163_0
          replace p163 := eq_true p163
          replace q163 := eq_true q163
          have p164 : 0 ≤ (0 : Int) := (by omega)
          have q164 : 0 < ((rd_L1 ((rd_T54 l0 0).f1) x5_1).length : Int) := of_decide_eq_true (by first | (with_reducible assumption) | assumption)
          obtain ⟨ad164, e164, hx164_0⟩ := Kd.at_int HR163_0.out 0 p164 q164
          cases e164
          have qi164 : (0 < (rd_L1 ((rd_T54 l0 0).f1) x5_1).length) = True := eq_true (by omega)
          (try rw [show ((0 : Int)).toNat = 0 from rfl] at hx164_0)
          (try rw [Addr.add_zero'] at hx164_0)
          replace p164 := eq_true p164
          replace q164 := eq_true q164
          go_wp2
          repeat (go_quiet (fail); try go_wp2)
          go_roundg k1
          case measure => have := HK1.out; omega
          case rel => exact ⟨(wrap64 (x5_1 + 1)), (by first | rfl | (simp; done) | (simp [*]; done)), H', ⟨by have := HK1.out; omega⟩, by repeat (first | exact Drawn0.refl _ | apply Drawn0.step)⟩
        ·rw [if_neg c9] at H
         exact absurd H (by simp)
       ·rw [if_neg c8] at H
        exact absurd H (by simp)
      ·rw [if_neg c7] at H
       exact absurd H (by simp)
     ·rw [if_neg c6] at H
      exact absurd H (by simp)
    ·rw [if_neg c4] at H
     have c4b0 : decide (x5_1 < (((rd_T54 l0 0).f1).length : Int)) = false := decide_eq_false c4
     clear c4
     obtain rfl := Option.some.inj H
     have p159 : 0 ≤ (0 : Int) := (by omega)
     have q159 : 0 < (l0.length : Int) := of_decide_eq_true (by first | (with_reducible assumption) | assumption)
     obtain ⟨ad159, A159_1, c159_1, e159, hx159_0, hx159_1, hl159_1, hi159_1⟩ := at_T54 HR0.out 0 p159 q159
     cases e159
     have qi159 : (0 < l0.length) = True := eq_true (by omega)
     (try rw [show ((0 : Int)).toNat = 0 from rfl] at hx159_0)
     (try rw [show 0 * 2 = 0 from rfl] at hx159_0)
     (try rw [Addr.add_zero'] at hx159_0)
     (try rw [show ((0 : Int)).toNat = 0 from rfl] at hx159_1)
     (try rw [show 0 * 2 = 0 from rfl] at hx159_1)
     (try rw [Addr.add_zero'] at hx159_1)
     have HR159_1 := Aside0.mk hi159_1
     have HC159_1 := Aside0.mk hl159_1
     clear hi159_1 hl159_1
     replace p159 := eq_true p159
     replace q159 := eq_true q159
     go_wp2
     repeat (go_quiet (fail); try go_wp2)
     go_ret
     exact ⟨by first | rfl | (simp; done) | (simp [*]; done), by repeat (first | exact Drawn0.refl _ | apply Drawn0.step)⟩
   ·rw [if_neg c3] at H
    exact absurd H (by simp)

/-! ### spec_LeastSpeed: function 33 -/
mutual
def spec_LeastSpeed.j0 : Nat → Int → Int → Int → Bool → ByteArray → List (List Int) → Option (Int × Int)
 | 0, _, _, _, _, _, _ => none
 | k + 1, x1, x2, x3, x23, x171000, x171001 => if x23 = true then (some (0, 2)) else ((spec_l08Needs.f x1 x2 x3).bind fun t174 => (spec_LeastSpeed.l0 k x3 t174 100 x171000 x171001))
def spec_LeastSpeed.l0 : Nat → Int → Int → Int → ByteArray → List (List Int) → Option (Int × Int)
 | 0, _, _, _, _, _ => none
 | k + 1, x3, x10, x11, x171000, x171001 => if x11 ≤ 1200 then ((spec_l08Slow.f k [(⟨x171000, x171001⟩ : S54)] x11).bind fun bt175 => ((spec_l08Ok.f k [(⟨bt175.1, bt175.2⟩ : S54)]).bind fun t180 => (if t180 = true then ((spec_l08Head.f k [(⟨bt175.1, bt175.2⟩ : S54)] x3).bind fun t181 => (if t181 ≥ x10 then (some (x11, 0)) else (spec_LeastSpeed.l0 k x3 x10 (wrap64 (x11 + 1)) x171000 x171001))) else (spec_LeastSpeed.l0 k x3 x10 (wrap64 (x11 + 1)) x171000 x171001)))) else (some (0, 3))
end
def spec_LeastSpeed.f (k : Nat) (a0_0 : ByteArray) (l0_1 : List (List Int)) (a1 : Int) (a2 : Int) (a3 : Int) : Option (Int × Int) := (spec_l08Ok.f k [(⟨a0_0, l0_1⟩ : S54)]).bind fun t171 => (if t171 = true then ((spec_l08System.f a1 a2).bind fun t172 => (if t172 = true then ((spec_l02Flow.f a3).bind fun t173 => (spec_LeastSpeed.j0 k a1 a2 a3 (!t173) a0_0 l0_1)) else (spec_LeastSpeed.j0 k a1 a2 a3 true a0_0 l0_1))) else (some (0, 1)))
theorem spec_LeastSpeed.mono_l : ∀ k, (∀ y0 y1 y2 y3 y4 y5, LeO (spec_LeastSpeed.j0 k y0 y1 y2 y3 y4 y5) (spec_LeastSpeed.j0 (k + 1) y0 y1 y2 y3 y4 y5)) ∧ (∀ y0 y1 y2 y3 y4, LeO (spec_LeastSpeed.l0 k y0 y1 y2 y3 y4) (spec_LeastSpeed.l0 (k + 1) y0 y1 y2 y3 y4))
 | 0 => ⟨fun _ _ _ _ _ _ r h => by simp [spec_LeastSpeed.j0] at h, fun _ _ _ _ _ r h => by simp [spec_LeastSpeed.l0] at h⟩
 | k + 1 => by
  obtain ⟨ih0, ih1⟩ := spec_LeastSpeed.mono_l k
  refine ⟨?_, ?_⟩
  ·intro y0 y1 y2 y3 y4 y5
   unfold spec_LeastSpeed.j0
   repeat' first
   | (with_reducible exact ih0 _ _ _ _ _ _)
   | (with_reducible exact ih1 _ _ _ _ _)
   | (with_reducible exact spec_l08Head.mono _ _ _)
   | (with_reducible exact spec_l08Ok.mono _ _)
   | (with_reducible exact spec_l08Slow.mono _ _ _)
   | (with_reducible exact LeO.refl _)
   | (with_reducible exact LeO.none _)
   | (with_reducible refine LeO.ite ?_ ?_)
   | (with_reducible refine LeO.bind ?_ (fun _ => ?_))
   | exact ih0 _ _ _ _ _ _
   | exact ih1 _ _ _ _ _
   | exact spec_l08Head.mono _ _ _
   | exact spec_l08Ok.mono _ _
   | exact spec_l08Slow.mono _ _ _
   | exact LeO.none _
   | refine LeO.ite ?_ ?_
   | refine LeO.bind ?_ (fun _ => ?_)
  ·intro y0 y1 y2 y3 y4
   unfold spec_LeastSpeed.l0
   repeat' first
   | (with_reducible exact ih0 _ _ _ _ _ _)
   | (with_reducible exact ih1 _ _ _ _ _)
   | (with_reducible exact spec_l08Head.mono _ _ _)
   | (with_reducible exact spec_l08Ok.mono _ _)
   | (with_reducible exact spec_l08Slow.mono _ _ _)
   | (with_reducible exact LeO.refl _)
   | (with_reducible exact LeO.none _)
   | (with_reducible refine LeO.ite ?_ ?_)
   | (with_reducible refine LeO.bind ?_ (fun _ => ?_))
   | exact ih0 _ _ _ _ _ _
   | exact ih1 _ _ _ _ _
   | exact spec_l08Head.mono _ _ _
   | exact spec_l08Ok.mono _ _
   | exact spec_l08Slow.mono _ _ _
   | exact LeO.none _
   | refine LeO.ite ?_ ?_
   | refine LeO.bind ?_ (fun _ => ?_)
theorem spec_LeastSpeed.mono : ∀ a0 a1 a2 a3 a4 k, LeO (spec_LeastSpeed.f k a0 a1 a2 a3 a4) (spec_LeastSpeed.f (k + 1) a0 a1 a2 a3 a4) := by
 intro a0 a1 a2 a3 a4 k
 obtain ⟨ih0, ih1⟩ := spec_LeastSpeed.mono_l k
 unfold spec_LeastSpeed.f
 repeat' first
   | (with_reducible exact ih0 _ _ _ _ _ _)
   | (with_reducible exact ih1 _ _ _ _ _)
   | (with_reducible exact spec_l08Head.mono _ _ _)
   | (with_reducible exact spec_l08Ok.mono _ _)
   | (with_reducible exact spec_l08Slow.mono _ _ _)
   | (with_reducible exact LeO.refl _)
   | (with_reducible exact LeO.none _)
   | (with_reducible refine LeO.ite ?_ ?_)
   | (with_reducible refine LeO.bind ?_ (fun _ => ?_))
   | exact ih0 _ _ _ _ _ _
   | exact ih1 _ _ _ _ _
   | exact spec_l08Head.mono _ _ _
   | exact spec_l08Ok.mono _ _
   | exact spec_l08Slow.mono _ _ _
   | exact LeO.none _
   | refine LeO.ite ?_ ?_
   | refine LeO.bind ?_ (fun _ => ?_)
set_option maxHeartbeats 8000000 in
set_option maxRecDepth 100000 in
theorem spec_LeastSpeed.calls (k : Nat) (a0_0 : ByteArray) (A0_1 : Option Addr) (c0_1 : Nat) (l0_1 : List (List Int)) (a1 : Int) (a2 : Int) (a3 : Int) (r1 : Int) (r2 : Int) (w : World) (hr0_1 : Kd.C (Kd.slice 2 (Kd.int .i64)) w A0_1 l0_1.length l0_1) (hc0_1 : l0_1.length ≤ c0_1) (h : spec_LeastSpeed.f k a0_0 l0_1 a1 a2 a3 = some (r1, r2)) :
  Calls Try.prog 33 #[.agg #[.string a0_0, .slice A0_1 l0_1.length c0_1], .int .i64 a1, .int .i64 a2, .int .i64 a3] w fun e w' => e = .returned (.tuple #[.int .i64 r1, .int .i64 r2]) ∧ Below w.heap.size w w' := by
 have hu54 := Try.underlying54
 have HR0_1 := Aside0.mk hr0_1
 have HC0_1 := Aside0.mk hc0_1
 clear hr0_1 hc0_1
 have HB := Aside0.mk (Below.refl w.heap.size w)
 have H : ((spec_l08Ok.f k [(⟨a0_0, l0_1⟩ : S54)]).bind fun t171 => (if t171 = true then ((spec_l08System.f a1 a2).bind fun t172 => (if t172 = true then ((spec_l02Flow.f a3).bind fun t173 => (spec_LeastSpeed.j0 k a1 a2 a3 (!t173) a0_0 l0_1)) else (spec_LeastSpeed.j0 k a1 a2 a3 true a0_0 l0_1))) else (some (0, 1)))) = some (r1, r2) := h
 clear h
 replace H := Option.bind_eq_some_iff.mp H
 obtain ⟨t171, A50, H⟩ := H
 replace H : (if t171 = true then ((spec_l08System.f a1 a2).bind fun t172 => (if t172 = true then ((spec_l02Flow.f a3).bind fun t173 => (spec_LeastSpeed.j0 k a1 a2 a3 (!t173) a0_0 l0_1)) else (spec_LeastSpeed.j0 k a1 a2 a3 true a0_0 l0_1))) else (some (0, 1))) = some (r1, r2) := H
 have A5 := Aside0.mk A50
 clear A50
 by_cases c6 : t171 = true
 ·subst c6
  have H1 : ((spec_l08System.f a1 a2).bind fun t172 => (if t172 = true then ((spec_l02Flow.f a3).bind fun t173 => (spec_LeastSpeed.j0 k a1 a2 a3 (!t173) a0_0 l0_1)) else (spec_LeastSpeed.j0 k a1 a2 a3 true a0_0 l0_1))) = some (r1, r2) := by rw [if_pos rfl] at H; exact H
  clear H
  have H := H1
  clear H1
  have HC7 := Aside0.mk H
  clear H
  go_enter Try.func33, Try.ntmps33
  go_upto_region 3 with (first | ((with_reducible refine gate_dst (N := 4) rfl ?_); refine box_event ?hg (N := 4) ?hd (cs := #[.string a0_0, .slice A0_1 l0_1.length c0_1]) (t := 54) ?hr ?_; (case hd => rfl); (case hg => rfl); (case hr => first | (go_simp; done) | (go_simp; rfl)); intro gb170 hg w8 hbox hb; have n0_ := Aside0.mk (below_step (by repeat (first | (with_reducible first | exact HB.out | apply below_alloc | apply pw_below_drewN | apply below_drew1) | exact HB.out)) hb); have n1_ := Aside0.mk (hbox); have n2_ := Aside0.mk ((by rw [hg]; exact (below_size (by repeat (first | (with_reducible first | exact HB.out | apply below_alloc | apply pw_below_drewN | apply below_drew1) | exact HB.out))) : w.heap.size ≤ gb170)); have n3_ := Aside0.mk ((by rw [hg]; exact (below_size (by repeat (first | (with_reducible first | exact HB.out | apply below_alloc | apply pw_below_drewN | apply below_drew1) | exact HB.out))) : w.heap.size ≤ gb170)); clear HB; have HB := n0_; have BK170 := n1_; have GW170 := n2_; have GE170 := n3_; clear n0_ n1_ n2_ n3_; clear hb hbox hg) | ((with_reducible refine gate_callee (f := 81) rfl ?_); refine goesL_ (some 13) rfl rfl Try.func81 (by kernel_rfl) rfl #[.pointer (some ⟨gb170, 0, none⟩)] rfl (by (try simp only [List.map_toArray, List.map_cons, List.map_nil]); first | done | rfl | (simp only [List.length_drop, List.length_take]; rfl)) ?_; (with_reducible refine (spec_l08Ok.calls k _ 1 [(⟨a0_0, l0_1⟩ : S54)] true _ ?side1 ?side2 A5.out).mono ?_); (case side1 => exact Kd.C_one (k54_mk _ (⟨a0_0, l0_1⟩ : S54) (by exact HC0_1.out) (by repeat (first | exact (Kd.C_below HR0_1.out HB.out) | (with_reducible refine Kd.C_alloc ?_ _) | (with_reducible refine Kd.C_drewN ?_ _) | (with_reducible refine Kd.C_drew ?_)))) (cells_blk (cs := #[.string a0_0, .slice A0_1 l0_1.length c0_1]) (t := 54) (by (with_reducible repeat (first | refine blk_drewN ?_ _ | refine blk_drew ?_ | refine blk_alloc ?_ _)); exact BK170.out))); (case side2 => exact Nat.le_refl _); rintro e w' ⟨rfl, ⟨nd, rfl⟩⟩; refine ⟨_, rfl, ?_⟩))
  (try simp only [Act.put, List.setIfInBounds_toArray, List.set_cons_zero, List.set_cons_succ])
  go_cut [23] (fun v23 wc => ∃ (kq : Nat) (x23_6 : Bool), v23 = .bool x23_6 ∧ Aside0 (spec_LeastSpeed.j0 kq a1 a2 a3 x23_6 a0_0 l0_1 = some (r1, r2)) ∧ Aside0 (kq ≤ k) ∧ Aside0 (wc.heap[gb170]? = some (.cells #[.string a0_0, (.slice A0_1 l0_1.length c0_1)] 54 (0, 0))) ∧ Aside0 (Below w.heap.size w wc))
  case first =>
   have H := HC7.out
   clear HC7
   replace H := Option.bind_eq_some_iff.mp H
   obtain ⟨t172, A90, H⟩ := H
   replace H : (if t172 = true then ((spec_l02Flow.f a3).bind fun t173 => (spec_LeastSpeed.j0 k a1 a2 a3 (!t173) a0_0 l0_1)) else (spec_LeastSpeed.j0 k a1 a2 a3 true a0_0 l0_1)) = some (r1, r2) := H
   have A9 := Aside0.mk A90
   clear A90
   by_cases c10 : t172 = true
   ·subst c10
    have H1 : ((spec_l02Flow.f a3).bind fun t173 => (spec_LeastSpeed.j0 k a1 a2 a3 (!t173) a0_0 l0_1)) = some (r1, r2) := by rw [if_pos rfl] at H; exact H
    clear H
    have H := H1
    clear H1
    replace H := Option.bind_eq_some_iff.mp H
    obtain ⟨t173, A110, H⟩ := H
    replace H : (spec_LeastSpeed.j0 k a1 a2 a3 (!t173) a0_0 l0_1) = some (r1, r2) := H
    have A11 := Aside0.mk A110
    clear A110
    have H' := Aside0.mk H
    clear H
    go_wp2_with (first | ((with_reducible refine gate_callee (f := 82) rfl ?_); refine goesL_ (some 17) rfl rfl Try.func82 (by kernel_rfl) rfl #[.int .i64 a1, .int .i64 a2] rfl (by (try simp only [List.map_toArray, List.map_cons, List.map_nil]); first | done | rfl | (simp only [List.length_drop, List.length_take]; rfl)) ?_; (with_reducible refine (spec_l08System.calls a1 a2 true _ A9.out).mono ?_); rintro e w' ⟨rfl, ⟨nd, rfl⟩⟩; refine ⟨_, rfl, ?_⟩) | (go_at_call 83; (with_reducible refine (spec_l02Flow.calls a3 t173 _ A11.out).mono ?_); rintro e w' ⟨rfl, ⟨nd, rfl⟩⟩))
    go_meet
    case rel => exact ⟨_, (!t173), (by first | rfl | (simp; done) | (simp [*]; done)), H', ⟨by first | omega | exact Nat.le_refl _⟩, ⟨by (with_reducible repeat (first | refine blk_drewN ?_ _ | refine blk_drew ?_ | refine blk_alloc ?_ _)); exact BK170.out⟩, ⟨by repeat (first | (with_reducible first | exact HB.out | apply below_alloc | apply pw_below_drewN | apply below_drew1 | refine below_set ?_ GE170.out) | exact HB.out)⟩⟩
   ·replace c10 := Bool.eq_false_iff.mpr c10
    subst c10
    have H1 : (spec_LeastSpeed.j0 k a1 a2 a3 true a0_0 l0_1) = some (r1, r2) := by rw [if_neg (show ¬ (false = true) by decide)] at H; exact H
    clear H
    have H := H1
    clear H1
    have H' := Aside0.mk H
    clear H
    go_wp2_with (first | ((with_reducible refine gate_callee (f := 82) rfl ?_); refine goesL_ (some 17) rfl rfl Try.func82 (by kernel_rfl) rfl #[.int .i64 a1, .int .i64 a2] rfl (by (try simp only [List.map_toArray, List.map_cons, List.map_nil]); first | done | rfl | (simp only [List.length_drop, List.length_take]; rfl)) ?_; (with_reducible refine (spec_l08System.calls a1 a2 false _ A9.out).mono ?_); rintro e w' ⟨rfl, ⟨nd, rfl⟩⟩; refine ⟨_, rfl, ?_⟩))
    go_meet
    case rel => exact ⟨_, (true), (by first | rfl | (simp; done) | (simp [*]; done)), H', ⟨by first | omega | exact Nat.le_refl _⟩, ⟨by (with_reducible repeat (first | refine blk_drewN ?_ _ | refine blk_drew ?_ | refine blk_alloc ?_ _)); exact BK170.out⟩, ⟨by repeat (first | (with_reducible first | exact HB.out | apply below_alloc | apply pw_below_drewN | apply below_drew1 | refine below_set ?_ GE170.out) | exact HB.out)⟩⟩
  case rest =>
   clear HC7
   try clear c1
   try clear p2
   try clear c3
   try clear c6
   try clear c8
   try clear c10
   obtain ⟨kq, x23_6, rfl, HA, HJ6, BK170, HB⟩ := hcut
   cases kq with
   | zero => exact absurd HA.out (by simp [spec_LeastSpeed.j0])
   | succ kj6 =>
    have H := HA.out
    clear HA
    simp only [spec_LeastSpeed.j0] at H
    by_cases c12 : x23_6 = true
    ·subst c12
     have H1 : (some (0, 2)) = some (r1, r2) := by rw [if_pos rfl] at H; exact H
     clear H
     have H := H1
     clear H1
     simp only [Option.some.injEq, Prod.mk.injEq] at H
     obtain ⟨rfl, rfl⟩ := H
     go_wp2
     go_ret2
     exact ⟨by first | rfl | (rw [Int.tdiv_eq_ediv_of_nonneg (by omega)]; rfl) | (simp [errW_none, errW_some] <;> rfl) | (simp [*, errW_none, errW_some] <;> rfl), by repeat (first | (with_reducible first | exact HB.out | apply below_alloc | apply pw_below_drewN | apply below_drew1 | refine below_set ?_ GE170.out) | exact HB.out)⟩
    ·replace c12 := Bool.eq_false_iff.mpr c12
     subst c12
     have H1 : ((spec_l08Needs.f a1 a2 a3).bind fun t174 => (spec_LeastSpeed.l0 kj6 a3 t174 100 a0_0 l0_1)) = some (r1, r2) := by rw [if_neg (show ¬ (false = true) by decide)] at H; exact H
     clear H
     have H := H1
     clear H1
     replace H := Option.bind_eq_some_iff.mp H
     obtain ⟨t174, A130, H⟩ := H
     replace H : (spec_LeastSpeed.l0 kj6 a3 t174 100 a0_0 l0_1) = some (r1, r2) := H
     have A13 := Aside0.mk A130
     clear A130
     have H' := Aside0.mk H
     clear H
     go_wp2_with (first | ((with_reducible refine gate_callee (f := 84) rfl ?_); refine goesL_ (some 27) rfl rfl Try.func84 (by kernel_rfl) rfl #[.int .i64 a1, .int .i64 a2, .int .i64 a3] rfl (by (try simp only [List.map_toArray, List.map_cons, List.map_nil]); first | done | rfl | (simp only [List.length_drop, List.length_take]; rfl)) ?_; (with_reducible refine (spec_l08Needs.calls a1 a2 a3 t174 _ A13.out).mono ?_); rintro e w' ⟨rfl, ⟨nd, rfl⟩⟩; refine ⟨_, rfl, ?_⟩))
     go_loopg [11] kj6 (fun kq v11 w' => ∃ (x11_2 : Int), v11 = .int .i64 x11_2 ∧ Aside0 (spec_LeastSpeed.l0 kq a3 t174 x11_2 a0_0 l0_1 = some (r1, r2)) ∧ Aside0 (kq ≤ kj6) ∧ Aside0 (w'.heap[gb170]? = some (.cells #[.string a0_0, (.slice A0_1 l0_1.length c0_1)] 54 (0, 0))) ∧ Aside0 (Below w.heap.size w w'))
     case atStart => exact ⟨(100), (by first | rfl | (simp; done) | (simp [*]; done)), H', ⟨Nat.le_refl _⟩, ⟨by (with_reducible repeat (first | refine blk_drewN ?_ _ | refine blk_drew ?_ | refine blk_alloc ?_ _)); exact BK170.out⟩, ⟨by repeat (first | (with_reducible first | exact HB.out | apply below_alloc | apply pw_below_drewN | apply below_drew1 | refine below_set ?_ GE170.out) | exact HB.out)⟩⟩
     case round =>
      clear H'
      try clear c1
      try clear p2
      try clear c3
      try clear c6
      try clear c8
      try clear c10
      try clear c12
      try clear p2
      obtain ⟨x11_2, rfl, HA, HK2, BK170, HB⟩ := hrel
      cases gk with
      | zero => exact absurd HA.out (by simp [spec_LeastSpeed.l0])
      | succ k2 =>
       have H := HA.out
       clear HA
       simp only [spec_LeastSpeed.l0] at H
       by_cases c14 : x11_2 ≤ 1200
       ·rw [if_pos c14] at H
        have c14b0 : decide (x11_2 ≤ 1200) = true := decide_eq_true c14
        clear c14
        replace H := Option.bind_eq_some_iff.mp H
        obtain ⟨⟨t175, t176⟩, A150, H⟩ := H
        replace H : ((spec_l08Ok.f k2 [(⟨t175, t176⟩ : S54)]).bind fun t180 => (if t180 = true then ((spec_l08Head.f k2 [(⟨t175, t176⟩ : S54)] a3).bind fun t181 => (if t181 ≥ t174 then (some (x11_2, 0)) else (spec_LeastSpeed.l0 k2 a3 t174 (wrap64 (x11_2 + 1)) a0_0 l0_1))) else (spec_LeastSpeed.l0 k2 a3 t174 (wrap64 (x11_2 + 1)) a0_0 l0_1))) = some (r1, r2) := H
        have A15 := Aside0.mk A150
        clear A150
        replace H := Option.bind_eq_some_iff.mp H
        obtain ⟨t180, A160, H⟩ := H
        replace H : (if t180 = true then ((spec_l08Head.f k2 [(⟨t175, t176⟩ : S54)] a3).bind fun t181 => (if t181 ≥ t174 then (some (x11_2, 0)) else (spec_LeastSpeed.l0 k2 a3 t174 (wrap64 (x11_2 + 1)) a0_0 l0_1))) else (spec_LeastSpeed.l0 k2 a3 t174 (wrap64 (x11_2 + 1)) a0_0 l0_1)) = some (r1, r2) := H
        have A16 := Aside0.mk A160
        clear A160
        by_cases c17 : t180 = true
        ·subst c17
         have H1 : ((spec_l08Head.f k2 [(⟨t175, t176⟩ : S54)] a3).bind fun t181 => (if t181 ≥ t174 then (some (x11_2, 0)) else (spec_LeastSpeed.l0 k2 a3 t174 (wrap64 (x11_2 + 1)) a0_0 l0_1))) = some (r1, r2) := by rw [if_pos rfl] at H; exact H
         clear H
         have H := H1
         clear H1
         replace H := Option.bind_eq_some_iff.mp H
         obtain ⟨t181, A180, H⟩ := H
         replace H : (if t181 ≥ t174 then (some (x11_2, 0)) else (spec_LeastSpeed.l0 k2 a3 t174 (wrap64 (x11_2 + 1)) a0_0 l0_1)) = some (r1, r2) := H
         have A18 := Aside0.mk A180
         clear A180
         by_cases c19 : t181 ≥ t174
         ·rw [if_pos c19] at H
          have c19b0 : decide (t174 ≤ t181) = true := decide_eq_true c19
          clear c19
          simp only [Option.some.injEq, Prod.mk.injEq] at H
          obtain ⟨rfl, rfl⟩ := H
          go_wp2_with (first | ((with_reducible refine gate_callee (f := 85) rfl ?_); refine goesL_ (some 33) rfl rfl Try.func85 (by kernel_rfl) rfl #[.pointer (some ⟨gb170, 0, none⟩), .int .i64 x11_2] rfl (by (try simp only [List.map_toArray, List.map_cons, List.map_nil]); first | done | rfl | (simp only [List.length_drop, List.length_take]; rfl)) ?_; (with_reducible refine (spec_l08Slow.calls k2 _ 1 [(⟨a0_0, l0_1⟩ : S54)] x11_2 t175 t176 _ ?side1 ?side2 A15.out).mono ?_); (case side1 => exact Kd.C_one (k54_mk _ (⟨a0_0, l0_1⟩ : S54) (by exact HC0_1.out) (by repeat (first | exact (Kd.C_below HR0_1.out HB.out) | (with_reducible refine Kd.C_alloc ?_ _) | (with_reducible refine Kd.C_drewN ?_ _) | (with_reducible refine Kd.C_drew ?_)))) (cells_blk (cs := #[.string a0_0, .slice A0_1 l0_1.length c0_1]) (t := 54) (by (with_reducible repeat (first | refine blk_drewN ?_ _ | refine blk_drew ?_ | refine blk_alloc ?_ _)); exact BK170.out))); (case side2 => exact Nat.le_refl _); rintro e w20 ⟨v177, rfl, ho0, hb⟩; refine ⟨_, rfl, ?_⟩; have n0_ := Aside0.mk (Kd.S_lower ho0 (below_size (by repeat (first | (with_reducible first | exact HB.out | apply below_alloc | apply pw_below_drewN | apply below_drew1 | refine below_set ?_ GE170.out) | exact HB.out)))); have n1_ := Aside0.mk (blk_below (g := gb170) (o := .cells #[.string a0_0, .slice A0_1 l0_1.length c0_1] 54 (0, 0)) (by (with_reducible repeat (first | refine blk_drewN ?_ _ | refine blk_drew ?_ | refine blk_alloc ?_ _)); exact BK170.out) hb); have n2_ := Aside0.mk (below_step (by repeat (first | (with_reducible first | exact HB.out | apply below_alloc | apply pw_below_drewN | apply below_drew1 | refine below_set ?_ GE170.out) | exact HB.out)) hb); clear BK170; clear HB; have HO178 := n0_; have BK170 := n1_; have HB := n2_; clear n0_ n1_ n2_; (try clear hb); (try clear hb2); (try clear hk); (try clear hi); (try clear ho0)) | ((with_reducible refine gate_dst (N := 12) rfl ?_); refine box_event ?hg (N := 12) ?hd (cs := #[.string (⟨#[]⟩ : ByteArray), .slice none 0 0]) (t := 54) ?hr ?_; (case hd => rfl); (case hg => rfl); (case hr => first | (go_simp; done) | (go_simp; rfl)); intro gb179 hg w21 hbox hb; have n0_ := Aside0.mk (Kd.S_below (by (with_reducible repeat (first | apply Kd.S_alloc | apply Kd.S_drewN | apply Kd.S_drew)); exact HO178.out) hb); have n1_ := Aside0.mk (blk_below (g := gb170) (o := .cells #[.string a0_0, .slice A0_1 l0_1.length c0_1] 54 (0, 0)) (by (with_reducible repeat (first | refine blk_drewN ?_ _ | refine blk_drew ?_ | refine blk_alloc ?_ _)); exact BK170.out) hb); have n2_ := Aside0.mk (below_step (by repeat (first | (with_reducible first | exact HB.out | apply below_alloc | apply pw_below_drewN | apply below_drew1 | refine below_set ?_ GE170.out) | exact HB.out)) hb); have n3_ := Aside0.mk (hbox); have n4_ := Aside0.mk ((by rw [hg]; exact (below_size (by repeat (first | (with_reducible first | exact HB.out | apply below_alloc | apply pw_below_drewN | apply below_drew1 | refine below_set ?_ GE170.out) | exact HB.out))) : w.heap.size ≤ gb179)); have n5_ := Aside0.mk ((by rw [hg]; exact (below_size (by repeat (first | (with_reducible first | exact HB.out | apply below_alloc | apply pw_below_drewN | apply below_drew1 | refine below_set ?_ GE170.out) | exact HB.out))) : w.heap.size ≤ gb179)); have n6_ := Aside0.mk ((by rw [hg]; exact Nat.ne_of_lt (blk_lt (g := gb170) (o := .cells #[.string a0_0, .slice A0_1 l0_1.length c0_1] 54 (0, 0)) (by (with_reducible repeat (first | refine blk_drewN ?_ _ | refine blk_drew ?_ | refine blk_alloc ?_ _)); exact BK170.out)) : gb170 ≠ gb179)); have n7_ := Aside0.mk ((by rw [hg]; exact Nat.ne_of_gt (blk_lt (g := gb170) (o := .cells #[.string a0_0, .slice A0_1 l0_1.length c0_1] 54 (0, 0)) (by (with_reducible repeat (first | refine blk_drewN ?_ _ | refine blk_drew ?_ | refine blk_alloc ?_ _)); exact BK170.out)) : gb179 ≠ gb170)); clear HO178; clear BK170; clear HB; have HO178 := n0_; have BK170 := n1_; have HB := n2_; have BK179 := n3_; have GW179 := n4_; have GE179 := n5_; have NB170_179 := n6_; have NB179_170 := n7_; clear n0_ n1_ n2_ n3_ n4_ n5_ n6_ n7_; clear hb hbox hg; have hnb22 := NB179_170.out; have hnc22 := NB170_179.out; have hcz23_0 : w21.cell? ⟨gb179, 0, none⟩ = some (.string (⟨#[]⟩ : ByteArray)) := (blk_cell BK179.out 0).trans rfl; have hcz23_1 : w21.cell? ⟨gb179, 1, none⟩ = some (.slice none 0 0) := (blk_cell BK179.out 1).trans rfl; have hfz23_0 := blk_frozen BK179.out 0; have hfz23_1 := blk_frozen BK179.out 1; obtain ⟨Ao24, co24, eo24⟩ := Kd.S_slice HO178.out; subst eo24) | ((with_reducible refine gate_callee (f := 81) rfl ?_); refine goesL_ (some 34) rfl rfl Try.func81 (by kernel_rfl) rfl #[.pointer (some ⟨gb179, 0, none⟩)] rfl (by (try simp only [List.map_toArray, List.map_cons, List.map_nil]); first | done | rfl | (simp only [List.length_drop, List.length_take]; rfl)) ?_; (with_reducible refine (spec_l08Ok.calls k2 _ 1 [(⟨t175, t176⟩ : S54)] true _ ?side1 ?side2 A16.out).mono ?_); (case side1 => exact Kd.C_one (k54_mk _ (⟨t175, t176⟩ : S54) (by exact (Kd.S_reads' HO178.out).2.1) (by refine (Kd.S_reads' (e := 28) (base := w.heap.size) (ok := fun k_ => True) (n := t176.length) (c := co24) ?_).2.2; exact (by (with_reducible repeat (first | apply Kd.S_alloc | apply Kd.S_drewN | apply Kd.S_drew)); exact (Kd.S_mono (Kd.S_far (p := ⟨gb179, 1, none⟩) (Kd.S_far (p := ⟨gb179, 0, none⟩) (Kd.S_types HO178.out BK179.out (by decide)) (fun _ hk => hk.2) (.string t175)) (fun _ hk => hk.2) (.slice Ao24 t176.length co24)) (fun _ h_ => h_.1))))) (cells_blk (cs := #[.string t175, .slice Ao24 t176.length co24]) (t := 54) (by (with_reducible repeat (first | refine blk_drewN ?_ _ | refine blk_drew ?_ | refine blk_alloc ?_ _)); refine blk_put (cs := #[.string t175, .slice none 0 0]) ?_ 1 _ rfl; (with_reducible repeat (first | refine blk_drewN ?_ _ | refine blk_drew ?_ | refine blk_alloc ?_ _)); refine blk_put (cs := #[.string (⟨#[]⟩ : ByteArray), .slice none 0 0]) ?_ 0 _ rfl; (with_reducible repeat (first | refine blk_drewN ?_ _ | refine blk_drew ?_ | refine blk_alloc ?_ _)); exact BK179.out))); (case side2 => exact Nat.le_refl _); rintro e w' ⟨rfl, ⟨nd, rfl⟩⟩; refine ⟨_, rfl, ?_⟩) | (go_at_call 86; (with_reducible refine (spec_l08Head.calls k2 _ 1 [(⟨t175, t176⟩ : S54)] a3 t181 _ ?side1 ?side2 A18.out).mono ?_); (case side1 => exact Kd.C_one (k54_mk _ (⟨t175, t176⟩ : S54) (by exact (Kd.S_reads' HO178.out).2.1) (by refine (Kd.S_reads' (e := 28) (base := w.heap.size) (ok := fun k_ => True) (n := t176.length) (c := co24) ?_).2.2; exact (by (with_reducible repeat (first | apply Kd.S_alloc | apply Kd.S_drewN | apply Kd.S_drew)); exact (Kd.S_mono (Kd.S_far (p := ⟨gb179, 1, none⟩) (Kd.S_far (p := ⟨gb179, 0, none⟩) (Kd.S_types HO178.out BK179.out (by decide)) (fun _ hk => hk.2) (.string t175)) (fun _ hk => hk.2) (.slice Ao24 t176.length co24)) (fun _ h_ => h_.1))))) (cells_blk (cs := #[.string t175, .slice Ao24 t176.length co24]) (t := 54) (by (with_reducible repeat (first | refine blk_drewN ?_ _ | refine blk_drew ?_ | refine blk_alloc ?_ _)); refine blk_put (cs := #[.string t175, .slice none 0 0]) ?_ 1 _ rfl; (with_reducible repeat (first | refine blk_drewN ?_ _ | refine blk_drew ?_ | refine blk_alloc ?_ _)); refine blk_put (cs := #[.string (⟨#[]⟩ : ByteArray), .slice none 0 0]) ?_ 0 _ rfl; (with_reducible repeat (first | refine blk_drewN ?_ _ | refine blk_drew ?_ | refine blk_alloc ?_ _)); exact BK179.out))); (case side2 => exact Nat.le_refl _); rintro e w' ⟨rfl, ⟨nd, rfl⟩⟩))
          go_ret2
          exact ⟨by first | rfl | (rw [Int.tdiv_eq_ediv_of_nonneg (by omega)]; rfl) | (simp [errW_none, errW_some] <;> rfl) | (simp [*, errW_none, errW_some] <;> rfl), by repeat (first | (with_reducible first | exact HB.out | apply below_alloc | apply pw_below_drewN | apply below_drew1 | refine below_set ?_ GE170.out | refine below_set ?_ GE179.out) | exact HB.out)⟩
         ·rw [if_neg c19] at H
          have c19b0 : decide (t174 ≤ t181) = false := decide_eq_false c19
          clear c19
          have H' := Aside0.mk H
          clear H
          go_wp2_with (first | ((with_reducible refine gate_callee (f := 85) rfl ?_); refine goesL_ (some 33) rfl rfl Try.func85 (by kernel_rfl) rfl #[.pointer (some ⟨gb170, 0, none⟩), .int .i64 x11_2] rfl (by (try simp only [List.map_toArray, List.map_cons, List.map_nil]); first | done | rfl | (simp only [List.length_drop, List.length_take]; rfl)) ?_; (with_reducible refine (spec_l08Slow.calls k2 _ 1 [(⟨a0_0, l0_1⟩ : S54)] x11_2 t175 t176 _ ?side1 ?side2 A15.out).mono ?_); (case side1 => exact Kd.C_one (k54_mk _ (⟨a0_0, l0_1⟩ : S54) (by exact HC0_1.out) (by repeat (first | exact (Kd.C_below HR0_1.out HB.out) | (with_reducible refine Kd.C_alloc ?_ _) | (with_reducible refine Kd.C_drewN ?_ _) | (with_reducible refine Kd.C_drew ?_)))) (cells_blk (cs := #[.string a0_0, .slice A0_1 l0_1.length c0_1]) (t := 54) (by (with_reducible repeat (first | refine blk_drewN ?_ _ | refine blk_drew ?_ | refine blk_alloc ?_ _)); exact BK170.out))); (case side2 => exact Nat.le_refl _); rintro e w25 ⟨v177, rfl, ho0, hb⟩; refine ⟨_, rfl, ?_⟩; have n0_ := Aside0.mk (Kd.S_lower ho0 (below_size (by repeat (first | (with_reducible first | exact HB.out | apply below_alloc | apply pw_below_drewN | apply below_drew1 | refine below_set ?_ GE170.out) | exact HB.out)))); have n1_ := Aside0.mk (blk_below (g := gb170) (o := .cells #[.string a0_0, .slice A0_1 l0_1.length c0_1] 54 (0, 0)) (by (with_reducible repeat (first | refine blk_drewN ?_ _ | refine blk_drew ?_ | refine blk_alloc ?_ _)); exact BK170.out) hb); have n2_ := Aside0.mk (below_step (by repeat (first | (with_reducible first | exact HB.out | apply below_alloc | apply pw_below_drewN | apply below_drew1 | refine below_set ?_ GE170.out) | exact HB.out)) hb); clear BK170; clear HB; have HO178 := n0_; have BK170 := n1_; have HB := n2_; clear n0_ n1_ n2_; (try clear hb); (try clear hb2); (try clear hk); (try clear hi); (try clear ho0)) | ((with_reducible refine gate_dst (N := 12) rfl ?_); refine box_event ?hg (N := 12) ?hd (cs := #[.string (⟨#[]⟩ : ByteArray), .slice none 0 0]) (t := 54) ?hr ?_; (case hd => rfl); (case hg => rfl); (case hr => first | (go_simp; done) | (go_simp; rfl)); intro gb179 hg w26 hbox hb; have n0_ := Aside0.mk (Kd.S_below (by (with_reducible repeat (first | apply Kd.S_alloc | apply Kd.S_drewN | apply Kd.S_drew)); exact HO178.out) hb); have n1_ := Aside0.mk (blk_below (g := gb170) (o := .cells #[.string a0_0, .slice A0_1 l0_1.length c0_1] 54 (0, 0)) (by (with_reducible repeat (first | refine blk_drewN ?_ _ | refine blk_drew ?_ | refine blk_alloc ?_ _)); exact BK170.out) hb); have n2_ := Aside0.mk (below_step (by repeat (first | (with_reducible first | exact HB.out | apply below_alloc | apply pw_below_drewN | apply below_drew1 | refine below_set ?_ GE170.out) | exact HB.out)) hb); have n3_ := Aside0.mk (hbox); have n4_ := Aside0.mk ((by rw [hg]; exact (below_size (by repeat (first | (with_reducible first | exact HB.out | apply below_alloc | apply pw_below_drewN | apply below_drew1 | refine below_set ?_ GE170.out) | exact HB.out))) : w.heap.size ≤ gb179)); have n5_ := Aside0.mk ((by rw [hg]; exact (below_size (by repeat (first | (with_reducible first | exact HB.out | apply below_alloc | apply pw_below_drewN | apply below_drew1 | refine below_set ?_ GE170.out) | exact HB.out))) : w.heap.size ≤ gb179)); have n6_ := Aside0.mk ((by rw [hg]; exact Nat.ne_of_lt (blk_lt (g := gb170) (o := .cells #[.string a0_0, .slice A0_1 l0_1.length c0_1] 54 (0, 0)) (by (with_reducible repeat (first | refine blk_drewN ?_ _ | refine blk_drew ?_ | refine blk_alloc ?_ _)); exact BK170.out)) : gb170 ≠ gb179)); have n7_ := Aside0.mk ((by rw [hg]; exact Nat.ne_of_gt (blk_lt (g := gb170) (o := .cells #[.string a0_0, .slice A0_1 l0_1.length c0_1] 54 (0, 0)) (by (with_reducible repeat (first | refine blk_drewN ?_ _ | refine blk_drew ?_ | refine blk_alloc ?_ _)); exact BK170.out)) : gb179 ≠ gb170)); clear HO178; clear BK170; clear HB; have HO178 := n0_; have BK170 := n1_; have HB := n2_; have BK179 := n3_; have GW179 := n4_; have GE179 := n5_; have NB170_179 := n6_; have NB179_170 := n7_; clear n0_ n1_ n2_ n3_ n4_ n5_ n6_ n7_; clear hb hbox hg; have hnb27 := NB179_170.out; have hnc27 := NB170_179.out; have hcz28_0 : w26.cell? ⟨gb179, 0, none⟩ = some (.string (⟨#[]⟩ : ByteArray)) := (blk_cell BK179.out 0).trans rfl; have hcz28_1 : w26.cell? ⟨gb179, 1, none⟩ = some (.slice none 0 0) := (blk_cell BK179.out 1).trans rfl; have hfz28_0 := blk_frozen BK179.out 0; have hfz28_1 := blk_frozen BK179.out 1; obtain ⟨Ao29, co29, eo29⟩ := Kd.S_slice HO178.out; subst eo29) | ((with_reducible refine gate_callee (f := 81) rfl ?_); refine goesL_ (some 34) rfl rfl Try.func81 (by kernel_rfl) rfl #[.pointer (some ⟨gb179, 0, none⟩)] rfl (by (try simp only [List.map_toArray, List.map_cons, List.map_nil]); first | done | rfl | (simp only [List.length_drop, List.length_take]; rfl)) ?_; (with_reducible refine (spec_l08Ok.calls k2 _ 1 [(⟨t175, t176⟩ : S54)] true _ ?side1 ?side2 A16.out).mono ?_); (case side1 => exact Kd.C_one (k54_mk _ (⟨t175, t176⟩ : S54) (by exact (Kd.S_reads' HO178.out).2.1) (by refine (Kd.S_reads' (e := 28) (base := w.heap.size) (ok := fun k_ => True) (n := t176.length) (c := co29) ?_).2.2; exact (by (with_reducible repeat (first | apply Kd.S_alloc | apply Kd.S_drewN | apply Kd.S_drew)); exact (Kd.S_mono (Kd.S_far (p := ⟨gb179, 1, none⟩) (Kd.S_far (p := ⟨gb179, 0, none⟩) (Kd.S_types HO178.out BK179.out (by decide)) (fun _ hk => hk.2) (.string t175)) (fun _ hk => hk.2) (.slice Ao29 t176.length co29)) (fun _ h_ => h_.1))))) (cells_blk (cs := #[.string t175, .slice Ao29 t176.length co29]) (t := 54) (by (with_reducible repeat (first | refine blk_drewN ?_ _ | refine blk_drew ?_ | refine blk_alloc ?_ _)); refine blk_put (cs := #[.string t175, .slice none 0 0]) ?_ 1 _ rfl; (with_reducible repeat (first | refine blk_drewN ?_ _ | refine blk_drew ?_ | refine blk_alloc ?_ _)); refine blk_put (cs := #[.string (⟨#[]⟩ : ByteArray), .slice none 0 0]) ?_ 0 _ rfl; (with_reducible repeat (first | refine blk_drewN ?_ _ | refine blk_drew ?_ | refine blk_alloc ?_ _)); exact BK179.out))); (case side2 => exact Nat.le_refl _); rintro e w' ⟨rfl, ⟨nd, rfl⟩⟩; refine ⟨_, rfl, ?_⟩) | (go_at_call 86; (with_reducible refine (spec_l08Head.calls k2 _ 1 [(⟨t175, t176⟩ : S54)] a3 t181 _ ?side1 ?side2 A18.out).mono ?_); (case side1 => exact Kd.C_one (k54_mk _ (⟨t175, t176⟩ : S54) (by exact (Kd.S_reads' HO178.out).2.1) (by refine (Kd.S_reads' (e := 28) (base := w.heap.size) (ok := fun k_ => True) (n := t176.length) (c := co29) ?_).2.2; exact (by (with_reducible repeat (first | apply Kd.S_alloc | apply Kd.S_drewN | apply Kd.S_drew)); exact (Kd.S_mono (Kd.S_far (p := ⟨gb179, 1, none⟩) (Kd.S_far (p := ⟨gb179, 0, none⟩) (Kd.S_types HO178.out BK179.out (by decide)) (fun _ hk => hk.2) (.string t175)) (fun _ hk => hk.2) (.slice Ao29 t176.length co29)) (fun _ h_ => h_.1))))) (cells_blk (cs := #[.string t175, .slice Ao29 t176.length co29]) (t := 54) (by (with_reducible repeat (first | refine blk_drewN ?_ _ | refine blk_drew ?_ | refine blk_alloc ?_ _)); refine blk_put (cs := #[.string t175, .slice none 0 0]) ?_ 1 _ rfl; (with_reducible repeat (first | refine blk_drewN ?_ _ | refine blk_drew ?_ | refine blk_alloc ?_ _)); refine blk_put (cs := #[.string (⟨#[]⟩ : ByteArray), .slice none 0 0]) ?_ 0 _ rfl; (with_reducible repeat (first | refine blk_drewN ?_ _ | refine blk_drew ?_ | refine blk_alloc ?_ _)); exact BK179.out))); (case side2 => exact Nat.le_refl _); rintro e w' ⟨rfl, ⟨nd, rfl⟩⟩))
          go_roundg k2
          case measure => have := HJ6.out; have := HK2.out; omega
          case rel => exact ⟨(wrap64 (x11_2 + 1)), (by first | rfl | (simp; done) | (simp [*]; done)), H', ⟨by have := HJ6.out; have := HK2.out; omega⟩, ⟨by (with_reducible repeat (first | refine blk_drewN ?_ _ | refine blk_drew ?_ | refine blk_alloc ?_ _)); refine blk_far ?_ NB170_179.out _; (with_reducible repeat (first | refine blk_drewN ?_ _ | refine blk_drew ?_ | refine blk_alloc ?_ _)); refine blk_far ?_ NB170_179.out _; (with_reducible repeat (first | refine blk_drewN ?_ _ | refine blk_drew ?_ | refine blk_alloc ?_ _)); exact BK170.out⟩, ⟨by repeat (first | (with_reducible first | exact HB.out | apply below_alloc | apply pw_below_drewN | apply below_drew1 | refine below_set ?_ GE170.out | refine below_set ?_ GE179.out) | exact HB.out)⟩⟩
        ·replace c17 := Bool.eq_false_iff.mpr c17
         subst c17
         have H1 : (spec_LeastSpeed.l0 k2 a3 t174 (wrap64 (x11_2 + 1)) a0_0 l0_1) = some (r1, r2) := by rw [if_neg (show ¬ (false = true) by decide)] at H; exact H
         clear H
         have H := H1
         clear H1
         have H' := Aside0.mk H
         clear H
         go_wp2_with (first | ((with_reducible refine gate_callee (f := 85) rfl ?_); refine goesL_ (some 33) rfl rfl Try.func85 (by kernel_rfl) rfl #[.pointer (some ⟨gb170, 0, none⟩), .int .i64 x11_2] rfl (by (try simp only [List.map_toArray, List.map_cons, List.map_nil]); first | done | rfl | (simp only [List.length_drop, List.length_take]; rfl)) ?_; (with_reducible refine (spec_l08Slow.calls k2 _ 1 [(⟨a0_0, l0_1⟩ : S54)] x11_2 t175 t176 _ ?side1 ?side2 A15.out).mono ?_); (case side1 => exact Kd.C_one (k54_mk _ (⟨a0_0, l0_1⟩ : S54) (by exact HC0_1.out) (by repeat (first | exact (Kd.C_below HR0_1.out HB.out) | (with_reducible refine Kd.C_alloc ?_ _) | (with_reducible refine Kd.C_drewN ?_ _) | (with_reducible refine Kd.C_drew ?_)))) (cells_blk (cs := #[.string a0_0, .slice A0_1 l0_1.length c0_1]) (t := 54) (by (with_reducible repeat (first | refine blk_drewN ?_ _ | refine blk_drew ?_ | refine blk_alloc ?_ _)); exact BK170.out))); (case side2 => exact Nat.le_refl _); rintro e w30 ⟨v177, rfl, ho0, hb⟩; refine ⟨_, rfl, ?_⟩; have n0_ := Aside0.mk (Kd.S_lower ho0 (below_size (by repeat (first | (with_reducible first | exact HB.out | apply below_alloc | apply pw_below_drewN | apply below_drew1 | refine below_set ?_ GE170.out) | exact HB.out)))); have n1_ := Aside0.mk (blk_below (g := gb170) (o := .cells #[.string a0_0, .slice A0_1 l0_1.length c0_1] 54 (0, 0)) (by (with_reducible repeat (first | refine blk_drewN ?_ _ | refine blk_drew ?_ | refine blk_alloc ?_ _)); exact BK170.out) hb); have n2_ := Aside0.mk (below_step (by repeat (first | (with_reducible first | exact HB.out | apply below_alloc | apply pw_below_drewN | apply below_drew1 | refine below_set ?_ GE170.out) | exact HB.out)) hb); clear BK170; clear HB; have HO178 := n0_; have BK170 := n1_; have HB := n2_; clear n0_ n1_ n2_; (try clear hb); (try clear hb2); (try clear hk); (try clear hi); (try clear ho0)) | ((with_reducible refine gate_dst (N := 12) rfl ?_); refine box_event ?hg (N := 12) ?hd (cs := #[.string (⟨#[]⟩ : ByteArray), .slice none 0 0]) (t := 54) ?hr ?_; (case hd => rfl); (case hg => rfl); (case hr => first | (go_simp; done) | (go_simp; rfl)); intro gb179 hg w31 hbox hb; have n0_ := Aside0.mk (Kd.S_below (by (with_reducible repeat (first | apply Kd.S_alloc | apply Kd.S_drewN | apply Kd.S_drew)); exact HO178.out) hb); have n1_ := Aside0.mk (blk_below (g := gb170) (o := .cells #[.string a0_0, .slice A0_1 l0_1.length c0_1] 54 (0, 0)) (by (with_reducible repeat (first | refine blk_drewN ?_ _ | refine blk_drew ?_ | refine blk_alloc ?_ _)); exact BK170.out) hb); have n2_ := Aside0.mk (below_step (by repeat (first | (with_reducible first | exact HB.out | apply below_alloc | apply pw_below_drewN | apply below_drew1 | refine below_set ?_ GE170.out) | exact HB.out)) hb); have n3_ := Aside0.mk (hbox); have n4_ := Aside0.mk ((by rw [hg]; exact (below_size (by repeat (first | (with_reducible first | exact HB.out | apply below_alloc | apply pw_below_drewN | apply below_drew1 | refine below_set ?_ GE170.out) | exact HB.out))) : w.heap.size ≤ gb179)); have n5_ := Aside0.mk ((by rw [hg]; exact (below_size (by repeat (first | (with_reducible first | exact HB.out | apply below_alloc | apply pw_below_drewN | apply below_drew1 | refine below_set ?_ GE170.out) | exact HB.out))) : w.heap.size ≤ gb179)); have n6_ := Aside0.mk ((by rw [hg]; exact Nat.ne_of_lt (blk_lt (g := gb170) (o := .cells #[.string a0_0, .slice A0_1 l0_1.length c0_1] 54 (0, 0)) (by (with_reducible repeat (first | refine blk_drewN ?_ _ | refine blk_drew ?_ | refine blk_alloc ?_ _)); exact BK170.out)) : gb170 ≠ gb179)); have n7_ := Aside0.mk ((by rw [hg]; exact Nat.ne_of_gt (blk_lt (g := gb170) (o := .cells #[.string a0_0, .slice A0_1 l0_1.length c0_1] 54 (0, 0)) (by (with_reducible repeat (first | refine blk_drewN ?_ _ | refine blk_drew ?_ | refine blk_alloc ?_ _)); exact BK170.out)) : gb179 ≠ gb170)); clear HO178; clear BK170; clear HB; have HO178 := n0_; have BK170 := n1_; have HB := n2_; have BK179 := n3_; have GW179 := n4_; have GE179 := n5_; have NB170_179 := n6_; have NB179_170 := n7_; clear n0_ n1_ n2_ n3_ n4_ n5_ n6_ n7_; clear hb hbox hg; have hnb32 := NB179_170.out; have hnc32 := NB170_179.out; have hcz33_0 : w31.cell? ⟨gb179, 0, none⟩ = some (.string (⟨#[]⟩ : ByteArray)) := (blk_cell BK179.out 0).trans rfl; have hcz33_1 : w31.cell? ⟨gb179, 1, none⟩ = some (.slice none 0 0) := (blk_cell BK179.out 1).trans rfl; have hfz33_0 := blk_frozen BK179.out 0; have hfz33_1 := blk_frozen BK179.out 1; obtain ⟨Ao34, co34, eo34⟩ := Kd.S_slice HO178.out; subst eo34) | ((with_reducible refine gate_callee (f := 81) rfl ?_); refine goesL_ (some 34) rfl rfl Try.func81 (by kernel_rfl) rfl #[.pointer (some ⟨gb179, 0, none⟩)] rfl (by (try simp only [List.map_toArray, List.map_cons, List.map_nil]); first | done | rfl | (simp only [List.length_drop, List.length_take]; rfl)) ?_; (with_reducible refine (spec_l08Ok.calls k2 _ 1 [(⟨t175, t176⟩ : S54)] false _ ?side1 ?side2 A16.out).mono ?_); (case side1 => exact Kd.C_one (k54_mk _ (⟨t175, t176⟩ : S54) (by exact (Kd.S_reads' HO178.out).2.1) (by refine (Kd.S_reads' (e := 28) (base := w.heap.size) (ok := fun k_ => True) (n := t176.length) (c := co34) ?_).2.2; exact (by (with_reducible repeat (first | apply Kd.S_alloc | apply Kd.S_drewN | apply Kd.S_drew)); exact (Kd.S_mono (Kd.S_far (p := ⟨gb179, 1, none⟩) (Kd.S_far (p := ⟨gb179, 0, none⟩) (Kd.S_types HO178.out BK179.out (by decide)) (fun _ hk => hk.2) (.string t175)) (fun _ hk => hk.2) (.slice Ao34 t176.length co34)) (fun _ h_ => h_.1))))) (cells_blk (cs := #[.string t175, .slice Ao34 t176.length co34]) (t := 54) (by (with_reducible repeat (first | refine blk_drewN ?_ _ | refine blk_drew ?_ | refine blk_alloc ?_ _)); refine blk_put (cs := #[.string t175, .slice none 0 0]) ?_ 1 _ rfl; (with_reducible repeat (first | refine blk_drewN ?_ _ | refine blk_drew ?_ | refine blk_alloc ?_ _)); refine blk_put (cs := #[.string (⟨#[]⟩ : ByteArray), .slice none 0 0]) ?_ 0 _ rfl; (with_reducible repeat (first | refine blk_drewN ?_ _ | refine blk_drew ?_ | refine blk_alloc ?_ _)); exact BK179.out))); (case side2 => exact Nat.le_refl _); rintro e w' ⟨rfl, ⟨nd, rfl⟩⟩; refine ⟨_, rfl, ?_⟩))
         go_roundg k2
         case measure => have := HJ6.out; have := HK2.out; omega
         case rel => exact ⟨(wrap64 (x11_2 + 1)), (by first | rfl | (simp; done) | (simp [*]; done)), H', ⟨by have := HJ6.out; have := HK2.out; omega⟩, ⟨by (with_reducible repeat (first | refine blk_drewN ?_ _ | refine blk_drew ?_ | refine blk_alloc ?_ _)); refine blk_far ?_ NB170_179.out _; (with_reducible repeat (first | refine blk_drewN ?_ _ | refine blk_drew ?_ | refine blk_alloc ?_ _)); refine blk_far ?_ NB170_179.out _; (with_reducible repeat (first | refine blk_drewN ?_ _ | refine blk_drew ?_ | refine blk_alloc ?_ _)); exact BK170.out⟩, ⟨by repeat (first | (with_reducible first | exact HB.out | apply below_alloc | apply pw_below_drewN | apply below_drew1 | refine below_set ?_ GE170.out | refine below_set ?_ GE179.out) | exact HB.out)⟩⟩
       ·rw [if_neg c14] at H
        have c14b0 : decide (x11_2 ≤ 1200) = false := decide_eq_false c14
        clear c14
        simp only [Option.some.injEq, Prod.mk.injEq] at H
        obtain ⟨rfl, rfl⟩ := H
        go_wp2
        go_ret2
        exact ⟨by first | rfl | (rw [Int.tdiv_eq_ediv_of_nonneg (by omega)]; rfl) | (simp [errW_none, errW_some] <;> rfl) | (simp [*, errW_none, errW_some] <;> rfl), by repeat (first | (with_reducible first | exact HB.out | apply below_alloc | apply pw_below_drewN | apply below_drew1 | refine below_set ?_ GE170.out) | exact HB.out)⟩
 ·replace c6 := Bool.eq_false_iff.mpr c6
  subst c6
  have H1 : (some (0, 1)) = some (r1, r2) := by rw [if_neg (show ¬ (false = true) by decide)] at H; exact H
  clear H
  have H := H1
  clear H1
  simp only [Option.some.injEq, Prod.mk.injEq] at H
  obtain ⟨rfl, rfl⟩ := H
  go_enter Try.func33, Try.ntmps33
  go_wp2_with (first | ((with_reducible refine gate_dst (N := 4) rfl ?_); refine box_event ?hg (N := 4) ?hd (cs := #[.string a0_0, .slice A0_1 l0_1.length c0_1]) (t := 54) ?hr ?_; (case hd => rfl); (case hg => rfl); (case hr => first | (go_simp; done) | (go_simp; rfl)); intro gb170 hg w35 hbox hb; have n0_ := Aside0.mk (below_step (by repeat (first | (with_reducible first | exact HB.out | apply below_alloc | apply pw_below_drewN | apply below_drew1) | exact HB.out)) hb); have n1_ := Aside0.mk (hbox); have n2_ := Aside0.mk ((by rw [hg]; exact (below_size (by repeat (first | (with_reducible first | exact HB.out | apply below_alloc | apply pw_below_drewN | apply below_drew1) | exact HB.out))) : w.heap.size ≤ gb170)); have n3_ := Aside0.mk ((by rw [hg]; exact (below_size (by repeat (first | (with_reducible first | exact HB.out | apply below_alloc | apply pw_below_drewN | apply below_drew1) | exact HB.out))) : w.heap.size ≤ gb170)); clear HB; have HB := n0_; have BK170 := n1_; have GW170 := n2_; have GE170 := n3_; clear n0_ n1_ n2_ n3_; clear hb hbox hg) | ((with_reducible refine gate_callee (f := 81) rfl ?_); refine goesL_ (some 13) rfl rfl Try.func81 (by kernel_rfl) rfl #[.pointer (some ⟨gb170, 0, none⟩)] rfl (by (try simp only [List.map_toArray, List.map_cons, List.map_nil]); first | done | rfl | (simp only [List.length_drop, List.length_take]; rfl)) ?_; (with_reducible refine (spec_l08Ok.calls k _ 1 [(⟨a0_0, l0_1⟩ : S54)] false _ ?side1 ?side2 A5.out).mono ?_); (case side1 => exact Kd.C_one (k54_mk _ (⟨a0_0, l0_1⟩ : S54) (by exact HC0_1.out) (by repeat (first | exact (Kd.C_below HR0_1.out HB.out) | (with_reducible refine Kd.C_alloc ?_ _) | (with_reducible refine Kd.C_drewN ?_ _) | (with_reducible refine Kd.C_drew ?_)))) (cells_blk (cs := #[.string a0_0, .slice A0_1 l0_1.length c0_1]) (t := 54) (by (with_reducible repeat (first | refine blk_drewN ?_ _ | refine blk_drew ?_ | refine blk_alloc ?_ _)); exact BK170.out))); (case side2 => exact Nat.le_refl _); rintro e w' ⟨rfl, ⟨nd, rfl⟩⟩; refine ⟨_, rfl, ?_⟩))
  go_ret2
  exact ⟨by first | rfl | (rw [Int.tdiv_eq_ediv_of_nonneg (by omega)]; rfl) | (simp [errW_none, errW_some] <;> rfl) | (simp [*, errW_none, errW_some] <;> rfl), by repeat (first | (with_reducible first | exact HB.out | apply below_alloc | apply pw_below_drewN | apply below_drew1 | refine below_set ?_ GE170.out) | exact HB.out)⟩

/-! ### laws_toInt64S: function 17 -/
def laws_toInt64S.l0 : Nat → List Int → List Int → Int → Option (List Int)
 | 0, _, _, _ => none
 | k + 1, x0, x3, x4 => if x4 < (x0.length : Int) then (if 0 ≤ x4 then (if x4 < (x3.length : Int) then (laws_toInt64S.l0 k x0 (x3.set (x4 : Int).toNat (rd x0 x4)) (wrap64 (x4 + 1))) else (none)) else (none)) else (some x3)
def laws_toInt64S.f (k : Nat) (l0 : List Int) : Option (List Int) := if 0 ≤ (l0.length : Int) then (if ((l0.length : Int) : Int).toNat ≤ 35184372088832 then (laws_toInt64S.l0 k l0 (List.replicate ((l0.length : Int) : Int).toNat 0) 0) else (none)) else (none)
theorem laws_toInt64S.mono_l : ∀ k, (∀ y0 y1 y2, LeO (laws_toInt64S.l0 k y0 y1 y2) (laws_toInt64S.l0 (k + 1) y0 y1 y2))
 | 0 => fun _ _ _ r h => by simp [laws_toInt64S.l0] at h
 | k + 1 => by
  have ih0 := laws_toInt64S.mono_l k
  ·intro y0 y1 y2
   unfold laws_toInt64S.l0
   repeat' first
   | (with_reducible exact ih0 _ _ _)
   | (with_reducible exact LeO.refl _)
   | (with_reducible exact LeO.none _)
   | (with_reducible refine LeO.ite ?_ ?_)
   | (with_reducible refine LeO.bind ?_ (fun _ => ?_))
   | exact ih0 _ _ _
   | exact LeO.none _
   | refine LeO.ite ?_ ?_
   | refine LeO.bind ?_ (fun _ => ?_)
theorem laws_toInt64S.mono : ∀ a0 k, LeO (laws_toInt64S.f k a0) (laws_toInt64S.f (k + 1) a0) := by
 intro a0 k
 have ih0 := laws_toInt64S.mono_l k
 unfold laws_toInt64S.f
 repeat' first
   | (with_reducible exact ih0 _ _ _)
   | (with_reducible exact LeO.refl _)
   | (with_reducible exact LeO.none _)
   | (with_reducible refine LeO.ite ?_ ?_)
   | (with_reducible refine LeO.bind ?_ (fun _ => ?_))
   | exact ih0 _ _ _
   | exact LeO.none _
   | refine LeO.ite ?_ ?_
   | refine LeO.bind ?_ (fun _ => ?_)
set_option maxHeartbeats 8000000 in
set_option maxRecDepth 100000 in
theorem laws_toInt64S.calls (k : Nat) (A0 : Option Addr) (c0 : Nat) (l0 : List Int) (r : List Int) (w : World) (hr0 : Kd.C (Kd.int .i64) w A0 l0.length l0) (hc0 : l0.length ≤ c0) (h : laws_toInt64S.f k l0 = some r) :
  Calls Try.prog 17 #[.slice A0 l0.length c0] w fun e w' => ∃ v0_ : Value, e = .returned (v0_) ∧ Kd.R (Kd.int .i64) 2 w' w.heap.size (fun _ => True) v0_ r ∧ Below w.heap.size w w' := by
 have HR0 := Aside0.mk hr0
 have HC0 := Aside0.mk hc0
 clear hr0 hc0
 have HB := Aside0.mk (Below.refl w.heap.size w)
 have H : (if 0 ≤ (l0.length : Int) then (if ((l0.length : Int) : Int).toNat ≤ 35184372088832 then (laws_toInt64S.l0 k l0 (List.replicate ((l0.length : Int) : Int).toNat 0) 0) else (none)) else (none)) = some r := h
 clear h
 by_cases c2 : 0 ≤ (l0.length : Int)
 ·rw [if_pos c2] at H
  have c2b0 := eq_true c2
  have c2b1 : decide (0 ≤ (l0.length : Int)) = true := decide_eq_true c2
  clear c2
  by_cases c3 : ((l0.length : Int) : Int).toNat ≤ 35184372088832
  ·rw [if_pos c3] at H
   have c3b0 := eq_true c3
   have c3b1 : decide (((l0.length : Int) : Int).toNat ≤ 35184372088832) = true := decide_eq_true c3
   clear c3
   obtain ⟨y182, hy182⟩ : ∃ y_ : List Int, y_ = (List.replicate ((l0.length : Int) : Int).toNat 0) := ⟨_, rfl⟩
   replace H : (laws_toInt64S.l0 k l0 y182 0) = some r := by first | (rw [hy182]; with_reducible exact H) | (have H2_ := (Option.bind_some _ _).symm.trans H; rw [hy182]; with_reducible exact H2_) | (have H2_ := (Option.bind_some _ _).symm.trans H; with_reducible exact H2_) | with_reducible exact H | (rw [hy182]; exact H) | exact H
   have Ny182 := Aside0.mk hy182
   clear hy182
   have H' := Aside0.mk H
   clear H
   go_enter Try.func17, Try.ntmps17
   go_wp2_with (first | ((with_reducible refine gate_dst (N := 7) rfl ?_); refine Kd.R_make (Kd.int .i64) _ 2 rfl (N := 7) rfl 28 _ _ rfl (l0.length : Int) rfl rfl Try.underlying28 (.int .i64 0) 8 info2 rfl (by decide) (by omega) 0 (ok := fun _ => True) (okp := fun _ => True) rfl (fun _ hk => hk) trivial (of_decide_eq_true (by first | (with_reducible assumption) | assumption)) (Nat.le_trans (Nat.mul_le_mul_right _ (of_decide_eq_true (by first | (with_reducible assumption) | assumption) : (l0.length : Int).toNat ≤ 35184372088832)) (by omega)) (Below.refl _ _) (Nat.le_refl _) ?_; intro v183 w4 ho5 hb hg_ hnew_; clear hg_ hnew_; (first | rw [← Ny182.out] at ho5 | (simp only [Int.reduceToNat] at ho5; rw [← Ny182.out] at ho5)); have n0_ := Aside0.mk (Kd.R_lower ho5 (below_size (by repeat (first | (with_reducible first | exact HB.out | apply below_alloc | apply pw_below_drewN | apply below_drew1) | exact HB.out)))); have n1_ := Aside0.mk (below_step (by repeat (first | (with_reducible first | exact HB.out | apply below_alloc | apply pw_below_drewN | apply below_drew1) | exact HB.out)) hb); clear HB; have HO184 := n0_; have HB := n1_; clear n0_ n1_; clear hb ho5))
   go_loopg [4] k (fun kq v4 w' => ∃ (x3_1 : List Int) (x4_1 : Int), v4 = .int .i64 x4_1 ∧ Aside0 (laws_toInt64S.l0 kq l0 x3_1 x4_1 = some r) ∧ Aside0 (kq ≤ k) ∧ Aside0 (Kd.R (Kd.int .i64) 2 w' w.heap.size (fun _ => True) v183 x3_1) ∧ Aside0 (Below w.heap.size w w'))
   case atStart => exact ⟨(y182), (0), (by first | rfl | (simp; done) | (simp [*]; done)), H', ⟨Nat.le_refl _⟩, ⟨by (with_reducible repeat (first | apply Kd.R_alloc | apply Kd.R_drewN | apply Kd.R_drew)); exact HO184.out⟩, ⟨by repeat (first | (with_reducible first | exact HB.out | apply below_alloc | apply pw_below_drewN | apply below_drew1) | exact HB.out)⟩⟩
   case round =>
    clear H'
    try clear c1
    try clear c2
    try clear c2b0
    try clear c2b1
    try clear p2
    try clear c3
    try clear c3b0
    try clear c3b1
    obtain ⟨x3_1, x4_1, rfl, HA, HK1, HO_3, HB⟩ := hrel
    cases gk with
    | zero => exact absurd HA.out (by simp [laws_toInt64S.l0])
    | succ k1 =>
     have H := HA.out
     clear HA
     simp only [laws_toInt64S.l0] at H
     by_cases c6 : x4_1 < (l0.length : Int)
     ·rw [if_pos c6] at H
      have c6b0 : decide (x4_1 < (l0.length : Int)) = true := decide_eq_true c6
      clear c6
      by_cases c7 : 0 ≤ x4_1
      ·rw [if_pos c7] at H
       have c7b0 : decide (0 ≤ x4_1) = true := decide_eq_true c7
       clear c7
       by_cases c8 : x4_1 < (x3_1.length : Int)
       ·rw [if_pos c8] at H
        have c8b0 : decide (x4_1 < (x3_1.length : Int)) = true := decide_eq_true c8
        clear c8
        obtain ⟨y186, hy186⟩ : ∃ y_ : List Int, y_ = (x3_1.set (x4_1 : Int).toNat (rd l0 x4_1)) := ⟨_, rfl⟩
        replace H : (laws_toInt64S.l0 k1 l0 y186 (wrap64 (x4_1 + 1))) = some r := by first | (rw [hy186]; with_reducible exact H) | (have H2_ := (Option.bind_some _ _).symm.trans H; rw [hy186]; with_reducible exact H2_) | (have H2_ := (Option.bind_some _ _).symm.trans H; with_reducible exact H2_) | with_reducible exact H | (rw [hy186]; exact H) | exact H
        have Ny186 := Aside0.mk hy186
        clear hy186
        have H' := Aside0.mk H
        clear H
        have p185 : 0 ≤ (x4_1 : Int) := of_decide_eq_true (by first | (with_reducible assumption) | assumption)
        have q185 : x4_1 < (l0.length : Int) := of_decide_eq_true (by first | (with_reducible assumption) | assumption)
        obtain ⟨ad185, e185, hx185_0⟩ := Kd.at_int HR0.out x4_1 p185 q185
        cases e185
        replace hx185_0 := (HB.out.cell (World.block_lt_of_cell? w _ hx185_0)).trans hx185_0
        replace p185 := eq_true p185
        replace q185 := eq_true q185
        have p9 : 0 ≤ (x4_1 : Int) := of_decide_eq_true (by first | (with_reducible assumption) | assumption)
        have q9 : (x4_1 : Int) < ((x3_1.length : Int) : Int) := of_decide_eq_true (by first | (with_reducible assumption) | assumption)
        obtain ⟨go9, co9, eo9, gb9, gl9, cl9, HG9⟩ := Kd.R_form HO_3.out (by omega)
        (first | cases eo9 | (injection eo9 with ea_ en_ ec_; (first | subst ea_ | (injection ea_ with ea_; subst ea_)); subst ec_; clear en_))
        have GB9 := Aside0.mk gb9
        have GG9 := Aside0.mk HG9
        clear gb9 gl9 HG9
        obtain ⟨hx9_0, hf9_0⟩ := Kd.R_celln 0 HO_3.out (x4_1 : Int) p9 q9
        replace p9 := eq_true p9
        replace q9 := eq_true q9
        have HP10 := Kd.R_putg HO_3.out (x4_1 : Int) (rd l0 x4_1)
        go_wp2_with (first | ((with_reducible refine gate_store (t := 2) (p := 20) rfl ?_); refine store_event (t := 2) (p := 20) (v := ?vo_w11) (w1 := (wr.setCell ⟨go9, (x4_1 : Int).toNat, none⟩ (.int .i64 (rd l0 x4_1)))) ?hg ?ho ?hn ?hr ?_; (case ho => rfl); (case hg => rfl); (case hn => rfl); (case hr => first | (go_simp; done) | (go_simp; rfl)); intro w11 hw; have hg : wr.grownBy w11 (some go9) := (by rw [hw]; exact HP10.2); have hp_ : Kd.R (Kd.int .i64) 2 w11 w.heap.size (fun _ => True) (.slice (some ⟨go9, 0, none⟩) x3_1.length co9) y186 := (by rw [hw, Ny186.out]; exact HP10.1); clear HP10; have n0_ := Aside0.mk (hp_); have n1_ := Aside0.mk ((by rw [hw]; exact below_set (HB.out) GB9.out : Below w.heap.size w w11)); clear HO_3; clear HB; have HO_3 := n0_; have HB := n1_; clear n0_ n1_; clear hg hw hp_))
        go_roundg k1
        case measure => have := HK1.out; omega
        case rel => exact ⟨(y186), (wrap64 (x4_1 + 1)), (by first | rfl | (simp; done) | (simp [*]; done)), H', ⟨by have := HK1.out; omega⟩, ⟨by (with_reducible repeat (first | apply Kd.R_alloc | apply Kd.R_drewN | apply Kd.R_drew)); exact HO_3.out⟩, ⟨by repeat (first | (with_reducible first | exact HB.out | apply below_alloc | apply pw_below_drewN | apply below_drew1) | exact HB.out)⟩⟩
       ·rw [if_neg c8] at H
        exact absurd H (by simp)
      ·rw [if_neg c7] at H
       exact absurd H (by simp)
     ·rw [if_neg c6] at H
      have c6b0 : decide (x4_1 < (l0.length : Int)) = false := decide_eq_false c6
      clear c6
      obtain rfl := Option.some.inj H
      go_wp2
      go_ret
      exact ⟨_, by first | rfl | (simp [errW_none, errW_some] <;> rfl) | (simp [*, errW_none, errW_some] <;> rfl), by (with_reducible repeat (first | apply Kd.R_alloc | apply Kd.R_drewN | apply Kd.R_drew)); exact HO_3.out, by repeat (first | (with_reducible first | exact HB.out | apply below_alloc | apply pw_below_drewN | apply below_drew1) | exact HB.out)⟩
  ·rw [if_neg c3] at H
   exact absurd H (by simp)
 ·rw [if_neg c2] at H
  exact absurd H (by simp)

end Go.Proofs.Ytaomflfofihknaa.PFnExactLeastSpeed
