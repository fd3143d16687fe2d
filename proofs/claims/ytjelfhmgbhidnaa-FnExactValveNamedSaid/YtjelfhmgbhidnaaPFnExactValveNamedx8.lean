-- written by wip/xprint.py, a program of this session, for this claim; not trusted: Lean checks it.
import Derived.Test.YtjelfhmgbhidnaaPFnExactValveNamedx0
import Derived.Test.YtjelfhmgbhidnaaPFnExactValveNamedx3
import Derived.Test.YtjelfhmgbhidnaaPFnExactValveNamedx6
import Derived.Test.YtjelfhmgbhidnaaPFnExactValveNamedx7
namespace Go.Proofs.Ytjelfhmgbhidnaa.PFnExactValveNamed
open Go.RowKit Go.Proofs.YtjelfhmgbhidnaaW.PrintWords Go.Proofs.YtjelfhmgbhidnaaW.PrintLast Go.Proofs.YtjelfhmgbhidnaaW.PrintMore
attribute [local go_sem] leq_less_ max2_int min2_int max_two min_two max_three min_three max_four min_four   -- for this text's walks alone
set_option linter.unusedVariables false
set_option linter.unusedSimpArgs false

/-! ### spec_l18Ok: function 41 -/
mutual
def spec_l18Ok.j0 : Nat → List (S32) → List (S64) → Bool → Option (Bool)
 | 0, _, _, _ => none
 | k + 1, x0, x1, x14 => if x14 = true then (some false) else (spec_l18Ok.l0 k x0 x1 0)
def spec_l18Ok.l0 : Nat → List (S32) → List (S64) → Int → Option (Bool)
 | 0, _, _, _ => none
 | k + 1, x0, x1, x5 => if x5 < (x1.length : Int) then (if 0 ≤ x5 then ((spec_l01Name.f k ((rd_T64 x1 x5).f0)).bind fun t208 => (if t208 = true then ((spec_l18Pipe.f k x0 [rd_T64 x1 x5]).bind fun t210 => (if t210 < 0 then (spec_l18Ok.j2 k x0 x1 x5 true) else (if x5 > 0 then (if 0 ≤ (wrap64 (x5 - 1)) then (if (wrap64 (x5 - 1)) < (x1.length : Int) then (spec_l18Ok.j2 k x0 x1 x5 (!(Op.bytesLess (((rd_T64 x1 (wrap64 (x5 - 1))).f0).toList) (((rd_T64 x1 x5).f0).toList)))) else (none)) else (none)) else (spec_l18Ok.j2 k x0 x1 x5 false)))) else (spec_l18Ok.j2 k x0 x1 x5 true))) else (none)) else (some true)
def spec_l18Ok.j2 : Nat → List (S32) → List (S64) → Int → Bool → Option (Bool)
 | 0, _, _, _, _ => none
 | k + 1, x0, x1, x5, x53 => if x53 = true then (some false) else (spec_l18Ok.l1 k x0 x1 x5 0)
def spec_l18Ok.l1 : Nat → List (S32) → List (S64) → Int → Int → Option (Bool)
 | 0, _, _, _, _ => none
 | k + 1, x0, x1, x5, x6 => if x6 < x5 then (if 0 ≤ x6 then (if x6 < (x1.length : Int) then (if 0 ≤ x5 then (if x5 < (x1.length : Int) then (if ((rd_T64 x1 x6).f1).toList = ((rd_T64 x1 x5).f1).toList then (if (((rd_T64 x1 x6).f2) == ((rd_T64 x1 x5).f2)) = true then (some false) else (spec_l18Ok.l1 k x0 x1 x5 (wrap64 (x6 + 1)))) else (spec_l18Ok.l1 k x0 x1 x5 (wrap64 (x6 + 1)))) else (none)) else (none)) else (none)) else (none)) else (spec_l18Ok.l0 k x0 x1 (wrap64 (x5 + 1)))
end
def spec_l18Ok.f (k : Nat) (l0 : List (S32)) (l1 : List (S64)) : Option (Bool) := (spec_l04Ok.f k l0).bind fun t206 => (if t206 = true then (spec_l18Ok.j0 k l0 l1 (decide ((l1.length : Int) > 8))) else (spec_l18Ok.j0 k l0 l1 true))
theorem spec_l18Ok.mono_l : ∀ k, (∀ y0 y1 y2, LeO (spec_l18Ok.j0 k y0 y1 y2) (spec_l18Ok.j0 (k + 1) y0 y1 y2)) ∧ (∀ y0 y1 y2, LeO (spec_l18Ok.l0 k y0 y1 y2) (spec_l18Ok.l0 (k + 1) y0 y1 y2)) ∧ (∀ y0 y1 y2 y3, LeO (spec_l18Ok.j2 k y0 y1 y2 y3) (spec_l18Ok.j2 (k + 1) y0 y1 y2 y3)) ∧ (∀ y0 y1 y2 y3, LeO (spec_l18Ok.l1 k y0 y1 y2 y3) (spec_l18Ok.l1 (k + 1) y0 y1 y2 y3))
 | 0 => ⟨fun _ _ _ r h => by simp [spec_l18Ok.j0] at h, fun _ _ _ r h => by simp [spec_l18Ok.l0] at h, fun _ _ _ _ r h => by simp [spec_l18Ok.j2] at h, fun _ _ _ _ r h => by simp [spec_l18Ok.l1] at h⟩
 | k + 1 => by
  obtain ⟨ih0, ih1, ih2, ih3⟩ := spec_l18Ok.mono_l k
  refine ⟨?_, ?_, ?_, ?_⟩ <;> intros <;> first | unfold spec_l18Ok.j0 | unfold spec_l18Ok.l0 | unfold spec_l18Ok.j2 | unfold spec_l18Ok.l1
  all_goals
   repeat' first
   | (with_reducible exact ih0 _ _ _)
   | (with_reducible exact ih1 _ _ _)
   | (with_reducible exact ih2 _ _ _ _)
   | (with_reducible exact ih3 _ _ _ _)
   | (with_reducible exact spec_l01Name.mono _ _)
   | (with_reducible exact spec_l04Ok.mono _ _)
   | (with_reducible exact spec_l18Pipe.mono _ _ _)
   | (with_reducible exact LeO.refl _)
   | (with_reducible exact LeO.none _)
   | (with_reducible refine LeO.ite ?_ ?_)
   | (with_reducible refine LeO.bind ?_ (fun _ => ?_))
   | exact ih0 _ _ _
   | exact ih1 _ _ _
   | exact ih2 _ _ _ _
   | exact ih3 _ _ _ _
   | exact spec_l01Name.mono _ _
   | exact spec_l04Ok.mono _ _
   | exact spec_l18Pipe.mono _ _ _
   | exact LeO.none _
   | refine LeO.ite ?_ ?_
   | refine LeO.bind ?_ (fun _ => ?_)
theorem spec_l18Ok.mono : ∀ a0 a1 k, LeO (spec_l18Ok.f k a0 a1) (spec_l18Ok.f (k + 1) a0 a1) := by
 intro a0 a1 k
 obtain ⟨ih0, ih1, ih2, ih3⟩ := spec_l18Ok.mono_l k
 unfold spec_l18Ok.f
 repeat' first
   | (with_reducible exact ih0 _ _ _)
   | (with_reducible exact ih1 _ _ _)
   | (with_reducible exact ih2 _ _ _ _)
   | (with_reducible exact ih3 _ _ _ _)
   | (with_reducible exact spec_l01Name.mono _ _)
   | (with_reducible exact spec_l04Ok.mono _ _)
   | (with_reducible exact spec_l18Pipe.mono _ _ _)
   | (with_reducible exact LeO.refl _)
   | (with_reducible exact LeO.none _)
   | (with_reducible refine LeO.ite ?_ ?_)
   | (with_reducible refine LeO.bind ?_ (fun _ => ?_))
   | exact ih0 _ _ _
   | exact ih1 _ _ _
   | exact ih2 _ _ _ _
   | exact ih3 _ _ _ _
   | exact spec_l01Name.mono _ _
   | exact spec_l04Ok.mono _ _
   | exact spec_l18Pipe.mono _ _ _
   | exact LeO.none _
   | refine LeO.ite ?_ ?_
   | refine LeO.bind ?_ (fun _ => ?_)
def spec_l18Ok.T6 : Bool × List (List Nat × List Nat) := (true, [([], []), ([], []), ([0, 1], [0, 1]), ([2], [2]), ([3], [3]), ([4], [4]), ([5], [5]), ([6, 5], [6]), ([7], [7]), ([7], [7]), ([7], [7]), ([9, 10, 7], [7, 9, 10]), ([8, 11, 7, 7], [7, 8, 11]), ([12, 7], [7, 12]), ([7, 13], [7, 13]), ([14, 12], [14]), ([15], [15]), ([16, 15], [15, 16]), ([17, 15, 15], [15, 17]), ([18], [18]), ([18], [18]), ([20, 18], [18, 20]), ([19, 21, 18], [18, 19, 21]), ([22, 18], [18, 22]), ([23, 18], [18, 23]), ([18], [18]), ([18], [18]), ([25, 26, 18], [18, 25, 26]), ([27, 18], [18, 27]), ([28, 18], [18, 28]), ([24, 29, 18], [18, 24, 29]), ([18, 30, 15], [15, 18, 30]), ([15, 31], [15, 31])])
def spec_l18Ok.B6 : List Nat := [0, 0, 3, 7, 15, 31, 63, 127, 255, 255, 255, 1791, 4095, 8191, 16383, 32767, 65535, 131071, 262143, 524287, 524287, 1572863, 4194303, 8388607, 16777215, 524287, 524287, 101187583, 235405311, 503840767, 1073741823, 2147483647, 4294967295]
theorem spec_l18Ok.tab6 : rtab .any (opsOf Try.f41 6) = spec_l18Ok.T6 := by kernel_rfl
theorem spec_l18Ok.bits6 : waitsOk spec_l18Ok.T6.2 spec_l18Ok.B6 = true := by kernel_rfl
def spec_l18Ok.T11 : Bool × List (List Nat × List Nat) := (true, [([], []), ([], []), ([0, 1], [0, 1]), ([2], [2]), ([3], [3]), ([], []), ([], []), ([5, 6], [5, 6]), ([7], [7]), ([8], [8]), ([4, 9], [4, 9]), ([10], [10]), ([11], [11]), ([11], [11]), ([12, 13, 11], [11, 12, 13]), ([14, 11], [11, 14]), ([15, 11], [11, 15]), ([11], [11]), ([11], [11]), ([17, 18, 11], [11, 17, 18]), ([19, 11], [11, 19]), ([20, 11], [11, 20]), ([16, 21, 11], [11, 16, 21]), ([11, 22], [11, 22])])
def spec_l18Ok.B11 : List Nat := [0, 0, 3, 7, 15, 0, 0, 96, 224, 480, 1023, 2047, 4095, 4095, 16383, 32767, 65535, 4095, 4095, 397311, 921599, 1970175, 4194303, 8388607]
theorem spec_l18Ok.tab11 : rtab .any (opsOf Try.f41 11) = spec_l18Ok.T11 := by kernel_rfl
theorem spec_l18Ok.bits11 : waitsOk spec_l18Ok.T11.2 spec_l18Ok.B11 = true := by kernel_rfl
set_option maxHeartbeats 8000000 in
set_option maxRecDepth 100000 in
theorem spec_l18Ok.calls (k : Nat) (A0 : Option Addr) (c0 : Nat) (l0 : List (S32)) (A1 : Option Addr) (c1 : Nat) (l1 : List (S64)) (r : Bool) (w : World) (hr0 : Kd.C k32 w A0 l0.length l0) (hc0 : l0.length ≤ c0) (hr1 : Kd.C k64 w A1 l1.length l1) (hc1 : l1.length ≤ c1) (h : spec_l18Ok.f k l0 l1 = some r) :
  Calls Try.prog 41 #[.pointer A0, .slice A1 l1.length c1] w fun e w' => e = .returned (.bool r) ∧ Below w.heap.size w w' := by
 have HR0 := Aside0.mk hr0
 have HC0 := Aside0.mk hc0
 clear hr0 hc0
 have HR1 := Aside0.mk hr1
 have HC1 := Aside0.mk hc1
 clear hr1 hc1
 have HB := Aside0.mk (Below.refl w.heap.size w)
 have H : ((spec_l04Ok.f k l0).bind fun t206 => (if t206 = true then (spec_l18Ok.j0 k l0 l1 (decide ((l1.length : Int) > 8))) else (spec_l18Ok.j0 k l0 l1 true))) = some r := h
 clear h
 have HC3 := Aside0.mk H
 clear H
 go_enter Try.func41, Try.ntmps41
 go_upto_region 1 with (fail)
 go_cut [14] (fun v14 wc => ∃ (kq : Nat) (x14_2 : Bool), v14 = .bool x14_2 ∧ Aside0 (spec_l18Ok.j0 kq l0 l1 x14_2 = some r) ∧ Aside0 (kq ≤ k) ∧ Aside0 (Below w.heap.size w wc))
 case first =>
  have H := HC3.out
  clear HC3
  replace H := Option.bind_eq_some_iff.mp H
  obtain ⟨t206, A40, H⟩ := H
  replace H : (if t206 = true then (spec_l18Ok.j0 k l0 l1 (decide ((l1.length : Int) > 8))) else (spec_l18Ok.j0 k l0 l1 true)) = some r := H
  have A4 := Aside0.mk A40
  clear A40
  by_cases c5 : t206 = true
  ·subst c5
   have H1 : (spec_l18Ok.j0 k l0 l1 (decide ((l1.length : Int) > 8))) = some r := by rw [if_pos rfl] at H; exact H
   clear H
   have H := H1
   clear H1
   have H' := Aside0.mk H
   clear H
   go_wp2_with (first | ((with_reducible refine gate_callee (f := 54) rfl ?_); refine goesL_ (some 8) rfl rfl Try.func54 t7_ rfl #[.pointer A0] rfl t2_ ?_; (with_reducible refine (spec_l04Ok.calls k _ c0 l0 true _ ?side1 ?side2 A4.out).mono ?_); (case side1 => repeat (first | exact (Kd.C_below HR0.out HB.out) | (with_reducible refine Kd.C_alloc ?_ _) | (with_reducible refine Kd.C_drewN ?_ _) | (with_reducible refine Kd.C_drew ?_))); (case side2 => exact HC0.out); rintro e w6 ⟨rfl, hb⟩; refine ⟨_, rfl, ?_⟩; have n0_ := Aside0.mk (below_step t1_ hb); clear HB; have HB := n0_; clear n0_; (try clear hb); (try clear hb2); (try clear hk); (try clear hi)))
   go_meet
   case rel => exact ⟨_, (decide ((l1.length : Int) > 8)), t5_, H', ⟨by first | omega | exact Nat.le_refl _⟩, ⟨by repeat (first | (with_reducible first | exact HB.out | apply below_alloc | apply pw_below_drewN | apply below_drew1) | exact HB.out)⟩⟩
  ·replace c5 := Bool.eq_false_iff.mpr c5
   subst c5
   have H1 : (spec_l18Ok.j0 k l0 l1 true) = some r := by rw [if_neg (show ¬ (false = true) by decide)] at H; exact H
   clear H
   have H := H1
   clear H1
   have H' := Aside0.mk H
   clear H
   go_wp2_with (first | ((with_reducible refine gate_callee (f := 54) rfl ?_); refine goesL_ (some 8) rfl rfl Try.func54 t7_ rfl #[.pointer A0] rfl t2_ ?_; (with_reducible refine (spec_l04Ok.calls k _ c0 l0 false _ ?side1 ?side2 A4.out).mono ?_); (case side1 => repeat (first | exact (Kd.C_below HR0.out HB.out) | (with_reducible refine Kd.C_alloc ?_ _) | (with_reducible refine Kd.C_drewN ?_ _) | (with_reducible refine Kd.C_drew ?_))); (case side2 => exact HC0.out); rintro e w7 ⟨rfl, hb⟩; refine ⟨_, rfl, ?_⟩; have n0_ := Aside0.mk (below_step t1_ hb); clear HB; have HB := n0_; clear n0_; (try clear hb); (try clear hb2); (try clear hk); (try clear hi)))
   go_meet
   case rel => exact ⟨_, (true), t5_, H', ⟨by first | omega | exact Nat.le_refl _⟩, ⟨by repeat (first | (with_reducible first | exact HB.out | apply below_alloc | apply pw_below_drewN | apply below_drew1) | exact HB.out)⟩⟩
 case rest =>
  clear HC3
  try clear c1
  try clear p2
  try clear c4
  try clear c5
  obtain ⟨kq, x14_2, rfl, HA, HJ2, HB⟩ := hcut
  cases kq with
  | zero => exact absurd HA.out (by simp [spec_l18Ok.j0])
  | succ kj2 =>
   have H := HA.out
   clear HA
   simp only [spec_l18Ok.j0] at H
   by_cases c8 : x14_2 = true
   ·subst c8
    have H1 : (some false) = some r := by rw [if_pos rfl] at H; exact H
    clear H
    have H := H1
    clear H1
    obtain rfl := Option.some.inj H
    go_wp2
    go_ret
    exact ⟨by first | rfl | (rw [Int.tdiv_eq_ediv_of_nonneg t12_]; rfl) | (simp [errW_none, errW_some] <;> rfl) | (simp [*, errW_none, errW_some] <;> rfl), by repeat (first | (with_reducible first | exact HB.out | apply below_alloc | apply pw_below_drewN | apply below_drew1) | exact HB.out)⟩
   ·replace c8 := Bool.eq_false_iff.mpr c8
    subst c8
    have H1 : (spec_l18Ok.l0 kj2 l0 l1 0) = some r := by rw [if_neg (show ¬ (false = true) by decide)] at H; exact H
    clear H
    have H := H1
    clear H1
    have H' := Aside0.mk H
    clear H
    go_wp2
    go_loopg [5] kj2 (fun kq v5 w' => ∃ (x5_2 : Int), v5 = .int .i64 x5_2 ∧ Aside0 (spec_l18Ok.l0 kq l0 l1 x5_2 = some r) ∧ Aside0 (kq ≤ kj2) ∧ Aside0 (Below w.heap.size w w'))
    case atStart => exact ⟨(0), t5_, H', ⟨Nat.le_refl _⟩, ⟨by repeat (first | (with_reducible first | exact HB.out | apply below_alloc | apply pw_below_drewN | apply below_drew1) | exact HB.out)⟩⟩
    case round =>
     clear H'
     try clear c1
     try clear p2
     try clear c4
     try clear c5
     try clear c8
     try clear p2
     obtain ⟨x5_2, rfl, HA, HK2, HB⟩ := hrel
     cases gk with
     | zero => exact absurd HA.out (by simp [spec_l18Ok.l0])
     | succ k2 =>
      have H := HA.out
      clear HA
      simp only [spec_l18Ok.l0] at H
      by_cases c9 : x5_2 < (l1.length : Int)
      ·rw [if_pos c9] at H
       have c9b0 : decide (x5_2 < (l1.length : Int)) = true := decide_eq_true c9
       clear c9
       have HC10 := Aside0.mk H
       clear H
       go_upto_region 6 with (fail)
       go_cut [53] (fun v53 wc => ∃ (kq : Nat) (x53_9 : Bool), v53 = .bool x53_9 ∧ Aside0 (spec_l18Ok.j2 kq l0 l1 x5_2 x53_9 = some r) ∧ Aside0 (kq ≤ k2) ∧ Aside0 (Below w.heap.size w wc))
       case first =>
        have H := HC10.out
        clear HC10
        by_cases c11 : 0 ≤ x5_2
        ·rw [if_pos c11] at H
         have c11b0 : decide (0 ≤ x5_2) = true := decide_eq_true c11
         clear c11
         (first | rw [c11b0] | (simp only [i64_w, i32_w]; rw [c11b0]) | skip)
         replace H := Option.bind_eq_some_iff.mp H
         obtain ⟨t208, A120, H⟩ := H
         replace H : (if t208 = true then ((spec_l18Pipe.f k2 l0 [rd_T64 l1 x5_2]).bind fun t210 => (if t210 < 0 then (spec_l18Ok.j2 k2 l0 l1 x5_2 true) else (if x5_2 > 0 then (if 0 ≤ (wrap64 (x5_2 - 1)) then (if (wrap64 (x5_2 - 1)) < (l1.length : Int) then (spec_l18Ok.j2 k2 l0 l1 x5_2 (!(Op.bytesLess (((rd_T64 l1 (wrap64 (x5_2 - 1))).f0).toList) (((rd_T64 l1 x5_2).f0).toList)))) else (none)) else (none)) else (spec_l18Ok.j2 k2 l0 l1 x5_2 false)))) else (spec_l18Ok.j2 k2 l0 l1 x5_2 true)) = some r := H
         have A12 := Aside0.mk A120
         clear A120
         by_cases c13 : t208 = true
         ·subst c13
          have H1 : ((spec_l18Pipe.f k2 l0 [rd_T64 l1 x5_2]).bind fun t210 => (if t210 < 0 then (spec_l18Ok.j2 k2 l0 l1 x5_2 true) else (if x5_2 > 0 then (if 0 ≤ (wrap64 (x5_2 - 1)) then (if (wrap64 (x5_2 - 1)) < (l1.length : Int) then (spec_l18Ok.j2 k2 l0 l1 x5_2 (!(Op.bytesLess (((rd_T64 l1 (wrap64 (x5_2 - 1))).f0).toList) (((rd_T64 l1 x5_2).f0).toList)))) else (none)) else (none)) else (spec_l18Ok.j2 k2 l0 l1 x5_2 false)))) = some r := by rw [if_pos rfl] at H; exact H
          clear H
          have H := H1
          clear H1
          replace H := Option.bind_eq_some_iff.mp H
          obtain ⟨t210, A140, H⟩ := H
          replace H : (if t210 < 0 then (spec_l18Ok.j2 k2 l0 l1 x5_2 true) else (if x5_2 > 0 then (if 0 ≤ (wrap64 (x5_2 - 1)) then (if (wrap64 (x5_2 - 1)) < (l1.length : Int) then (spec_l18Ok.j2 k2 l0 l1 x5_2 (!(Op.bytesLess (((rd_T64 l1 (wrap64 (x5_2 - 1))).f0).toList) (((rd_T64 l1 x5_2).f0).toList)))) else (none)) else (none)) else (spec_l18Ok.j2 k2 l0 l1 x5_2 false))) = some r := H
          have A14 := Aside0.mk A140
          clear A140
          by_cases c15 : t210 < 0
          ·rw [if_pos c15] at H
           have c15b0 : decide (t210 < 0) = true := decide_eq_true c15
           clear c15
           have H' := Aside0.mk H
           clear H
           try go_wp2
           have n0_ := Aside0.mk (below_drew1 HB.out)
           clear HB
           have HB := n0_
           clear n0_
           have p207 : 0 ≤ (x5_2 : Int) := of_decide_eq_true t3_
           have q207 : x5_2 < (l1.length : Int) := of_decide_eq_true t3_
           obtain ⟨ad207, e207, hx207_0, hx207_1, hx207_2⟩ := at_T64 HR1.out x5_2 p207 q207
           have hw207_2 := hx207_2
           have hw207_1 := hx207_1
           have hw207_0 := hx207_0
           cases e207
           replace hx207_0 := (HB.out.cell (World.block_lt_of_cell? w _ hx207_0)).trans hx207_0
           replace hx207_1 := (HB.out.cell (World.block_lt_of_cell? w _ hx207_1)).trans hx207_1
           replace hx207_2 := (HB.out.cell (World.block_lt_of_cell? w _ hx207_2)).trans hx207_2
           replace p207 := eq_true p207
           replace q207 := eq_true q207
           have p209 : 0 ≤ (x5_2 : Int) := of_decide_eq_true t3_
           have q209 : x5_2 < (l1.length : Int) := of_decide_eq_true t3_
           obtain ⟨ad209, e209, hx209_0, hx209_1, hx209_2⟩ := at_T64 HR1.out x5_2 p209 q209
           have hw209_2 := hx209_2
           have hw209_1 := hx209_1
           have hw209_0 := hx209_0
           obtain rfl : ad207 = ad209 := (by injection e209)
           replace hx209_0 := (HB.out.cell (World.block_lt_of_cell? w _ hx209_0)).trans hx209_0
           replace hx209_1 := (HB.out.cell (World.block_lt_of_cell? w _ hx209_1)).trans hx209_1
           replace hx209_2 := (HB.out.cell (World.block_lt_of_cell? w _ hx209_2)).trans hx209_2
           replace p209 := eq_true p209
           replace q209 := eq_true q209
           refine start_ (n := 33) (S := fun w' => w'.cell? (ad207.add ((x5_2).toNat * 3)) = some (.string ((rd_T64 l1 x5_2).f0)) ∧ w'.cell? ⟨(ad207.add ((x5_2).toNat * 3)).block, (ad207.add ((x5_2).toNat * 3)).off + 1, none⟩ = some (.string ((rd_T64 l1 x5_2).f1)) ∧ w'.cell? ⟨(ad207.add ((x5_2).toNat * 3)).block, (ad207.add ((x5_2).toNat * 3)).off + 2, none⟩ = some (.bool ((rd_T64 l1 x5_2).f2)) ∧ w'.cell? (ad207.add ((x5_2).toNat * 3)) = some (.string ((rd_T64 l1 x5_2).f0)) ∧ w'.cell? ⟨(ad207.add ((x5_2).toNat * 3)).block, (ad207.add ((x5_2).toNat * 3)).off + 1, none⟩ = some (.string ((rd_T64 l1 x5_2).f1)) ∧ w'.cell? ⟨(ad207.add ((x5_2).toNat * 3)).block, (ad207.add ((x5_2).toNat * 3)).off + 2, none⟩ = some (.bool ((rd_T64 l1 x5_2).f2))) (ds := []) (tf 0 33) t7_ rfl rfl ⟨((HB.out.cell (World.block_lt_of_cell? w _ hw207_0)).trans hw207_0), ((HB.out.cell (World.block_lt_of_cell? w _ hw207_1)).trans hw207_1), ((HB.out.cell (World.block_lt_of_cell? w _ hw207_2)).trans hw207_2), ((HB.out.cell (World.block_lt_of_cell? w _ hw209_0)).trans hw209_0), ((HB.out.cell (World.block_lt_of_cell? w _ hw209_1)).trans hw209_1), ((HB.out.cell (World.block_lt_of_cell? w _ hw209_2)).trans hw209_2)⟩ (fun hHeld => ?_); refine with_tabW spec_l18Ok.tab6 spec_l18Ok.bits6 (fun HT_ HW_ => ?_)
           generalize wr.drew = w16 at HB hx207_0 hx207_1 hx207_2 hx209_0 hx209_1 hx209_2 hHeld ⊢
           refine px 0 (some 21) (tf 1 33) HT_ ?_
           refine px 1 (some 22) (tf 2 33) HT_ ?_
           refine px 2 (some 23) (tf 3 33) HT_ ?_
           refine px 3 (some 24) (tf 4 33) HT_ ?_
           refine tx (v := ?_) 4 (some 25) (tf 5 33) HT_ HW_ hHeld ?_ ?_
           rotate_left; (· rintro w' ⟨s0, s1, s2, s3, s4, s5⟩; go_simp; with_reducible rfl)
           refine one_ (i := 5) (N := some 26) (tf 6 33) rfl rfl (one_of HT_.out t7_) t22_ (fun K hK => ?_)
           refine goes_ Try.func77 t7_ rfl #[.string ((rd_T64 l1 x5_2).f0)] t35_ rfl rfl t2_ ?_
           with_reducible refine (spec_l01Name.calls k2 ((rd_T64 l1 x5_2).f0) true _ A12.out).mono ?_
           rintro e w' ⟨rfl, ⟨nd, rfl⟩⟩
           refine ⟨_, rfl, ?_⟩
           refine hK.out _ _ ⟨((HB.out.cell (World.block_lt_of_cell? w _ hw207_0)).trans hw207_0), ((HB.out.cell (World.block_lt_of_cell? w _ hw207_1)).trans hw207_1), ((HB.out.cell (World.block_lt_of_cell? w _ hw207_2)).trans hw207_2), ((HB.out.cell (World.block_lt_of_cell? w _ hw209_0)).trans hw209_0), ((HB.out.cell (World.block_lt_of_cell? w _ hw209_1)).trans hw209_1), ((HB.out.cell (World.block_lt_of_cell? w _ hw209_2)).trans hw209_2)⟩ (fun hHeld => ?_)
           clear hK K
           refine norm_ (a' := ?_) ?_ ?_
           rotate_left
           ·show Act.put _ (some 26) _ = _
            simp only [Act.put, List.setIfInBounds_toArray, List.set_cons_zero, List.set_cons_succ, i64_w, i32_w]
            rfl
           refine px 6 (some 27) (tf 7 33) HT_ ?_
           refine px 7 (some 28) (tf 8 33) HT_ ?_
           refine px 8 (some 29) (tf 9 33) HT_ ?_
           refine px 9 (some 30) (tf 10 33) HT_ ?_
           refine px 10 (some 31) (tf 11 33) HT_ ?_
           refine px 11 (some 32) (tf 12 33) HT_ ?_
           refine one_ (i := 12) (N := some 33) (tf 13 33) rfl rfl (one_of HT_.out t7_) t22_ (fun K hK => ?_)
           refine goes_ Try.func78 t7_ rfl #[.pointer A0, .pointer (some (ad207.add (x5_2.toNat * 3)))] t35_ rfl rfl t2_ ?_
           with_reducible refine (spec_l18Pipe.calls k2 _ c0 l0 _ 1 [rd_T64 l1 x5_2] t210 _ ?side1 ?side2 ?side3 ?side4 A14.out).mono ?_
           (case side1 => repeat (first | exact (Kd.C_below HR0.out t1_) | (with_reducible refine Kd.C_alloc ?_ _) | (with_reducible refine Kd.C_drewN ?_ _) | (with_reducible refine Kd.C_drew ?_)))
           (case side2 => exact HC0.out)
           (case side3 => exact Kd.C_sub (z := z64) (n := l1.length) (t28_) (by first | exact p209 | exact of_eq_true p209 | omega) (by first | exact q209 | exact of_eq_true q209 | omega))
           (case side4 => exact Nat.le_refl _)
           rintro e w' ⟨rfl, ⟨nd, rfl⟩⟩
           refine ⟨_, rfl, ?_⟩
           refine hK.out _ _ ⟨((HB.out.cell (World.block_lt_of_cell? w _ hw207_0)).trans hw207_0), ((HB.out.cell (World.block_lt_of_cell? w _ hw207_1)).trans hw207_1), ((HB.out.cell (World.block_lt_of_cell? w _ hw207_2)).trans hw207_2), ((HB.out.cell (World.block_lt_of_cell? w _ hw209_0)).trans hw209_0), ((HB.out.cell (World.block_lt_of_cell? w _ hw209_1)).trans hw209_1), ((HB.out.cell (World.block_lt_of_cell? w _ hw209_2)).trans hw209_2)⟩ (fun hHeld => ?_)
           clear hK K
           refine norm_ (a' := ?_) ?_ ?_
           rotate_left
           ·show Act.put _ (some 33) _ = _
            simp only [Act.put, List.setIfInBounds_toArray, List.set_cons_zero, List.set_cons_succ, i64_w, i32_w]
            rfl
           refine px 13 (some 34) (tf 14 33) HT_ ?_
           refine px 14 (some 35) (tf 15 33) HT_ ?_
           refine px 15 (some 36) (tf 16 33) HT_ ?_
           refine sx 16 (some 37) (tf 17 33) HT_ ?_
           refine sx 17 (some 38) (tf 18 33) HT_ ?_
           refine sx 18 (some 39) (tf 19 33) HT_ ?_
           refine sx 19 (some 40) (tf 20 33) HT_ ?_
           refine sx 20 (some 41) (tf 21 33) HT_ ?_
           refine sx 21 (some 42) (tf 22 33) HT_ ?_
           refine sx 22 (some 43) (tf 23 33) HT_ ?_
           refine sx 23 (some 44) (tf 24 33) HT_ ?_
           refine sx 24 (some 45) (tf 25 33) HT_ ?_
           refine sx 25 (some 46) (tf 26 33) HT_ ?_
           refine sx 26 (some 47) (tf 27 33) HT_ ?_
           refine sx 27 (some 48) (tf 28 33) HT_ ?_
           refine sx 28 (some 49) (tf 29 33) HT_ ?_
           refine sx 29 (some 50) (tf 30 33) HT_ ?_
           refine sx 30 (some 51) (tf 31 33) HT_ ?_
           refine sx 31 (some 52) (tf 32 33) HT_ ?_
           refine px 32 (some 53) (tf 33 33) HT_ ?_
           refine done_ (done_of HT_.out t7_) ?_
           try go_wp2
           go_meet
           case rel => exact ⟨_, (true), t5_, H', ⟨by have := HJ2.out; have := HK2.out; first | omega | exact Nat.le_refl _⟩, ⟨by repeat (first | (with_reducible first | exact HB.out | apply below_alloc | apply pw_below_drewN | apply below_drew1) | exact HB.out)⟩⟩
          ·rw [if_neg c15] at H
           have c15b0 : decide (t210 < 0) = false := decide_eq_false c15
           clear c15
           by_cases c17 : x5_2 > 0
           ·rw [if_pos c17] at H
            have c17b0 : decide (0 < x5_2) = true := decide_eq_true c17
            clear c17
            obtain ⟨ji18, hji18⟩ : ∃ j_ : Int, (wrap64 (x5_2 - 1)) = j_ := ⟨_, rfl⟩
            replace H : (if 0 ≤ (ji18) then (if (ji18) < (l1.length : Int) then (spec_l18Ok.j2 k2 l0 l1 x5_2 (!(Op.bytesLess (((rd_T64 l1 (ji18)).f0).toList) (((rd_T64 l1 x5_2).f0).toList)))) else (none)) else (none)) = some r := by first | (rw [hji18] at H; exact H) | (simp only [hji18] at H ⊢; exact H)
            (try rw [hji18] at A12)
            (try rw [hji18] at A14)
            have hji18w : (IntKind.i64.wrap (x5_2 - 1)) = ji18 := (i64_w _).trans hji18
            by_cases c19 : 0 ≤ (ji18)
            ·rw [if_pos c19] at H
             have c19b0 : decide (0 ≤ (ji18)) = true := decide_eq_true c19
             clear c19
             by_cases c20 : (ji18) < (l1.length : Int)
             ·rw [if_pos c20] at H
              have c20b0 : decide ((ji18) < (l1.length : Int)) = true := decide_eq_true c20
              clear c20
              have H' := Aside0.mk H
              clear H
              try go_wp2
              have n0_ := Aside0.mk (below_drew1 HB.out)
              clear HB
              have HB := n0_
              clear n0_
              have p207 : 0 ≤ (x5_2 : Int) := of_decide_eq_true t3_
              have q207 : x5_2 < (l1.length : Int) := of_decide_eq_true t3_
              obtain ⟨ad207, e207, hx207_0, hx207_1, hx207_2⟩ := at_T64 HR1.out x5_2 p207 q207
              have hw207_2 := hx207_2
              have hw207_1 := hx207_1
              have hw207_0 := hx207_0
              cases e207
              replace hx207_0 := (HB.out.cell (World.block_lt_of_cell? w _ hx207_0)).trans hx207_0
              replace hx207_1 := (HB.out.cell (World.block_lt_of_cell? w _ hx207_1)).trans hx207_1
              replace hx207_2 := (HB.out.cell (World.block_lt_of_cell? w _ hx207_2)).trans hx207_2
              replace p207 := eq_true p207
              replace q207 := eq_true q207
              have p209 : 0 ≤ (x5_2 : Int) := of_decide_eq_true t3_
              have q209 : x5_2 < (l1.length : Int) := of_decide_eq_true t3_
              obtain ⟨ad209, e209, hx209_0, hx209_1, hx209_2⟩ := at_T64 HR1.out x5_2 p209 q209
              have hw209_2 := hx209_2
              have hw209_1 := hx209_1
              have hw209_0 := hx209_0
              obtain rfl : ad207 = ad209 := (by injection e209)
              replace hx209_0 := (HB.out.cell (World.block_lt_of_cell? w _ hx209_0)).trans hx209_0
              replace hx209_1 := (HB.out.cell (World.block_lt_of_cell? w _ hx209_1)).trans hx209_1
              replace hx209_2 := (HB.out.cell (World.block_lt_of_cell? w _ hx209_2)).trans hx209_2
              replace p209 := eq_true p209
              replace q209 := eq_true q209
              have p211 : 0 ≤ ((ji18) : Int) := of_decide_eq_true t3_
              have q211 : (ji18) < (l1.length : Int) := of_decide_eq_true t3_
              obtain ⟨ad211, e211, hx211_0, hx211_1, hx211_2⟩ := at_T64 HR1.out (ji18) p211 q211
              have hw211_2 := hx211_2
              have hw211_1 := hx211_1
              have hw211_0 := hx211_0
              obtain rfl : ad207 = ad211 := (by injection e211)
              replace hx211_0 := (HB.out.cell (World.block_lt_of_cell? w _ hx211_0)).trans hx211_0
              replace hx211_1 := (HB.out.cell (World.block_lt_of_cell? w _ hx211_1)).trans hx211_1
              replace hx211_2 := (HB.out.cell (World.block_lt_of_cell? w _ hx211_2)).trans hx211_2
              replace p211 := eq_true p211
              replace q211 := eq_true q211
              have p212 : 0 ≤ (x5_2 : Int) := of_decide_eq_true t3_
              have q212 : x5_2 < (l1.length : Int) := of_decide_eq_true t3_
              obtain ⟨ad212, e212, hx212_0, hx212_1, hx212_2⟩ := at_T64 HR1.out x5_2 p212 q212
              have hw212_2 := hx212_2
              have hw212_1 := hx212_1
              have hw212_0 := hx212_0
              obtain rfl : ad207 = ad212 := (by injection e212)
              replace hx212_0 := (HB.out.cell (World.block_lt_of_cell? w _ hx212_0)).trans hx212_0
              replace hx212_1 := (HB.out.cell (World.block_lt_of_cell? w _ hx212_1)).trans hx212_1
              replace hx212_2 := (HB.out.cell (World.block_lt_of_cell? w _ hx212_2)).trans hx212_2
              replace p212 := eq_true p212
              replace q212 := eq_true q212
              refine start_ (n := 33) (S := fun w' => w'.cell? (ad207.add ((x5_2).toNat * 3)) = some (.string ((rd_T64 l1 x5_2).f0)) ∧ w'.cell? ⟨(ad207.add ((x5_2).toNat * 3)).block, (ad207.add ((x5_2).toNat * 3)).off + 1, none⟩ = some (.string ((rd_T64 l1 x5_2).f1)) ∧ w'.cell? ⟨(ad207.add ((x5_2).toNat * 3)).block, (ad207.add ((x5_2).toNat * 3)).off + 2, none⟩ = some (.bool ((rd_T64 l1 x5_2).f2)) ∧ w'.cell? (ad207.add ((x5_2).toNat * 3)) = some (.string ((rd_T64 l1 x5_2).f0)) ∧ w'.cell? ⟨(ad207.add ((x5_2).toNat * 3)).block, (ad207.add ((x5_2).toNat * 3)).off + 1, none⟩ = some (.string ((rd_T64 l1 x5_2).f1)) ∧ w'.cell? ⟨(ad207.add ((x5_2).toNat * 3)).block, (ad207.add ((x5_2).toNat * 3)).off + 2, none⟩ = some (.bool ((rd_T64 l1 x5_2).f2)) ∧ w'.cell? (ad207.add (((ji18)).toNat * 3)) = some (.string ((rd_T64 l1 (ji18)).f0)) ∧ w'.cell? ⟨(ad207.add (((ji18)).toNat * 3)).block, (ad207.add (((ji18)).toNat * 3)).off + 1, none⟩ = some (.string ((rd_T64 l1 (ji18)).f1)) ∧ w'.cell? ⟨(ad207.add (((ji18)).toNat * 3)).block, (ad207.add (((ji18)).toNat * 3)).off + 2, none⟩ = some (.bool ((rd_T64 l1 (ji18)).f2)) ∧ w'.cell? (ad207.add ((x5_2).toNat * 3)) = some (.string ((rd_T64 l1 x5_2).f0)) ∧ w'.cell? ⟨(ad207.add ((x5_2).toNat * 3)).block, (ad207.add ((x5_2).toNat * 3)).off + 1, none⟩ = some (.string ((rd_T64 l1 x5_2).f1)) ∧ w'.cell? ⟨(ad207.add ((x5_2).toNat * 3)).block, (ad207.add ((x5_2).toNat * 3)).off + 2, none⟩ = some (.bool ((rd_T64 l1 x5_2).f2))) (ds := []) (tf 0 33) t7_ rfl rfl ⟨((HB.out.cell (World.block_lt_of_cell? w _ hw207_0)).trans hw207_0), ((HB.out.cell (World.block_lt_of_cell? w _ hw207_1)).trans hw207_1), ((HB.out.cell (World.block_lt_of_cell? w _ hw207_2)).trans hw207_2), ((HB.out.cell (World.block_lt_of_cell? w _ hw209_0)).trans hw209_0), ((HB.out.cell (World.block_lt_of_cell? w _ hw209_1)).trans hw209_1), ((HB.out.cell (World.block_lt_of_cell? w _ hw209_2)).trans hw209_2), ((HB.out.cell (World.block_lt_of_cell? w _ hw211_0)).trans hw211_0), ((HB.out.cell (World.block_lt_of_cell? w _ hw211_1)).trans hw211_1), ((HB.out.cell (World.block_lt_of_cell? w _ hw211_2)).trans hw211_2), ((HB.out.cell (World.block_lt_of_cell? w _ hw212_0)).trans hw212_0), ((HB.out.cell (World.block_lt_of_cell? w _ hw212_1)).trans hw212_1), ((HB.out.cell (World.block_lt_of_cell? w _ hw212_2)).trans hw212_2)⟩ (fun hHeld => ?_); refine with_tabW spec_l18Ok.tab6 spec_l18Ok.bits6 (fun HT_ HW_ => ?_)
              generalize wr.drew = w21 at HB hx207_0 hx207_1 hx207_2 hx209_0 hx209_1 hx209_2 hx211_0 hx211_1 hx211_2 hx212_0 hx212_1 hx212_2 hHeld ⊢
              refine px 0 (some 21) (tf 1 33) HT_ ?_
              refine px 1 (some 22) (tf 2 33) HT_ ?_
              refine px 2 (some 23) (tf 3 33) HT_ ?_
              refine px 3 (some 24) (tf 4 33) HT_ ?_
              refine tx (v := ?_) 4 (some 25) (tf 5 33) HT_ HW_ hHeld ?_ ?_
              rotate_left; (· rintro w' ⟨s0, s1, s2, s3, s4, s5, s6, s7, s8, s9, s10, s11⟩; go_simp; with_reducible rfl)
              refine one_ (i := 5) (N := some 26) (tf 6 33) rfl rfl (one_of HT_.out t7_) t22_ (fun K hK => ?_)
              refine goes_ Try.func77 t7_ rfl #[.string ((rd_T64 l1 x5_2).f0)] t35_ rfl rfl t2_ ?_
              with_reducible refine (spec_l01Name.calls k2 ((rd_T64 l1 x5_2).f0) true _ A12.out).mono ?_
              rintro e w' ⟨rfl, ⟨nd, rfl⟩⟩
              refine ⟨_, rfl, ?_⟩
              refine hK.out _ _ ⟨((HB.out.cell (World.block_lt_of_cell? w _ hw207_0)).trans hw207_0), ((HB.out.cell (World.block_lt_of_cell? w _ hw207_1)).trans hw207_1), ((HB.out.cell (World.block_lt_of_cell? w _ hw207_2)).trans hw207_2), ((HB.out.cell (World.block_lt_of_cell? w _ hw209_0)).trans hw209_0), ((HB.out.cell (World.block_lt_of_cell? w _ hw209_1)).trans hw209_1), ((HB.out.cell (World.block_lt_of_cell? w _ hw209_2)).trans hw209_2), ((HB.out.cell (World.block_lt_of_cell? w _ hw211_0)).trans hw211_0), ((HB.out.cell (World.block_lt_of_cell? w _ hw211_1)).trans hw211_1), ((HB.out.cell (World.block_lt_of_cell? w _ hw211_2)).trans hw211_2), ((HB.out.cell (World.block_lt_of_cell? w _ hw212_0)).trans hw212_0), ((HB.out.cell (World.block_lt_of_cell? w _ hw212_1)).trans hw212_1), ((HB.out.cell (World.block_lt_of_cell? w _ hw212_2)).trans hw212_2)⟩ (fun hHeld => ?_)
              clear hK K
              refine norm_ (a' := ?_) ?_ ?_
              rotate_left
              ·show Act.put _ (some 26) _ = _
               simp only [Act.put, List.setIfInBounds_toArray, List.set_cons_zero, List.set_cons_succ, i64_w, i32_w]
               rfl
              refine px 6 (some 27) (tf 7 33) HT_ ?_
              refine px 7 (some 28) (tf 8 33) HT_ ?_
              refine px 8 (some 29) (tf 9 33) HT_ ?_
              refine px 9 (some 30) (tf 10 33) HT_ ?_
              refine px 10 (some 31) (tf 11 33) HT_ ?_
              refine px 11 (some 32) (tf 12 33) HT_ ?_
              refine one_ (i := 12) (N := some 33) (tf 13 33) rfl rfl (one_of HT_.out t7_) t22_ (fun K hK => ?_)
              refine goes_ Try.func78 t7_ rfl #[.pointer A0, .pointer (some (ad207.add (x5_2.toNat * 3)))] t35_ rfl rfl t2_ ?_
              with_reducible refine (spec_l18Pipe.calls k2 _ c0 l0 _ 1 [rd_T64 l1 x5_2] t210 _ ?side1 ?side2 ?side3 ?side4 A14.out).mono ?_
              (case side1 => repeat (first | exact (Kd.C_below HR0.out t1_) | (with_reducible refine Kd.C_alloc ?_ _) | (with_reducible refine Kd.C_drewN ?_ _) | (with_reducible refine Kd.C_drew ?_)))
              (case side2 => exact HC0.out)
              (case side3 => exact Kd.C_sub (z := z64) (n := l1.length) (t28_) (by first | exact p209 | exact of_eq_true p209 | omega) (by first | exact q209 | exact of_eq_true q209 | omega))
              (case side4 => exact Nat.le_refl _)
              rintro e w' ⟨rfl, ⟨nd, rfl⟩⟩
              refine ⟨_, rfl, ?_⟩
              refine hK.out _ _ ⟨((HB.out.cell (World.block_lt_of_cell? w _ hw207_0)).trans hw207_0), ((HB.out.cell (World.block_lt_of_cell? w _ hw207_1)).trans hw207_1), ((HB.out.cell (World.block_lt_of_cell? w _ hw207_2)).trans hw207_2), ((HB.out.cell (World.block_lt_of_cell? w _ hw209_0)).trans hw209_0), ((HB.out.cell (World.block_lt_of_cell? w _ hw209_1)).trans hw209_1), ((HB.out.cell (World.block_lt_of_cell? w _ hw209_2)).trans hw209_2), ((HB.out.cell (World.block_lt_of_cell? w _ hw211_0)).trans hw211_0), ((HB.out.cell (World.block_lt_of_cell? w _ hw211_1)).trans hw211_1), ((HB.out.cell (World.block_lt_of_cell? w _ hw211_2)).trans hw211_2), ((HB.out.cell (World.block_lt_of_cell? w _ hw212_0)).trans hw212_0), ((HB.out.cell (World.block_lt_of_cell? w _ hw212_1)).trans hw212_1), ((HB.out.cell (World.block_lt_of_cell? w _ hw212_2)).trans hw212_2)⟩ (fun hHeld => ?_)
              clear hK K
              refine norm_ (a' := ?_) ?_ ?_
              rotate_left
              ·show Act.put _ (some 33) _ = _
               simp only [Act.put, List.setIfInBounds_toArray, List.set_cons_zero, List.set_cons_succ, i64_w, i32_w]
               rfl
              refine px 13 (some 34) (tf 14 33) HT_ ?_
              refine px 14 (some 35) (tf 15 33) HT_ ?_
              refine px 15 (some 36) (tf 16 33) HT_ ?_
              refine px 16 (some 37) (tf 17 33) HT_ ?_
              refine px 17 (some 38) (tf 18 33) HT_ ?_
              refine px 18 (some 39) (tf 19 33) HT_ ?_
              refine px 19 (some 40) (tf 20 33) HT_ ?_
              refine px 20 (some 41) (tf 21 33) HT_ ?_
              refine px 21 (some 42) (tf 22 33) HT_ ?_
              refine px 22 (some 43) (tf 23 33) HT_ ?_
              refine px 23 (some 44) (tf 24 33) HT_ ?_
              refine px 25 (some 46) (tb 33 50331647) HT_ ?_
              refine px 26 (some 47) (tb 33 117440511) HT_ ?_
              refine px 27 (some 48) (tb 33 251658239) HT_ ?_
              refine px 28 (some 49) (tb 33 520093695) HT_ ?_
              refine tx (v := ?_) 24 (some 45) (tf 29 33) HT_ HW_ hHeld ?_ ?_
              rotate_left; (· rintro w' ⟨s0, s1, s2, s3, s4, s5, s6, s7, s8, s9, s10, s11⟩; go_simp; with_reducible rfl)
              refine tx (v := ?_) 29 (some 50) (tf 30 33) HT_ HW_ hHeld ?_ ?_
              rotate_left; (· rintro w' ⟨s0, s1, s2, s3, s4, s5, s6, s7, s8, s9, s10, s11⟩; go_simp; with_reducible rfl)
              refine px 30 (some 51) (tf 31 33) HT_ ?_
              refine px 31 (some 52) (tf 32 33) HT_ ?_
              refine px 32 (some 53) (tf 33 33) HT_ ?_
              refine done_ (done_of HT_.out t7_) ?_
              try go_wp2
              go_meet
              case rel => exact ⟨_, (!(Op.bytesLess (((rd_T64 l1 (ji18)).f0).toList) (((rd_T64 l1 x5_2).f0).toList))), (by first | rfl | (simp; done) | (simp only [← hji18] <;> (first | rfl | simp)) | (simp [*]; done)), H', ⟨by have := HJ2.out; have := HK2.out; first | omega | exact Nat.le_refl _⟩, ⟨by repeat (first | (with_reducible first | exact HB.out | apply below_alloc | apply pw_below_drewN | apply below_drew1) | exact HB.out)⟩⟩
             ·rw [if_neg c20] at H
              exact absurd H t30_
            ·rw [if_neg c19] at H
             exact absurd H t30_
           ·rw [if_neg c17] at H
            have c17b0 : decide (0 < x5_2) = false := decide_eq_false c17
            clear c17
            have H' := Aside0.mk H
            clear H
            try go_wp2
            have n0_ := Aside0.mk (below_drew1 HB.out)
            clear HB
            have HB := n0_
            clear n0_
            have p207 : 0 ≤ (x5_2 : Int) := of_decide_eq_true t3_
            have q207 : x5_2 < (l1.length : Int) := of_decide_eq_true t3_
            obtain ⟨ad207, e207, hx207_0, hx207_1, hx207_2⟩ := at_T64 HR1.out x5_2 p207 q207
            have hw207_2 := hx207_2
            have hw207_1 := hx207_1
            have hw207_0 := hx207_0
            cases e207
            replace hx207_0 := (HB.out.cell (World.block_lt_of_cell? w _ hx207_0)).trans hx207_0
            replace hx207_1 := (HB.out.cell (World.block_lt_of_cell? w _ hx207_1)).trans hx207_1
            replace hx207_2 := (HB.out.cell (World.block_lt_of_cell? w _ hx207_2)).trans hx207_2
            replace p207 := eq_true p207
            replace q207 := eq_true q207
            have p209 : 0 ≤ (x5_2 : Int) := of_decide_eq_true t3_
            have q209 : x5_2 < (l1.length : Int) := of_decide_eq_true t3_
            obtain ⟨ad209, e209, hx209_0, hx209_1, hx209_2⟩ := at_T64 HR1.out x5_2 p209 q209
            have hw209_2 := hx209_2
            have hw209_1 := hx209_1
            have hw209_0 := hx209_0
            obtain rfl : ad207 = ad209 := (by injection e209)
            replace hx209_0 := (HB.out.cell (World.block_lt_of_cell? w _ hx209_0)).trans hx209_0
            replace hx209_1 := (HB.out.cell (World.block_lt_of_cell? w _ hx209_1)).trans hx209_1
            replace hx209_2 := (HB.out.cell (World.block_lt_of_cell? w _ hx209_2)).trans hx209_2
            replace p209 := eq_true p209
            replace q209 := eq_true q209
            refine start_ (n := 33) (S := fun w' => w'.cell? (ad207.add ((x5_2).toNat * 3)) = some (.string ((rd_T64 l1 x5_2).f0)) ∧ w'.cell? ⟨(ad207.add ((x5_2).toNat * 3)).block, (ad207.add ((x5_2).toNat * 3)).off + 1, none⟩ = some (.string ((rd_T64 l1 x5_2).f1)) ∧ w'.cell? ⟨(ad207.add ((x5_2).toNat * 3)).block, (ad207.add ((x5_2).toNat * 3)).off + 2, none⟩ = some (.bool ((rd_T64 l1 x5_2).f2)) ∧ w'.cell? (ad207.add ((x5_2).toNat * 3)) = some (.string ((rd_T64 l1 x5_2).f0)) ∧ w'.cell? ⟨(ad207.add ((x5_2).toNat * 3)).block, (ad207.add ((x5_2).toNat * 3)).off + 1, none⟩ = some (.string ((rd_T64 l1 x5_2).f1)) ∧ w'.cell? ⟨(ad207.add ((x5_2).toNat * 3)).block, (ad207.add ((x5_2).toNat * 3)).off + 2, none⟩ = some (.bool ((rd_T64 l1 x5_2).f2))) (ds := []) (tf 0 33) t7_ rfl rfl ⟨((HB.out.cell (World.block_lt_of_cell? w _ hw207_0)).trans hw207_0), ((HB.out.cell (World.block_lt_of_cell? w _ hw207_1)).trans hw207_1), ((HB.out.cell (World.block_lt_of_cell? w _ hw207_2)).trans hw207_2), ((HB.out.cell (World.block_lt_of_cell? w _ hw209_0)).trans hw209_0), ((HB.out.cell (World.block_lt_of_cell? w _ hw209_1)).trans hw209_1), ((HB.out.cell (World.block_lt_of_cell? w _ hw209_2)).trans hw209_2)⟩ (fun hHeld => ?_); refine with_tabW spec_l18Ok.tab6 spec_l18Ok.bits6 (fun HT_ HW_ => ?_)
            generalize wr.drew = w22 at HB hx207_0 hx207_1 hx207_2 hx209_0 hx209_1 hx209_2 hHeld ⊢
            refine px 0 (some 21) (tf 1 33) HT_ ?_
            refine px 1 (some 22) (tf 2 33) HT_ ?_
            refine px 2 (some 23) (tf 3 33) HT_ ?_
            refine px 3 (some 24) (tf 4 33) HT_ ?_
            refine tx (v := ?_) 4 (some 25) (tf 5 33) HT_ HW_ hHeld ?_ ?_
            rotate_left; (· rintro w' ⟨s0, s1, s2, s3, s4, s5⟩; go_simp; with_reducible rfl)
            refine one_ (i := 5) (N := some 26) (tf 6 33) rfl rfl (one_of HT_.out t7_) t22_ (fun K hK => ?_)
            refine goes_ Try.func77 t7_ rfl #[.string ((rd_T64 l1 x5_2).f0)] t35_ rfl rfl t2_ ?_
            with_reducible refine (spec_l01Name.calls k2 ((rd_T64 l1 x5_2).f0) true _ A12.out).mono ?_
            rintro e w' ⟨rfl, ⟨nd, rfl⟩⟩
            refine ⟨_, rfl, ?_⟩
            refine hK.out _ _ ⟨((HB.out.cell (World.block_lt_of_cell? w _ hw207_0)).trans hw207_0), ((HB.out.cell (World.block_lt_of_cell? w _ hw207_1)).trans hw207_1), ((HB.out.cell (World.block_lt_of_cell? w _ hw207_2)).trans hw207_2), ((HB.out.cell (World.block_lt_of_cell? w _ hw209_0)).trans hw209_0), ((HB.out.cell (World.block_lt_of_cell? w _ hw209_1)).trans hw209_1), ((HB.out.cell (World.block_lt_of_cell? w _ hw209_2)).trans hw209_2)⟩ (fun hHeld => ?_)
            clear hK K
            refine norm_ (a' := ?_) ?_ ?_
            rotate_left
            ·show Act.put _ (some 26) _ = _
             simp only [Act.put, List.setIfInBounds_toArray, List.set_cons_zero, List.set_cons_succ, i64_w, i32_w]
             rfl
            refine px 6 (some 27) (tf 7 33) HT_ ?_
            refine px 7 (some 28) (tf 8 33) HT_ ?_
            refine px 8 (some 29) (tf 9 33) HT_ ?_
            refine px 9 (some 30) (tf 10 33) HT_ ?_
            refine px 10 (some 31) (tf 11 33) HT_ ?_
            refine px 11 (some 32) (tf 12 33) HT_ ?_
            refine one_ (i := 12) (N := some 33) (tf 13 33) rfl rfl (one_of HT_.out t7_) t22_ (fun K hK => ?_)
            refine goes_ Try.func78 t7_ rfl #[.pointer A0, .pointer (some (ad207.add (x5_2.toNat * 3)))] t35_ rfl rfl t2_ ?_
            with_reducible refine (spec_l18Pipe.calls k2 _ c0 l0 _ 1 [rd_T64 l1 x5_2] t210 _ ?side1 ?side2 ?side3 ?side4 A14.out).mono ?_
            (case side1 => repeat (first | exact (Kd.C_below HR0.out t1_) | (with_reducible refine Kd.C_alloc ?_ _) | (with_reducible refine Kd.C_drewN ?_ _) | (with_reducible refine Kd.C_drew ?_)))
            (case side2 => exact HC0.out)
            (case side3 => exact Kd.C_sub (z := z64) (n := l1.length) (t28_) (by first | exact p209 | exact of_eq_true p209 | omega) (by first | exact q209 | exact of_eq_true q209 | omega))
            (case side4 => exact Nat.le_refl _)
            rintro e w' ⟨rfl, ⟨nd, rfl⟩⟩
            refine ⟨_, rfl, ?_⟩
            refine hK.out _ _ ⟨((HB.out.cell (World.block_lt_of_cell? w _ hw207_0)).trans hw207_0), ((HB.out.cell (World.block_lt_of_cell? w _ hw207_1)).trans hw207_1), ((HB.out.cell (World.block_lt_of_cell? w _ hw207_2)).trans hw207_2), ((HB.out.cell (World.block_lt_of_cell? w _ hw209_0)).trans hw209_0), ((HB.out.cell (World.block_lt_of_cell? w _ hw209_1)).trans hw209_1), ((HB.out.cell (World.block_lt_of_cell? w _ hw209_2)).trans hw209_2)⟩ (fun hHeld => ?_)
            clear hK K
            refine norm_ (a' := ?_) ?_ ?_
            rotate_left
            ·show Act.put _ (some 33) _ = _
             simp only [Act.put, List.setIfInBounds_toArray, List.set_cons_zero, List.set_cons_succ, i64_w, i32_w]
             rfl
            refine px 13 (some 34) (tf 14 33) HT_ ?_
            refine px 14 (some 35) (tf 15 33) HT_ ?_
            refine px 15 (some 36) (tf 16 33) HT_ ?_
            refine px 16 (some 37) (tf 17 33) HT_ ?_
            refine px 17 (some 38) (tf 18 33) HT_ ?_
            refine px 18 (some 39) (tf 19 33) HT_ ?_
            refine sx 19 (some 40) (tf 20 33) HT_ ?_
            refine sx 20 (some 41) (tf 21 33) HT_ ?_
            refine sx 21 (some 42) (tf 22 33) HT_ ?_
            refine sx 22 (some 43) (tf 23 33) HT_ ?_
            refine sx 23 (some 44) (tf 24 33) HT_ ?_
            refine sx 24 (some 45) (tf 25 33) HT_ ?_
            refine sx 25 (some 46) (tf 26 33) HT_ ?_
            refine sx 26 (some 47) (tf 27 33) HT_ ?_
            refine sx 27 (some 48) (tf 28 33) HT_ ?_
            refine sx 28 (some 49) (tf 29 33) HT_ ?_
            refine sx 29 (some 50) (tf 30 33) HT_ ?_
            refine sx 30 (some 51) (tf 31 33) HT_ ?_
            refine px 31 (some 52) (tf 32 33) HT_ ?_
            refine px 32 (some 53) (tf 33 33) HT_ ?_
            refine done_ (done_of HT_.out t7_) ?_
            try go_wp2
            go_meet
            case rel => exact ⟨_, (false), t5_, H', ⟨by have := HJ2.out; have := HK2.out; first | omega | exact Nat.le_refl _⟩, ⟨by repeat (first | (with_reducible first | exact HB.out | apply below_alloc | apply pw_below_drewN | apply below_drew1) | exact HB.out)⟩⟩
         ·replace c13 := Bool.eq_false_iff.mpr c13
          subst c13
          have H1 : (spec_l18Ok.j2 k2 l0 l1 x5_2 true) = some r := by rw [if_neg (show ¬ (false = true) by decide)] at H; exact H
          clear H
          have H := H1
          clear H1
          have H' := Aside0.mk H
          clear H
          try go_wp2
          have n0_ := Aside0.mk (below_drew1 HB.out)
          clear HB
          have HB := n0_
          clear n0_
          have p207 : 0 ≤ (x5_2 : Int) := of_decide_eq_true t3_
          have q207 : x5_2 < (l1.length : Int) := of_decide_eq_true t3_
          obtain ⟨ad207, e207, hx207_0, hx207_1, hx207_2⟩ := at_T64 HR1.out x5_2 p207 q207
          have hw207_2 := hx207_2
          have hw207_1 := hx207_1
          have hw207_0 := hx207_0
          cases e207
          replace hx207_0 := (HB.out.cell (World.block_lt_of_cell? w _ hx207_0)).trans hx207_0
          replace hx207_1 := (HB.out.cell (World.block_lt_of_cell? w _ hx207_1)).trans hx207_1
          replace hx207_2 := (HB.out.cell (World.block_lt_of_cell? w _ hx207_2)).trans hx207_2
          replace p207 := eq_true p207
          replace q207 := eq_true q207
          refine start_ (n := 33) (S := fun w' => w'.cell? (ad207.add ((x5_2).toNat * 3)) = some (.string ((rd_T64 l1 x5_2).f0)) ∧ w'.cell? ⟨(ad207.add ((x5_2).toNat * 3)).block, (ad207.add ((x5_2).toNat * 3)).off + 1, none⟩ = some (.string ((rd_T64 l1 x5_2).f1)) ∧ w'.cell? ⟨(ad207.add ((x5_2).toNat * 3)).block, (ad207.add ((x5_2).toNat * 3)).off + 2, none⟩ = some (.bool ((rd_T64 l1 x5_2).f2))) (ds := []) (tf 0 33) t7_ rfl rfl ⟨((HB.out.cell (World.block_lt_of_cell? w _ hw207_0)).trans hw207_0), ((HB.out.cell (World.block_lt_of_cell? w _ hw207_1)).trans hw207_1), ((HB.out.cell (World.block_lt_of_cell? w _ hw207_2)).trans hw207_2)⟩ (fun hHeld => ?_); refine with_tabW spec_l18Ok.tab6 spec_l18Ok.bits6 (fun HT_ HW_ => ?_)
          generalize wr.drew = w23 at HB hx207_0 hx207_1 hx207_2 hHeld ⊢
          refine px 0 (some 21) (tf 1 33) HT_ ?_
          refine px 1 (some 22) (tf 2 33) HT_ ?_
          refine px 2 (some 23) (tf 3 33) HT_ ?_
          refine px 3 (some 24) (tf 4 33) HT_ ?_
          refine tx (v := ?_) 4 (some 25) (tf 5 33) HT_ HW_ hHeld ?_ ?_
          rotate_left; (· rintro w' ⟨s0, s1, s2⟩; go_simp; with_reducible rfl)
          refine one_ (i := 5) (N := some 26) (tf 6 33) rfl rfl (one_of HT_.out t7_) t22_ (fun K hK => ?_)
          refine goes_ Try.func77 t7_ rfl #[.string ((rd_T64 l1 x5_2).f0)] t35_ rfl rfl t2_ ?_
          with_reducible refine (spec_l01Name.calls k2 ((rd_T64 l1 x5_2).f0) false _ A12.out).mono ?_
          rintro e w' ⟨rfl, ⟨nd, rfl⟩⟩
          refine ⟨_, rfl, ?_⟩
          refine hK.out _ _ ⟨((HB.out.cell (World.block_lt_of_cell? w _ hw207_0)).trans hw207_0), ((HB.out.cell (World.block_lt_of_cell? w _ hw207_1)).trans hw207_1), ((HB.out.cell (World.block_lt_of_cell? w _ hw207_2)).trans hw207_2)⟩ (fun hHeld => ?_)
          clear hK K
          refine norm_ (a' := ?_) ?_ ?_
          rotate_left
          ·show Act.put _ (some 26) _ = _
           simp only [Act.put, List.setIfInBounds_toArray, List.set_cons_zero, List.set_cons_succ, i64_w, i32_w]
           rfl
          refine px 6 (some 27) (tf 7 33) HT_ ?_
          refine px 7 (some 28) (tf 8 33) HT_ ?_
          refine sx 8 (some 29) (tf 9 33) HT_ ?_
          refine sx 9 (some 30) (tf 10 33) HT_ ?_
          refine sx 10 (some 31) (tf 11 33) HT_ ?_
          refine sx 11 (some 32) (tf 12 33) HT_ ?_
          refine sx 12 (some 33) (tf 13 33) HT_ ?_
          refine sx 13 (some 34) (tf 14 33) HT_ ?_
          refine px 14 (some 35) (tf 15 33) HT_ ?_
          refine px 15 (some 36) (tf 16 33) HT_ ?_
          refine sx 16 (some 37) (tf 17 33) HT_ ?_
          refine sx 17 (some 38) (tf 18 33) HT_ ?_
          refine sx 18 (some 39) (tf 19 33) HT_ ?_
          refine sx 19 (some 40) (tf 20 33) HT_ ?_
          refine sx 20 (some 41) (tf 21 33) HT_ ?_
          refine sx 21 (some 42) (tf 22 33) HT_ ?_
          refine sx 22 (some 43) (tf 23 33) HT_ ?_
          refine sx 23 (some 44) (tf 24 33) HT_ ?_
          refine sx 24 (some 45) (tf 25 33) HT_ ?_
          refine sx 25 (some 46) (tf 26 33) HT_ ?_
          refine sx 26 (some 47) (tf 27 33) HT_ ?_
          refine sx 27 (some 48) (tf 28 33) HT_ ?_
          refine sx 28 (some 49) (tf 29 33) HT_ ?_
          refine sx 29 (some 50) (tf 30 33) HT_ ?_
          refine sx 30 (some 51) (tf 31 33) HT_ ?_
          refine sx 31 (some 52) (tf 32 33) HT_ ?_
          refine px 32 (some 53) (tf 33 33) HT_ ?_
          refine done_ (done_of HT_.out t7_) ?_
          try go_wp2
          go_meet
          case rel => exact ⟨_, (true), t5_, H', ⟨by have := HJ2.out; have := HK2.out; first | omega | exact Nat.le_refl _⟩, ⟨by repeat (first | (with_reducible first | exact HB.out | apply below_alloc | apply pw_below_drewN | apply below_drew1) | exact HB.out)⟩⟩
        ·rw [if_neg c11] at H
         exact absurd H t30_
       case rest =>
        clear HC10
        try clear c1
        try clear c2
        try clear p2
        try clear q2
        try clear hx2
        try clear c7
        try clear c11
        try clear c13
        try clear c17
        try clear c17b0
        try clear c19
        try clear c20
        try clear p20
        try clear q20
        try clear hx20
        try clear hx207_0
        try clear hx207_1
        try clear hx207_2
        try clear hx209_0
        try clear hx209_1
        try clear hx209_2
        try clear p207
        try clear p209
        try clear q207
        try clear q209
        obtain ⟨kq, x53_9, rfl, HA, HJ9, HB⟩ := hcut
        cases kq with
        | zero => exact absurd HA.out (by simp [spec_l18Ok.j2])
        | succ kj9 =>
         have H := HA.out
         clear HA
         simp only [spec_l18Ok.j2] at H
         by_cases c24 : x53_9 = true
         ·subst c24
          have H1 : (some false) = some r := by rw [if_pos rfl] at H; exact H
          clear H
          have H := H1
          clear H1
          obtain rfl := Option.some.inj H
          go_wp2
          go_ret
          exact ⟨by first | rfl | (rw [Int.tdiv_eq_ediv_of_nonneg t12_]; rfl) | (simp [errW_none, errW_some] <;> rfl) | (simp [*, errW_none, errW_some] <;> rfl), by repeat (first | (with_reducible first | exact HB.out | apply below_alloc | apply pw_below_drewN | apply below_drew1) | exact HB.out)⟩
         ·replace c24 := Bool.eq_false_iff.mpr c24
          subst c24
          have H1 : (spec_l18Ok.l1 kj9 l0 l1 x5_2 0) = some r := by rw [if_neg (show ¬ (false = true) by decide)] at H; exact H
          clear H
          have H := H1
          clear H1
          have H' := Aside0.mk H
          clear H
          go_wp2
          go_loopg [6] kj9 (fun kq v6 w' => ∃ (x6_4 : Int), v6 = .int .i64 x6_4 ∧ Aside0 (spec_l18Ok.l1 kq l0 l1 x5_2 x6_4 = some r) ∧ Aside0 (kq ≤ kj9) ∧ Aside0 (Below w.heap.size w w'))
          case atStart => exact ⟨(0), t5_, H', ⟨Nat.le_refl _⟩, ⟨by repeat (first | (with_reducible first | exact HB.out | apply below_alloc | apply pw_below_drewN | apply below_drew1) | exact HB.out)⟩⟩
          case round =>
           clear H'
           try clear c1
           try clear c2
           try clear p2
           try clear q2
           try clear hx2
           try clear c7
           try clear c11
           try clear c13
           try clear c17
           try clear c17b0
           try clear c19
           try clear c20
           try clear p20
           try clear q20
           try clear hx20
           try clear c24
           try clear hx207_0
           try clear hx207_1
           try clear hx207_2
           try clear hx209_0
           try clear hx209_1
           try clear hx209_2
           try clear p2
           try clear p20
           try clear p207
           try clear p209
           try clear q2
           try clear q20
           try clear q207
           try clear q209
           obtain ⟨x6_4, rfl, HA, HK4, HB⟩ := hrel
           cases gk with
           | zero => exact absurd HA.out (by simp [spec_l18Ok.l1])
           | succ k4 =>
            have H := HA.out
            clear HA
            simp only [spec_l18Ok.l1] at H
            by_cases c25 : x6_4 < x5_2
            ·rw [if_pos c25] at H
             have c25b0 : decide (x6_4 < x5_2) = true := decide_eq_true c25
             clear c25
             by_cases c26 : 0 ≤ x6_4
             ·rw [if_pos c26] at H
              have c26b0 : decide (0 ≤ x6_4) = true := decide_eq_true c26
              clear c26
              by_cases c27 : x6_4 < (l1.length : Int)
              ·rw [if_pos c27] at H
               have c27b0 : decide (x6_4 < (l1.length : Int)) = true := decide_eq_true c27
               clear c27
               by_cases c28 : 0 ≤ x5_2
               ·rw [if_pos c28] at H
                have c28b0 : decide (0 ≤ x5_2) = true := decide_eq_true c28
                clear c28
                by_cases c29 : x5_2 < (l1.length : Int)
                ·rw [if_pos c29] at H
                 have c29b0 : decide (x5_2 < (l1.length : Int)) = true := decide_eq_true c29
                 clear c29
                 by_cases c30 : ((rd_T64 l1 x6_4).f1).toList = ((rd_T64 l1 x5_2).f1).toList
                 ·rw [if_pos c30] at H
                  have c30b0 : (((rd_T64 l1 x6_4).f1).toList == ((rd_T64 l1 x5_2).f1).toList) = true := beq_iff_eq.mpr c30
                  have c30b1 : (((rd_T64 l1 x6_4).f1).toList != ((rd_T64 l1 x5_2).f1).toList) = false := bne_eq_false_iff_eq.mpr c30
                  clear c30
                  by_cases c31 : (((rd_T64 l1 x6_4).f2) == ((rd_T64 l1 x5_2).f2)) = true
                  ·rw [if_pos c31] at H
                   have c31b0 : (((rd_T64 l1 x6_4).f2) == ((rd_T64 l1 x5_2).f2)) = true := c31
                   (try (have c31b1 : decide (((rd_T64 l1 x6_4).f2) = ((rd_T64 l1 x5_2).f2)) = true := by simpa using c31))
                   (try (have c31b2 : (((rd_T64 l1 x6_4).f2) == ((rd_T64 l1 x5_2).f2)) = true := by simpa using c31))
                   clear c31
                   obtain rfl := Option.some.inj H
                   try go_wp2
                   have n0_ := Aside0.mk (below_drew1 HB.out)
                   clear HB
                   have HB := n0_
                   clear n0_
                   have p213 : 0 ≤ (x6_4 : Int) := of_decide_eq_true t3_
                   have q213 : x6_4 < (l1.length : Int) := of_decide_eq_true t3_
                   obtain ⟨ad213, e213, hx213_0, hx213_1, hx213_2⟩ := at_T64 HR1.out x6_4 p213 q213
                   have hw213_2 := hx213_2
                   have hw213_1 := hx213_1
                   have hw213_0 := hx213_0
                   cases e213
                   replace hx213_0 := (HB.out.cell (World.block_lt_of_cell? w _ hx213_0)).trans hx213_0
                   replace hx213_1 := (HB.out.cell (World.block_lt_of_cell? w _ hx213_1)).trans hx213_1
                   replace hx213_2 := (HB.out.cell (World.block_lt_of_cell? w _ hx213_2)).trans hx213_2
                   replace p213 := eq_true p213
                   replace q213 := eq_true q213
                   have p214 : 0 ≤ (x5_2 : Int) := of_decide_eq_true t3_
                   have q214 : x5_2 < (l1.length : Int) := of_decide_eq_true t3_
                   obtain ⟨ad214, e214, hx214_0, hx214_1, hx214_2⟩ := at_T64 HR1.out x5_2 p214 q214
                   have hw214_2 := hx214_2
                   have hw214_1 := hx214_1
                   have hw214_0 := hx214_0
                   obtain rfl : ad213 = ad214 := (by injection e214)
                   replace hx214_0 := (HB.out.cell (World.block_lt_of_cell? w _ hx214_0)).trans hx214_0
                   replace hx214_1 := (HB.out.cell (World.block_lt_of_cell? w _ hx214_1)).trans hx214_1
                   replace hx214_2 := (HB.out.cell (World.block_lt_of_cell? w _ hx214_2)).trans hx214_2
                   replace p214 := eq_true p214
                   replace q214 := eq_true q214
                   have p215 : 0 ≤ (x6_4 : Int) := of_decide_eq_true t3_
                   have q215 : x6_4 < (l1.length : Int) := of_decide_eq_true t3_
                   obtain ⟨ad215, e215, hx215_0, hx215_1, hx215_2⟩ := at_T64 HR1.out x6_4 p215 q215
                   have hw215_2 := hx215_2
                   have hw215_1 := hx215_1
                   have hw215_0 := hx215_0
                   obtain rfl : ad213 = ad215 := (by injection e215)
                   replace hx215_0 := (HB.out.cell (World.block_lt_of_cell? w _ hx215_0)).trans hx215_0
                   replace hx215_1 := (HB.out.cell (World.block_lt_of_cell? w _ hx215_1)).trans hx215_1
                   replace hx215_2 := (HB.out.cell (World.block_lt_of_cell? w _ hx215_2)).trans hx215_2
                   replace p215 := eq_true p215
                   replace q215 := eq_true q215
                   have p216 : 0 ≤ (x5_2 : Int) := of_decide_eq_true t3_
                   have q216 : x5_2 < (l1.length : Int) := of_decide_eq_true t3_
                   obtain ⟨ad216, e216, hx216_0, hx216_1, hx216_2⟩ := at_T64 HR1.out x5_2 p216 q216
                   have hw216_2 := hx216_2
                   have hw216_1 := hx216_1
                   have hw216_0 := hx216_0
                   obtain rfl : ad213 = ad216 := (by injection e216)
                   replace hx216_0 := (HB.out.cell (World.block_lt_of_cell? w _ hx216_0)).trans hx216_0
                   replace hx216_1 := (HB.out.cell (World.block_lt_of_cell? w _ hx216_1)).trans hx216_1
                   replace hx216_2 := (HB.out.cell (World.block_lt_of_cell? w _ hx216_2)).trans hx216_2
                   replace p216 := eq_true p216
                   replace q216 := eq_true q216
                   refine start_ (n := 24) (S := fun w' => w'.cell? (ad213.add ((x6_4).toNat * 3)) = some (.string ((rd_T64 l1 x6_4).f0)) ∧ w'.cell? ⟨(ad213.add ((x6_4).toNat * 3)).block, (ad213.add ((x6_4).toNat * 3)).off + 1, none⟩ = some (.string ((rd_T64 l1 x6_4).f1)) ∧ w'.cell? ⟨(ad213.add ((x6_4).toNat * 3)).block, (ad213.add ((x6_4).toNat * 3)).off + 2, none⟩ = some (.bool ((rd_T64 l1 x6_4).f2)) ∧ w'.cell? (ad213.add ((x5_2).toNat * 3)) = some (.string ((rd_T64 l1 x5_2).f0)) ∧ w'.cell? ⟨(ad213.add ((x5_2).toNat * 3)).block, (ad213.add ((x5_2).toNat * 3)).off + 1, none⟩ = some (.string ((rd_T64 l1 x5_2).f1)) ∧ w'.cell? ⟨(ad213.add ((x5_2).toNat * 3)).block, (ad213.add ((x5_2).toNat * 3)).off + 2, none⟩ = some (.bool ((rd_T64 l1 x5_2).f2)) ∧ w'.cell? (ad213.add ((x6_4).toNat * 3)) = some (.string ((rd_T64 l1 x6_4).f0)) ∧ w'.cell? ⟨(ad213.add ((x6_4).toNat * 3)).block, (ad213.add ((x6_4).toNat * 3)).off + 1, none⟩ = some (.string ((rd_T64 l1 x6_4).f1)) ∧ w'.cell? ⟨(ad213.add ((x6_4).toNat * 3)).block, (ad213.add ((x6_4).toNat * 3)).off + 2, none⟩ = some (.bool ((rd_T64 l1 x6_4).f2)) ∧ w'.cell? (ad213.add ((x5_2).toNat * 3)) = some (.string ((rd_T64 l1 x5_2).f0)) ∧ w'.cell? ⟨(ad213.add ((x5_2).toNat * 3)).block, (ad213.add ((x5_2).toNat * 3)).off + 1, none⟩ = some (.string ((rd_T64 l1 x5_2).f1)) ∧ w'.cell? ⟨(ad213.add ((x5_2).toNat * 3)).block, (ad213.add ((x5_2).toNat * 3)).off + 2, none⟩ = some (.bool ((rd_T64 l1 x5_2).f2))) (ds := []) (tf 0 24) t7_ rfl rfl ⟨((HB.out.cell (World.block_lt_of_cell? w _ hw213_0)).trans hw213_0), ((HB.out.cell (World.block_lt_of_cell? w _ hw213_1)).trans hw213_1), ((HB.out.cell (World.block_lt_of_cell? w _ hw213_2)).trans hw213_2), ((HB.out.cell (World.block_lt_of_cell? w _ hw214_0)).trans hw214_0), ((HB.out.cell (World.block_lt_of_cell? w _ hw214_1)).trans hw214_1), ((HB.out.cell (World.block_lt_of_cell? w _ hw214_2)).trans hw214_2), ((HB.out.cell (World.block_lt_of_cell? w _ hw215_0)).trans hw215_0), ((HB.out.cell (World.block_lt_of_cell? w _ hw215_1)).trans hw215_1), ((HB.out.cell (World.block_lt_of_cell? w _ hw215_2)).trans hw215_2), ((HB.out.cell (World.block_lt_of_cell? w _ hw216_0)).trans hw216_0), ((HB.out.cell (World.block_lt_of_cell? w _ hw216_1)).trans hw216_1), ((HB.out.cell (World.block_lt_of_cell? w _ hw216_2)).trans hw216_2)⟩ (fun hHeld => ?_); refine with_tabW spec_l18Ok.tab11 spec_l18Ok.bits11 (fun HT_ HW_ => ?_)
                   generalize wr.drew = w32 at HB hx213_0 hx213_1 hx213_2 hx214_0 hx214_1 hx214_2 hx215_0 hx215_1 hx215_2 hx216_0 hx216_1 hx216_2 hHeld ⊢
                   refine px 0 (some 59) (tf 1 24) HT_ ?_
                   refine px 1 (some 60) (tf 2 24) HT_ ?_
                   refine px 2 (some 61) (tf 3 24) HT_ ?_
                   refine px 3 (some 62) (tf 4 24) HT_ ?_
                   refine px 5 (some 64) (tb 24 47) HT_ ?_
                   refine px 6 (some 65) (tb 24 111) HT_ ?_
                   refine px 7 (some 66) (tb 24 239) HT_ ?_
                   refine px 8 (some 67) (tb 24 495) HT_ ?_
                   refine tx (v := ?_) 4 (some 63) (tf 9 24) HT_ HW_ hHeld ?_ ?_
                   rotate_left; (· rintro w' ⟨s0, s1, s2, s3, s4, s5, s6, s7, s8, s9, s10, s11⟩; go_simp; with_reducible rfl)
                   refine tx (v := ?_) 9 (some 68) (tf 10 24) HT_ HW_ hHeld ?_ ?_
                   rotate_left; (· rintro w' ⟨s0, s1, s2, s3, s4, s5, s6, s7, s8, s9, s10, s11⟩; go_simp; with_reducible rfl)
                   refine px 10 (some 69) (tf 11 24) HT_ ?_
                   refine px 11 (some 70) (tf 12 24) HT_ ?_
                   refine px 12 (some 71) (tf 13 24) HT_ ?_
                   refine px 13 (some 72) (tf 14 24) HT_ ?_
                   refine px 14 (some 73) (tf 15 24) HT_ ?_
                   refine px 15 (some 74) (tf 16 24) HT_ ?_
                   refine px 17 (some 76) (tb 24 196607) HT_ ?_
                   refine px 18 (some 77) (tb 24 458751) HT_ ?_
                   refine px 19 (some 78) (tb 24 983039) HT_ ?_
                   refine px 20 (some 79) (tb 24 2031615) HT_ ?_
                   refine tx (v := ?_) 16 (some 75) (tf 21 24) HT_ HW_ hHeld ?_ ?_
                   rotate_left; (· rintro w' ⟨s0, s1, s2, s3, s4, s5, s6, s7, s8, s9, s10, s11⟩; go_simp; with_reducible rfl)
                   refine tx (v := ?_) 21 (some 80) (tf 22 24) HT_ HW_ hHeld ?_ ?_
                   rotate_left; (· rintro w' ⟨s0, s1, s2, s3, s4, s5, s6, s7, s8, s9, s10, s11⟩; go_simp; with_reducible rfl)
                   refine px 22 (some 81) (tf 23 24) HT_ ?_
                   refine px 23 (some 82) (tf 24 24) HT_ ?_
                   refine done_ (done_of HT_.out t7_) ?_
                   try go_wp2
                   go_ret
                   exact ⟨by first | rfl | (rw [Int.tdiv_eq_ediv_of_nonneg t12_]; rfl) | (simp [errW_none, errW_some] <;> rfl) | (simp [*, errW_none, errW_some] <;> rfl), by repeat (first | (with_reducible first | exact HB.out | apply below_alloc | apply pw_below_drewN | apply below_drew1) | exact HB.out)⟩
                  ·rw [if_neg c31] at H
                   have c31b0 : (((rd_T64 l1 x6_4).f2) == ((rd_T64 l1 x5_2).f2)) = false := by simpa using c31
                   (try (have c31b1 : decide (((rd_T64 l1 x6_4).f2) = ((rd_T64 l1 x5_2).f2)) = false := by simpa using c31))
                   (try (have c31b2 : (((rd_T64 l1 x6_4).f2) == ((rd_T64 l1 x5_2).f2)) = false := by simpa using c31))
                   (try (have c31b3 : ¬ (((rd_T64 l1 x6_4).f2) = ((rd_T64 l1 x5_2).f2)) := by simpa using c31))
                   clear c31
                   have H' := Aside0.mk H
                   clear H
                   try go_wp2
                   have n0_ := Aside0.mk (below_drew1 HB.out)
                   clear HB
                   have HB := n0_
                   clear n0_
                   have p213 : 0 ≤ (x6_4 : Int) := of_decide_eq_true t3_
                   have q213 : x6_4 < (l1.length : Int) := of_decide_eq_true t3_
                   obtain ⟨ad213, e213, hx213_0, hx213_1, hx213_2⟩ := at_T64 HR1.out x6_4 p213 q213
                   have hw213_2 := hx213_2
                   have hw213_1 := hx213_1
                   have hw213_0 := hx213_0
                   cases e213
                   replace hx213_0 := (HB.out.cell (World.block_lt_of_cell? w _ hx213_0)).trans hx213_0
                   replace hx213_1 := (HB.out.cell (World.block_lt_of_cell? w _ hx213_1)).trans hx213_1
                   replace hx213_2 := (HB.out.cell (World.block_lt_of_cell? w _ hx213_2)).trans hx213_2
                   replace p213 := eq_true p213
                   replace q213 := eq_true q213
                   have p214 : 0 ≤ (x5_2 : Int) := of_decide_eq_true t3_
                   have q214 : x5_2 < (l1.length : Int) := of_decide_eq_true t3_
                   obtain ⟨ad214, e214, hx214_0, hx214_1, hx214_2⟩ := at_T64 HR1.out x5_2 p214 q214
                   have hw214_2 := hx214_2
                   have hw214_1 := hx214_1
                   have hw214_0 := hx214_0
                   obtain rfl : ad213 = ad214 := (by injection e214)
                   replace hx214_0 := (HB.out.cell (World.block_lt_of_cell? w _ hx214_0)).trans hx214_0
                   replace hx214_1 := (HB.out.cell (World.block_lt_of_cell? w _ hx214_1)).trans hx214_1
                   replace hx214_2 := (HB.out.cell (World.block_lt_of_cell? w _ hx214_2)).trans hx214_2
                   replace p214 := eq_true p214
                   replace q214 := eq_true q214
                   have p215 : 0 ≤ (x6_4 : Int) := of_decide_eq_true t3_
                   have q215 : x6_4 < (l1.length : Int) := of_decide_eq_true t3_
                   obtain ⟨ad215, e215, hx215_0, hx215_1, hx215_2⟩ := at_T64 HR1.out x6_4 p215 q215
                   have hw215_2 := hx215_2
                   have hw215_1 := hx215_1
                   have hw215_0 := hx215_0
                   obtain rfl : ad213 = ad215 := (by injection e215)
                   replace hx215_0 := (HB.out.cell (World.block_lt_of_cell? w _ hx215_0)).trans hx215_0
                   replace hx215_1 := (HB.out.cell (World.block_lt_of_cell? w _ hx215_1)).trans hx215_1
                   replace hx215_2 := (HB.out.cell (World.block_lt_of_cell? w _ hx215_2)).trans hx215_2
                   replace p215 := eq_true p215
                   replace q215 := eq_true q215
                   have p216 : 0 ≤ (x5_2 : Int) := of_decide_eq_true t3_
                   have q216 : x5_2 < (l1.length : Int) := of_decide_eq_true t3_
                   obtain ⟨ad216, e216, hx216_0, hx216_1, hx216_2⟩ := at_T64 HR1.out x5_2 p216 q216
                   have hw216_2 := hx216_2
                   have hw216_1 := hx216_1
                   have hw216_0 := hx216_0
                   obtain rfl : ad213 = ad216 := (by injection e216)
                   replace hx216_0 := (HB.out.cell (World.block_lt_of_cell? w _ hx216_0)).trans hx216_0
                   replace hx216_1 := (HB.out.cell (World.block_lt_of_cell? w _ hx216_1)).trans hx216_1
                   replace hx216_2 := (HB.out.cell (World.block_lt_of_cell? w _ hx216_2)).trans hx216_2
                   replace p216 := eq_true p216
                   replace q216 := eq_true q216
                   refine start_ (n := 24) (S := fun w' => w'.cell? (ad213.add ((x6_4).toNat * 3)) = some (.string ((rd_T64 l1 x6_4).f0)) ∧ w'.cell? ⟨(ad213.add ((x6_4).toNat * 3)).block, (ad213.add ((x6_4).toNat * 3)).off + 1, none⟩ = some (.string ((rd_T64 l1 x6_4).f1)) ∧ w'.cell? ⟨(ad213.add ((x6_4).toNat * 3)).block, (ad213.add ((x6_4).toNat * 3)).off + 2, none⟩ = some (.bool ((rd_T64 l1 x6_4).f2)) ∧ w'.cell? (ad213.add ((x5_2).toNat * 3)) = some (.string ((rd_T64 l1 x5_2).f0)) ∧ w'.cell? ⟨(ad213.add ((x5_2).toNat * 3)).block, (ad213.add ((x5_2).toNat * 3)).off + 1, none⟩ = some (.string ((rd_T64 l1 x5_2).f1)) ∧ w'.cell? ⟨(ad213.add ((x5_2).toNat * 3)).block, (ad213.add ((x5_2).toNat * 3)).off + 2, none⟩ = some (.bool ((rd_T64 l1 x5_2).f2)) ∧ w'.cell? (ad213.add ((x6_4).toNat * 3)) = some (.string ((rd_T64 l1 x6_4).f0)) ∧ w'.cell? ⟨(ad213.add ((x6_4).toNat * 3)).block, (ad213.add ((x6_4).toNat * 3)).off + 1, none⟩ = some (.string ((rd_T64 l1 x6_4).f1)) ∧ w'.cell? ⟨(ad213.add ((x6_4).toNat * 3)).block, (ad213.add ((x6_4).toNat * 3)).off + 2, none⟩ = some (.bool ((rd_T64 l1 x6_4).f2)) ∧ w'.cell? (ad213.add ((x5_2).toNat * 3)) = some (.string ((rd_T64 l1 x5_2).f0)) ∧ w'.cell? ⟨(ad213.add ((x5_2).toNat * 3)).block, (ad213.add ((x5_2).toNat * 3)).off + 1, none⟩ = some (.string ((rd_T64 l1 x5_2).f1)) ∧ w'.cell? ⟨(ad213.add ((x5_2).toNat * 3)).block, (ad213.add ((x5_2).toNat * 3)).off + 2, none⟩ = some (.bool ((rd_T64 l1 x5_2).f2))) (ds := []) (tf 0 24) t7_ rfl rfl ⟨((HB.out.cell (World.block_lt_of_cell? w _ hw213_0)).trans hw213_0), ((HB.out.cell (World.block_lt_of_cell? w _ hw213_1)).trans hw213_1), ((HB.out.cell (World.block_lt_of_cell? w _ hw213_2)).trans hw213_2), ((HB.out.cell (World.block_lt_of_cell? w _ hw214_0)).trans hw214_0), ((HB.out.cell (World.block_lt_of_cell? w _ hw214_1)).trans hw214_1), ((HB.out.cell (World.block_lt_of_cell? w _ hw214_2)).trans hw214_2), ((HB.out.cell (World.block_lt_of_cell? w _ hw215_0)).trans hw215_0), ((HB.out.cell (World.block_lt_of_cell? w _ hw215_1)).trans hw215_1), ((HB.out.cell (World.block_lt_of_cell? w _ hw215_2)).trans hw215_2), ((HB.out.cell (World.block_lt_of_cell? w _ hw216_0)).trans hw216_0), ((HB.out.cell (World.block_lt_of_cell? w _ hw216_1)).trans hw216_1), ((HB.out.cell (World.block_lt_of_cell? w _ hw216_2)).trans hw216_2)⟩ (fun hHeld => ?_); refine with_tabW spec_l18Ok.tab11 spec_l18Ok.bits11 (fun HT_ HW_ => ?_)
                   generalize wr.drew = w33 at HB hx213_0 hx213_1 hx213_2 hx214_0 hx214_1 hx214_2 hx215_0 hx215_1 hx215_2 hx216_0 hx216_1 hx216_2 hHeld ⊢
                   refine px 0 (some 59) (tf 1 24) HT_ ?_
                   refine px 1 (some 60) (tf 2 24) HT_ ?_
                   refine px 2 (some 61) (tf 3 24) HT_ ?_
                   refine px 3 (some 62) (tf 4 24) HT_ ?_
                   refine px 5 (some 64) (tb 24 47) HT_ ?_
                   refine px 6 (some 65) (tb 24 111) HT_ ?_
                   refine px 7 (some 66) (tb 24 239) HT_ ?_
                   refine px 8 (some 67) (tb 24 495) HT_ ?_
                   refine tx (v := ?_) 4 (some 63) (tf 9 24) HT_ HW_ hHeld ?_ ?_
                   rotate_left; (· rintro w' ⟨s0, s1, s2, s3, s4, s5, s6, s7, s8, s9, s10, s11⟩; go_simp; with_reducible rfl)
                   refine tx (v := ?_) 9 (some 68) (tf 10 24) HT_ HW_ hHeld ?_ ?_
                   rotate_left; (· rintro w' ⟨s0, s1, s2, s3, s4, s5, s6, s7, s8, s9, s10, s11⟩; go_simp; with_reducible rfl)
                   refine px 10 (some 69) (tf 11 24) HT_ ?_
                   refine px 11 (some 70) (tf 12 24) HT_ ?_
                   refine px 12 (some 71) (tf 13 24) HT_ ?_
                   refine px 13 (some 72) (tf 14 24) HT_ ?_
                   refine px 14 (some 73) (tf 15 24) HT_ ?_
                   refine px 15 (some 74) (tf 16 24) HT_ ?_
                   refine px 17 (some 76) (tb 24 196607) HT_ ?_
                   refine px 18 (some 77) (tb 24 458751) HT_ ?_
                   refine px 19 (some 78) (tb 24 983039) HT_ ?_
                   refine px 20 (some 79) (tb 24 2031615) HT_ ?_
                   refine tx (v := ?_) 16 (some 75) (tf 21 24) HT_ HW_ hHeld ?_ ?_
                   rotate_left; (· rintro w' ⟨s0, s1, s2, s3, s4, s5, s6, s7, s8, s9, s10, s11⟩; go_simp; with_reducible rfl)
                   refine tx (v := ?_) 21 (some 80) (tf 22 24) HT_ HW_ hHeld ?_ ?_
                   rotate_left; (· rintro w' ⟨s0, s1, s2, s3, s4, s5, s6, s7, s8, s9, s10, s11⟩; go_simp; with_reducible rfl)
                   refine px 22 (some 81) (tf 23 24) HT_ ?_
                   refine px 23 (some 82) (tf 24 24) HT_ ?_
                   refine done_ (done_of HT_.out t7_) ?_
                   try go_wp2
                   go_roundg k4
                   case measure => have := HJ2.out; have := HK2.out; have := HJ9.out; have := HK4.out; omega
                   case rel => exact ⟨(wrap64 (x6_4 + 1)), t5_, H', ⟨by have := HJ2.out; have := HK2.out; have := HJ9.out; have := HK4.out; omega⟩, ⟨by repeat (first | (with_reducible first | exact HB.out | apply below_alloc | apply pw_below_drewN | apply below_drew1) | exact HB.out)⟩⟩
                 ·rw [if_neg c30] at H
                  have c30b0 : (((rd_T64 l1 x6_4).f1).toList == ((rd_T64 l1 x5_2).f1).toList) = false := beq_eq_false_iff_ne.mpr c30
                  have c30b1 : (((rd_T64 l1 x6_4).f1).toList != ((rd_T64 l1 x5_2).f1).toList) = true := bne_iff_ne.mpr c30
                  have H' := Aside0.mk H
                  clear H
                  try go_wp2
                  have n0_ := Aside0.mk (below_drew1 HB.out)
                  clear HB
                  have HB := n0_
                  clear n0_
                  have p213 : 0 ≤ (x6_4 : Int) := of_decide_eq_true t3_
                  have q213 : x6_4 < (l1.length : Int) := of_decide_eq_true t3_
                  obtain ⟨ad213, e213, hx213_0, hx213_1, hx213_2⟩ := at_T64 HR1.out x6_4 p213 q213
                  have hw213_2 := hx213_2
                  have hw213_1 := hx213_1
                  have hw213_0 := hx213_0
                  cases e213
                  replace hx213_0 := (HB.out.cell (World.block_lt_of_cell? w _ hx213_0)).trans hx213_0
                  replace hx213_1 := (HB.out.cell (World.block_lt_of_cell? w _ hx213_1)).trans hx213_1
                  replace hx213_2 := (HB.out.cell (World.block_lt_of_cell? w _ hx213_2)).trans hx213_2
                  replace p213 := eq_true p213
                  replace q213 := eq_true q213
                  have p214 : 0 ≤ (x5_2 : Int) := of_decide_eq_true t3_
                  have q214 : x5_2 < (l1.length : Int) := of_decide_eq_true t3_
                  obtain ⟨ad214, e214, hx214_0, hx214_1, hx214_2⟩ := at_T64 HR1.out x5_2 p214 q214
                  have hw214_2 := hx214_2
                  have hw214_1 := hx214_1
                  have hw214_0 := hx214_0
                  obtain rfl : ad213 = ad214 := (by injection e214)
                  replace hx214_0 := (HB.out.cell (World.block_lt_of_cell? w _ hx214_0)).trans hx214_0
                  replace hx214_1 := (HB.out.cell (World.block_lt_of_cell? w _ hx214_1)).trans hx214_1
                  replace hx214_2 := (HB.out.cell (World.block_lt_of_cell? w _ hx214_2)).trans hx214_2
                  replace p214 := eq_true p214
                  replace q214 := eq_true q214
                  refine start_ (n := 24) (S := fun w' => w'.cell? (ad213.add ((x6_4).toNat * 3)) = some (.string ((rd_T64 l1 x6_4).f0)) ∧ w'.cell? ⟨(ad213.add ((x6_4).toNat * 3)).block, (ad213.add ((x6_4).toNat * 3)).off + 1, none⟩ = some (.string ((rd_T64 l1 x6_4).f1)) ∧ w'.cell? ⟨(ad213.add ((x6_4).toNat * 3)).block, (ad213.add ((x6_4).toNat * 3)).off + 2, none⟩ = some (.bool ((rd_T64 l1 x6_4).f2)) ∧ w'.cell? (ad213.add ((x5_2).toNat * 3)) = some (.string ((rd_T64 l1 x5_2).f0)) ∧ w'.cell? ⟨(ad213.add ((x5_2).toNat * 3)).block, (ad213.add ((x5_2).toNat * 3)).off + 1, none⟩ = some (.string ((rd_T64 l1 x5_2).f1)) ∧ w'.cell? ⟨(ad213.add ((x5_2).toNat * 3)).block, (ad213.add ((x5_2).toNat * 3)).off + 2, none⟩ = some (.bool ((rd_T64 l1 x5_2).f2))) (ds := []) (tf 0 24) t7_ rfl rfl ⟨((HB.out.cell (World.block_lt_of_cell? w _ hw213_0)).trans hw213_0), ((HB.out.cell (World.block_lt_of_cell? w _ hw213_1)).trans hw213_1), ((HB.out.cell (World.block_lt_of_cell? w _ hw213_2)).trans hw213_2), ((HB.out.cell (World.block_lt_of_cell? w _ hw214_0)).trans hw214_0), ((HB.out.cell (World.block_lt_of_cell? w _ hw214_1)).trans hw214_1), ((HB.out.cell (World.block_lt_of_cell? w _ hw214_2)).trans hw214_2)⟩ (fun hHeld => ?_); refine with_tabW spec_l18Ok.tab11 spec_l18Ok.bits11 (fun HT_ HW_ => ?_)
                  generalize wr.drew = w34 at HB hx213_0 hx213_1 hx213_2 hx214_0 hx214_1 hx214_2 hHeld ⊢
                  refine px 0 (some 59) (tf 1 24) HT_ ?_
                  refine px 1 (some 60) (tf 2 24) HT_ ?_
                  refine px 2 (some 61) (tf 3 24) HT_ ?_
                  refine px 3 (some 62) (tf 4 24) HT_ ?_
                  refine px 5 (some 64) (tb 24 47) HT_ ?_
                  refine px 6 (some 65) (tb 24 111) HT_ ?_
                  refine px 7 (some 66) (tb 24 239) HT_ ?_
                  refine px 8 (some 67) (tb 24 495) HT_ ?_
                  refine tx (v := ?_) 4 (some 63) (tf 9 24) HT_ HW_ hHeld ?_ ?_
                  rotate_left; (· rintro w' ⟨s0, s1, s2, s3, s4, s5⟩; go_simp; with_reducible rfl)
                  refine tx (v := ?_) 9 (some 68) (tf 10 24) HT_ HW_ hHeld ?_ ?_
                  rotate_left; (· rintro w' ⟨s0, s1, s2, s3, s4, s5⟩; go_simp; with_reducible rfl)
                  refine px 10 (some 69) (tf 11 24) HT_ ?_
                  refine px 11 (some 70) (tf 12 24) HT_ ?_
                  refine sx 12 (some 71) (tf 13 24) HT_ ?_
                  refine sx 13 (some 72) (tf 14 24) HT_ ?_
                  refine sx 14 (some 73) (tf 15 24) HT_ ?_
                  refine sx 15 (some 74) (tf 16 24) HT_ ?_
                  refine sx 16 (some 75) (tf 17 24) HT_ ?_
                  refine sx 17 (some 76) (tf 18 24) HT_ ?_
                  refine sx 18 (some 77) (tf 19 24) HT_ ?_
                  refine sx 19 (some 78) (tf 20 24) HT_ ?_
                  refine sx 20 (some 79) (tf 21 24) HT_ ?_
                  refine sx 21 (some 80) (tf 22 24) HT_ ?_
                  refine sx 22 (some 81) (tf 23 24) HT_ ?_
                  refine px 23 (some 82) (tf 24 24) HT_ ?_
                  refine done_ (done_of HT_.out t7_) ?_
                  try go_wp2
                  go_roundg k4
                  case measure => have := HJ2.out; have := HK2.out; have := HJ9.out; have := HK4.out; omega
                  case rel => exact ⟨(wrap64 (x6_4 + 1)), t5_, H', ⟨by have := HJ2.out; have := HK2.out; have := HJ9.out; have := HK4.out; omega⟩, ⟨by repeat (first | (with_reducible first | exact HB.out | apply below_alloc | apply pw_below_drewN | apply below_drew1) | exact HB.out)⟩⟩
                ·rw [if_neg c29] at H
                 exact absurd H t30_
               ·rw [if_neg c28] at H
                exact absurd H t30_
              ·rw [if_neg c27] at H
               exact absurd H t30_
             ·rw [if_neg c26] at H
              exact absurd H t30_
            ·rw [if_neg c25] at H
             have c25b0 : decide (x6_4 < x5_2) = false := decide_eq_false c25
             clear c25
             have H' := Aside0.mk H
             clear H
             go_wp2
             go_roundg k4
             case measure => have := HJ2.out; have := HK2.out; have := HJ9.out; have := HK4.out; omega
             case rel => exact ⟨(wrap64 (x5_2 + 1)), t5_, H', ⟨by have := HJ2.out; have := HK2.out; have := HJ9.out; have := HK4.out; omega⟩, ⟨by repeat (first | (with_reducible first | exact HB.out | apply below_alloc | apply pw_below_drewN | apply below_drew1) | exact HB.out)⟩⟩
      ·rw [if_neg c9] at H
       have c9b0 : decide (x5_2 < (l1.length : Int)) = false := decide_eq_false c9
       clear c9
       obtain rfl := Option.some.inj H
       go_wp2
       go_ret
       exact ⟨by first | rfl | (rw [Int.tdiv_eq_ediv_of_nonneg t12_]; rfl) | (simp [errW_none, errW_some] <;> rfl) | (simp [*, errW_none, errW_some] <;> rfl), by repeat (first | (with_reducible first | exact HB.out | apply below_alloc | apply pw_below_drewN | apply below_drew1) | exact HB.out)⟩

end Go.Proofs.Ytjelfhmgbhidnaa.PFnExactValveNamed
