-- written by wip/xprint.py, a program of this session, for this claim; not trusted: Lean checks it.
import Derived.Test.YtjelfhmgbhidnaaPFnExactCriticalPipesx0
import Derived.Test.YtjelfhmgbhidnaaPFnExactCriticalPipesx2
import Derived.Test.YtjelfhmgbhidnaaPFnExactCriticalPipesx5
namespace Go.Proofs.Ytjelfhmgbhidnaa.PFnExactCriticalPipes
open Go.RowKit Go.Proofs.YtjelfhmgbhidnaaW.PrintWords Go.Proofs.YtjelfhmgbhidnaaW.PrintLast Go.Proofs.YtjelfhmgbhidnaaW.PrintMore
attribute [local go_sem] leq_less_ max2_int min2_int max_two min_two max_three min_three max_four min_four   -- for this text's walks alone
set_option linter.unusedVariables false
set_option linter.unusedSimpArgs false

/-! ### spec_l04Ok: function 54 -/
mutual
def spec_l04Ok.l0 : Nat → List (S32) → Int → Option (Bool)
 | 0, _, _ => none
 | k + 1, x0, x3 => if 0 < (x0.length : Int) then (if x3 < (((rd_T32 x0 0).f0).length : Int) then (if 0 ≤ x3 then ((spec_l00In.f (rd ((rd_T32 x0 0).f0) x3) (-100000) 100000).bind fun t188 => (if t188 = true then (spec_l04Ok.l0 k x0 (wrap64 (x3 + 1))) else (some false))) else (none)) else (if (((rd_T32 x0 0).f0).length : Int) < 1 then (spec_l04Ok.j1 k x0 true) else (if (((rd_T32 x0 0).f0).length : Int) > 16 then (spec_l04Ok.j1 k x0 true) else (spec_l04Ok.j1 k x0 (decide ((((rd_T32 x0 0).f1).length : Int) > 20)))))) else (none)
def spec_l04Ok.j1 : Nat → List (S32) → Bool → Option (Bool)
 | 0, _, _ => none
 | k + 1, x0, x44 => if x44 = true then (some false) else (spec_l04Ok.l1 k x0 0)
def spec_l04Ok.l1 : Nat → List (S32) → Int → Option (Bool)
 | 0, _, _ => none
 | k + 1, x0, x4 => if 0 < (x0.length : Int) then (if x4 < (((rd_T32 x0 0).f1).length : Int) then (if 0 ≤ x4 then ((spec_l04Fits.f k x0 [rd_T80 ((rd_T32 x0 0).f1) x4]).bind fun t195 => (if t195 = true then (if x4 > 0 then (if 0 ≤ (wrap64 (x4 - 1)) then (if (wrap64 (x4 - 1)) < (((rd_T32 x0 0).f1).length : Int) then (if ((Op.bytesLess (((rd_T80 ((rd_T32 x0 0).f1) (wrap64 (x4 - 1))).f0).toList) (((rd_T80 ((rd_T32 x0 0).f1) x4).f0).toList)) = true) then (spec_l04Ok.l1 k x0 (wrap64 (x4 + 1))) else (some false)) else (none)) else (none)) else (spec_l04Ok.l1 k x0 (wrap64 (x4 + 1)))) else (some false))) else (none)) else (some true)) else (none)
end
def spec_l04Ok.f (k : Nat) (l0 : List (S32)) : Option (Bool) := spec_l04Ok.l0 k l0 0
theorem spec_l04Ok.mono_l : ∀ k, (∀ y0 y1, LeO (spec_l04Ok.l0 k y0 y1) (spec_l04Ok.l0 (k + 1) y0 y1)) ∧ (∀ y0 y1, LeO (spec_l04Ok.j1 k y0 y1) (spec_l04Ok.j1 (k + 1) y0 y1)) ∧ (∀ y0 y1, LeO (spec_l04Ok.l1 k y0 y1) (spec_l04Ok.l1 (k + 1) y0 y1))
 | 0 => ⟨fun _ _ r h => by simp [spec_l04Ok.l0] at h, fun _ _ r h => by simp [spec_l04Ok.j1] at h, fun _ _ r h => by simp [spec_l04Ok.l1] at h⟩
 | k + 1 => by
  obtain ⟨ih0, ih1, ih2⟩ := spec_l04Ok.mono_l k
  refine ⟨?_, ?_, ?_⟩ <;> intros <;> first | unfold spec_l04Ok.l0 | unfold spec_l04Ok.j1 | unfold spec_l04Ok.l1
  all_goals
   repeat' first
   | (with_reducible exact ih0 _ _)
   | (with_reducible exact ih1 _ _)
   | (with_reducible exact ih2 _ _)
   | (with_reducible exact spec_l04Fits.mono _ _ _)
   | (with_reducible exact LeO.refl _)
   | (with_reducible exact LeO.none _)
   | (with_reducible refine LeO.ite ?_ ?_)
   | (with_reducible refine LeO.bind ?_ (fun _ => ?_))
   | exact ih0 _ _
   | exact ih1 _ _
   | exact ih2 _ _
   | exact spec_l04Fits.mono _ _ _
   | exact LeO.none _
   | refine LeO.ite ?_ ?_
   | refine LeO.bind ?_ (fun _ => ?_)
theorem spec_l04Ok.mono : ∀ a0 k, LeO (spec_l04Ok.f k a0) (spec_l04Ok.f (k + 1) a0) := by
 intro a0 k
 obtain ⟨ih0, ih1, ih2⟩ := spec_l04Ok.mono_l k
 unfold spec_l04Ok.f
 repeat' first
   | (with_reducible exact ih0 _ _)
   | (with_reducible exact ih1 _ _)
   | (with_reducible exact ih2 _ _)
   | (with_reducible exact spec_l04Fits.mono _ _ _)
   | (with_reducible exact LeO.refl _)
   | (with_reducible exact LeO.none _)
   | (with_reducible refine LeO.ite ?_ ?_)
   | (with_reducible refine LeO.bind ?_ (fun _ => ?_))
   | exact ih0 _ _
   | exact ih1 _ _
   | exact ih2 _ _
   | exact spec_l04Fits.mono _ _ _
   | exact LeO.none _
   | refine LeO.ite ?_ ?_
   | refine LeO.bind ?_ (fun _ => ?_)
def spec_l04Ok.T11 : Bool × List (List Nat × List Nat) := (true, [([], []), ([], []), ([1], [1]), ([2], [2]), ([3], [3]), ([], []), ([4, 5], [4, 5]), ([0, 6], [0, 6]), ([7], [7]), ([8, 7], [8]), ([9], [9]), ([10, 9], [9, 10]), ([11, 9, 9], [9, 11]), ([12], [12]), ([13, 12], [12, 13]), ([14, 12], [12, 14]), ([15, 12], [12, 15]), ([12], [12]), ([17, 12], [12, 17]), ([16, 18, 12], [12, 16, 18]), ([19, 12], [12, 19]), ([20, 12], [12, 20]), ([12], [12]), ([22, 12], [12, 22]), ([23, 12], [12, 23]), ([24, 12], [12, 24]), ([12], [12]), ([25, 26, 12], [12, 25, 26]), ([27, 12], [12, 27]), ([28, 12], [12, 28]), ([21, 29, 12], [12, 21, 29]), ([12, 30, 9], [9, 12, 30]), ([9, 31], [9, 31])])
def spec_l04Ok.B11 : List Nat := [0, 0, 2, 6, 14, 0, 62, 127, 255, 511, 1023, 2047, 4095, 8191, 16383, 32767, 65535, 8191, 139263, 524287, 1048575, 2097151, 8191, 4202495, 12591103, 29368319, 8191, 130031615, 264249343, 532684799, 1073741823, 2147483647, 4294967295]
theorem spec_l04Ok.tab11 : rtab .any (opsOf Try.f54 11) = spec_l04Ok.T11 := by kernel_rfl
theorem spec_l04Ok.bits11 : waitsOk spec_l04Ok.T11.2 spec_l04Ok.B11 = true := by kernel_rfl
set_option maxHeartbeats 8000000 in
set_option maxRecDepth 100000 in
theorem spec_l04Ok.calls (k : Nat) (A0 : Option Addr) (c0 : Nat) (l0 : List (S32)) (r : Bool) (w : World) (hr0 : Kd.C k32 w A0 l0.length l0) (hc0 : l0.length ≤ c0) (h : spec_l04Ok.f k l0 = some r) :
  Calls Try.prog 54 #[.pointer A0] w fun e w' => e = .returned (.bool r) ∧ Below w.heap.size w w' := by
 have HR0 := Aside0.mk hr0
 have HC0 := Aside0.mk hc0
 clear hr0 hc0
 have HB := Aside0.mk (Below.refl w.heap.size w)
 have H : (spec_l04Ok.l0 k l0 0) = some r := h
 clear h
 have H' := Aside0.mk H
 clear H
 go_enter Try.func54, Try.ntmps54
 go_wp2
 go_loopg [3] k (fun kq v3 w' => ∃ (x3_1 : Int), v3 = .int .i64 x3_1 ∧ Aside0 (spec_l04Ok.l0 kq l0 x3_1 = some r) ∧ Aside0 (kq ≤ k) ∧ Aside0 (Below w.heap.size w w'))
 case atStart => exact ⟨(0), t6_, H', ⟨Nat.le_refl _⟩, ⟨t1_⟩⟩
 case round =>
  clear H'
  obtain ⟨x3_1, rfl, HA, HK1, HB⟩ := hrel
  cases gk with
  | zero => exact absurd HA.out (by simp [spec_l04Ok.l0])
  | succ k1 =>
   have H := HA.out
   clear HA
   simp only [spec_l04Ok.l0] at H
   by_cases c2 : 0 < (l0.length : Int)
   ·rw [if_pos c2] at H
    have c2b0 : decide (0 < (l0.length : Int)) = true := decide_eq_true c2
    have c2b1 : decide (0 < l0.length) = true := decide_eq_true t28_
    clear c2
    by_cases c3 : x3_1 < (((rd_T32 l0 0).f0).length : Int)
    ·rw [if_pos c3] at H
     have c3b0 : decide (x3_1 < (((rd_T32 l0 0).f0).length : Int)) = true := decide_eq_true c3
     clear c3
     by_cases c4 : 0 ≤ x3_1
     ·rw [if_pos c4] at H
      have c4b0 : decide (0 ≤ x3_1) = true := decide_eq_true c4
      clear c4
      replace H := Option.bind_eq_some_iff.mp H
      obtain ⟨t188, A50, H⟩ := H
      replace H : (if t188 = true then (spec_l04Ok.l0 k1 l0 (wrap64 (x3_1 + 1))) else (some false)) = some r := H
      have A5 := Aside0.mk A50
      clear A50
      by_cases c6 : t188 = true
      ·subst c6
       have H1 : (spec_l04Ok.l0 k1 l0 (wrap64 (x3_1 + 1))) = some r := by rw [if_pos rfl] at H; exact H
       clear H
       have H := H1
       clear H1
       have H' := Aside0.mk H
       clear H
       have p185 : 0 ≤ (0 : Int) := t28_
       have q185 : 0 < (l0.length : Int) := of_decide_eq_true t3_
       obtain ⟨ad185, A185_0, c185_0, A185_1, c185_1, e185, hx185_0, hx185_1, hl185_0, hi185_0, hl185_1, hi185_1⟩ := at_T32 HR0.out 0 p185 q185
       cases e185
       have qi185 : (0 < l0.length) = True := eq_true t28_
       (try rw [za_] at hx185_0)
       (try rw [za_] at hx185_1)
       replace hx185_0 := hb_ HB hx185_0
       replace hx185_1 := hb_ HB hx185_1
       have HR185_0 := Aside0.mk hi185_0
       have HC185_0 := Aside0.mk hl185_0
       clear hi185_0 hl185_0
       have HR185_1 := Aside0.mk hi185_1
       have HC185_1 := Aside0.mk hl185_1
       clear hi185_1 hl185_1
       replace p185 := eq_true p185
       replace q185 := eq_true q185
       have p186 : 0 ≤ (0 : Int) := t28_
       have q186 : 0 < (l0.length : Int) := of_decide_eq_true t3_
       obtain ⟨ad186, A186_0, c186_0, A186_1, c186_1, e186, hx186_0, hx186_1, hl186_0, hi186_0, hl186_1, hi186_1⟩ := at_T32 HR0.out 0 p186 q186
       obtain rfl : ad185 = ad186 := (by injection e186)
       have qi186 : (0 < l0.length) = True := eq_true t28_
       (try rw [za_] at hx186_0)
       (try rw [za_] at hx186_1)
       replace hx186_0 := hb_ HB hx186_0
       replace hx186_1 := hb_ HB hx186_1
       have HR186_0 := Aside0.mk hi186_0
       have HC186_0 := Aside0.mk hl186_0
       clear hi186_0 hl186_0
       have HR186_1 := Aside0.mk hi186_1
       have HC186_1 := Aside0.mk hl186_1
       clear hi186_1 hl186_1
       replace p186 := eq_true p186
       replace q186 := eq_true q186
       have ea_ := Option.some.inj (hx185_0.symm.trans hx186_0)
       injection ea_ with ea_ en_ ec_
       subst ea_
       subst ec_
       clear en_
       have ea_ := Option.some.inj (hx185_1.symm.trans hx186_1)
       injection ea_ with ea_ en_ ec_
       subst ea_
       subst ec_
       clear en_
       have p187 : 0 ≤ (x3_1 : Int) := of_decide_eq_true t3_
       have q187 : x3_1 < (((rd_T32 l0 0).f0).length : Int) := of_decide_eq_true t3_
       obtain ⟨ad187, e187, hx187_0⟩ := Kd.at_int HR186_0.out x3_1 p187 q187
       cases e187
       replace hx187_0 := hb_ HB hx187_0
       replace p187 := eq_true p187
       replace q187 := eq_true q187
       go_wp2_with (first | ((with_reducible refine gate_callee (f := 64) rfl ?_); refine goesL_ (some 21) rfl rfl Try.func64 t14_ rfl #[.int .i64 (rd ((rd_T32 l0 0).f0) x3_1), .int .i64 (-100000), .int .i64 100000] rfl t2_ ?_; (with_reducible refine (spec_l00In.calls (rd ((rd_T32 l0 0).f0) x3_1) (-100000) 100000 true _ A5.out).mono ?_); rintro e w' ⟨rfl, ⟨nd, rfl⟩⟩; refine ⟨_, rfl, ?_⟩))
       go_roundg k1
       case measure => have := HK1.out; omega
       case rel => exact ⟨(wrap64 (x3_1 + 1)), t6_, H', ⟨t41_⟩, ⟨t1_⟩⟩
      ·replace c6 := Bool.eq_false_iff.mpr c6
       subst c6
       have H1 : (some false) = some r := by rw [if_neg (show ¬ (false = true) by decide)] at H; exact H
       clear H
       have H := H1
       clear H1
       obtain rfl := Option.some.inj H
       have p185 : 0 ≤ (0 : Int) := t28_
       have q185 : 0 < (l0.length : Int) := of_decide_eq_true t3_
       obtain ⟨ad185, A185_0, c185_0, A185_1, c185_1, e185, hx185_0, hx185_1, hl185_0, hi185_0, hl185_1, hi185_1⟩ := at_T32 HR0.out 0 p185 q185
       cases e185
       have qi185 : (0 < l0.length) = True := eq_true t28_
       (try rw [za_] at hx185_0)
       (try rw [za_] at hx185_1)
       replace hx185_0 := hb_ HB hx185_0
       replace hx185_1 := hb_ HB hx185_1
       have HR185_0 := Aside0.mk hi185_0
       have HC185_0 := Aside0.mk hl185_0
       clear hi185_0 hl185_0
       have HR185_1 := Aside0.mk hi185_1
       have HC185_1 := Aside0.mk hl185_1
       clear hi185_1 hl185_1
       replace p185 := eq_true p185
       replace q185 := eq_true q185
       have p186 : 0 ≤ (0 : Int) := t28_
       have q186 : 0 < (l0.length : Int) := of_decide_eq_true t3_
       obtain ⟨ad186, A186_0, c186_0, A186_1, c186_1, e186, hx186_0, hx186_1, hl186_0, hi186_0, hl186_1, hi186_1⟩ := at_T32 HR0.out 0 p186 q186
       obtain rfl : ad185 = ad186 := (by injection e186)
       have qi186 : (0 < l0.length) = True := eq_true t28_
       (try rw [za_] at hx186_0)
       (try rw [za_] at hx186_1)
       replace hx186_0 := hb_ HB hx186_0
       replace hx186_1 := hb_ HB hx186_1
       have HR186_0 := Aside0.mk hi186_0
       have HC186_0 := Aside0.mk hl186_0
       clear hi186_0 hl186_0
       have HR186_1 := Aside0.mk hi186_1
       have HC186_1 := Aside0.mk hl186_1
       clear hi186_1 hl186_1
       replace p186 := eq_true p186
       replace q186 := eq_true q186
       have ea_ := Option.some.inj (hx185_0.symm.trans hx186_0)
       injection ea_ with ea_ en_ ec_
       subst ea_
       subst ec_
       clear en_
       have ea_ := Option.some.inj (hx185_1.symm.trans hx186_1)
       injection ea_ with ea_ en_ ec_
       subst ea_
       subst ec_
       clear en_
       have p187 : 0 ≤ (x3_1 : Int) := of_decide_eq_true t3_
       have q187 : x3_1 < (((rd_T32 l0 0).f0).length : Int) := of_decide_eq_true t3_
       obtain ⟨ad187, e187, hx187_0⟩ := Kd.at_int HR186_0.out x3_1 p187 q187
       cases e187
       replace hx187_0 := hb_ HB hx187_0
       replace p187 := eq_true p187
       replace q187 := eq_true q187
       go_wp2_with (first | ((with_reducible refine gate_callee (f := 64) rfl ?_); refine goesL_ (some 21) rfl rfl Try.func64 t14_ rfl #[.int .i64 (rd ((rd_T32 l0 0).f0) x3_1), .int .i64 (-100000), .int .i64 100000] rfl t2_ ?_; (with_reducible refine (spec_l00In.calls (rd ((rd_T32 l0 0).f0) x3_1) (-100000) 100000 false _ A5.out).mono ?_); rintro e w' ⟨rfl, ⟨nd, rfl⟩⟩; refine ⟨_, rfl, ?_⟩))
       go_ret
       exact ⟨t5_, t1_⟩
     ·rw [if_neg c4] at H
      exact absurd H t44_
    ·rw [if_neg c3] at H
     have c3b0 : decide (x3_1 < (((rd_T32 l0 0).f0).length : Int)) = false := decide_eq_false c3
     clear c3
     have HC7 := Aside0.mk H
     clear H
     have p185 : 0 ≤ (0 : Int) := t28_
     have q185 : 0 < (l0.length : Int) := of_decide_eq_true t3_
     obtain ⟨ad185, A185_0, c185_0, A185_1, c185_1, e185, hx185_0, hx185_1, hl185_0, hi185_0, hl185_1, hi185_1⟩ := at_T32 HR0.out 0 p185 q185
     cases e185
     have qi185 : (0 < l0.length) = True := eq_true t28_
     (try rw [za_] at hx185_0)
     (try rw [za_] at hx185_1)
     replace hx185_0 := hb_ HB hx185_0
     replace hx185_1 := hb_ HB hx185_1
     have HR185_0 := Aside0.mk hi185_0
     have HC185_0 := Aside0.mk hl185_0
     clear hi185_0 hl185_0
     have HR185_1 := Aside0.mk hi185_1
     have HC185_1 := Aside0.mk hl185_1
     clear hi185_1 hl185_1
     replace p185 := eq_true p185
     replace q185 := eq_true q185
     go_upto_region 6 with (fail)
     go_cut [44] (fun v44 wc => ∃ (kq : Nat) (x44_6 : Bool), v44 = .bool x44_6 ∧ Aside0 (spec_l04Ok.j1 kq l0 x44_6 = some r) ∧ Aside0 (kq ≤ k1) ∧ Aside0 (Below w.heap.size w wc))
     case first =>
      have H := HC7.out
      clear HC7
      by_cases c8 : (((rd_T32 l0 0).f0).length : Int) < 1
      ·rw [if_pos c8] at H
       have c8b0 : decide ((((rd_T32 l0 0).f0).length : Int) < 1) = true := decide_eq_true c8
       have c8b1 : decide (((rd_T32 l0 0).f0).length < 1) = true := decide_eq_true t28_
       clear c8
       (first | rw [c8b0] | (simp only [i64_w, i32_w]; rw [c8b0]) | skip)
       have H' := Aside0.mk H
       clear H
       have p189 : 0 ≤ (0 : Int) := t28_
       have q189 : 0 < (l0.length : Int) := of_decide_eq_true t3_
       obtain ⟨ad189, A189_0, c189_0, A189_1, c189_1, e189, hx189_0, hx189_1, hl189_0, hi189_0, hl189_1, hi189_1⟩ := at_T32 HR0.out 0 p189 q189
       obtain rfl : ad185 = ad189 := (by injection e189)
       have qi189 : (0 < l0.length) = True := eq_true t28_
       (try rw [za_] at hx189_0)
       (try rw [za_] at hx189_1)
       replace hx189_0 := hb_ HB hx189_0
       replace hx189_1 := hb_ HB hx189_1
       have HR189_0 := Aside0.mk hi189_0
       have HC189_0 := Aside0.mk hl189_0
       clear hi189_0 hl189_0
       have HR189_1 := Aside0.mk hi189_1
       have HC189_1 := Aside0.mk hl189_1
       clear hi189_1 hl189_1
       replace p189 := eq_true p189
       replace q189 := eq_true q189
       go_wp2
       go_meet
       case rel => exact ⟨_, (true), t6_, H', ⟨t76_⟩, ⟨t1_⟩⟩
      ·rw [if_neg c8] at H
       have c8b0 : decide ((((rd_T32 l0 0).f0).length : Int) < 1) = false := decide_eq_false c8
       have c8b1 : decide (((rd_T32 l0 0).f0).length < 1) = false := decide_eq_false t28_
       clear c8
       (first | rw [c8b0] | (simp only [i64_w, i32_w]; rw [c8b0]) | skip)
       by_cases c9 : (((rd_T32 l0 0).f0).length : Int) > 16
       ·rw [if_pos c9] at H
        have c9b0 : decide (16 < (((rd_T32 l0 0).f0).length : Int)) = true := decide_eq_true c9
        have c9b1 : decide (16 < ((rd_T32 l0 0).f0).length) = true := decide_eq_true t28_
        clear c9
        have H' := Aside0.mk H
        clear H
        have p189 : 0 ≤ (0 : Int) := t28_
        have q189 : 0 < (l0.length : Int) := of_decide_eq_true t3_
        obtain ⟨ad189, A189_0, c189_0, A189_1, c189_1, e189, hx189_0, hx189_1, hl189_0, hi189_0, hl189_1, hi189_1⟩ := at_T32 HR0.out 0 p189 q189
        obtain rfl : ad185 = ad189 := (by injection e189)
        have qi189 : (0 < l0.length) = True := eq_true t28_
        (try rw [za_] at hx189_0)
        (try rw [za_] at hx189_1)
        replace hx189_0 := hb_ HB hx189_0
        replace hx189_1 := hb_ HB hx189_1
        have HR189_0 := Aside0.mk hi189_0
        have HC189_0 := Aside0.mk hl189_0
        clear hi189_0 hl189_0
        have HR189_1 := Aside0.mk hi189_1
        have HC189_1 := Aside0.mk hl189_1
        clear hi189_1 hl189_1
        replace p189 := eq_true p189
        replace q189 := eq_true q189
        have p190 : 0 ≤ (0 : Int) := t28_
        have q190 : 0 < (l0.length : Int) := of_decide_eq_true t3_
        obtain ⟨ad190, A190_0, c190_0, A190_1, c190_1, e190, hx190_0, hx190_1, hl190_0, hi190_0, hl190_1, hi190_1⟩ := at_T32 HR0.out 0 p190 q190
        obtain rfl : ad185 = ad190 := (by injection e190)
        have qi190 : (0 < l0.length) = True := eq_true t28_
        (try rw [za_] at hx190_0)
        (try rw [za_] at hx190_1)
        replace hx190_0 := hb_ HB hx190_0
        replace hx190_1 := hb_ HB hx190_1
        have HR190_0 := Aside0.mk hi190_0
        have HC190_0 := Aside0.mk hl190_0
        clear hi190_0 hl190_0
        have HR190_1 := Aside0.mk hi190_1
        have HC190_1 := Aside0.mk hl190_1
        clear hi190_1 hl190_1
        replace p190 := eq_true p190
        replace q190 := eq_true q190
        have ea_ := Option.some.inj (hx189_0.symm.trans hx190_0)
        injection ea_ with ea_ en_ ec_
        subst ea_
        subst ec_
        clear en_
        have ea_ := Option.some.inj (hx189_1.symm.trans hx190_1)
        injection ea_ with ea_ en_ ec_
        subst ea_
        subst ec_
        clear en_
        go_wp2
        go_meet
        case rel => exact ⟨_, (true), t6_, H', ⟨t76_⟩, ⟨t1_⟩⟩
       ·rw [if_neg c9] at H
        have c9b0 : decide (16 < (((rd_T32 l0 0).f0).length : Int)) = false := decide_eq_false c9
        have c9b1 : decide (16 < ((rd_T32 l0 0).f0).length) = false := decide_eq_false t28_
        clear c9
        have H' := Aside0.mk H
        clear H
        have p189 : 0 ≤ (0 : Int) := t28_
        have q189 : 0 < (l0.length : Int) := of_decide_eq_true t3_
        obtain ⟨ad189, A189_0, c189_0, A189_1, c189_1, e189, hx189_0, hx189_1, hl189_0, hi189_0, hl189_1, hi189_1⟩ := at_T32 HR0.out 0 p189 q189
        obtain rfl : ad185 = ad189 := (by injection e189)
        have qi189 : (0 < l0.length) = True := eq_true t28_
        (try rw [za_] at hx189_0)
        (try rw [za_] at hx189_1)
        replace hx189_0 := hb_ HB hx189_0
        replace hx189_1 := hb_ HB hx189_1
        have HR189_0 := Aside0.mk hi189_0
        have HC189_0 := Aside0.mk hl189_0
        clear hi189_0 hl189_0
        have HR189_1 := Aside0.mk hi189_1
        have HC189_1 := Aside0.mk hl189_1
        clear hi189_1 hl189_1
        replace p189 := eq_true p189
        replace q189 := eq_true q189
        have p190 : 0 ≤ (0 : Int) := t28_
        have q190 : 0 < (l0.length : Int) := of_decide_eq_true t3_
        obtain ⟨ad190, A190_0, c190_0, A190_1, c190_1, e190, hx190_0, hx190_1, hl190_0, hi190_0, hl190_1, hi190_1⟩ := at_T32 HR0.out 0 p190 q190
        obtain rfl : ad185 = ad190 := (by injection e190)
        have qi190 : (0 < l0.length) = True := eq_true t28_
        (try rw [za_] at hx190_0)
        (try rw [za_] at hx190_1)
        replace hx190_0 := hb_ HB hx190_0
        replace hx190_1 := hb_ HB hx190_1
        have HR190_0 := Aside0.mk hi190_0
        have HC190_0 := Aside0.mk hl190_0
        clear hi190_0 hl190_0
        have HR190_1 := Aside0.mk hi190_1
        have HC190_1 := Aside0.mk hl190_1
        clear hi190_1 hl190_1
        replace p190 := eq_true p190
        replace q190 := eq_true q190
        have ea_ := Option.some.inj (hx189_0.symm.trans hx190_0)
        injection ea_ with ea_ en_ ec_
        subst ea_
        subst ec_
        clear en_
        have ea_ := Option.some.inj (hx189_1.symm.trans hx190_1)
        injection ea_ with ea_ en_ ec_
        subst ea_
        subst ec_
        clear en_
        have p191 : 0 ≤ (0 : Int) := t28_
        have q191 : 0 < (l0.length : Int) := of_decide_eq_true t3_
        obtain ⟨ad191, A191_0, c191_0, A191_1, c191_1, e191, hx191_0, hx191_1, hl191_0, hi191_0, hl191_1, hi191_1⟩ := at_T32 HR0.out 0 p191 q191
        obtain rfl : ad185 = ad191 := (by injection e191)
        have qi191 : (0 < l0.length) = True := eq_true t28_
        (try rw [za_] at hx191_0)
        (try rw [za_] at hx191_1)
        replace hx191_0 := hb_ HB hx191_0
        replace hx191_1 := hb_ HB hx191_1
        have HR191_0 := Aside0.mk hi191_0
        have HC191_0 := Aside0.mk hl191_0
        clear hi191_0 hl191_0
        have HR191_1 := Aside0.mk hi191_1
        have HC191_1 := Aside0.mk hl191_1
        clear hi191_1 hl191_1
        replace p191 := eq_true p191
        replace q191 := eq_true q191
        have ea_ := Option.some.inj (hx189_0.symm.trans hx191_0)
        injection ea_ with ea_ en_ ec_
        subst ea_
        subst ec_
        clear en_
        have ea_ := Option.some.inj (hx189_1.symm.trans hx191_1)
        injection ea_ with ea_ en_ ec_
        subst ea_
        subst ec_
        clear en_
        go_wp2
        go_meet
        case rel => exact ⟨_, (decide ((((rd_T32 l0 0).f1).length : Int) > 20)), t6_, H', ⟨t76_⟩, ⟨t1_⟩⟩
     case rest =>
      clear HC7
      try clear c1
      try clear p1
      try clear q1
      try clear hx1
      try clear qi1
      try clear c2
      try clear c2b0
      try clear c2b1
      try clear p2
      try clear c3
      try clear c3b0
      try clear c4
      try clear c4b0
      try clear c5
      try clear c6
      try clear p6
      try clear c8
      try clear c8b0
      try clear c8b1
      try clear c9
      try clear c9b0
      try clear c9b1
      try clear hx185_0
      try clear hx185_1
      try clear hx186_0
      try clear hx186_1
      try clear hx187_0
      try clear hx189_0
      try clear hx189_1
      try clear hx190_0
      try clear hx190_1
      try clear hx191_0
      try clear hx191_1
      try clear p185
      try clear p186
      try clear p187
      try clear p189
      try clear p190
      try clear p191
      try clear q185
      try clear q186
      try clear q187
      try clear q189
      try clear q190
      try clear q191
      obtain ⟨kq, x44_6, rfl, HA, HJ6, HB⟩ := hcut
      cases kq with
      | zero => exact absurd HA.out (by simp [spec_l04Ok.j1])
      | succ kj6 =>
       have H := HA.out
       clear HA
       simp only [spec_l04Ok.j1] at H
       by_cases c10 : x44_6 = true
       ·subst c10
        have H1 : (some false) = some r := by rw [if_pos rfl] at H; exact H
        clear H
        have H := H1
        clear H1
        obtain rfl := Option.some.inj H
        go_wp2
        go_ret
        exact ⟨t5_, t1_⟩
       ·replace c10 := Bool.eq_false_iff.mpr c10
        subst c10
        have H1 : (spec_l04Ok.l1 kj6 l0 0) = some r := by rw [if_neg (show ¬ (false = true) by decide)] at H; exact H
        clear H
        have H := H1
        clear H1
        have H' := Aside0.mk H
        clear H
        go_wp2
        go_loopg [4] kj6 (fun kq v4 w' => ∃ (x4_3 : Int), v4 = .int .i64 x4_3 ∧ Aside0 (spec_l04Ok.l1 kq l0 x4_3 = some r) ∧ Aside0 (kq ≤ kj6) ∧ Aside0 (Below w.heap.size w w'))
        case atStart => exact ⟨(0), t6_, H', ⟨Nat.le_refl _⟩, ⟨t1_⟩⟩
        case round =>
         clear H'
         try clear c1
         try clear p1
         try clear q1
         try clear hx1
         try clear qi1
         try clear c2
         try clear c2b0
         try clear c2b1
         try clear p2
         try clear c3
         try clear c3b0
         try clear c4
         try clear c4b0
         try clear c5
         try clear c6
         try clear p6
         try clear c8
         try clear c8b0
         try clear c8b1
         try clear c9
         try clear c9b0
         try clear c9b1
         try clear c10
         try clear hx185_0
         try clear hx185_1
         try clear hx186_0
         try clear hx186_1
         try clear hx187_0
         try clear hx189_0
         try clear hx189_1
         try clear hx190_0
         try clear hx190_1
         try clear hx191_0
         try clear hx191_1
         try clear p1
         try clear p185
         try clear p186
         try clear p187
         try clear p189
         try clear p190
         try clear p191
         try clear p2
         try clear p6
         try clear q1
         try clear q185
         try clear q186
         try clear q187
         try clear q189
         try clear q190
         try clear q191
         obtain ⟨x4_3, rfl, HA, HK3, HB⟩ := hrel
         cases gk with
         | zero => exact absurd HA.out (by simp [spec_l04Ok.l1])
         | succ k3 =>
          have H := HA.out
          clear HA
          simp only [spec_l04Ok.l1] at H
          by_cases c11 : 0 < (l0.length : Int)
          ·rw [if_pos c11] at H
           have c11b0 : decide (0 < (l0.length : Int)) = true := decide_eq_true c11
           have c11b1 : decide (0 < l0.length) = true := decide_eq_true t28_
           clear c11
           by_cases c12 : x4_3 < (((rd_T32 l0 0).f1).length : Int)
           ·rw [if_pos c12] at H
            have c12b0 : decide (x4_3 < (((rd_T32 l0 0).f1).length : Int)) = true := decide_eq_true c12
            clear c12
            by_cases c13 : 0 ≤ x4_3
            ·rw [if_pos c13] at H
             have c13b0 : decide (0 ≤ x4_3) = true := decide_eq_true c13
             clear c13
             replace H := Option.bind_eq_some_iff.mp H
             obtain ⟨t195, A140, H⟩ := H
             replace H : (if t195 = true then (if x4_3 > 0 then (if 0 ≤ (wrap64 (x4_3 - 1)) then (if (wrap64 (x4_3 - 1)) < (((rd_T32 l0 0).f1).length : Int) then (if ((Op.bytesLess (((rd_T80 ((rd_T32 l0 0).f1) (wrap64 (x4_3 - 1))).f0).toList) (((rd_T80 ((rd_T32 l0 0).f1) x4_3).f0).toList)) = true) then (spec_l04Ok.l1 k3 l0 (wrap64 (x4_3 + 1))) else (some false)) else (none)) else (none)) else (spec_l04Ok.l1 k3 l0 (wrap64 (x4_3 + 1)))) else (some false)) = some r := H
             have A14 := Aside0.mk A140
             clear A140
             by_cases c15 : t195 = true
             ·subst c15
              have H1 : (if x4_3 > 0 then (if 0 ≤ (wrap64 (x4_3 - 1)) then (if (wrap64 (x4_3 - 1)) < (((rd_T32 l0 0).f1).length : Int) then (if ((Op.bytesLess (((rd_T80 ((rd_T32 l0 0).f1) (wrap64 (x4_3 - 1))).f0).toList) (((rd_T80 ((rd_T32 l0 0).f1) x4_3).f0).toList)) = true) then (spec_l04Ok.l1 k3 l0 (wrap64 (x4_3 + 1))) else (some false)) else (none)) else (none)) else (spec_l04Ok.l1 k3 l0 (wrap64 (x4_3 + 1)))) = some r := by rw [if_pos rfl] at H; exact H
              clear H
              have H := H1
              clear H1
              by_cases c16 : x4_3 > 0
              ·rw [if_pos c16] at H
               have c16b0 : decide (0 < x4_3) = true := decide_eq_true c16
               clear c16
               obtain ⟨ji17, hji17⟩ : ∃ j_ : Int, (wrap64 (x4_3 - 1)) = j_ := ⟨_, rfl⟩
               replace H : (if 0 ≤ (ji17) then (if (ji17) < (((rd_T32 l0 0).f1).length : Int) then (if ((Op.bytesLess (((rd_T80 ((rd_T32 l0 0).f1) (ji17)).f0).toList) (((rd_T80 ((rd_T32 l0 0).f1) x4_3).f0).toList)) = true) then (spec_l04Ok.l1 k3 l0 (wrap64 (x4_3 + 1))) else (some false)) else (none)) else (none)) = some r := by first | (rw [hji17] at H; exact H) | (simp only [hji17] at H ⊢; exact H)
               (try rw [hji17] at A14)
               have hji17w : (IntKind.i64.wrap (x4_3 - 1)) = ji17 := (i64_w _).trans hji17
               by_cases c18 : 0 ≤ (ji17)
               ·rw [if_pos c18] at H
                have c18b0 : decide (0 ≤ (ji17)) = true := decide_eq_true c18
                clear c18
                by_cases c19 : (ji17) < (((rd_T32 l0 0).f1).length : Int)
                ·rw [if_pos c19] at H
                 have c19b0 : decide ((ji17) < (((rd_T32 l0 0).f1).length : Int)) = true := decide_eq_true c19
                 clear c19
                 by_cases c20 : ((Op.bytesLess (((rd_T80 ((rd_T32 l0 0).f1) (ji17)).f0).toList) (((rd_T80 ((rd_T32 l0 0).f1) x4_3).f0).toList)) = true)
                 ·rw [if_pos c20] at H
                  have c20b0 : (Op.bytesLess (((rd_T80 ((rd_T32 l0 0).f1) (ji17)).f0).toList) (((rd_T80 ((rd_T32 l0 0).f1) x4_3).f0).toList)) = true := c20
                  clear c20
                  have H' := Aside0.mk H
                  clear H
                  have p192 : 0 ≤ (0 : Int) := t28_
                  have q192 : 0 < (l0.length : Int) := of_decide_eq_true t3_
                  obtain ⟨ad192, A192_0, c192_0, A192_1, c192_1, e192, hx192_0, hx192_1, hl192_0, hi192_0, hl192_1, hi192_1⟩ := at_T32 HR0.out 0 p192 q192
                  obtain rfl : ad185 = ad192 := (by injection e192)
                  have qi192 : (0 < l0.length) = True := eq_true t28_
                  (try rw [za_] at hx192_0)
                  (try rw [za_] at hx192_1)
                  replace hx192_0 := hb_ HB hx192_0
                  replace hx192_1 := hb_ HB hx192_1
                  have HR192_0 := Aside0.mk hi192_0
                  have HC192_0 := Aside0.mk hl192_0
                  clear hi192_0 hl192_0
                  have HR192_1 := Aside0.mk hi192_1
                  have HC192_1 := Aside0.mk hl192_1
                  clear hi192_1 hl192_1
                  replace p192 := eq_true p192
                  replace q192 := eq_true q192
                  try go_wp2
                  have n0_ := Aside0.mk (below_drew1 HB.out)
                  clear HB
                  have HB := n0_
                  clear n0_
                  have p193 : 0 ≤ (0 : Int) := t28_
                  have q193 : 0 < (l0.length : Int) := of_decide_eq_true t3_
                  obtain ⟨ad193, A193_0, c193_0, A193_1, c193_1, e193, hx193_0, hx193_1, hl193_0, hi193_0, hl193_1, hi193_1⟩ := at_T32 HR0.out 0 p193 q193
                  have hw193_1 := hx193_1
                  (try rw [za_] at hw193_1)
                  have hw193_0 := hx193_0
                  (try rw [za_] at hw193_0)
                  obtain rfl : ad185 = ad193 := (by injection e193)
                  have qi193 : (0 < l0.length) = True := eq_true t28_
                  (try rw [za_] at hx193_0)
                  (try rw [za_] at hx193_1)
                  replace hx193_0 := hb_ HB hx193_0
                  replace hx193_1 := hb_ HB hx193_1
                  have HR193_0 := Aside0.mk hi193_0
                  have HC193_0 := Aside0.mk hl193_0
                  clear hi193_0 hl193_0
                  have HR193_1 := Aside0.mk hi193_1
                  have HC193_1 := Aside0.mk hl193_1
                  clear hi193_1 hl193_1
                  replace p193 := eq_true p193
                  replace q193 := eq_true q193
                  have p194 : 0 ≤ (x4_3 : Int) := of_decide_eq_true t3_
                  have q194 : x4_3 < (((rd_T32 l0 0).f1).length : Int) := of_decide_eq_true t3_
                  obtain ⟨ad194, e194, hx194_0, hx194_1, hx194_2, hx194_3, hx194_4, hx194_5⟩ := at_T80 HR193_1.out x4_3 p194 q194
                  have hw194_5 := hx194_5
                  have hw194_4 := hx194_4
                  have hw194_3 := hx194_3
                  have hw194_2 := hx194_2
                  have hw194_1 := hx194_1
                  have hw194_0 := hx194_0
                  cases e194
                  replace hx194_0 := hb_ HB hx194_0
                  replace hx194_1 := hb_ HB hx194_1
                  replace hx194_2 := hb_ HB hx194_2
                  replace hx194_3 := hb_ HB hx194_3
                  replace hx194_4 := hb_ HB hx194_4
                  replace hx194_5 := hb_ HB hx194_5
                  replace p194 := eq_true p194
                  replace q194 := eq_true q194
                  have p196 : 0 ≤ (0 : Int) := t28_
                  have q196 : 0 < (l0.length : Int) := of_decide_eq_true t3_
                  obtain ⟨ad196, A196_0, c196_0, A196_1, c196_1, e196, hx196_0, hx196_1, hl196_0, hi196_0, hl196_1, hi196_1⟩ := at_T32 HR0.out 0 p196 q196
                  have hw196_1 := hx196_1
                  (try rw [za_] at hw196_1)
                  have hw196_0 := hx196_0
                  (try rw [za_] at hw196_0)
                  obtain rfl : ad185 = ad196 := (by injection e196)
                  have qi196 : (0 < l0.length) = True := eq_true t28_
                  (try rw [za_] at hx196_0)
                  (try rw [za_] at hx196_1)
                  replace hx196_0 := hb_ HB hx196_0
                  replace hx196_1 := hb_ HB hx196_1
                  have HR196_0 := Aside0.mk hi196_0
                  have HC196_0 := Aside0.mk hl196_0
                  clear hi196_0 hl196_0
                  have HR196_1 := Aside0.mk hi196_1
                  have HC196_1 := Aside0.mk hl196_1
                  clear hi196_1 hl196_1
                  replace p196 := eq_true p196
                  replace q196 := eq_true q196
                  have ea_ := Option.some.inj (hx193_0.symm.trans hx196_0)
                  injection ea_ with ea_ en_ ec_
                  subst ea_
                  subst ec_
                  clear en_
                  have ea_ := Option.some.inj (hx193_1.symm.trans hx196_1)
                  injection ea_ with ea_ en_ ec_
                  subst ea_
                  subst ec_
                  clear en_
                  have p197 : 0 ≤ ((ji17) : Int) := of_decide_eq_true t3_
                  have q197 : (ji17) < (((rd_T32 l0 0).f1).length : Int) := of_decide_eq_true t3_
                  obtain ⟨ad197, e197, hx197_0, hx197_1, hx197_2, hx197_3, hx197_4, hx197_5⟩ := at_T80 HR196_1.out (ji17) p197 q197
                  have hw197_5 := hx197_5
                  have hw197_4 := hx197_4
                  have hw197_3 := hx197_3
                  have hw197_2 := hx197_2
                  have hw197_1 := hx197_1
                  have hw197_0 := hx197_0
                  obtain rfl : ad194 = ad197 := (by injection e197)
                  replace hx197_0 := hb_ HB hx197_0
                  replace hx197_1 := hb_ HB hx197_1
                  replace hx197_2 := hb_ HB hx197_2
                  replace hx197_3 := hb_ HB hx197_3
                  replace hx197_4 := hb_ HB hx197_4
                  replace hx197_5 := hb_ HB hx197_5
                  replace p197 := eq_true p197
                  replace q197 := eq_true q197
                  have p198 : 0 ≤ (0 : Int) := t28_
                  have q198 : 0 < (l0.length : Int) := of_decide_eq_true t3_
                  obtain ⟨ad198, A198_0, c198_0, A198_1, c198_1, e198, hx198_0, hx198_1, hl198_0, hi198_0, hl198_1, hi198_1⟩ := at_T32 HR0.out 0 p198 q198
                  have hw198_1 := hx198_1
                  (try rw [za_] at hw198_1)
                  have hw198_0 := hx198_0
                  (try rw [za_] at hw198_0)
                  obtain rfl : ad185 = ad198 := (by injection e198)
                  have qi198 : (0 < l0.length) = True := eq_true t28_
                  (try rw [za_] at hx198_0)
                  (try rw [za_] at hx198_1)
                  replace hx198_0 := hb_ HB hx198_0
                  replace hx198_1 := hb_ HB hx198_1
                  have HR198_0 := Aside0.mk hi198_0
                  have HC198_0 := Aside0.mk hl198_0
                  clear hi198_0 hl198_0
                  have HR198_1 := Aside0.mk hi198_1
                  have HC198_1 := Aside0.mk hl198_1
                  clear hi198_1 hl198_1
                  replace p198 := eq_true p198
                  replace q198 := eq_true q198
                  have ea_ := Option.some.inj (hx193_0.symm.trans hx198_0)
                  injection ea_ with ea_ en_ ec_
                  subst ea_
                  subst ec_
                  clear en_
                  have ea_ := Option.some.inj (hx193_1.symm.trans hx198_1)
                  injection ea_ with ea_ en_ ec_
                  subst ea_
                  subst ec_
                  clear en_
                  have p199 : 0 ≤ (x4_3 : Int) := of_decide_eq_true t3_
                  have q199 : x4_3 < (((rd_T32 l0 0).f1).length : Int) := of_decide_eq_true t3_
                  obtain ⟨ad199, e199, hx199_0, hx199_1, hx199_2, hx199_3, hx199_4, hx199_5⟩ := at_T80 HR198_1.out x4_3 p199 q199
                  have hw199_5 := hx199_5
                  have hw199_4 := hx199_4
                  have hw199_3 := hx199_3
                  have hw199_2 := hx199_2
                  have hw199_1 := hx199_1
                  have hw199_0 := hx199_0
                  obtain rfl : ad194 = ad199 := (by injection e199)
                  replace hx199_0 := hb_ HB hx199_0
                  replace hx199_1 := hb_ HB hx199_1
                  replace hx199_2 := hb_ HB hx199_2
                  replace hx199_3 := hb_ HB hx199_3
                  replace hx199_4 := hb_ HB hx199_4
                  replace hx199_5 := hb_ HB hx199_5
                  replace p199 := eq_true p199
                  replace q199 := eq_true q199
                  refine start_ (n := 33) (S := fun w' => w'.cell? ad185 = some (.slice A193_0 ((rd_T32 l0 0).f0).length c193_0) ∧ w'.cell? ⟨ad185.block, ad185.off + 1, none⟩ = some (.slice (some ad194) ((rd_T32 l0 0).f1).length c193_1) ∧ w'.cell? (ad194.add ((x4_3).toNat * 6)) = some (.string ((rd_T80 ((rd_T32 l0 0).f1) x4_3).f0)) ∧ w'.cell? ⟨(ad194.add ((x4_3).toNat * 6)).block, (ad194.add ((x4_3).toNat * 6)).off + 1, none⟩ = some (.int .i64 ((rd_T80 ((rd_T32 l0 0).f1) x4_3).f1)) ∧ w'.cell? ⟨(ad194.add ((x4_3).toNat * 6)).block, (ad194.add ((x4_3).toNat * 6)).off + 2, none⟩ = some (.int .i64 ((rd_T80 ((rd_T32 l0 0).f1) x4_3).f2)) ∧ w'.cell? ⟨(ad194.add ((x4_3).toNat * 6)).block, (ad194.add ((x4_3).toNat * 6)).off + 3, none⟩ = some (.int .i64 ((rd_T80 ((rd_T32 l0 0).f1) x4_3).f3)) ∧ w'.cell? ⟨(ad194.add ((x4_3).toNat * 6)).block, (ad194.add ((x4_3).toNat * 6)).off + 4, none⟩ = some (.int .i64 ((rd_T80 ((rd_T32 l0 0).f1) x4_3).f4)) ∧ w'.cell? ⟨(ad194.add ((x4_3).toNat * 6)).block, (ad194.add ((x4_3).toNat * 6)).off + 5, none⟩ = some (.int .i64 ((rd_T80 ((rd_T32 l0 0).f1) x4_3).f5)) ∧ w'.cell? ad185 = some (.slice A193_0 ((rd_T32 l0 0).f0).length c193_0) ∧ w'.cell? ⟨ad185.block, ad185.off + 1, none⟩ = some (.slice (some ad194) ((rd_T32 l0 0).f1).length c193_1) ∧ w'.cell? (ad194.add (((ji17)).toNat * 6)) = some (.string ((rd_T80 ((rd_T32 l0 0).f1) (ji17)).f0)) ∧ w'.cell? ⟨(ad194.add (((ji17)).toNat * 6)).block, (ad194.add (((ji17)).toNat * 6)).off + 1, none⟩ = some (.int .i64 ((rd_T80 ((rd_T32 l0 0).f1) (ji17)).f1)) ∧ w'.cell? ⟨(ad194.add (((ji17)).toNat * 6)).block, (ad194.add (((ji17)).toNat * 6)).off + 2, none⟩ = some (.int .i64 ((rd_T80 ((rd_T32 l0 0).f1) (ji17)).f2)) ∧ w'.cell? ⟨(ad194.add (((ji17)).toNat * 6)).block, (ad194.add (((ji17)).toNat * 6)).off + 3, none⟩ = some (.int .i64 ((rd_T80 ((rd_T32 l0 0).f1) (ji17)).f3)) ∧ w'.cell? ⟨(ad194.add (((ji17)).toNat * 6)).block, (ad194.add (((ji17)).toNat * 6)).off + 4, none⟩ = some (.int .i64 ((rd_T80 ((rd_T32 l0 0).f1) (ji17)).f4)) ∧ w'.cell? ⟨(ad194.add (((ji17)).toNat * 6)).block, (ad194.add (((ji17)).toNat * 6)).off + 5, none⟩ = some (.int .i64 ((rd_T80 ((rd_T32 l0 0).f1) (ji17)).f5)) ∧ w'.cell? ad185 = some (.slice A193_0 ((rd_T32 l0 0).f0).length c193_0) ∧ w'.cell? ⟨ad185.block, ad185.off + 1, none⟩ = some (.slice (some ad194) ((rd_T32 l0 0).f1).length c193_1) ∧ w'.cell? (ad194.add ((x4_3).toNat * 6)) = some (.string ((rd_T80 ((rd_T32 l0 0).f1) x4_3).f0)) ∧ w'.cell? ⟨(ad194.add ((x4_3).toNat * 6)).block, (ad194.add ((x4_3).toNat * 6)).off + 1, none⟩ = some (.int .i64 ((rd_T80 ((rd_T32 l0 0).f1) x4_3).f1)) ∧ w'.cell? ⟨(ad194.add ((x4_3).toNat * 6)).block, (ad194.add ((x4_3).toNat * 6)).off + 2, none⟩ = some (.int .i64 ((rd_T80 ((rd_T32 l0 0).f1) x4_3).f2)) ∧ w'.cell? ⟨(ad194.add ((x4_3).toNat * 6)).block, (ad194.add ((x4_3).toNat * 6)).off + 3, none⟩ = some (.int .i64 ((rd_T80 ((rd_T32 l0 0).f1) x4_3).f3)) ∧ w'.cell? ⟨(ad194.add ((x4_3).toNat * 6)).block, (ad194.add ((x4_3).toNat * 6)).off + 4, none⟩ = some (.int .i64 ((rd_T80 ((rd_T32 l0 0).f1) x4_3).f4)) ∧ w'.cell? ⟨(ad194.add ((x4_3).toNat * 6)).block, (ad194.add ((x4_3).toNat * 6)).off + 5, none⟩ = some (.int .i64 ((rd_T80 ((rd_T32 l0 0).f1) x4_3).f5))) (ds := []) (tf 0 33) t14_ rfl rfl ⟨(hb_ HB hw193_0 :), (hb_ HB hw193_1 :), (hb_ HB hw194_0 :), (hb_ HB hw194_1 :), (hb_ HB hw194_2 :), (hb_ HB hw194_3 :), (hb_ HB hw194_4 :), (hb_ HB hw194_5 :), (hb_ HB hw196_0 :), (hb_ HB hw196_1 :), (hb_ HB hw197_0 :), (hb_ HB hw197_1 :), (hb_ HB hw197_2 :), (hb_ HB hw197_3 :), (hb_ HB hw197_4 :), (hb_ HB hw197_5 :), (hb_ HB hw198_0 :), (hb_ HB hw198_1 :), (hb_ HB hw199_0 :), (hb_ HB hw199_1 :), (hb_ HB hw199_2 :), (hb_ HB hw199_3 :), (hb_ HB hw199_4 :), (hb_ HB hw199_5 :)⟩ (fun hHeld => ?_); refine with_tabW spec_l04Ok.tab11 spec_l04Ok.bits11 (fun HT_ HW_ => ?_)
                  generalize wr.drew = w21 at HB HR193_0 HR193_1 HR196_0 HR196_1 HR198_0 HR198_1 hx193_0 hx193_1 hx194_0 hx194_1 hx194_2 hx194_3 hx194_4 hx194_5 hx196_0 hx196_1 hx197_0 hx197_1 hx197_2 hx197_3 hx197_4 hx197_5 hx198_0 hx198_1 hx199_0 hx199_1 hx199_2 hx199_3 hx199_4 hx199_5 hHeld ⊢
                  refine px 0 (some 54) (tf 1 33) HT_ ?_
                  refine px 1 (some 55) (tf 2 33) HT_ ?_
                  refine px 2 (some 56) (tf 3 33) HT_ ?_
                  refine px 3 (some 57) (tf 4 33) HT_ ?_
                  refine px 5 (some 59) (tb 33 47) HT_ ?_
                  refine tx (v := ?_) 4 (some 58) (tf 6 33) HT_ HW_ hHeld ?_ ?_
                  rotate_left; (· rintro w' ⟨s0, s1, s2, s3, s4, s5, s6, s7, s8, s9, s10, s11, s12, s13, s14, s15, s16, s17, s18, s19, s20, s21, s22, s23⟩; go_simp; with_reducible rfl)
                  refine px 6 (some 60) (tf 7 33) HT_ ?_
                  refine one_ (i := 7) (N := some 61) (tf 8 33) rfl rfl (one_of HT_.out t14_) t31_ (fun K hK => ?_)
                  refine goes_ Try.func86 t14_ rfl #[.pointer (some ad185), .pointer (some (ad194.add (x4_3.toNat * 6)))] t71_ rfl rfl t2_ ?_
                  with_reducible refine (spec_l04Fits.calls k3 _ c0 l0 _ 1 [rd_T80 ((rd_T32 l0 0).f1) x4_3] true _ ?side1 ?side2 ?side3 ?side4 A14.out).mono ?_
                  (case side1 => repeat (first | exact (Kd.C_below HR0.out HB.out) | (with_reducible refine Kd.C_alloc ?_ _) | (with_reducible refine Kd.C_drewN ?_ _) | (with_reducible refine Kd.C_drew ?_)))
                  (case side2 => exact HC0.out)
                  (case side3 => exact Kd.C_sub (z := z80) (n := ((rd_T32 l0 0).f1).length) (t43_) (by first | exact p194 | exact of_eq_true p194 | omega) (by first | exact q194 | exact of_eq_true q194 | omega))
                  (case side4 => exact Nat.le_refl _)
                  rintro e w22 ⟨rfl, hb⟩
                  refine ⟨_, rfl, ?_⟩
                  have n0_ := Aside0.mk (below_step t1_ hb)
                  clear HB
                  have HB := n0_
                  clear n0_
                  (try clear hb)
                  (try clear hb2)
                  (try clear hk)
                  (try clear hi)
                  refine hK.out _ _ ⟨(hb_ HB hw193_0 :), (hb_ HB hw193_1 :), (hb_ HB hw194_0 :), (hb_ HB hw194_1 :), (hb_ HB hw194_2 :), (hb_ HB hw194_3 :), (hb_ HB hw194_4 :), (hb_ HB hw194_5 :), (hb_ HB hw196_0 :), (hb_ HB hw196_1 :), (hb_ HB hw197_0 :), (hb_ HB hw197_1 :), (hb_ HB hw197_2 :), (hb_ HB hw197_3 :), (hb_ HB hw197_4 :), (hb_ HB hw197_5 :), (hb_ HB hw198_0 :), (hb_ HB hw198_1 :), (hb_ HB hw199_0 :), (hb_ HB hw199_1 :), (hb_ HB hw199_2 :), (hb_ HB hw199_3 :), (hb_ HB hw199_4 :), (hb_ HB hw199_5 :)⟩ (fun hHeld => ?_)
                  clear hK K
                  refine norm_ (a' := ?_) ?_ ?_
                  rotate_left
                  ·show Act.put _ (some 61) _ = _
                   simp only [Act.put, List.setIfInBounds_toArray, List.set_cons_zero, List.set_cons_succ, i64_w, i32_w]
                   rfl
                  refine px 8 (some 62) (tf 9 33) HT_ ?_
                  refine px 9 (some 63) (tf 10 33) HT_ ?_
                  refine px 10 (some 64) (tf 11 33) HT_ ?_
                  refine px 11 (some 65) (tf 12 33) HT_ ?_
                  refine px 12 (some 66) (tf 13 33) HT_ ?_
                  refine px 13 (some 67) (tf 14 33) HT_ ?_
                  refine px 14 (some 68) (tf 15 33) HT_ ?_
                  refine px 15 (some 69) (tf 16 33) HT_ ?_
                  refine px 17 (some 71) (tb 33 196607) HT_ ?_
                  refine px 18 (some 72) (tb 33 458751) HT_ ?_
                  refine px 22 (some 76) (tb 33 4653055) HT_ ?_
                  refine px 23 (some 77) (tb 33 13041663) HT_ ?_
                  refine px 24 (some 78) (tb 33 29818879) HT_ ?_
                  refine px 26 (some 80) (tb 33 96927743) HT_ ?_
                  refine tx (v := ?_) 16 (some 70) (tb 33 96993279) HT_ HW_ hHeld ?_ ?_
                  rotate_left; (· rintro w' ⟨s0, s1, s2, s3, s4, s5, s6, s7, s8, s9, s10, s11, s12, s13, s14, s15, s16, s17, s18, s19, s20, s21, s22, s23⟩; go_simp; with_reducible rfl)
                  refine px 19 (some 73) (tb 33 97517567) HT_ ?_
                  refine px 20 (some 74) (tb 33 98566143) HT_ ?_
                  refine tx (v := ?_) 21 (some 75) (tb 33 100663295) HT_ HW_ hHeld ?_ ?_
                  rotate_left; (· rintro w' ⟨s0, s1, s2, s3, s4, s5, s6, s7, s8, s9, s10, s11, s12, s13, s14, s15, s16, s17, s18, s19, s20, s21, s22, s23⟩; go_simp; with_reducible rfl)
                  refine tx (v := ?_) 25 (some 79) (tf 27 33) HT_ HW_ hHeld ?_ ?_
                  rotate_left; (· rintro w' ⟨s0, s1, s2, s3, s4, s5, s6, s7, s8, s9, s10, s11, s12, s13, s14, s15, s16, s17, s18, s19, s20, s21, s22, s23⟩; go_simp; with_reducible rfl)
                  refine px 27 (some 81) (tf 28 33) HT_ ?_
                  refine px 28 (some 82) (tf 29 33) HT_ ?_
                  refine tx (v := ?_) 29 (some 83) (tf 30 33) HT_ HW_ hHeld ?_ ?_
                  rotate_left; (· rintro w' ⟨s0, s1, s2, s3, s4, s5, s6, s7, s8, s9, s10, s11, s12, s13, s14, s15, s16, s17, s18, s19, s20, s21, s22, s23⟩; go_simp; with_reducible rfl)
                  refine px 30 (some 84) (tf 31 33) HT_ ?_
                  refine px 31 (some 85) (tf 32 33) HT_ ?_
                  refine px 32 (some 86) (tf 33 33) HT_ ?_
                  refine done_ (done_of HT_.out t14_) ?_
                  try go_wp2
                  go_roundg k3
                  case measure => have := HK1.out; have := HJ6.out; have := HK3.out; omega
                  case rel => exact ⟨(wrap64 (x4_3 + 1)), t6_, H', ⟨(by have := HK1.out; have := HJ6.out; have := HK3.out; omega)⟩, ⟨t1_⟩⟩
                 ·rw [if_neg c20] at H
                  have c20b0 : (Op.bytesLess (((rd_T80 ((rd_T32 l0 0).f1) (ji17)).f0).toList) (((rd_T80 ((rd_T32 l0 0).f1) x4_3).f0).toList)) = false := by simpa using c20
                  clear c20
                  obtain rfl := Option.some.inj H
                  have p192 : 0 ≤ (0 : Int) := t28_
                  have q192 : 0 < (l0.length : Int) := of_decide_eq_true t3_
                  obtain ⟨ad192, A192_0, c192_0, A192_1, c192_1, e192, hx192_0, hx192_1, hl192_0, hi192_0, hl192_1, hi192_1⟩ := at_T32 HR0.out 0 p192 q192
                  obtain rfl : ad185 = ad192 := (by injection e192)
                  have qi192 : (0 < l0.length) = True := eq_true t28_
                  (try rw [za_] at hx192_0)
                  (try rw [za_] at hx192_1)
                  replace hx192_0 := hb_ HB hx192_0
                  replace hx192_1 := hb_ HB hx192_1
                  have HR192_0 := Aside0.mk hi192_0
                  have HC192_0 := Aside0.mk hl192_0
                  clear hi192_0 hl192_0
                  have HR192_1 := Aside0.mk hi192_1
                  have HC192_1 := Aside0.mk hl192_1
                  clear hi192_1 hl192_1
                  replace p192 := eq_true p192
                  replace q192 := eq_true q192
                  try go_wp2
                  have n0_ := Aside0.mk (below_drew1 HB.out)
                  clear HB
                  have HB := n0_
                  clear n0_
                  have p193 : 0 ≤ (0 : Int) := t28_
                  have q193 : 0 < (l0.length : Int) := of_decide_eq_true t3_
                  obtain ⟨ad193, A193_0, c193_0, A193_1, c193_1, e193, hx193_0, hx193_1, hl193_0, hi193_0, hl193_1, hi193_1⟩ := at_T32 HR0.out 0 p193 q193
                  have hw193_1 := hx193_1
                  (try rw [za_] at hw193_1)
                  have hw193_0 := hx193_0
                  (try rw [za_] at hw193_0)
                  obtain rfl : ad185 = ad193 := (by injection e193)
                  have qi193 : (0 < l0.length) = True := eq_true t28_
                  (try rw [za_] at hx193_0)
                  (try rw [za_] at hx193_1)
                  replace hx193_0 := hb_ HB hx193_0
                  replace hx193_1 := hb_ HB hx193_1
                  have HR193_0 := Aside0.mk hi193_0
                  have HC193_0 := Aside0.mk hl193_0
                  clear hi193_0 hl193_0
                  have HR193_1 := Aside0.mk hi193_1
                  have HC193_1 := Aside0.mk hl193_1
                  clear hi193_1 hl193_1
                  replace p193 := eq_true p193
                  replace q193 := eq_true q193
                  have p194 : 0 ≤ (x4_3 : Int) := of_decide_eq_true t3_
                  have q194 : x4_3 < (((rd_T32 l0 0).f1).length : Int) := of_decide_eq_true t3_
                  obtain ⟨ad194, e194, hx194_0, hx194_1, hx194_2, hx194_3, hx194_4, hx194_5⟩ := at_T80 HR193_1.out x4_3 p194 q194
                  have hw194_5 := hx194_5
                  have hw194_4 := hx194_4
                  have hw194_3 := hx194_3
                  have hw194_2 := hx194_2
                  have hw194_1 := hx194_1
                  have hw194_0 := hx194_0
                  cases e194
                  replace hx194_0 := hb_ HB hx194_0
                  replace hx194_1 := hb_ HB hx194_1
                  replace hx194_2 := hb_ HB hx194_2
                  replace hx194_3 := hb_ HB hx194_3
                  replace hx194_4 := hb_ HB hx194_4
                  replace hx194_5 := hb_ HB hx194_5
                  replace p194 := eq_true p194
                  replace q194 := eq_true q194
                  have p196 : 0 ≤ (0 : Int) := t28_
                  have q196 : 0 < (l0.length : Int) := of_decide_eq_true t3_
                  obtain ⟨ad196, A196_0, c196_0, A196_1, c196_1, e196, hx196_0, hx196_1, hl196_0, hi196_0, hl196_1, hi196_1⟩ := at_T32 HR0.out 0 p196 q196
                  have hw196_1 := hx196_1
                  (try rw [za_] at hw196_1)
                  have hw196_0 := hx196_0
                  (try rw [za_] at hw196_0)
                  obtain rfl : ad185 = ad196 := (by injection e196)
                  have qi196 : (0 < l0.length) = True := eq_true t28_
                  (try rw [za_] at hx196_0)
                  (try rw [za_] at hx196_1)
                  replace hx196_0 := hb_ HB hx196_0
                  replace hx196_1 := hb_ HB hx196_1
                  have HR196_0 := Aside0.mk hi196_0
                  have HC196_0 := Aside0.mk hl196_0
                  clear hi196_0 hl196_0
                  have HR196_1 := Aside0.mk hi196_1
                  have HC196_1 := Aside0.mk hl196_1
                  clear hi196_1 hl196_1
                  replace p196 := eq_true p196
                  replace q196 := eq_true q196
                  have ea_ := Option.some.inj (hx193_0.symm.trans hx196_0)
                  injection ea_ with ea_ en_ ec_
                  subst ea_
                  subst ec_
                  clear en_
                  have ea_ := Option.some.inj (hx193_1.symm.trans hx196_1)
                  injection ea_ with ea_ en_ ec_
                  subst ea_
                  subst ec_
                  clear en_
                  have p197 : 0 ≤ ((ji17) : Int) := of_decide_eq_true t3_
                  have q197 : (ji17) < (((rd_T32 l0 0).f1).length : Int) := of_decide_eq_true t3_
                  obtain ⟨ad197, e197, hx197_0, hx197_1, hx197_2, hx197_3, hx197_4, hx197_5⟩ := at_T80 HR196_1.out (ji17) p197 q197
                  have hw197_5 := hx197_5
                  have hw197_4 := hx197_4
                  have hw197_3 := hx197_3
                  have hw197_2 := hx197_2
                  have hw197_1 := hx197_1
                  have hw197_0 := hx197_0
                  obtain rfl : ad194 = ad197 := (by injection e197)
                  replace hx197_0 := hb_ HB hx197_0
                  replace hx197_1 := hb_ HB hx197_1
                  replace hx197_2 := hb_ HB hx197_2
                  replace hx197_3 := hb_ HB hx197_3
                  replace hx197_4 := hb_ HB hx197_4
                  replace hx197_5 := hb_ HB hx197_5
                  replace p197 := eq_true p197
                  replace q197 := eq_true q197
                  have p198 : 0 ≤ (0 : Int) := t28_
                  have q198 : 0 < (l0.length : Int) := of_decide_eq_true t3_
                  obtain ⟨ad198, A198_0, c198_0, A198_1, c198_1, e198, hx198_0, hx198_1, hl198_0, hi198_0, hl198_1, hi198_1⟩ := at_T32 HR0.out 0 p198 q198
                  have hw198_1 := hx198_1
                  (try rw [za_] at hw198_1)
                  have hw198_0 := hx198_0
                  (try rw [za_] at hw198_0)
                  obtain rfl : ad185 = ad198 := (by injection e198)
                  have qi198 : (0 < l0.length) = True := eq_true t28_
                  (try rw [za_] at hx198_0)
                  (try rw [za_] at hx198_1)
                  replace hx198_0 := hb_ HB hx198_0
                  replace hx198_1 := hb_ HB hx198_1
                  have HR198_0 := Aside0.mk hi198_0
                  have HC198_0 := Aside0.mk hl198_0
                  clear hi198_0 hl198_0
                  have HR198_1 := Aside0.mk hi198_1
                  have HC198_1 := Aside0.mk hl198_1
                  clear hi198_1 hl198_1
                  replace p198 := eq_true p198
                  replace q198 := eq_true q198
                  have ea_ := Option.some.inj (hx193_0.symm.trans hx198_0)
                  injection ea_ with ea_ en_ ec_
                  subst ea_
                  subst ec_
                  clear en_
                  have ea_ := Option.some.inj (hx193_1.symm.trans hx198_1)
                  injection ea_ with ea_ en_ ec_
                  subst ea_
                  subst ec_
                  clear en_
                  have p199 : 0 ≤ (x4_3 : Int) := of_decide_eq_true t3_
                  have q199 : x4_3 < (((rd_T32 l0 0).f1).length : Int) := of_decide_eq_true t3_
                  obtain ⟨ad199, e199, hx199_0, hx199_1, hx199_2, hx199_3, hx199_4, hx199_5⟩ := at_T80 HR198_1.out x4_3 p199 q199
                  have hw199_5 := hx199_5
                  have hw199_4 := hx199_4
                  have hw199_3 := hx199_3
                  have hw199_2 := hx199_2
                  have hw199_1 := hx199_1
                  have hw199_0 := hx199_0
                  obtain rfl : ad194 = ad199 := (by injection e199)
                  replace hx199_0 := hb_ HB hx199_0
                  replace hx199_1 := hb_ HB hx199_1
                  replace hx199_2 := hb_ HB hx199_2
                  replace hx199_3 := hb_ HB hx199_3
                  replace hx199_4 := hb_ HB hx199_4
                  replace hx199_5 := hb_ HB hx199_5
                  replace p199 := eq_true p199
                  replace q199 := eq_true q199
                  refine start_ (n := 33) (S := fun w' => w'.cell? ad185 = some (.slice A193_0 ((rd_T32 l0 0).f0).length c193_0) ∧ w'.cell? ⟨ad185.block, ad185.off + 1, none⟩ = some (.slice (some ad194) ((rd_T32 l0 0).f1).length c193_1) ∧ w'.cell? (ad194.add ((x4_3).toNat * 6)) = some (.string ((rd_T80 ((rd_T32 l0 0).f1) x4_3).f0)) ∧ w'.cell? ⟨(ad194.add ((x4_3).toNat * 6)).block, (ad194.add ((x4_3).toNat * 6)).off + 1, none⟩ = some (.int .i64 ((rd_T80 ((rd_T32 l0 0).f1) x4_3).f1)) ∧ w'.cell? ⟨(ad194.add ((x4_3).toNat * 6)).block, (ad194.add ((x4_3).toNat * 6)).off + 2, none⟩ = some (.int .i64 ((rd_T80 ((rd_T32 l0 0).f1) x4_3).f2)) ∧ w'.cell? ⟨(ad194.add ((x4_3).toNat * 6)).block, (ad194.add ((x4_3).toNat * 6)).off + 3, none⟩ = some (.int .i64 ((rd_T80 ((rd_T32 l0 0).f1) x4_3).f3)) ∧ w'.cell? ⟨(ad194.add ((x4_3).toNat * 6)).block, (ad194.add ((x4_3).toNat * 6)).off + 4, none⟩ = some (.int .i64 ((rd_T80 ((rd_T32 l0 0).f1) x4_3).f4)) ∧ w'.cell? ⟨(ad194.add ((x4_3).toNat * 6)).block, (ad194.add ((x4_3).toNat * 6)).off + 5, none⟩ = some (.int .i64 ((rd_T80 ((rd_T32 l0 0).f1) x4_3).f5)) ∧ w'.cell? ad185 = some (.slice A193_0 ((rd_T32 l0 0).f0).length c193_0) ∧ w'.cell? ⟨ad185.block, ad185.off + 1, none⟩ = some (.slice (some ad194) ((rd_T32 l0 0).f1).length c193_1) ∧ w'.cell? (ad194.add (((ji17)).toNat * 6)) = some (.string ((rd_T80 ((rd_T32 l0 0).f1) (ji17)).f0)) ∧ w'.cell? ⟨(ad194.add (((ji17)).toNat * 6)).block, (ad194.add (((ji17)).toNat * 6)).off + 1, none⟩ = some (.int .i64 ((rd_T80 ((rd_T32 l0 0).f1) (ji17)).f1)) ∧ w'.cell? ⟨(ad194.add (((ji17)).toNat * 6)).block, (ad194.add (((ji17)).toNat * 6)).off + 2, none⟩ = some (.int .i64 ((rd_T80 ((rd_T32 l0 0).f1) (ji17)).f2)) ∧ w'.cell? ⟨(ad194.add (((ji17)).toNat * 6)).block, (ad194.add (((ji17)).toNat * 6)).off + 3, none⟩ = some (.int .i64 ((rd_T80 ((rd_T32 l0 0).f1) (ji17)).f3)) ∧ w'.cell? ⟨(ad194.add (((ji17)).toNat * 6)).block, (ad194.add (((ji17)).toNat * 6)).off + 4, none⟩ = some (.int .i64 ((rd_T80 ((rd_T32 l0 0).f1) (ji17)).f4)) ∧ w'.cell? ⟨(ad194.add (((ji17)).toNat * 6)).block, (ad194.add (((ji17)).toNat * 6)).off + 5, none⟩ = some (.int .i64 ((rd_T80 ((rd_T32 l0 0).f1) (ji17)).f5)) ∧ w'.cell? ad185 = some (.slice A193_0 ((rd_T32 l0 0).f0).length c193_0) ∧ w'.cell? ⟨ad185.block, ad185.off + 1, none⟩ = some (.slice (some ad194) ((rd_T32 l0 0).f1).length c193_1) ∧ w'.cell? (ad194.add ((x4_3).toNat * 6)) = some (.string ((rd_T80 ((rd_T32 l0 0).f1) x4_3).f0)) ∧ w'.cell? ⟨(ad194.add ((x4_3).toNat * 6)).block, (ad194.add ((x4_3).toNat * 6)).off + 1, none⟩ = some (.int .i64 ((rd_T80 ((rd_T32 l0 0).f1) x4_3).f1)) ∧ w'.cell? ⟨(ad194.add ((x4_3).toNat * 6)).block, (ad194.add ((x4_3).toNat * 6)).off + 2, none⟩ = some (.int .i64 ((rd_T80 ((rd_T32 l0 0).f1) x4_3).f2)) ∧ w'.cell? ⟨(ad194.add ((x4_3).toNat * 6)).block, (ad194.add ((x4_3).toNat * 6)).off + 3, none⟩ = some (.int .i64 ((rd_T80 ((rd_T32 l0 0).f1) x4_3).f3)) ∧ w'.cell? ⟨(ad194.add ((x4_3).toNat * 6)).block, (ad194.add ((x4_3).toNat * 6)).off + 4, none⟩ = some (.int .i64 ((rd_T80 ((rd_T32 l0 0).f1) x4_3).f4)) ∧ w'.cell? ⟨(ad194.add ((x4_3).toNat * 6)).block, (ad194.add ((x4_3).toNat * 6)).off + 5, none⟩ = some (.int .i64 ((rd_T80 ((rd_T32 l0 0).f1) x4_3).f5))) (ds := []) (tf 0 33) t14_ rfl rfl ⟨(hb_ HB hw193_0 :), (hb_ HB hw193_1 :), (hb_ HB hw194_0 :), (hb_ HB hw194_1 :), (hb_ HB hw194_2 :), (hb_ HB hw194_3 :), (hb_ HB hw194_4 :), (hb_ HB hw194_5 :), (hb_ HB hw196_0 :), (hb_ HB hw196_1 :), (hb_ HB hw197_0 :), (hb_ HB hw197_1 :), (hb_ HB hw197_2 :), (hb_ HB hw197_3 :), (hb_ HB hw197_4 :), (hb_ HB hw197_5 :), (hb_ HB hw198_0 :), (hb_ HB hw198_1 :), (hb_ HB hw199_0 :), (hb_ HB hw199_1 :), (hb_ HB hw199_2 :), (hb_ HB hw199_3 :), (hb_ HB hw199_4 :), (hb_ HB hw199_5 :)⟩ (fun hHeld => ?_); refine with_tabW spec_l04Ok.tab11 spec_l04Ok.bits11 (fun HT_ HW_ => ?_)
                  generalize wr.drew = w23 at HB HR193_0 HR193_1 HR196_0 HR196_1 HR198_0 HR198_1 hx193_0 hx193_1 hx194_0 hx194_1 hx194_2 hx194_3 hx194_4 hx194_5 hx196_0 hx196_1 hx197_0 hx197_1 hx197_2 hx197_3 hx197_4 hx197_5 hx198_0 hx198_1 hx199_0 hx199_1 hx199_2 hx199_3 hx199_4 hx199_5 hHeld ⊢
                  refine px 0 (some 54) (tf 1 33) HT_ ?_
                  refine px 1 (some 55) (tf 2 33) HT_ ?_
                  refine px 2 (some 56) (tf 3 33) HT_ ?_
                  refine px 3 (some 57) (tf 4 33) HT_ ?_
                  refine px 5 (some 59) (tb 33 47) HT_ ?_
                  refine tx (v := ?_) 4 (some 58) (tf 6 33) HT_ HW_ hHeld ?_ ?_
                  rotate_left; (· rintro w' ⟨s0, s1, s2, s3, s4, s5, s6, s7, s8, s9, s10, s11, s12, s13, s14, s15, s16, s17, s18, s19, s20, s21, s22, s23⟩; go_simp; with_reducible rfl)
                  refine px 6 (some 60) (tf 7 33) HT_ ?_
                  refine one_ (i := 7) (N := some 61) (tf 8 33) rfl rfl (one_of HT_.out t14_) t31_ (fun K hK => ?_)
                  refine goes_ Try.func86 t14_ rfl #[.pointer (some ad185), .pointer (some (ad194.add (x4_3.toNat * 6)))] t71_ rfl rfl t2_ ?_
                  with_reducible refine (spec_l04Fits.calls k3 _ c0 l0 _ 1 [rd_T80 ((rd_T32 l0 0).f1) x4_3] true _ ?side1 ?side2 ?side3 ?side4 A14.out).mono ?_
                  (case side1 => repeat (first | exact (Kd.C_below HR0.out HB.out) | (with_reducible refine Kd.C_alloc ?_ _) | (with_reducible refine Kd.C_drewN ?_ _) | (with_reducible refine Kd.C_drew ?_)))
                  (case side2 => exact HC0.out)
                  (case side3 => exact Kd.C_sub (z := z80) (n := ((rd_T32 l0 0).f1).length) (t43_) (by first | exact p194 | exact of_eq_true p194 | omega) (by first | exact q194 | exact of_eq_true q194 | omega))
                  (case side4 => exact Nat.le_refl _)
                  rintro e w24 ⟨rfl, hb⟩
                  refine ⟨_, rfl, ?_⟩
                  have n0_ := Aside0.mk (below_step t1_ hb)
                  clear HB
                  have HB := n0_
                  clear n0_
                  (try clear hb)
                  (try clear hb2)
                  (try clear hk)
                  (try clear hi)
                  refine hK.out _ _ ⟨(hb_ HB hw193_0 :), (hb_ HB hw193_1 :), (hb_ HB hw194_0 :), (hb_ HB hw194_1 :), (hb_ HB hw194_2 :), (hb_ HB hw194_3 :), (hb_ HB hw194_4 :), (hb_ HB hw194_5 :), (hb_ HB hw196_0 :), (hb_ HB hw196_1 :), (hb_ HB hw197_0 :), (hb_ HB hw197_1 :), (hb_ HB hw197_2 :), (hb_ HB hw197_3 :), (hb_ HB hw197_4 :), (hb_ HB hw197_5 :), (hb_ HB hw198_0 :), (hb_ HB hw198_1 :), (hb_ HB hw199_0 :), (hb_ HB hw199_1 :), (hb_ HB hw199_2 :), (hb_ HB hw199_3 :), (hb_ HB hw199_4 :), (hb_ HB hw199_5 :)⟩ (fun hHeld => ?_)
                  clear hK K
                  refine norm_ (a' := ?_) ?_ ?_
                  rotate_left
                  ·show Act.put _ (some 61) _ = _
                   simp only [Act.put, List.setIfInBounds_toArray, List.set_cons_zero, List.set_cons_succ, i64_w, i32_w]
                   rfl
                  refine px 8 (some 62) (tf 9 33) HT_ ?_
                  refine px 9 (some 63) (tf 10 33) HT_ ?_
                  refine px 10 (some 64) (tf 11 33) HT_ ?_
                  refine px 11 (some 65) (tf 12 33) HT_ ?_
                  refine px 12 (some 66) (tf 13 33) HT_ ?_
                  refine px 13 (some 67) (tf 14 33) HT_ ?_
                  refine px 14 (some 68) (tf 15 33) HT_ ?_
                  refine px 15 (some 69) (tf 16 33) HT_ ?_
                  refine px 17 (some 71) (tb 33 196607) HT_ ?_
                  refine px 18 (some 72) (tb 33 458751) HT_ ?_
                  refine px 22 (some 76) (tb 33 4653055) HT_ ?_
                  refine px 23 (some 77) (tb 33 13041663) HT_ ?_
                  refine px 24 (some 78) (tb 33 29818879) HT_ ?_
                  refine px 26 (some 80) (tb 33 96927743) HT_ ?_
                  refine tx (v := ?_) 16 (some 70) (tb 33 96993279) HT_ HW_ hHeld ?_ ?_
                  rotate_left; (· rintro w' ⟨s0, s1, s2, s3, s4, s5, s6, s7, s8, s9, s10, s11, s12, s13, s14, s15, s16, s17, s18, s19, s20, s21, s22, s23⟩; go_simp; with_reducible rfl)
                  refine px 19 (some 73) (tb 33 97517567) HT_ ?_
                  refine px 20 (some 74) (tb 33 98566143) HT_ ?_
                  refine tx (v := ?_) 21 (some 75) (tb 33 100663295) HT_ HW_ hHeld ?_ ?_
                  rotate_left; (· rintro w' ⟨s0, s1, s2, s3, s4, s5, s6, s7, s8, s9, s10, s11, s12, s13, s14, s15, s16, s17, s18, s19, s20, s21, s22, s23⟩; go_simp; with_reducible rfl)
                  refine tx (v := ?_) 25 (some 79) (tf 27 33) HT_ HW_ hHeld ?_ ?_
                  rotate_left; (· rintro w' ⟨s0, s1, s2, s3, s4, s5, s6, s7, s8, s9, s10, s11, s12, s13, s14, s15, s16, s17, s18, s19, s20, s21, s22, s23⟩; go_simp; with_reducible rfl)
                  refine px 27 (some 81) (tf 28 33) HT_ ?_
                  refine px 28 (some 82) (tf 29 33) HT_ ?_
                  refine tx (v := ?_) 29 (some 83) (tf 30 33) HT_ HW_ hHeld ?_ ?_
                  rotate_left; (· rintro w' ⟨s0, s1, s2, s3, s4, s5, s6, s7, s8, s9, s10, s11, s12, s13, s14, s15, s16, s17, s18, s19, s20, s21, s22, s23⟩; go_simp; with_reducible rfl)
                  refine px 30 (some 84) (tf 31 33) HT_ ?_
                  refine px 31 (some 85) (tf 32 33) HT_ ?_
                  refine px 32 (some 86) (tf 33 33) HT_ ?_
                  refine done_ (done_of HT_.out t14_) ?_
                  try go_wp2
                  go_ret
                  exact ⟨(by first | rfl | (rw [Int.tdiv_eq_ediv_of_nonneg t28_]; rfl) | (simp [errW_none, errW_some] <;> rfl) | (simp only [← hji17]; first | rfl | (simp [errW_none, errW_some] <;> rfl)) | (simp [*, errW_none, errW_some] <;> rfl)), t1_⟩
                ·rw [if_neg c19] at H
                 exact absurd H t44_
               ·rw [if_neg c18] at H
                exact absurd H t44_
              ·rw [if_neg c16] at H
               have c16b0 : decide (0 < x4_3) = false := decide_eq_false c16
               clear c16
               have H' := Aside0.mk H
               clear H
               have p192 : 0 ≤ (0 : Int) := t28_
               have q192 : 0 < (l0.length : Int) := of_decide_eq_true t3_
               obtain ⟨ad192, A192_0, c192_0, A192_1, c192_1, e192, hx192_0, hx192_1, hl192_0, hi192_0, hl192_1, hi192_1⟩ := at_T32 HR0.out 0 p192 q192
               obtain rfl : ad185 = ad192 := (by injection e192)
               have qi192 : (0 < l0.length) = True := eq_true t28_
               (try rw [za_] at hx192_0)
               (try rw [za_] at hx192_1)
               replace hx192_0 := hb_ HB hx192_0
               replace hx192_1 := hb_ HB hx192_1
               have HR192_0 := Aside0.mk hi192_0
               have HC192_0 := Aside0.mk hl192_0
               clear hi192_0 hl192_0
               have HR192_1 := Aside0.mk hi192_1
               have HC192_1 := Aside0.mk hl192_1
               clear hi192_1 hl192_1
               replace p192 := eq_true p192
               replace q192 := eq_true q192
               try go_wp2
               have n0_ := Aside0.mk (below_drew1 HB.out)
               clear HB
               have HB := n0_
               clear n0_
               have p193 : 0 ≤ (0 : Int) := t28_
               have q193 : 0 < (l0.length : Int) := of_decide_eq_true t3_
               obtain ⟨ad193, A193_0, c193_0, A193_1, c193_1, e193, hx193_0, hx193_1, hl193_0, hi193_0, hl193_1, hi193_1⟩ := at_T32 HR0.out 0 p193 q193
               have hw193_1 := hx193_1
               (try rw [za_] at hw193_1)
               have hw193_0 := hx193_0
               (try rw [za_] at hw193_0)
               obtain rfl : ad185 = ad193 := (by injection e193)
               have qi193 : (0 < l0.length) = True := eq_true t28_
               (try rw [za_] at hx193_0)
               (try rw [za_] at hx193_1)
               replace hx193_0 := hb_ HB hx193_0
               replace hx193_1 := hb_ HB hx193_1
               have HR193_0 := Aside0.mk hi193_0
               have HC193_0 := Aside0.mk hl193_0
               clear hi193_0 hl193_0
               have HR193_1 := Aside0.mk hi193_1
               have HC193_1 := Aside0.mk hl193_1
               clear hi193_1 hl193_1
               replace p193 := eq_true p193
               replace q193 := eq_true q193
               have p194 : 0 ≤ (x4_3 : Int) := of_decide_eq_true t3_
               have q194 : x4_3 < (((rd_T32 l0 0).f1).length : Int) := of_decide_eq_true t3_
               obtain ⟨ad194, e194, hx194_0, hx194_1, hx194_2, hx194_3, hx194_4, hx194_5⟩ := at_T80 HR193_1.out x4_3 p194 q194
               have hw194_5 := hx194_5
               have hw194_4 := hx194_4
               have hw194_3 := hx194_3
               have hw194_2 := hx194_2
               have hw194_1 := hx194_1
               have hw194_0 := hx194_0
               cases e194
               replace hx194_0 := hb_ HB hx194_0
               replace hx194_1 := hb_ HB hx194_1
               replace hx194_2 := hb_ HB hx194_2
               replace hx194_3 := hb_ HB hx194_3
               replace hx194_4 := hb_ HB hx194_4
               replace hx194_5 := hb_ HB hx194_5
               replace p194 := eq_true p194
               replace q194 := eq_true q194
               refine start_ (n := 33) (S := fun w' => w'.cell? ad185 = some (.slice A193_0 ((rd_T32 l0 0).f0).length c193_0) ∧ w'.cell? ⟨ad185.block, ad185.off + 1, none⟩ = some (.slice (some ad194) ((rd_T32 l0 0).f1).length c193_1) ∧ w'.cell? (ad194.add ((x4_3).toNat * 6)) = some (.string ((rd_T80 ((rd_T32 l0 0).f1) x4_3).f0)) ∧ w'.cell? ⟨(ad194.add ((x4_3).toNat * 6)).block, (ad194.add ((x4_3).toNat * 6)).off + 1, none⟩ = some (.int .i64 ((rd_T80 ((rd_T32 l0 0).f1) x4_3).f1)) ∧ w'.cell? ⟨(ad194.add ((x4_3).toNat * 6)).block, (ad194.add ((x4_3).toNat * 6)).off + 2, none⟩ = some (.int .i64 ((rd_T80 ((rd_T32 l0 0).f1) x4_3).f2)) ∧ w'.cell? ⟨(ad194.add ((x4_3).toNat * 6)).block, (ad194.add ((x4_3).toNat * 6)).off + 3, none⟩ = some (.int .i64 ((rd_T80 ((rd_T32 l0 0).f1) x4_3).f3)) ∧ w'.cell? ⟨(ad194.add ((x4_3).toNat * 6)).block, (ad194.add ((x4_3).toNat * 6)).off + 4, none⟩ = some (.int .i64 ((rd_T80 ((rd_T32 l0 0).f1) x4_3).f4)) ∧ w'.cell? ⟨(ad194.add ((x4_3).toNat * 6)).block, (ad194.add ((x4_3).toNat * 6)).off + 5, none⟩ = some (.int .i64 ((rd_T80 ((rd_T32 l0 0).f1) x4_3).f5))) (ds := []) (tf 0 33) t14_ rfl rfl ⟨(hb_ HB hw193_0 :), (hb_ HB hw193_1 :), (hb_ HB hw194_0 :), (hb_ HB hw194_1 :), (hb_ HB hw194_2 :), (hb_ HB hw194_3 :), (hb_ HB hw194_4 :), (hb_ HB hw194_5 :)⟩ (fun hHeld => ?_); refine with_tabW spec_l04Ok.tab11 spec_l04Ok.bits11 (fun HT_ HW_ => ?_)
               generalize wr.drew = w25 at HB HR193_0 HR193_1 hx193_0 hx193_1 hx194_0 hx194_1 hx194_2 hx194_3 hx194_4 hx194_5 hHeld ⊢
               refine px 0 (some 54) (tf 1 33) HT_ ?_
               refine px 1 (some 55) (tf 2 33) HT_ ?_
               refine px 2 (some 56) (tf 3 33) HT_ ?_
               refine px 3 (some 57) (tf 4 33) HT_ ?_
               refine px 5 (some 59) (tb 33 47) HT_ ?_
               refine tx (v := ?_) 4 (some 58) (tf 6 33) HT_ HW_ hHeld ?_ ?_
               rotate_left; (· rintro w' ⟨s0, s1, s2, s3, s4, s5, s6, s7⟩; go_simp; with_reducible rfl)
               refine px 6 (some 60) (tf 7 33) HT_ ?_
               refine one_ (i := 7) (N := some 61) (tf 8 33) rfl rfl (one_of HT_.out t14_) t31_ (fun K hK => ?_)
               refine goes_ Try.func86 t14_ rfl #[.pointer (some ad185), .pointer (some (ad194.add (x4_3.toNat * 6)))] t71_ rfl rfl t2_ ?_
               with_reducible refine (spec_l04Fits.calls k3 _ c0 l0 _ 1 [rd_T80 ((rd_T32 l0 0).f1) x4_3] true _ ?side1 ?side2 ?side3 ?side4 A14.out).mono ?_
               (case side1 => repeat (first | exact (Kd.C_below HR0.out HB.out) | (with_reducible refine Kd.C_alloc ?_ _) | (with_reducible refine Kd.C_drewN ?_ _) | (with_reducible refine Kd.C_drew ?_)))
               (case side2 => exact HC0.out)
               (case side3 => exact Kd.C_sub (z := z80) (n := ((rd_T32 l0 0).f1).length) (t43_) (by first | exact p194 | exact of_eq_true p194 | omega) (by first | exact q194 | exact of_eq_true q194 | omega))
               (case side4 => exact Nat.le_refl _)
               rintro e w26 ⟨rfl, hb⟩
               refine ⟨_, rfl, ?_⟩
               have n0_ := Aside0.mk (below_step t1_ hb)
               clear HB
               have HB := n0_
               clear n0_
               (try clear hb)
               (try clear hb2)
               (try clear hk)
               (try clear hi)
               refine hK.out _ _ ⟨(hb_ HB hw193_0 :), (hb_ HB hw193_1 :), (hb_ HB hw194_0 :), (hb_ HB hw194_1 :), (hb_ HB hw194_2 :), (hb_ HB hw194_3 :), (hb_ HB hw194_4 :), (hb_ HB hw194_5 :)⟩ (fun hHeld => ?_)
               clear hK K
               refine norm_ (a' := ?_) ?_ ?_
               rotate_left
               ·show Act.put _ (some 61) _ = _
                simp only [Act.put, List.setIfInBounds_toArray, List.set_cons_zero, List.set_cons_succ, i64_w, i32_w]
                rfl
               refine px 8 (some 62) (tf 9 33) HT_ ?_
               refine px 9 (some 63) (tf 10 33) HT_ ?_
               refine px 10 (some 64) (tf 11 33) HT_ ?_
               refine px 11 (some 65) (tf 12 33) HT_ ?_
               refine px 12 (some 66) (tf 13 33) HT_ ?_
               refine sx 13 (some 67) (tf 14 33) HT_ ?_
               refine sx 14 (some 68) (tf 15 33) HT_ ?_
               refine sx 15 (some 69) (tf 16 33) HT_ ?_
               refine sx 16 (some 70) (tf 17 33) HT_ ?_
               refine sx 17 (some 71) (tf 18 33) HT_ ?_
               refine sx 18 (some 72) (tf 19 33) HT_ ?_
               refine sx 19 (some 73) (tf 20 33) HT_ ?_
               refine sx 20 (some 74) (tf 21 33) HT_ ?_
               refine sx 21 (some 75) (tf 22 33) HT_ ?_
               refine sx 22 (some 76) (tf 23 33) HT_ ?_
               refine sx 23 (some 77) (tf 24 33) HT_ ?_
               refine sx 24 (some 78) (tf 25 33) HT_ ?_
               refine sx 25 (some 79) (tf 26 33) HT_ ?_
               refine sx 26 (some 80) (tf 27 33) HT_ ?_
               refine sx 27 (some 81) (tf 28 33) HT_ ?_
               refine sx 28 (some 82) (tf 29 33) HT_ ?_
               refine sx 29 (some 83) (tf 30 33) HT_ ?_
               refine sx 30 (some 84) (tf 31 33) HT_ ?_
               refine px 31 (some 85) (tf 32 33) HT_ ?_
               refine px 32 (some 86) (tf 33 33) HT_ ?_
               refine done_ (done_of HT_.out t14_) ?_
               try go_wp2
               go_roundg k3
               case measure => have := HK1.out; have := HJ6.out; have := HK3.out; omega
               case rel => exact ⟨(wrap64 (x4_3 + 1)), t6_, H', ⟨(by have := HK1.out; have := HJ6.out; have := HK3.out; omega)⟩, ⟨t1_⟩⟩
             ·replace c15 := Bool.eq_false_iff.mpr c15
              subst c15
              have H1 : (some false) = some r := by rw [if_neg (show ¬ (false = true) by decide)] at H; exact H
              clear H
              have H := H1
              clear H1
              obtain rfl := Option.some.inj H
              have p192 : 0 ≤ (0 : Int) := t28_
              have q192 : 0 < (l0.length : Int) := of_decide_eq_true t3_
              obtain ⟨ad192, A192_0, c192_0, A192_1, c192_1, e192, hx192_0, hx192_1, hl192_0, hi192_0, hl192_1, hi192_1⟩ := at_T32 HR0.out 0 p192 q192
              obtain rfl : ad185 = ad192 := (by injection e192)
              have qi192 : (0 < l0.length) = True := eq_true t28_
              (try rw [za_] at hx192_0)
              (try rw [za_] at hx192_1)
              replace hx192_0 := hb_ HB hx192_0
              replace hx192_1 := hb_ HB hx192_1
              have HR192_0 := Aside0.mk hi192_0
              have HC192_0 := Aside0.mk hl192_0
              clear hi192_0 hl192_0
              have HR192_1 := Aside0.mk hi192_1
              have HC192_1 := Aside0.mk hl192_1
              clear hi192_1 hl192_1
              replace p192 := eq_true p192
              replace q192 := eq_true q192
              try go_wp2
              have n0_ := Aside0.mk (below_drew1 HB.out)
              clear HB
              have HB := n0_
              clear n0_
              have p193 : 0 ≤ (0 : Int) := t28_
              have q193 : 0 < (l0.length : Int) := of_decide_eq_true t3_
              obtain ⟨ad193, A193_0, c193_0, A193_1, c193_1, e193, hx193_0, hx193_1, hl193_0, hi193_0, hl193_1, hi193_1⟩ := at_T32 HR0.out 0 p193 q193
              have hw193_1 := hx193_1
              (try rw [za_] at hw193_1)
              have hw193_0 := hx193_0
              (try rw [za_] at hw193_0)
              obtain rfl : ad185 = ad193 := (by injection e193)
              have qi193 : (0 < l0.length) = True := eq_true t28_
              (try rw [za_] at hx193_0)
              (try rw [za_] at hx193_1)
              replace hx193_0 := hb_ HB hx193_0
              replace hx193_1 := hb_ HB hx193_1
              have HR193_0 := Aside0.mk hi193_0
              have HC193_0 := Aside0.mk hl193_0
              clear hi193_0 hl193_0
              have HR193_1 := Aside0.mk hi193_1
              have HC193_1 := Aside0.mk hl193_1
              clear hi193_1 hl193_1
              replace p193 := eq_true p193
              replace q193 := eq_true q193
              have p194 : 0 ≤ (x4_3 : Int) := of_decide_eq_true t3_
              have q194 : x4_3 < (((rd_T32 l0 0).f1).length : Int) := of_decide_eq_true t3_
              obtain ⟨ad194, e194, hx194_0, hx194_1, hx194_2, hx194_3, hx194_4, hx194_5⟩ := at_T80 HR193_1.out x4_3 p194 q194
              have hw194_5 := hx194_5
              have hw194_4 := hx194_4
              have hw194_3 := hx194_3
              have hw194_2 := hx194_2
              have hw194_1 := hx194_1
              have hw194_0 := hx194_0
              cases e194
              replace hx194_0 := hb_ HB hx194_0
              replace hx194_1 := hb_ HB hx194_1
              replace hx194_2 := hb_ HB hx194_2
              replace hx194_3 := hb_ HB hx194_3
              replace hx194_4 := hb_ HB hx194_4
              replace hx194_5 := hb_ HB hx194_5
              replace p194 := eq_true p194
              replace q194 := eq_true q194
              refine start_ (n := 33) (S := fun w' => w'.cell? ad185 = some (.slice A193_0 ((rd_T32 l0 0).f0).length c193_0) ∧ w'.cell? ⟨ad185.block, ad185.off + 1, none⟩ = some (.slice (some ad194) ((rd_T32 l0 0).f1).length c193_1) ∧ w'.cell? (ad194.add ((x4_3).toNat * 6)) = some (.string ((rd_T80 ((rd_T32 l0 0).f1) x4_3).f0)) ∧ w'.cell? ⟨(ad194.add ((x4_3).toNat * 6)).block, (ad194.add ((x4_3).toNat * 6)).off + 1, none⟩ = some (.int .i64 ((rd_T80 ((rd_T32 l0 0).f1) x4_3).f1)) ∧ w'.cell? ⟨(ad194.add ((x4_3).toNat * 6)).block, (ad194.add ((x4_3).toNat * 6)).off + 2, none⟩ = some (.int .i64 ((rd_T80 ((rd_T32 l0 0).f1) x4_3).f2)) ∧ w'.cell? ⟨(ad194.add ((x4_3).toNat * 6)).block, (ad194.add ((x4_3).toNat * 6)).off + 3, none⟩ = some (.int .i64 ((rd_T80 ((rd_T32 l0 0).f1) x4_3).f3)) ∧ w'.cell? ⟨(ad194.add ((x4_3).toNat * 6)).block, (ad194.add ((x4_3).toNat * 6)).off + 4, none⟩ = some (.int .i64 ((rd_T80 ((rd_T32 l0 0).f1) x4_3).f4)) ∧ w'.cell? ⟨(ad194.add ((x4_3).toNat * 6)).block, (ad194.add ((x4_3).toNat * 6)).off + 5, none⟩ = some (.int .i64 ((rd_T80 ((rd_T32 l0 0).f1) x4_3).f5))) (ds := []) (tf 0 33) t14_ rfl rfl ⟨(hb_ HB hw193_0 :), (hb_ HB hw193_1 :), (hb_ HB hw194_0 :), (hb_ HB hw194_1 :), (hb_ HB hw194_2 :), (hb_ HB hw194_3 :), (hb_ HB hw194_4 :), (hb_ HB hw194_5 :)⟩ (fun hHeld => ?_); refine with_tabW spec_l04Ok.tab11 spec_l04Ok.bits11 (fun HT_ HW_ => ?_)
              generalize wr.drew = w27 at HB HR193_0 HR193_1 hx193_0 hx193_1 hx194_0 hx194_1 hx194_2 hx194_3 hx194_4 hx194_5 hHeld ⊢
              refine px 0 (some 54) (tf 1 33) HT_ ?_
              refine px 1 (some 55) (tf 2 33) HT_ ?_
              refine px 2 (some 56) (tf 3 33) HT_ ?_
              refine px 3 (some 57) (tf 4 33) HT_ ?_
              refine px 5 (some 59) (tb 33 47) HT_ ?_
              refine tx (v := ?_) 4 (some 58) (tf 6 33) HT_ HW_ hHeld ?_ ?_
              rotate_left; (· rintro w' ⟨s0, s1, s2, s3, s4, s5, s6, s7⟩; go_simp; with_reducible rfl)
              refine px 6 (some 60) (tf 7 33) HT_ ?_
              refine one_ (i := 7) (N := some 61) (tf 8 33) rfl rfl (one_of HT_.out t14_) t31_ (fun K hK => ?_)
              refine goes_ Try.func86 t14_ rfl #[.pointer (some ad185), .pointer (some (ad194.add (x4_3.toNat * 6)))] t71_ rfl rfl t2_ ?_
              with_reducible refine (spec_l04Fits.calls k3 _ c0 l0 _ 1 [rd_T80 ((rd_T32 l0 0).f1) x4_3] false _ ?side1 ?side2 ?side3 ?side4 A14.out).mono ?_
              (case side1 => repeat (first | exact (Kd.C_below HR0.out HB.out) | (with_reducible refine Kd.C_alloc ?_ _) | (with_reducible refine Kd.C_drewN ?_ _) | (with_reducible refine Kd.C_drew ?_)))
              (case side2 => exact HC0.out)
              (case side3 => exact Kd.C_sub (z := z80) (n := ((rd_T32 l0 0).f1).length) (t43_) (by first | exact p194 | exact of_eq_true p194 | omega) (by first | exact q194 | exact of_eq_true q194 | omega))
              (case side4 => exact Nat.le_refl _)
              rintro e w28 ⟨rfl, hb⟩
              refine ⟨_, rfl, ?_⟩
              have n0_ := Aside0.mk (below_step t1_ hb)
              clear HB
              have HB := n0_
              clear n0_
              (try clear hb)
              (try clear hb2)
              (try clear hk)
              (try clear hi)
              refine hK.out _ _ ⟨(hb_ HB hw193_0 :), (hb_ HB hw193_1 :), (hb_ HB hw194_0 :), (hb_ HB hw194_1 :), (hb_ HB hw194_2 :), (hb_ HB hw194_3 :), (hb_ HB hw194_4 :), (hb_ HB hw194_5 :)⟩ (fun hHeld => ?_)
              clear hK K
              refine norm_ (a' := ?_) ?_ ?_
              rotate_left
              ·show Act.put _ (some 61) _ = _
               simp only [Act.put, List.setIfInBounds_toArray, List.set_cons_zero, List.set_cons_succ, i64_w, i32_w]
               rfl
              refine px 8 (some 62) (tf 9 33) HT_ ?_
              refine px 9 (some 63) (tf 10 33) HT_ ?_
              refine sx 10 (some 64) (tf 11 33) HT_ ?_
              refine sx 11 (some 65) (tf 12 33) HT_ ?_
              refine sx 12 (some 66) (tf 13 33) HT_ ?_
              refine sx 13 (some 67) (tf 14 33) HT_ ?_
              refine sx 14 (some 68) (tf 15 33) HT_ ?_
              refine sx 15 (some 69) (tf 16 33) HT_ ?_
              refine sx 16 (some 70) (tf 17 33) HT_ ?_
              refine sx 17 (some 71) (tf 18 33) HT_ ?_
              refine sx 18 (some 72) (tf 19 33) HT_ ?_
              refine sx 19 (some 73) (tf 20 33) HT_ ?_
              refine sx 20 (some 74) (tf 21 33) HT_ ?_
              refine sx 21 (some 75) (tf 22 33) HT_ ?_
              refine sx 22 (some 76) (tf 23 33) HT_ ?_
              refine sx 23 (some 77) (tf 24 33) HT_ ?_
              refine sx 24 (some 78) (tf 25 33) HT_ ?_
              refine sx 25 (some 79) (tf 26 33) HT_ ?_
              refine sx 26 (some 80) (tf 27 33) HT_ ?_
              refine sx 27 (some 81) (tf 28 33) HT_ ?_
              refine sx 28 (some 82) (tf 29 33) HT_ ?_
              refine sx 29 (some 83) (tf 30 33) HT_ ?_
              refine sx 30 (some 84) (tf 31 33) HT_ ?_
              refine sx 31 (some 85) (tf 32 33) HT_ ?_
              refine px 32 (some 86) (tf 33 33) HT_ ?_
              refine done_ (done_of HT_.out t14_) ?_
              try go_wp2
              go_ret
              exact ⟨t5_, t1_⟩
            ·rw [if_neg c13] at H
             exact absurd H t44_
           ·rw [if_neg c12] at H
            have c12b0 : decide (x4_3 < (((rd_T32 l0 0).f1).length : Int)) = false := decide_eq_false c12
            clear c12
            obtain rfl := Option.some.inj H
            have p192 : 0 ≤ (0 : Int) := t28_
            have q192 : 0 < (l0.length : Int) := of_decide_eq_true t3_
            obtain ⟨ad192, A192_0, c192_0, A192_1, c192_1, e192, hx192_0, hx192_1, hl192_0, hi192_0, hl192_1, hi192_1⟩ := at_T32 HR0.out 0 p192 q192
            obtain rfl : ad185 = ad192 := (by injection e192)
            have qi192 : (0 < l0.length) = True := eq_true t28_
            (try rw [za_] at hx192_0)
            (try rw [za_] at hx192_1)
            replace hx192_0 := hb_ HB hx192_0
            replace hx192_1 := hb_ HB hx192_1
            have HR192_0 := Aside0.mk hi192_0
            have HC192_0 := Aside0.mk hl192_0
            clear hi192_0 hl192_0
            have HR192_1 := Aside0.mk hi192_1
            have HC192_1 := Aside0.mk hl192_1
            clear hi192_1 hl192_1
            replace p192 := eq_true p192
            replace q192 := eq_true q192
            go_wp2
            go_ret
            exact ⟨t5_, t1_⟩
          ·rw [if_neg c11] at H
           exact absurd H t44_
   ·rw [if_neg c2] at H
    exact absurd H t44_

end Go.Proofs.Ytjelfhmgbhidnaa.PFnExactCriticalPipes
