-- written by wip/xprint.py, a program of this session, for this claim; not trusted: Lean checks it.
import Derived.Test.YtjelfhmgbhidnaaPFnExactUnservedLoadx0
import Derived.Test.YtjelfhmgbhidnaaPFnExactUnservedLoadx2
import Derived.Test.YtjelfhmgbhidnaaPFnExactUnservedLoadx4
namespace Go.Proofs.Ytjelfhmgbhidnaa.PFnExactUnservedLoad
open Go.RowKit Go.Proofs.YtjelfhmgbhidnaaW.PrintWords Go.Proofs.YtjelfhmgbhidnaaW.PrintLast Go.Proofs.YtjelfhmgbhidnaaW.PrintMore
attribute [local go_sem] leq_less_ max2_int min2_int max_two min_two max_three min_three max_four min_four   -- for this text's walks alone
set_option linter.unusedVariables false
set_option linter.unusedSimpArgs false

/-! ### spec_l04Ok: function 54 -/
mutual
def spec_l04Ok.l0 : Nat → List (S32) → Int → Option (Bool)
 | 0, _, _ => none
 | k + 1, x0, x3 => if 0 < (x0.length : Int) then (if x3 < (((rd_T32 x0 0).f0).length : Int) then (if 0 ≤ x3 then ((spec_l00In.f (rd ((rd_T32 x0 0).f0) x3) (-100000) 100000).bind fun t171 => (if t171 = true then (spec_l04Ok.l0 k x0 (wrap64 (x3 + 1))) else (some false))) else (none)) else (if (((rd_T32 x0 0).f0).length : Int) < 1 then (spec_l04Ok.j1 k x0 true) else (if (((rd_T32 x0 0).f0).length : Int) > 16 then (spec_l04Ok.j1 k x0 true) else (spec_l04Ok.j1 k x0 (decide ((((rd_T32 x0 0).f1).length : Int) > 20)))))) else (none)
def spec_l04Ok.j1 : Nat → List (S32) → Bool → Option (Bool)
 | 0, _, _ => none
 | k + 1, x0, x44 => if x44 = true then (some false) else (spec_l04Ok.l1 k x0 0)
def spec_l04Ok.l1 : Nat → List (S32) → Int → Option (Bool)
 | 0, _, _ => none
 | k + 1, x0, x4 => if 0 < (x0.length : Int) then (if x4 < (((rd_T32 x0 0).f1).length : Int) then (if 0 ≤ x4 then ((spec_l04Fits.f k x0 [rd_T80 ((rd_T32 x0 0).f1) x4]).bind fun t178 => (if t178 = true then (if x4 > 0 then (if 0 ≤ (wrap64 (x4 - 1)) then (if (wrap64 (x4 - 1)) < (((rd_T32 x0 0).f1).length : Int) then (if ((Op.bytesLess (((rd_T80 ((rd_T32 x0 0).f1) (wrap64 (x4 - 1))).f0).toList) (((rd_T80 ((rd_T32 x0 0).f1) x4).f0).toList)) = true) then (spec_l04Ok.l1 k x0 (wrap64 (x4 + 1))) else (some false)) else (none)) else (none)) else (spec_l04Ok.l1 k x0 (wrap64 (x4 + 1)))) else (some false))) else (none)) else (some true)) else (none)
end
def spec_l04Ok.f (k : Nat) (l0 : List (S32)) : Option (Bool) := spec_l04Ok.l0 k l0 0
theorem spec_l04Ok.mono_l : ∀ k, (∀ y0 y1, LeO (spec_l04Ok.l0 k y0 y1) (spec_l04Ok.l0 (k + 1) y0 y1)) ∧ (∀ y0 y1, LeO (spec_l04Ok.j1 k y0 y1) (spec_l04Ok.j1 (k + 1) y0 y1)) ∧ (∀ y0 y1, LeO (spec_l04Ok.l1 k y0 y1) (spec_l04Ok.l1 (k + 1) y0 y1))
 | 0 => ⟨fun _ _ r h => by simp [spec_l04Ok.l0] at h, fun _ _ r h => by simp [spec_l04Ok.j1] at h, fun _ _ r h => by simp [spec_l04Ok.l1] at h⟩
 | k + 1 => by
  obtain ⟨ih0, ih1, ih2⟩ := spec_l04Ok.mono_l k
  refine ⟨?_, ?_, ?_⟩ <;> intros <;> first | unfold spec_l04Ok.l0 | unfold spec_l04Ok.j1 | unfold spec_l04Ok.l1
  all_goals
   repeat' first
   | (with_reducible exact ih0 _ _)
   | (with_reducible exact ih1 _ _)
   | (with_reducible exact ih2 _ _)
   | (with_reducible exact spec_l04Fits.mono _ _ _)
   | (with_reducible exact LeO.refl _)
   | (with_reducible exact LeO.none _)
   | (with_reducible refine LeO.ite ?_ ?_)
   | (with_reducible refine LeO.bind ?_ (fun _ => ?_))
   | exact ih0 _ _
   | exact ih1 _ _
   | exact ih2 _ _
   | exact spec_l04Fits.mono _ _ _
   | exact LeO.none _
   | refine LeO.ite ?_ ?_
   | refine LeO.bind ?_ (fun _ => ?_)
theorem spec_l04Ok.mono : ∀ a0 k, LeO (spec_l04Ok.f k a0) (spec_l04Ok.f (k + 1) a0) := by
 intro a0 k
 obtain ⟨ih0, ih1, ih2⟩ := spec_l04Ok.mono_l k
 unfold spec_l04Ok.f
 repeat' first
   | (with_reducible exact ih0 _ _)
   | (with_reducible exact ih1 _ _)
   | (with_reducible exact ih2 _ _)
   | (with_reducible exact spec_l04Fits.mono _ _ _)
   | (with_reducible exact LeO.refl _)
   | (with_reducible exact LeO.none _)
   | (with_reducible refine LeO.ite ?_ ?_)
   | (with_reducible refine LeO.bind ?_ (fun _ => ?_))
   | exact ih0 _ _
   | exact ih1 _ _
   | exact ih2 _ _
   | exact spec_l04Fits.mono _ _ _
   | exact LeO.none _
   | refine LeO.ite ?_ ?_
   | refine LeO.bind ?_ (fun _ => ?_)
def spec_l04Ok.T11 : Bool × List (List Nat × List Nat) := (true, [([], []), ([], []), ([1], [1]), ([2], [2]), ([3], [3]), ([], []), ([4, 5], [4, 5]), ([0, 6], [0, 6]), ([7], [7]), ([8, 7], [8]), ([9], [9]), ([10, 9], [9, 10]), ([11, 9, 9], [9, 11]), ([12], [12]), ([13, 12], [12, 13]), ([14, 12], [12, 14]), ([15, 12], [12, 15]), ([12], [12]), ([17, 12], [12, 17]), ([16, 18, 12], [12, 16, 18]), ([19, 12], [12, 19]), ([20, 12], [12, 20]), ([12], [12]), ([22, 12], [12, 22]), ([23, 12], [12, 23]), ([24, 12], [12, 24]), ([12], [12]), ([25, 26, 12], [12, 25, 26]), ([27, 12], [12, 27]), ([28, 12], [12, 28]), ([21, 29, 12], [12, 21, 29]), ([12, 30, 9], [9, 12, 30]), ([9, 31], [9, 31])])
def spec_l04Ok.B11 : List Nat := [0, 0, 2, 6, 14, 0, 62, 127, 255, 511, 1023, 2047, 4095, 8191, 16383, 32767, 65535, 8191, 139263, 524287, 1048575, 2097151, 8191, 4202495, 12591103, 29368319, 8191, 130031615, 264249343, 532684799, 1073741823, 2147483647, 4294967295]
theorem spec_l04Ok.tab11 : rtab .any (opsOf Try.f54 11) = spec_l04Ok.T11 := by kernel_rfl
theorem spec_l04Ok.bits11 : waitsOk spec_l04Ok.T11.2 spec_l04Ok.B11 = true := by kernel_rfl
set_option maxHeartbeats 8000000 in
set_option maxRecDepth 100000 in
theorem spec_l04Ok.calls (k : Nat) (A0 : Option Addr) (c0 : Nat) (l0 : List (S32)) (r : Bool) (w : World) (hr0 : Kd.C k32 w A0 l0.length l0) (hc0 : l0.length ≤ c0) (h : spec_l04Ok.f k l0 = some r) :
  Calls Try.prog 54 #[.pointer A0] w fun e w' => e = .returned (.bool r) ∧ Below w.heap.size w w' := by
 have HR0 := Aside0.mk hr0
 have HC0 := Aside0.mk hc0
 clear hr0 hc0
 have HB := Aside0.mk (Below.refl w.heap.size w)
 have H : (spec_l04Ok.l0 k l0 0) = some r := h
 clear h
 have H' := Aside0.mk H
 clear H
 go_enter Try.func54, Try.ntmps54
 go_wp2
 go_loopg [3] k (fun kq v3 w' => ∃ (x3_1 : Int), v3 = .int .i64 x3_1 ∧ Aside0 (spec_l04Ok.l0 kq l0 x3_1 = some r) ∧ Aside0 (kq ≤ k) ∧ Aside0 (Below w.heap.size w w'))
 case atStart => exact ⟨(0), t5_, H', ⟨Nat.le_refl _⟩, ⟨by repeat (first | (with_reducible first | exact HB.out | apply below_alloc | apply pw_below_drewN | apply below_drew1) | exact HB.out)⟩⟩
 case round =>
  clear H'
  obtain ⟨x3_1, rfl, HA, HK1, HB⟩ := hrel
  cases gk with
  | zero => exact absurd HA.out (by simp [spec_l04Ok.l0])
  | succ k1 =>
   have H := HA.out
   clear HA
   simp only [spec_l04Ok.l0] at H
   by_cases c2 : 0 < (l0.length : Int)
   ·rw [if_pos c2] at H
    have c2b0 : decide (0 < (l0.length : Int)) = true := decide_eq_true c2
    have c2b1 : decide (0 < l0.length) = true := decide_eq_true t11_
    clear c2
    by_cases c3 : x3_1 < (((rd_T32 l0 0).f0).length : Int)
    ·rw [if_pos c3] at H
     have c3b0 : decide (x3_1 < (((rd_T32 l0 0).f0).length : Int)) = true := decide_eq_true c3
     clear c3
     by_cases c4 : 0 ≤ x3_1
     ·rw [if_pos c4] at H
      have c4b0 : decide (0 ≤ x3_1) = true := decide_eq_true c4
      clear c4
      replace H := Option.bind_eq_some_iff.mp H
      obtain ⟨t171, A50, H⟩ := H
      replace H : (if t171 = true then (spec_l04Ok.l0 k1 l0 (wrap64 (x3_1 + 1))) else (some false)) = some r := H
      have A5 := Aside0.mk A50
      clear A50
      by_cases c6 : t171 = true
      ·subst c6
       have H1 : (spec_l04Ok.l0 k1 l0 (wrap64 (x3_1 + 1))) = some r := by rw [if_pos rfl] at H; exact H
       clear H
       have H := H1
       clear H1
       have H' := Aside0.mk H
       clear H
       have p168 : 0 ≤ (0 : Int) := t11_
       have q168 : 0 < (l0.length : Int) := of_decide_eq_true t3_
       obtain ⟨ad168, A168_0, c168_0, A168_1, c168_1, e168, hx168_0, hx168_1, hl168_0, hi168_0, hl168_1, hi168_1⟩ := at_T32 HR0.out 0 p168 q168
       cases e168
       have qi168 : (0 < l0.length) = True := eq_true t11_
       (try rw [show ((0 : Int)).toNat = 0 from rfl] at hx168_0)
       (try rw [show 0 * 2 = 0 from rfl] at hx168_0)
       (try rw [Addr.add_zero'] at hx168_0)
       (try rw [show ((0 : Int)).toNat = 0 from rfl] at hx168_1)
       (try rw [show 0 * 2 = 0 from rfl] at hx168_1)
       (try rw [Addr.add_zero'] at hx168_1)
       replace hx168_0 := (HB.out.cell (World.block_lt_of_cell? w _ hx168_0)).trans hx168_0
       replace hx168_1 := (HB.out.cell (World.block_lt_of_cell? w _ hx168_1)).trans hx168_1
       have HR168_0 := Aside0.mk hi168_0
       have HC168_0 := Aside0.mk hl168_0
       clear hi168_0 hl168_0
       have HR168_1 := Aside0.mk hi168_1
       have HC168_1 := Aside0.mk hl168_1
       clear hi168_1 hl168_1
       replace p168 := eq_true p168
       replace q168 := eq_true q168
       have p169 : 0 ≤ (0 : Int) := t11_
       have q169 : 0 < (l0.length : Int) := of_decide_eq_true t3_
       obtain ⟨ad169, A169_0, c169_0, A169_1, c169_1, e169, hx169_0, hx169_1, hl169_0, hi169_0, hl169_1, hi169_1⟩ := at_T32 HR0.out 0 p169 q169
       obtain rfl : ad168 = ad169 := (by injection e169)
       have qi169 : (0 < l0.length) = True := eq_true t11_
       (try rw [show ((0 : Int)).toNat = 0 from rfl] at hx169_0)
       (try rw [show 0 * 2 = 0 from rfl] at hx169_0)
       (try rw [Addr.add_zero'] at hx169_0)
       (try rw [show ((0 : Int)).toNat = 0 from rfl] at hx169_1)
       (try rw [show 0 * 2 = 0 from rfl] at hx169_1)
       (try rw [Addr.add_zero'] at hx169_1)
       replace hx169_0 := (HB.out.cell (World.block_lt_of_cell? w _ hx169_0)).trans hx169_0
       replace hx169_1 := (HB.out.cell (World.block_lt_of_cell? w _ hx169_1)).trans hx169_1
       have HR169_0 := Aside0.mk hi169_0
       have HC169_0 := Aside0.mk hl169_0
       clear hi169_0 hl169_0
       have HR169_1 := Aside0.mk hi169_1
       have HC169_1 := Aside0.mk hl169_1
       clear hi169_1 hl169_1
       replace p169 := eq_true p169
       replace q169 := eq_true q169
       have ea_ := Option.some.inj (hx168_0.symm.trans hx169_0)
       injection ea_ with ea_ en_ ec_
       subst ea_
       subst ec_
       clear en_
       have ea_ := Option.some.inj (hx168_1.symm.trans hx169_1)
       injection ea_ with ea_ en_ ec_
       subst ea_
       subst ec_
       clear en_
       have p170 : 0 ≤ (x3_1 : Int) := of_decide_eq_true t3_
       have q170 : x3_1 < (((rd_T32 l0 0).f0).length : Int) := of_decide_eq_true t3_
       obtain ⟨ad170, e170, hx170_0⟩ := Kd.at_int HR169_0.out x3_1 p170 q170
       cases e170
       replace hx170_0 := (HB.out.cell (World.block_lt_of_cell? w _ hx170_0)).trans hx170_0
       replace p170 := eq_true p170
       replace q170 := eq_true q170
       go_wp2_with (first | ((with_reducible refine gate_callee (f := 64) rfl ?_); refine goesL_ (some 21) rfl rfl Try.func64 t6_ rfl #[.int .i64 (rd ((rd_T32 l0 0).f0) x3_1), .int .i64 (-100000), .int .i64 100000] rfl t2_ ?_; (with_reducible refine (spec_l00In.calls (rd ((rd_T32 l0 0).f0) x3_1) (-100000) 100000 true _ A5.out).mono ?_); rintro e w' ⟨rfl, ⟨nd, rfl⟩⟩; refine ⟨_, rfl, ?_⟩))
       go_roundg k1
       case measure => have := HK1.out; omega
       case rel => exact ⟨(wrap64 (x3_1 + 1)), t5_, H', ⟨by have := HK1.out; omega⟩, ⟨by repeat (first | (with_reducible first | exact HB.out | apply below_alloc | apply pw_below_drewN | apply below_drew1) | exact HB.out)⟩⟩
      ·replace c6 := Bool.eq_false_iff.mpr c6
       subst c6
       have H1 : (some false) = some r := by rw [if_neg (show ¬ (false = true) by decide)] at H; exact H
       clear H
       have H := H1
       clear H1
       obtain rfl := Option.some.inj H
       have p168 : 0 ≤ (0 : Int) := t11_
       have q168 : 0 < (l0.length : Int) := of_decide_eq_true t3_
       obtain ⟨ad168, A168_0, c168_0, A168_1, c168_1, e168, hx168_0, hx168_1, hl168_0, hi168_0, hl168_1, hi168_1⟩ := at_T32 HR0.out 0 p168 q168
       cases e168
       have qi168 : (0 < l0.length) = True := eq_true t11_
       (try rw [show ((0 : Int)).toNat = 0 from rfl] at hx168_0)
       (try rw [show 0 * 2 = 0 from rfl] at hx168_0)
       (try rw [Addr.add_zero'] at hx168_0)
       (try rw [show ((0 : Int)).toNat = 0 from rfl] at hx168_1)
       (try rw [show 0 * 2 = 0 from rfl] at hx168_1)
       (try rw [Addr.add_zero'] at hx168_1)
       replace hx168_0 := (HB.out.cell (World.block_lt_of_cell? w _ hx168_0)).trans hx168_0
       replace hx168_1 := (HB.out.cell (World.block_lt_of_cell? w _ hx168_1)).trans hx168_1
       have HR168_0 := Aside0.mk hi168_0
       have HC168_0 := Aside0.mk hl168_0
       clear hi168_0 hl168_0
       have HR168_1 := Aside0.mk hi168_1
       have HC168_1 := Aside0.mk hl168_1
       clear hi168_1 hl168_1
       replace p168 := eq_true p168
       replace q168 := eq_true q168
       have p169 : 0 ≤ (0 : Int) := t11_
       have q169 : 0 < (l0.length : Int) := of_decide_eq_true t3_
       obtain ⟨ad169, A169_0, c169_0, A169_1, c169_1, e169, hx169_0, hx169_1, hl169_0, hi169_0, hl169_1, hi169_1⟩ := at_T32 HR0.out 0 p169 q169
       obtain rfl : ad168 = ad169 := (by injection e169)
       have qi169 : (0 < l0.length) = True := eq_true t11_
       (try rw [show ((0 : Int)).toNat = 0 from rfl] at hx169_0)
       (try rw [show 0 * 2 = 0 from rfl] at hx169_0)
       (try rw [Addr.add_zero'] at hx169_0)
       (try rw [show ((0 : Int)).toNat = 0 from rfl] at hx169_1)
       (try rw [show 0 * 2 = 0 from rfl] at hx169_1)
       (try rw [Addr.add_zero'] at hx169_1)
       replace hx169_0 := (HB.out.cell (World.block_lt_of_cell? w _ hx169_0)).trans hx169_0
       replace hx169_1 := (HB.out.cell (World.block_lt_of_cell? w _ hx169_1)).trans hx169_1
       have HR169_0 := Aside0.mk hi169_0
       have HC169_0 := Aside0.mk hl169_0
       clear hi169_0 hl169_0
       have HR169_1 := Aside0.mk hi169_1
       have HC169_1 := Aside0.mk hl169_1
       clear hi169_1 hl169_1
       replace p169 := eq_true p169
       replace q169 := eq_true q169
       have ea_ := Option.some.inj (hx168_0.symm.trans hx169_0)
       injection ea_ with ea_ en_ ec_
       subst ea_
       subst ec_
       clear en_
       have ea_ := Option.some.inj (hx168_1.symm.trans hx169_1)
       injection ea_ with ea_ en_ ec_
       subst ea_
       subst ec_
       clear en_
       have p170 : 0 ≤ (x3_1 : Int) := of_decide_eq_true t3_
       have q170 : x3_1 < (((rd_T32 l0 0).f0).length : Int) := of_decide_eq_true t3_
       obtain ⟨ad170, e170, hx170_0⟩ := Kd.at_int HR169_0.out x3_1 p170 q170
       cases e170
       replace hx170_0 := (HB.out.cell (World.block_lt_of_cell? w _ hx170_0)).trans hx170_0
       replace p170 := eq_true p170
       replace q170 := eq_true q170
       go_wp2_with (first | ((with_reducible refine gate_callee (f := 64) rfl ?_); refine goesL_ (some 21) rfl rfl Try.func64 t6_ rfl #[.int .i64 (rd ((rd_T32 l0 0).f0) x3_1), .int .i64 (-100000), .int .i64 100000] rfl t2_ ?_; (with_reducible refine (spec_l00In.calls (rd ((rd_T32 l0 0).f0) x3_1) (-100000) 100000 false _ A5.out).mono ?_); rintro e w' ⟨rfl, ⟨nd, rfl⟩⟩; refine ⟨_, rfl, ?_⟩))
       go_ret
       exact ⟨by first | rfl | (rw [Int.tdiv_eq_ediv_of_nonneg t11_]; rfl) | (simp [errW_none, errW_some] <;> rfl) | (simp [*, errW_none, errW_some] <;> rfl), by repeat (first | (with_reducible first | exact HB.out | apply below_alloc | apply pw_below_drewN | apply below_drew1) | exact HB.out)⟩
     ·rw [if_neg c4] at H
      exact absurd H t30_
    ·rw [if_neg c3] at H
     have c3b0 : decide (x3_1 < (((rd_T32 l0 0).f0).length : Int)) = false := decide_eq_false c3
     clear c3
     have HC7 := Aside0.mk H
     clear H
     have p168 : 0 ≤ (0 : Int) := t11_
     have q168 : 0 < (l0.length : Int) := of_decide_eq_true t3_
     obtain ⟨ad168, A168_0, c168_0, A168_1, c168_1, e168, hx168_0, hx168_1, hl168_0, hi168_0, hl168_1, hi168_1⟩ := at_T32 HR0.out 0 p168 q168
     cases e168
     have qi168 : (0 < l0.length) = True := eq_true t11_
     (try rw [show ((0 : Int)).toNat = 0 from rfl] at hx168_0)
     (try rw [show 0 * 2 = 0 from rfl] at hx168_0)
     (try rw [Addr.add_zero'] at hx168_0)
     (try rw [show ((0 : Int)).toNat = 0 from rfl] at hx168_1)
     (try rw [show 0 * 2 = 0 from rfl] at hx168_1)
     (try rw [Addr.add_zero'] at hx168_1)
     replace hx168_0 := (HB.out.cell (World.block_lt_of_cell? w _ hx168_0)).trans hx168_0
     replace hx168_1 := (HB.out.cell (World.block_lt_of_cell? w _ hx168_1)).trans hx168_1
     have HR168_0 := Aside0.mk hi168_0
     have HC168_0 := Aside0.mk hl168_0
     clear hi168_0 hl168_0
     have HR168_1 := Aside0.mk hi168_1
     have HC168_1 := Aside0.mk hl168_1
     clear hi168_1 hl168_1
     replace p168 := eq_true p168
     replace q168 := eq_true q168
     go_upto_region 6 with (fail)
     go_cut [44] (fun v44 wc => ∃ (kq : Nat) (x44_6 : Bool), v44 = .bool x44_6 ∧ Aside0 (spec_l04Ok.j1 kq l0 x44_6 = some r) ∧ Aside0 (kq ≤ k1) ∧ Aside0 (Below w.heap.size w wc))
     case first =>
      have H := HC7.out
      clear HC7
      by_cases c8 : (((rd_T32 l0 0).f0).length : Int) < 1
      ·rw [if_pos c8] at H
       have c8b0 : decide ((((rd_T32 l0 0).f0).length : Int) < 1) = true := decide_eq_true c8
       have c8b1 : decide (((rd_T32 l0 0).f0).length < 1) = true := decide_eq_true t11_
       clear c8
       (first | rw [c8b0] | (simp only [i64_w, i32_w]; rw [c8b0]) | skip)
       have H' := Aside0.mk H
       clear H
       have p172 : 0 ≤ (0 : Int) := t11_
       have q172 : 0 < (l0.length : Int) := of_decide_eq_true t3_
       obtain ⟨ad172, A172_0, c172_0, A172_1, c172_1, e172, hx172_0, hx172_1, hl172_0, hi172_0, hl172_1, hi172_1⟩ := at_T32 HR0.out 0 p172 q172
       obtain rfl : ad168 = ad172 := (by injection e172)
       have qi172 : (0 < l0.length) = True := eq_true t11_
       (try rw [show ((0 : Int)).toNat = 0 from rfl] at hx172_0)
       (try rw [show 0 * 2 = 0 from rfl] at hx172_0)
       (try rw [Addr.add_zero'] at hx172_0)
       (try rw [show ((0 : Int)).toNat = 0 from rfl] at hx172_1)
       (try rw [show 0 * 2 = 0 from rfl] at hx172_1)
       (try rw [Addr.add_zero'] at hx172_1)
       replace hx172_0 := (HB.out.cell (World.block_lt_of_cell? w _ hx172_0)).trans hx172_0
       replace hx172_1 := (HB.out.cell (World.block_lt_of_cell? w _ hx172_1)).trans hx172_1
       have HR172_0 := Aside0.mk hi172_0
       have HC172_0 := Aside0.mk hl172_0
       clear hi172_0 hl172_0
       have HR172_1 := Aside0.mk hi172_1
       have HC172_1 := Aside0.mk hl172_1
       clear hi172_1 hl172_1
       replace p172 := eq_true p172
       replace q172 := eq_true q172
       go_wp2
       go_meet
       case rel => exact ⟨_, (true), t5_, H', ⟨by have := HK1.out; first | omega | exact Nat.le_refl _⟩, ⟨by repeat (first | (with_reducible first | exact HB.out | apply below_alloc | apply pw_below_drewN | apply below_drew1) | exact HB.out)⟩⟩
      ·rw [if_neg c8] at H
       have c8b0 : decide ((((rd_T32 l0 0).f0).length : Int) < 1) = false := decide_eq_false c8
       have c8b1 : decide (((rd_T32 l0 0).f0).length < 1) = false := decide_eq_false t11_
       clear c8
       (first | rw [c8b0] | (simp only [i64_w, i32_w]; rw [c8b0]) | skip)
       by_cases c9 : (((rd_T32 l0 0).f0).length : Int) > 16
       ·rw [if_pos c9] at H
        have c9b0 : decide (16 < (((rd_T32 l0 0).f0).length : Int)) = true := decide_eq_true c9
        have c9b1 : decide (16 < ((rd_T32 l0 0).f0).length) = true := decide_eq_true t11_
        clear c9
        have H' := Aside0.mk H
        clear H
        have p172 : 0 ≤ (0 : Int) := t11_
        have q172 : 0 < (l0.length : Int) := of_decide_eq_true t3_
        obtain ⟨ad172, A172_0, c172_0, A172_1, c172_1, e172, hx172_0, hx172_1, hl172_0, hi172_0, hl172_1, hi172_1⟩ := at_T32 HR0.out 0 p172 q172
        obtain rfl : ad168 = ad172 := (by injection e172)
        have qi172 : (0 < l0.length) = True := eq_true t11_
        (try rw [show ((0 : Int)).toNat = 0 from rfl] at hx172_0)
        (try rw [show 0 * 2 = 0 from rfl] at hx172_0)
        (try rw [Addr.add_zero'] at hx172_0)
        (try rw [show ((0 : Int)).toNat = 0 from rfl] at hx172_1)
        (try rw [show 0 * 2 = 0 from rfl] at hx172_1)
        (try rw [Addr.add_zero'] at hx172_1)
        replace hx172_0 := (HB.out.cell (World.block_lt_of_cell? w _ hx172_0)).trans hx172_0
        replace hx172_1 := (HB.out.cell (World.block_lt_of_cell? w _ hx172_1)).trans hx172_1
        have HR172_0 := Aside0.mk hi172_0
        have HC172_0 := Aside0.mk hl172_0
        clear hi172_0 hl172_0
        have HR172_1 := Aside0.mk hi172_1
        have HC172_1 := Aside0.mk hl172_1
        clear hi172_1 hl172_1
        replace p172 := eq_true p172
        replace q172 := eq_true q172
        have p173 : 0 ≤ (0 : Int) := t11_
        have q173 : 0 < (l0.length : Int) := of_decide_eq_true t3_
        obtain ⟨ad173, A173_0, c173_0, A173_1, c173_1, e173, hx173_0, hx173_1, hl173_0, hi173_0, hl173_1, hi173_1⟩ := at_T32 HR0.out 0 p173 q173
        obtain rfl : ad168 = ad173 := (by injection e173)
        have qi173 : (0 < l0.length) = True := eq_true t11_
        (try rw [show ((0 : Int)).toNat = 0 from rfl] at hx173_0)
        (try rw [show 0 * 2 = 0 from rfl] at hx173_0)
        (try rw [Addr.add_zero'] at hx173_0)
        (try rw [show ((0 : Int)).toNat = 0 from rfl] at hx173_1)
        (try rw [show 0 * 2 = 0 from rfl] at hx173_1)
        (try rw [Addr.add_zero'] at hx173_1)
        replace hx173_0 := (HB.out.cell (World.block_lt_of_cell? w _ hx173_0)).trans hx173_0
        replace hx173_1 := (HB.out.cell (World.block_lt_of_cell? w _ hx173_1)).trans hx173_1
        have HR173_0 := Aside0.mk hi173_0
        have HC173_0 := Aside0.mk hl173_0
        clear hi173_0 hl173_0
        have HR173_1 := Aside0.mk hi173_1
        have HC173_1 := Aside0.mk hl173_1
        clear hi173_1 hl173_1
        replace p173 := eq_true p173
        replace q173 := eq_true q173
        have ea_ := Option.some.inj (hx172_0.symm.trans hx173_0)
        injection ea_ with ea_ en_ ec_
        subst ea_
        subst ec_
        clear en_
        have ea_ := Option.some.inj (hx172_1.symm.trans hx173_1)
        injection ea_ with ea_ en_ ec_
        subst ea_
        subst ec_
        clear en_
        go_wp2
        go_meet
        case rel => exact ⟨_, (true), t5_, H', ⟨by have := HK1.out; first | omega | exact Nat.le_refl _⟩, ⟨by repeat (first | (with_reducible first | exact HB.out | apply below_alloc | apply pw_below_drewN | apply below_drew1) | exact HB.out)⟩⟩
       ·rw [if_neg c9] at H
        have c9b0 : decide (16 < (((rd_T32 l0 0).f0).length : Int)) = false := decide_eq_false c9
        have c9b1 : decide (16 < ((rd_T32 l0 0).f0).length) = false := decide_eq_false t11_
        clear c9
        have H' := Aside0.mk H
        clear H
        have p172 : 0 ≤ (0 : Int) := t11_
        have q172 : 0 < (l0.length : Int) := of_decide_eq_true t3_
        obtain ⟨ad172, A172_0, c172_0, A172_1, c172_1, e172, hx172_0, hx172_1, hl172_0, hi172_0, hl172_1, hi172_1⟩ := at_T32 HR0.out 0 p172 q172
        obtain rfl : ad168 = ad172 := (by injection e172)
        have qi172 : (0 < l0.length) = True := eq_true t11_
        (try rw [show ((0 : Int)).toNat = 0 from rfl] at hx172_0)
        (try rw [show 0 * 2 = 0 from rfl] at hx172_0)
        (try rw [Addr.add_zero'] at hx172_0)
        (try rw [show ((0 : Int)).toNat = 0 from rfl] at hx172_1)
        (try rw [show 0 * 2 = 0 from rfl] at hx172_1)
        (try rw [Addr.add_zero'] at hx172_1)
        replace hx172_0 := (HB.out.cell (World.block_lt_of_cell? w _ hx172_0)).trans hx172_0
        replace hx172_1 := (HB.out.cell (World.block_lt_of_cell? w _ hx172_1)).trans hx172_1
        have HR172_0 := Aside0.mk hi172_0
        have HC172_0 := Aside0.mk hl172_0
        clear hi172_0 hl172_0
        have HR172_1 := Aside0.mk hi172_1
        have HC172_1 := Aside0.mk hl172_1
        clear hi172_1 hl172_1
        replace p172 := eq_true p172
        replace q172 := eq_true q172
        have p173 : 0 ≤ (0 : Int) := t11_
        have q173 : 0 < (l0.length : Int) := of_decide_eq_true t3_
        obtain ⟨ad173, A173_0, c173_0, A173_1, c173_1, e173, hx173_0, hx173_1, hl173_0, hi173_0, hl173_1, hi173_1⟩ := at_T32 HR0.out 0 p173 q173
        obtain rfl : ad168 = ad173 := (by injection e173)
        have qi173 : (0 < l0.length) = True := eq_true t11_
        (try rw [show ((0 : Int)).toNat = 0 from rfl] at hx173_0)
        (try rw [show 0 * 2 = 0 from rfl] at hx173_0)
        (try rw [Addr.add_zero'] at hx173_0)
        (try rw [show ((0 : Int)).toNat = 0 from rfl] at hx173_1)
        (try rw [show 0 * 2 = 0 from rfl] at hx173_1)
        (try rw [Addr.add_zero'] at hx173_1)
        replace hx173_0 := (HB.out.cell (World.block_lt_of_cell? w _ hx173_0)).trans hx173_0
        replace hx173_1 := (HB.out.cell (World.block_lt_of_cell? w _ hx173_1)).trans hx173_1
        have HR173_0 := Aside0.mk hi173_0
        have HC173_0 := Aside0.mk hl173_0
        clear hi173_0 hl173_0
        have HR173_1 := Aside0.mk hi173_1
        have HC173_1 := Aside0.mk hl173_1
        clear hi173_1 hl173_1
        replace p173 := eq_true p173
        replace q173 := eq_true q173
        have ea_ := Option.some.inj (hx172_0.symm.trans hx173_0)
        injection ea_ with ea_ en_ ec_
        subst ea_
        subst ec_
        clear en_
        have ea_ := Option.some.inj (hx172_1.symm.trans hx173_1)
        injection ea_ with ea_ en_ ec_
        subst ea_
        subst ec_
        clear en_
        have p174 : 0 ≤ (0 : Int) := t11_
        have q174 : 0 < (l0.length : Int) := of_decide_eq_true t3_
        obtain ⟨ad174, A174_0, c174_0, A174_1, c174_1, e174, hx174_0, hx174_1, hl174_0, hi174_0, hl174_1, hi174_1⟩ := at_T32 HR0.out 0 p174 q174
        obtain rfl : ad168 = ad174 := (by injection e174)
        have qi174 : (0 < l0.length) = True := eq_true t11_
        (try rw [show ((0 : Int)).toNat = 0 from rfl] at hx174_0)
        (try rw [show 0 * 2 = 0 from rfl] at hx174_0)
        (try rw [Addr.add_zero'] at hx174_0)
        (try rw [show ((0 : Int)).toNat = 0 from rfl] at hx174_1)
        (try rw [show 0 * 2 = 0 from rfl] at hx174_1)
        (try rw [Addr.add_zero'] at hx174_1)
        replace hx174_0 := (HB.out.cell (World.block_lt_of_cell? w _ hx174_0)).trans hx174_0
        replace hx174_1 := (HB.out.cell (World.block_lt_of_cell? w _ hx174_1)).trans hx174_1
        have HR174_0 := Aside0.mk hi174_0
        have HC174_0 := Aside0.mk hl174_0
        clear hi174_0 hl174_0
        have HR174_1 := Aside0.mk hi174_1
        have HC174_1 := Aside0.mk hl174_1
        clear hi174_1 hl174_1
        replace p174 := eq_true p174
        replace q174 := eq_true q174
        have ea_ := Option.some.inj (hx172_0.symm.trans hx174_0)
        injection ea_ with ea_ en_ ec_
        subst ea_
        subst ec_
        clear en_
        have ea_ := Option.some.inj (hx172_1.symm.trans hx174_1)
        injection ea_ with ea_ en_ ec_
        subst ea_
        subst ec_
        clear en_
        go_wp2
        go_meet
        case rel => exact ⟨_, (decide ((((rd_T32 l0 0).f1).length : Int) > 20)), t5_, H', ⟨by have := HK1.out; first | omega | exact Nat.le_refl _⟩, ⟨by repeat (first | (with_reducible first | exact HB.out | apply below_alloc | apply pw_below_drewN | apply below_drew1) | exact HB.out)⟩⟩
     case rest =>
      clear HC7
      try clear c1
      try clear p1
      try clear q1
      try clear hx1
      try clear qi1
      try clear c2
      try clear c2b0
      try clear c2b1
      try clear p2
      try clear c3
      try clear c3b0
      try clear c4
      try clear c4b0
      try clear c5
      try clear c6
      try clear p6
      try clear c8
      try clear c8b0
      try clear c8b1
      try clear c9
      try clear c9b0
      try clear c9b1
      try clear hx168_0
      try clear hx168_1
      try clear hx169_0
      try clear hx169_1
      try clear hx170_0
      try clear hx172_0
      try clear hx172_1
      try clear hx173_0
      try clear hx173_1
      try clear hx174_0
      try clear hx174_1
      try clear p168
      try clear p169
      try clear p170
      try clear p172
      try clear p173
      try clear p174
      try clear q168
      try clear q169
      try clear q170
      try clear q172
      try clear q173
      try clear q174
      obtain ⟨kq, x44_6, rfl, HA, HJ6, HB⟩ := hcut
      cases kq with
      | zero => exact absurd HA.out (by simp [spec_l04Ok.j1])
      | succ kj6 =>
       have H := HA.out
       clear HA
       simp only [spec_l04Ok.j1] at H
       by_cases c10 : x44_6 = true
       ·subst c10
        have H1 : (some false) = some r := by rw [if_pos rfl] at H; exact H
        clear H
        have H := H1
        clear H1
        obtain rfl := Option.some.inj H
        go_wp2
        go_ret
        exact ⟨by first | rfl | (rw [Int.tdiv_eq_ediv_of_nonneg t11_]; rfl) | (simp [errW_none, errW_some] <;> rfl) | (simp [*, errW_none, errW_some] <;> rfl), by repeat (first | (with_reducible first | exact HB.out | apply below_alloc | apply pw_below_drewN | apply below_drew1) | exact HB.out)⟩
       ·replace c10 := Bool.eq_false_iff.mpr c10
        subst c10
        have H1 : (spec_l04Ok.l1 kj6 l0 0) = some r := by rw [if_neg (show ¬ (false = true) by decide)] at H; exact H
        clear H
        have H := H1
        clear H1
        have H' := Aside0.mk H
        clear H
        go_wp2
        go_loopg [4] kj6 (fun kq v4 w' => ∃ (x4_3 : Int), v4 = .int .i64 x4_3 ∧ Aside0 (spec_l04Ok.l1 kq l0 x4_3 = some r) ∧ Aside0 (kq ≤ kj6) ∧ Aside0 (Below w.heap.size w w'))
        case atStart => exact ⟨(0), t5_, H', ⟨Nat.le_refl _⟩, ⟨by repeat (first | (with_reducible first | exact HB.out | apply below_alloc | apply pw_below_drewN | apply below_drew1) | exact HB.out)⟩⟩
        case round =>
         clear H'
         try clear c1
         try clear p1
         try clear q1
         try clear hx1
         try clear qi1
         try clear c2
         try clear c2b0
         try clear c2b1
         try clear p2
         try clear c3
         try clear c3b0
         try clear c4
         try clear c4b0
         try clear c5
         try clear c6
         try clear p6
         try clear c8
         try clear c8b0
         try clear c8b1
         try clear c9
         try clear c9b0
         try clear c9b1
         try clear c10
         try clear hx168_0
         try clear hx168_1
         try clear hx169_0
         try clear hx169_1
         try clear hx170_0
         try clear hx172_0
         try clear hx172_1
         try clear hx173_0
         try clear hx173_1
         try clear hx174_0
         try clear hx174_1
         try clear p1
         try clear p168
         try clear p169
         try clear p170
         try clear p172
         try clear p173
         try clear p174
         try clear p2
         try clear p6
         try clear q1
         try clear q168
         try clear q169
         try clear q170
         try clear q172
         try clear q173
         try clear q174
         obtain ⟨x4_3, rfl, HA, HK3, HB⟩ := hrel
         cases gk with
         | zero => exact absurd HA.out (by simp [spec_l04Ok.l1])
         | succ k3 =>
          have H := HA.out
          clear HA
          simp only [spec_l04Ok.l1] at H
          by_cases c11 : 0 < (l0.length : Int)
          ·rw [if_pos c11] at H
           have c11b0 : decide (0 < (l0.length : Int)) = true := decide_eq_true c11
           have c11b1 : decide (0 < l0.length) = true := decide_eq_true t11_
           clear c11
           by_cases c12 : x4_3 < (((rd_T32 l0 0).f1).length : Int)
           ·rw [if_pos c12] at H
            have c12b0 : decide (x4_3 < (((rd_T32 l0 0).f1).length : Int)) = true := decide_eq_true c12
            clear c12
            by_cases c13 : 0 ≤ x4_3
            ·rw [if_pos c13] at H
             have c13b0 : decide (0 ≤ x4_3) = true := decide_eq_true c13
             clear c13
             replace H := Option.bind_eq_some_iff.mp H
             obtain ⟨t178, A140, H⟩ := H
             replace H : (if t178 = true then (if x4_3 > 0 then (if 0 ≤ (wrap64 (x4_3 - 1)) then (if (wrap64 (x4_3 - 1)) < (((rd_T32 l0 0).f1).length : Int) then (if ((Op.bytesLess (((rd_T80 ((rd_T32 l0 0).f1) (wrap64 (x4_3 - 1))).f0).toList) (((rd_T80 ((rd_T32 l0 0).f1) x4_3).f0).toList)) = true) then (spec_l04Ok.l1 k3 l0 (wrap64 (x4_3 + 1))) else (some false)) else (none)) else (none)) else (spec_l04Ok.l1 k3 l0 (wrap64 (x4_3 + 1)))) else (some false)) = some r := H
             have A14 := Aside0.mk A140
             clear A140
             by_cases c15 : t178 = true
             ·subst c15
              have H1 : (if x4_3 > 0 then (if 0 ≤ (wrap64 (x4_3 - 1)) then (if (wrap64 (x4_3 - 1)) < (((rd_T32 l0 0).f1).length : Int) then (if ((Op.bytesLess (((rd_T80 ((rd_T32 l0 0).f1) (wrap64 (x4_3 - 1))).f0).toList) (((rd_T80 ((rd_T32 l0 0).f1) x4_3).f0).toList)) = true) then (spec_l04Ok.l1 k3 l0 (wrap64 (x4_3 + 1))) else (some false)) else (none)) else (none)) else (spec_l04Ok.l1 k3 l0 (wrap64 (x4_3 + 1)))) = some r := by rw [if_pos rfl] at H; exact H
              clear H
              have H := H1
              clear H1
              by_cases c16 : x4_3 > 0
              ·rw [if_pos c16] at H
               have c16b0 : decide (0 < x4_3) = true := decide_eq_true c16
               clear c16
               obtain ⟨ji17, hji17⟩ : ∃ j_ : Int, (wrap64 (x4_3 - 1)) = j_ := ⟨_, rfl⟩
               replace H : (if 0 ≤ (ji17) then (if (ji17) < (((rd_T32 l0 0).f1).length : Int) then (if ((Op.bytesLess (((rd_T80 ((rd_T32 l0 0).f1) (ji17)).f0).toList) (((rd_T80 ((rd_T32 l0 0).f1) x4_3).f0).toList)) = true) then (spec_l04Ok.l1 k3 l0 (wrap64 (x4_3 + 1))) else (some false)) else (none)) else (none)) = some r := by first | (rw [hji17] at H; exact H) | (simp only [hji17] at H ⊢; exact H)
               (try rw [hji17] at A14)
               have hji17w : (IntKind.i64.wrap (x4_3 - 1)) = ji17 := (i64_w _).trans hji17
               by_cases c18 : 0 ≤ (ji17)
               ·rw [if_pos c18] at H
                have c18b0 : decide (0 ≤ (ji17)) = true := decide_eq_true c18
                clear c18
                by_cases c19 : (ji17) < (((rd_T32 l0 0).f1).length : Int)
                ·rw [if_pos c19] at H
                 have c19b0 : decide ((ji17) < (((rd_T32 l0 0).f1).length : Int)) = true := decide_eq_true c19
                 clear c19
                 by_cases c20 : ((Op.bytesLess (((rd_T80 ((rd_T32 l0 0).f1) (ji17)).f0).toList) (((rd_T80 ((rd_T32 l0 0).f1) x4_3).f0).toList)) = true)
                 ·rw [if_pos c20] at H
                  have c20b0 : (Op.bytesLess (((rd_T80 ((rd_T32 l0 0).f1) (ji17)).f0).toList) (((rd_T80 ((rd_T32 l0 0).f1) x4_3).f0).toList)) = true := c20
                  clear c20
                  have H' := Aside0.mk H
                  clear H
                  have p175 : 0 ≤ (0 : Int) := t11_
                  have q175 : 0 < (l0.length : Int) := of_decide_eq_true t3_
                  obtain ⟨ad175, A175_0, c175_0, A175_1, c175_1, e175, hx175_0, hx175_1, hl175_0, hi175_0, hl175_1, hi175_1⟩ := at_T32 HR0.out 0 p175 q175
                  obtain rfl : ad168 = ad175 := (by injection e175)
                  have qi175 : (0 < l0.length) = True := eq_true t11_
                  (try rw [show ((0 : Int)).toNat = 0 from rfl] at hx175_0)
                  (try rw [show 0 * 2 = 0 from rfl] at hx175_0)
                  (try rw [Addr.add_zero'] at hx175_0)
                  (try rw [show ((0 : Int)).toNat = 0 from rfl] at hx175_1)
                  (try rw [show 0 * 2 = 0 from rfl] at hx175_1)
                  (try rw [Addr.add_zero'] at hx175_1)
                  replace hx175_0 := (HB.out.cell (World.block_lt_of_cell? w _ hx175_0)).trans hx175_0
                  replace hx175_1 := (HB.out.cell (World.block_lt_of_cell? w _ hx175_1)).trans hx175_1
                  have HR175_0 := Aside0.mk hi175_0
                  have HC175_0 := Aside0.mk hl175_0
                  clear hi175_0 hl175_0
                  have HR175_1 := Aside0.mk hi175_1
                  have HC175_1 := Aside0.mk hl175_1
                  clear hi175_1 hl175_1
                  replace p175 := eq_true p175
                  replace q175 := eq_true q175
                  try go_wp2
                  have n0_ := Aside0.mk (below_drew1 HB.out)
                  clear HB
                  have HB := n0_
                  clear n0_
                  have p176 : 0 ≤ (0 : Int) := t11_
                  have q176 : 0 < (l0.length : Int) := of_decide_eq_true t3_
                  obtain ⟨ad176, A176_0, c176_0, A176_1, c176_1, e176, hx176_0, hx176_1, hl176_0, hi176_0, hl176_1, hi176_1⟩ := at_T32 HR0.out 0 p176 q176
                  have hw176_1 := hx176_1
                  (try rw [show ((0 : Int)).toNat = 0 from rfl] at hw176_1)
                  (try rw [show 0 * 2 = 0 from rfl] at hw176_1)
                  (try rw [Addr.add_zero'] at hw176_1)
                  have hw176_0 := hx176_0
                  (try rw [show ((0 : Int)).toNat = 0 from rfl] at hw176_0)
                  (try rw [show 0 * 2 = 0 from rfl] at hw176_0)
                  (try rw [Addr.add_zero'] at hw176_0)
                  obtain rfl : ad168 = ad176 := (by injection e176)
                  have qi176 : (0 < l0.length) = True := eq_true t11_
                  (try rw [show ((0 : Int)).toNat = 0 from rfl] at hx176_0)
                  (try rw [show 0 * 2 = 0 from rfl] at hx176_0)
                  (try rw [Addr.add_zero'] at hx176_0)
                  (try rw [show ((0 : Int)).toNat = 0 from rfl] at hx176_1)
                  (try rw [show 0 * 2 = 0 from rfl] at hx176_1)
                  (try rw [Addr.add_zero'] at hx176_1)
                  replace hx176_0 := (HB.out.cell (World.block_lt_of_cell? w _ hx176_0)).trans hx176_0
                  replace hx176_1 := (HB.out.cell (World.block_lt_of_cell? w _ hx176_1)).trans hx176_1
                  have HR176_0 := Aside0.mk hi176_0
                  have HC176_0 := Aside0.mk hl176_0
                  clear hi176_0 hl176_0
                  have HR176_1 := Aside0.mk hi176_1
                  have HC176_1 := Aside0.mk hl176_1
                  clear hi176_1 hl176_1
                  replace p176 := eq_true p176
                  replace q176 := eq_true q176
                  have p177 : 0 ≤ (x4_3 : Int) := of_decide_eq_true t3_
                  have q177 : x4_3 < (((rd_T32 l0 0).f1).length : Int) := of_decide_eq_true t3_
                  obtain ⟨ad177, e177, hx177_0, hx177_1, hx177_2, hx177_3, hx177_4, hx177_5⟩ := at_T80 HR176_1.out x4_3 p177 q177
                  have hw177_5 := hx177_5
                  have hw177_4 := hx177_4
                  have hw177_3 := hx177_3
                  have hw177_2 := hx177_2
                  have hw177_1 := hx177_1
                  have hw177_0 := hx177_0
                  cases e177
                  replace hx177_0 := (HB.out.cell (World.block_lt_of_cell? w _ hx177_0)).trans hx177_0
                  replace hx177_1 := (HB.out.cell (World.block_lt_of_cell? w _ hx177_1)).trans hx177_1
                  replace hx177_2 := (HB.out.cell (World.block_lt_of_cell? w _ hx177_2)).trans hx177_2
                  replace hx177_3 := (HB.out.cell (World.block_lt_of_cell? w _ hx177_3)).trans hx177_3
                  replace hx177_4 := (HB.out.cell (World.block_lt_of_cell? w _ hx177_4)).trans hx177_4
                  replace hx177_5 := (HB.out.cell (World.block_lt_of_cell? w _ hx177_5)).trans hx177_5
                  replace p177 := eq_true p177
                  replace q177 := eq_true q177
                  have p179 : 0 ≤ (0 : Int) := t11_
                  have q179 : 0 < (l0.length : Int) := of_decide_eq_true t3_
                  obtain ⟨ad179, A179_0, c179_0, A179_1, c179_1, e179, hx179_0, hx179_1, hl179_0, hi179_0, hl179_1, hi179_1⟩ := at_T32 HR0.out 0 p179 q179
                  have hw179_1 := hx179_1
                  (try rw [show ((0 : Int)).toNat = 0 from rfl] at hw179_1)
                  (try rw [show 0 * 2 = 0 from rfl] at hw179_1)
                  (try rw [Addr.add_zero'] at hw179_1)
                  have hw179_0 := hx179_0
                  (try rw [show ((0 : Int)).toNat = 0 from rfl] at hw179_0)
                  (try rw [show 0 * 2 = 0 from rfl] at hw179_0)
                  (try rw [Addr.add_zero'] at hw179_0)
                  obtain rfl : ad168 = ad179 := (by injection e179)
                  have qi179 : (0 < l0.length) = True := eq_true t11_
                  (try rw [show ((0 : Int)).toNat = 0 from rfl] at hx179_0)
                  (try rw [show 0 * 2 = 0 from rfl] at hx179_0)
                  (try rw [Addr.add_zero'] at hx179_0)
                  (try rw [show ((0 : Int)).toNat = 0 from rfl] at hx179_1)
                  (try rw [show 0 * 2 = 0 from rfl] at hx179_1)
                  (try rw [Addr.add_zero'] at hx179_1)
                  replace hx179_0 := (HB.out.cell (World.block_lt_of_cell? w _ hx179_0)).trans hx179_0
                  replace hx179_1 := (HB.out.cell (World.block_lt_of_cell? w _ hx179_1)).trans hx179_1
                  have HR179_0 := Aside0.mk hi179_0
                  have HC179_0 := Aside0.mk hl179_0
                  clear hi179_0 hl179_0
                  have HR179_1 := Aside0.mk hi179_1
                  have HC179_1 := Aside0.mk hl179_1
                  clear hi179_1 hl179_1
                  replace p179 := eq_true p179
                  replace q179 := eq_true q179
                  have ea_ := Option.some.inj (hx176_0.symm.trans hx179_0)
                  injection ea_ with ea_ en_ ec_
                  subst ea_
                  subst ec_
                  clear en_
                  have ea_ := Option.some.inj (hx176_1.symm.trans hx179_1)
                  injection ea_ with ea_ en_ ec_
                  subst ea_
                  subst ec_
                  clear en_
                  have p180 : 0 ≤ ((ji17) : Int) := of_decide_eq_true t3_
                  have q180 : (ji17) < (((rd_T32 l0 0).f1).length : Int) := of_decide_eq_true t3_
                  obtain ⟨ad180, e180, hx180_0, hx180_1, hx180_2, hx180_3, hx180_4, hx180_5⟩ := at_T80 HR179_1.out (ji17) p180 q180
                  have hw180_5 := hx180_5
                  have hw180_4 := hx180_4
                  have hw180_3 := hx180_3
                  have hw180_2 := hx180_2
                  have hw180_1 := hx180_1
                  have hw180_0 := hx180_0
                  obtain rfl : ad177 = ad180 := (by injection e180)
                  replace hx180_0 := (HB.out.cell (World.block_lt_of_cell? w _ hx180_0)).trans hx180_0
                  replace hx180_1 := (HB.out.cell (World.block_lt_of_cell? w _ hx180_1)).trans hx180_1
                  replace hx180_2 := (HB.out.cell (World.block_lt_of_cell? w _ hx180_2)).trans hx180_2
                  replace hx180_3 := (HB.out.cell (World.block_lt_of_cell? w _ hx180_3)).trans hx180_3
                  replace hx180_4 := (HB.out.cell (World.block_lt_of_cell? w _ hx180_4)).trans hx180_4
                  replace hx180_5 := (HB.out.cell (World.block_lt_of_cell? w _ hx180_5)).trans hx180_5
                  replace p180 := eq_true p180
                  replace q180 := eq_true q180
                  have p181 : 0 ≤ (0 : Int) := t11_
                  have q181 : 0 < (l0.length : Int) := of_decide_eq_true t3_
                  obtain ⟨ad181, A181_0, c181_0, A181_1, c181_1, e181, hx181_0, hx181_1, hl181_0, hi181_0, hl181_1, hi181_1⟩ := at_T32 HR0.out 0 p181 q181
                  have hw181_1 := hx181_1
                  (try rw [show ((0 : Int)).toNat = 0 from rfl] at hw181_1)
                  (try rw [show 0 * 2 = 0 from rfl] at hw181_1)
                  (try rw [Addr.add_zero'] at hw181_1)
                  have hw181_0 := hx181_0
                  (try rw [show ((0 : Int)).toNat = 0 from rfl] at hw181_0)
                  (try rw [show 0 * 2 = 0 from rfl] at hw181_0)
                  (try rw [Addr.add_zero'] at hw181_0)
                  obtain rfl : ad168 = ad181 := (by injection e181)
                  have qi181 : (0 < l0.length) = True := eq_true t11_
                  (try rw [show ((0 : Int)).toNat = 0 from rfl] at hx181_0)
                  (try rw [show 0 * 2 = 0 from rfl] at hx181_0)
                  (try rw [Addr.add_zero'] at hx181_0)
                  (try rw [show ((0 : Int)).toNat = 0 from rfl] at hx181_1)
                  (try rw [show 0 * 2 = 0 from rfl] at hx181_1)
                  (try rw [Addr.add_zero'] at hx181_1)
                  replace hx181_0 := (HB.out.cell (World.block_lt_of_cell? w _ hx181_0)).trans hx181_0
                  replace hx181_1 := (HB.out.cell (World.block_lt_of_cell? w _ hx181_1)).trans hx181_1
                  have HR181_0 := Aside0.mk hi181_0
                  have HC181_0 := Aside0.mk hl181_0
                  clear hi181_0 hl181_0
                  have HR181_1 := Aside0.mk hi181_1
                  have HC181_1 := Aside0.mk hl181_1
                  clear hi181_1 hl181_1
                  replace p181 := eq_true p181
                  replace q181 := eq_true q181
                  have ea_ := Option.some.inj (hx176_0.symm.trans hx181_0)
                  injection ea_ with ea_ en_ ec_
                  subst ea_
                  subst ec_
                  clear en_
                  have ea_ := Option.some.inj (hx176_1.symm.trans hx181_1)
                  injection ea_ with ea_ en_ ec_
                  subst ea_
                  subst ec_
                  clear en_
                  have p182 : 0 ≤ (x4_3 : Int) := of_decide_eq_true t3_
                  have q182 : x4_3 < (((rd_T32 l0 0).f1).length : Int) := of_decide_eq_true t3_
                  obtain ⟨ad182, e182, hx182_0, hx182_1, hx182_2, hx182_3, hx182_4, hx182_5⟩ := at_T80 HR181_1.out x4_3 p182 q182
                  have hw182_5 := hx182_5
                  have hw182_4 := hx182_4
                  have hw182_3 := hx182_3
                  have hw182_2 := hx182_2
                  have hw182_1 := hx182_1
                  have hw182_0 := hx182_0
                  obtain rfl : ad177 = ad182 := (by injection e182)
                  replace hx182_0 := (HB.out.cell (World.block_lt_of_cell? w _ hx182_0)).trans hx182_0
                  replace hx182_1 := (HB.out.cell (World.block_lt_of_cell? w _ hx182_1)).trans hx182_1
                  replace hx182_2 := (HB.out.cell (World.block_lt_of_cell? w _ hx182_2)).trans hx182_2
                  replace hx182_3 := (HB.out.cell (World.block_lt_of_cell? w _ hx182_3)).trans hx182_3
                  replace hx182_4 := (HB.out.cell (World.block_lt_of_cell? w _ hx182_4)).trans hx182_4
                  replace hx182_5 := (HB.out.cell (World.block_lt_of_cell? w _ hx182_5)).trans hx182_5
                  replace p182 := eq_true p182
                  replace q182 := eq_true q182
                  refine start_ (n := 33) (S := fun w' => w'.cell? ad168 = some (.slice A176_0 ((rd_T32 l0 0).f0).length c176_0) ∧ w'.cell? ⟨ad168.block, ad168.off + 1, none⟩ = some (.slice (some ad177) ((rd_T32 l0 0).f1).length c176_1) ∧ w'.cell? (ad177.add ((x4_3).toNat * 6)) = some (.string ((rd_T80 ((rd_T32 l0 0).f1) x4_3).f0)) ∧ w'.cell? ⟨(ad177.add ((x4_3).toNat * 6)).block, (ad177.add ((x4_3).toNat * 6)).off + 1, none⟩ = some (.int .i64 ((rd_T80 ((rd_T32 l0 0).f1) x4_3).f1)) ∧ w'.cell? ⟨(ad177.add ((x4_3).toNat * 6)).block, (ad177.add ((x4_3).toNat * 6)).off + 2, none⟩ = some (.int .i64 ((rd_T80 ((rd_T32 l0 0).f1) x4_3).f2)) ∧ w'.cell? ⟨(ad177.add ((x4_3).toNat * 6)).block, (ad177.add ((x4_3).toNat * 6)).off + 3, none⟩ = some (.int .i64 ((rd_T80 ((rd_T32 l0 0).f1) x4_3).f3)) ∧ w'.cell? ⟨(ad177.add ((x4_3).toNat * 6)).block, (ad177.add ((x4_3).toNat * 6)).off + 4, none⟩ = some (.int .i64 ((rd_T80 ((rd_T32 l0 0).f1) x4_3).f4)) ∧ w'.cell? ⟨(ad177.add ((x4_3).toNat * 6)).block, (ad177.add ((x4_3).toNat * 6)).off + 5, none⟩ = some (.int .i64 ((rd_T80 ((rd_T32 l0 0).f1) x4_3).f5)) ∧ w'.cell? ad168 = some (.slice A176_0 ((rd_T32 l0 0).f0).length c176_0) ∧ w'.cell? ⟨ad168.block, ad168.off + 1, none⟩ = some (.slice (some ad177) ((rd_T32 l0 0).f1).length c176_1) ∧ w'.cell? (ad177.add (((ji17)).toNat * 6)) = some (.string ((rd_T80 ((rd_T32 l0 0).f1) (ji17)).f0)) ∧ w'.cell? ⟨(ad177.add (((ji17)).toNat * 6)).block, (ad177.add (((ji17)).toNat * 6)).off + 1, none⟩ = some (.int .i64 ((rd_T80 ((rd_T32 l0 0).f1) (ji17)).f1)) ∧ w'.cell? ⟨(ad177.add (((ji17)).toNat * 6)).block, (ad177.add (((ji17)).toNat * 6)).off + 2, none⟩ = some (.int .i64 ((rd_T80 ((rd_T32 l0 0).f1) (ji17)).f2)) ∧ w'.cell? ⟨(ad177.add (((ji17)).toNat * 6)).block, (ad177.add (((ji17)).toNat * 6)).off + 3, none⟩ = some (.int .i64 ((rd_T80 ((rd_T32 l0 0).f1) (ji17)).f3)) ∧ w'.cell? ⟨(ad177.add (((ji17)).toNat * 6)).block, (ad177.add (((ji17)).toNat * 6)).off + 4, none⟩ = some (.int .i64 ((rd_T80 ((rd_T32 l0 0).f1) (ji17)).f4)) ∧ w'.cell? ⟨(ad177.add (((ji17)).toNat * 6)).block, (ad177.add (((ji17)).toNat * 6)).off + 5, none⟩ = some (.int .i64 ((rd_T80 ((rd_T32 l0 0).f1) (ji17)).f5)) ∧ w'.cell? ad168 = some (.slice A176_0 ((rd_T32 l0 0).f0).length c176_0) ∧ w'.cell? ⟨ad168.block, ad168.off + 1, none⟩ = some (.slice (some ad177) ((rd_T32 l0 0).f1).length c176_1) ∧ w'.cell? (ad177.add ((x4_3).toNat * 6)) = some (.string ((rd_T80 ((rd_T32 l0 0).f1) x4_3).f0)) ∧ w'.cell? ⟨(ad177.add ((x4_3).toNat * 6)).block, (ad177.add ((x4_3).toNat * 6)).off + 1, none⟩ = some (.int .i64 ((rd_T80 ((rd_T32 l0 0).f1) x4_3).f1)) ∧ w'.cell? ⟨(ad177.add ((x4_3).toNat * 6)).block, (ad177.add ((x4_3).toNat * 6)).off + 2, none⟩ = some (.int .i64 ((rd_T80 ((rd_T32 l0 0).f1) x4_3).f2)) ∧ w'.cell? ⟨(ad177.add ((x4_3).toNat * 6)).block, (ad177.add ((x4_3).toNat * 6)).off + 3, none⟩ = some (.int .i64 ((rd_T80 ((rd_T32 l0 0).f1) x4_3).f3)) ∧ w'.cell? ⟨(ad177.add ((x4_3).toNat * 6)).block, (ad177.add ((x4_3).toNat * 6)).off + 4, none⟩ = some (.int .i64 ((rd_T80 ((rd_T32 l0 0).f1) x4_3).f4)) ∧ w'.cell? ⟨(ad177.add ((x4_3).toNat * 6)).block, (ad177.add ((x4_3).toNat * 6)).off + 5, none⟩ = some (.int .i64 ((rd_T80 ((rd_T32 l0 0).f1) x4_3).f5))) (ds := []) (tf 0 33) t6_ rfl rfl ⟨((HB.out.cell (World.block_lt_of_cell? w _ hw176_0)).trans hw176_0), ((HB.out.cell (World.block_lt_of_cell? w _ hw176_1)).trans hw176_1), ((HB.out.cell (World.block_lt_of_cell? w _ hw177_0)).trans hw177_0), ((HB.out.cell (World.block_lt_of_cell? w _ hw177_1)).trans hw177_1), ((HB.out.cell (World.block_lt_of_cell? w _ hw177_2)).trans hw177_2), ((HB.out.cell (World.block_lt_of_cell? w _ hw177_3)).trans hw177_3), ((HB.out.cell (World.block_lt_of_cell? w _ hw177_4)).trans hw177_4), ((HB.out.cell (World.block_lt_of_cell? w _ hw177_5)).trans hw177_5), ((HB.out.cell (World.block_lt_of_cell? w _ hw179_0)).trans hw179_0), ((HB.out.cell (World.block_lt_of_cell? w _ hw179_1)).trans hw179_1), ((HB.out.cell (World.block_lt_of_cell? w _ hw180_0)).trans hw180_0), ((HB.out.cell (World.block_lt_of_cell? w _ hw180_1)).trans hw180_1), ((HB.out.cell (World.block_lt_of_cell? w _ hw180_2)).trans hw180_2), ((HB.out.cell (World.block_lt_of_cell? w _ hw180_3)).trans hw180_3), ((HB.out.cell (World.block_lt_of_cell? w _ hw180_4)).trans hw180_4), ((HB.out.cell (World.block_lt_of_cell? w _ hw180_5)).trans hw180_5), ((HB.out.cell (World.block_lt_of_cell? w _ hw181_0)).trans hw181_0), ((HB.out.cell (World.block_lt_of_cell? w _ hw181_1)).trans hw181_1), ((HB.out.cell (World.block_lt_of_cell? w _ hw182_0)).trans hw182_0), ((HB.out.cell (World.block_lt_of_cell? w _ hw182_1)).trans hw182_1), ((HB.out.cell (World.block_lt_of_cell? w _ hw182_2)).trans hw182_2), ((HB.out.cell (World.block_lt_of_cell? w _ hw182_3)).trans hw182_3), ((HB.out.cell (World.block_lt_of_cell? w _ hw182_4)).trans hw182_4), ((HB.out.cell (World.block_lt_of_cell? w _ hw182_5)).trans hw182_5)⟩ (fun hHeld => ?_); refine with_tabW spec_l04Ok.tab11 spec_l04Ok.bits11 (fun HT_ HW_ => ?_)
                  generalize wr.drew = w21 at HB HR176_0 HR176_1 HR179_0 HR179_1 HR181_0 HR181_1 hx176_0 hx176_1 hx177_0 hx177_1 hx177_2 hx177_3 hx177_4 hx177_5 hx179_0 hx179_1 hx180_0 hx180_1 hx180_2 hx180_3 hx180_4 hx180_5 hx181_0 hx181_1 hx182_0 hx182_1 hx182_2 hx182_3 hx182_4 hx182_5 hHeld ⊢
                  refine px 0 (some 54) (tf 1 33) HT_ ?_
                  refine px 1 (some 55) (tf 2 33) HT_ ?_
                  refine px 2 (some 56) (tf 3 33) HT_ ?_
                  refine px 3 (some 57) (tf 4 33) HT_ ?_
                  refine px 5 (some 59) (tb 33 47) HT_ ?_
                  refine tx (v := ?_) 4 (some 58) (tf 6 33) HT_ HW_ hHeld ?_ ?_
                  rotate_left; (· rintro w' ⟨s0, s1, s2, s3, s4, s5, s6, s7, s8, s9, s10, s11, s12, s13, s14, s15, s16, s17, s18, s19, s20, s21, s22, s23⟩; go_simp; with_reducible rfl)
                  refine px 6 (some 60) (tf 7 33) HT_ ?_
                  refine one_ (i := 7) (N := some 61) (tf 8 33) rfl rfl (one_of HT_.out t6_) t24_ (fun K hK => ?_)
                  refine goes_ Try.func86 t6_ rfl #[.pointer (some ad168), .pointer (some (ad177.add (x4_3.toNat * 6)))] t38_ rfl rfl t2_ ?_
                  with_reducible refine (spec_l04Fits.calls k3 _ c0 l0 _ 1 [rd_T80 ((rd_T32 l0 0).f1) x4_3] true _ ?side1 ?side2 ?side3 ?side4 A14.out).mono ?_
                  (case side1 => repeat (first | exact (Kd.C_below HR0.out HB.out) | (with_reducible refine Kd.C_alloc ?_ _) | (with_reducible refine Kd.C_drewN ?_ _) | (with_reducible refine Kd.C_drew ?_)))
                  (case side2 => exact HC0.out)
                  (case side3 => exact Kd.C_sub (z := z80) (n := ((rd_T32 l0 0).f1).length) (t21_) (by first | exact p177 | exact of_eq_true p177 | omega) (by first | exact q177 | exact of_eq_true q177 | omega))
                  (case side4 => exact Nat.le_refl _)
                  rintro e w22 ⟨rfl, hb⟩
                  refine ⟨_, rfl, ?_⟩
                  have n0_ := Aside0.mk (below_step t1_ hb)
                  clear HB
                  have HB := n0_
                  clear n0_
                  (try clear hb)
                  (try clear hb2)
                  (try clear hk)
                  (try clear hi)
                  refine hK.out _ _ ⟨((HB.out.cell (World.block_lt_of_cell? w _ hw176_0)).trans hw176_0), ((HB.out.cell (World.block_lt_of_cell? w _ hw176_1)).trans hw176_1), ((HB.out.cell (World.block_lt_of_cell? w _ hw177_0)).trans hw177_0), ((HB.out.cell (World.block_lt_of_cell? w _ hw177_1)).trans hw177_1), ((HB.out.cell (World.block_lt_of_cell? w _ hw177_2)).trans hw177_2), ((HB.out.cell (World.block_lt_of_cell? w _ hw177_3)).trans hw177_3), ((HB.out.cell (World.block_lt_of_cell? w _ hw177_4)).trans hw177_4), ((HB.out.cell (World.block_lt_of_cell? w _ hw177_5)).trans hw177_5), ((HB.out.cell (World.block_lt_of_cell? w _ hw179_0)).trans hw179_0), ((HB.out.cell (World.block_lt_of_cell? w _ hw179_1)).trans hw179_1), ((HB.out.cell (World.block_lt_of_cell? w _ hw180_0)).trans hw180_0), ((HB.out.cell (World.block_lt_of_cell? w _ hw180_1)).trans hw180_1), ((HB.out.cell (World.block_lt_of_cell? w _ hw180_2)).trans hw180_2), ((HB.out.cell (World.block_lt_of_cell? w _ hw180_3)).trans hw180_3), ((HB.out.cell (World.block_lt_of_cell? w _ hw180_4)).trans hw180_4), ((HB.out.cell (World.block_lt_of_cell? w _ hw180_5)).trans hw180_5), ((HB.out.cell (World.block_lt_of_cell? w _ hw181_0)).trans hw181_0), ((HB.out.cell (World.block_lt_of_cell? w _ hw181_1)).trans hw181_1), ((HB.out.cell (World.block_lt_of_cell? w _ hw182_0)).trans hw182_0), ((HB.out.cell (World.block_lt_of_cell? w _ hw182_1)).trans hw182_1), ((HB.out.cell (World.block_lt_of_cell? w _ hw182_2)).trans hw182_2), ((HB.out.cell (World.block_lt_of_cell? w _ hw182_3)).trans hw182_3), ((HB.out.cell (World.block_lt_of_cell? w _ hw182_4)).trans hw182_4), ((HB.out.cell (World.block_lt_of_cell? w _ hw182_5)).trans hw182_5)⟩ (fun hHeld => ?_)
                  clear hK K
                  refine norm_ (a' := ?_) ?_ ?_
                  rotate_left
                  ·show Act.put _ (some 61) _ = _
                   simp only [Act.put, List.setIfInBounds_toArray, List.set_cons_zero, List.set_cons_succ, i64_w, i32_w]
                   rfl
                  refine px 8 (some 62) (tf 9 33) HT_ ?_
                  refine px 9 (some 63) (tf 10 33) HT_ ?_
                  refine px 10 (some 64) (tf 11 33) HT_ ?_
                  refine px 11 (some 65) (tf 12 33) HT_ ?_
                  refine px 12 (some 66) (tf 13 33) HT_ ?_
                  refine px 13 (some 67) (tf 14 33) HT_ ?_
                  refine px 14 (some 68) (tf 15 33) HT_ ?_
                  refine px 15 (some 69) (tf 16 33) HT_ ?_
                  refine px 17 (some 71) (tb 33 196607) HT_ ?_
                  refine px 18 (some 72) (tb 33 458751) HT_ ?_
                  refine px 22 (some 76) (tb 33 4653055) HT_ ?_
                  refine px 23 (some 77) (tb 33 13041663) HT_ ?_
                  refine px 24 (some 78) (tb 33 29818879) HT_ ?_
                  refine px 26 (some 80) (tb 33 96927743) HT_ ?_
                  refine tx (v := ?_) 16 (some 70) (tb 33 96993279) HT_ HW_ hHeld ?_ ?_
                  rotate_left; (· rintro w' ⟨s0, s1, s2, s3, s4, s5, s6, s7, s8, s9, s10, s11, s12, s13, s14, s15, s16, s17, s18, s19, s20, s21, s22, s23⟩; go_simp; with_reducible rfl)
                  refine px 19 (some 73) (tb 33 97517567) HT_ ?_
                  refine px 20 (some 74) (tb 33 98566143) HT_ ?_
                  refine tx (v := ?_) 21 (some 75) (tb 33 100663295) HT_ HW_ hHeld ?_ ?_
                  rotate_left; (· rintro w' ⟨s0, s1, s2, s3, s4, s5, s6, s7, s8, s9, s10, s11, s12, s13, s14, s15, s16, s17, s18, s19, s20, s21, s22, s23⟩; go_simp; with_reducible rfl)
                  refine tx (v := ?_) 25 (some 79) (tf 27 33) HT_ HW_ hHeld ?_ ?_
                  rotate_left; (· rintro w' ⟨s0, s1, s2, s3, s4, s5, s6, s7, s8, s9, s10, s11, s12, s13, s14, s15, s16, s17, s18, s19, s20, s21, s22, s23⟩; go_simp; with_reducible rfl)
                  refine px 27 (some 81) (tf 28 33) HT_ ?_
                  refine px 28 (some 82) (tf 29 33) HT_ ?_
                  refine tx (v := ?_) 29 (some 83) (tf 30 33) HT_ HW_ hHeld ?_ ?_
                  rotate_left; (· rintro w' ⟨s0, s1, s2, s3, s4, s5, s6, s7, s8, s9, s10, s11, s12, s13, s14, s15, s16, s17, s18, s19, s20, s21, s22, s23⟩; go_simp; with_reducible rfl)
                  refine px 30 (some 84) (tf 31 33) HT_ ?_
                  refine px 31 (some 85) (tf 32 33) HT_ ?_
                  refine px 32 (some 86) (tf 33 33) HT_ ?_
                  refine done_ (done_of HT_.out t6_) ?_
                  try go_wp2
                  go_roundg k3
                  case measure => have := HK1.out; have := HJ6.out; have := HK3.out; omega
                  case rel => exact ⟨(wrap64 (x4_3 + 1)), t5_, H', ⟨by have := HK1.out; have := HJ6.out; have := HK3.out; omega⟩, ⟨by repeat (first | (with_reducible first | exact HB.out | apply below_alloc | apply pw_below_drewN | apply below_drew1) | exact HB.out)⟩⟩
                 ·rw [if_neg c20] at H
                  have c20b0 : (Op.bytesLess (((rd_T80 ((rd_T32 l0 0).f1) (ji17)).f0).toList) (((rd_T80 ((rd_T32 l0 0).f1) x4_3).f0).toList)) = false := by simpa using c20
                  clear c20
                  obtain rfl := Option.some.inj H
                  have p175 : 0 ≤ (0 : Int) := t11_
                  have q175 : 0 < (l0.length : Int) := of_decide_eq_true t3_
                  obtain ⟨ad175, A175_0, c175_0, A175_1, c175_1, e175, hx175_0, hx175_1, hl175_0, hi175_0, hl175_1, hi175_1⟩ := at_T32 HR0.out 0 p175 q175
                  obtain rfl : ad168 = ad175 := (by injection e175)
                  have qi175 : (0 < l0.length) = True := eq_true t11_
                  (try rw [show ((0 : Int)).toNat = 0 from rfl] at hx175_0)
                  (try rw [show 0 * 2 = 0 from rfl] at hx175_0)
                  (try rw [Addr.add_zero'] at hx175_0)
                  (try rw [show ((0 : Int)).toNat = 0 from rfl] at hx175_1)
                  (try rw [show 0 * 2 = 0 from rfl] at hx175_1)
                  (try rw [Addr.add_zero'] at hx175_1)
                  replace hx175_0 := (HB.out.cell (World.block_lt_of_cell? w _ hx175_0)).trans hx175_0
                  replace hx175_1 := (HB.out.cell (World.block_lt_of_cell? w _ hx175_1)).trans hx175_1
                  have HR175_0 := Aside0.mk hi175_0
                  have HC175_0 := Aside0.mk hl175_0
                  clear hi175_0 hl175_0
                  have HR175_1 := Aside0.mk hi175_1
                  have HC175_1 := Aside0.mk hl175_1
                  clear hi175_1 hl175_1
                  replace p175 := eq_true p175
                  replace q175 := eq_true q175
                  try go_wp2
                  have n0_ := Aside0.mk (below_drew1 HB.out)
                  clear HB
                  have HB := n0_
                  clear n0_
                  have p176 : 0 ≤ (0 : Int) := t11_
                  have q176 : 0 < (l0.length : Int) := of_decide_eq_true t3_
                  obtain ⟨ad176, A176_0, c176_0, A176_1, c176_1, e176, hx176_0, hx176_1, hl176_0, hi176_0, hl176_1, hi176_1⟩ := at_T32 HR0.out 0 p176 q176
                  have hw176_1 := hx176_1
                  (try rw [show ((0 : Int)).toNat = 0 from rfl] at hw176_1)
                  (try rw [show 0 * 2 = 0 from rfl] at hw176_1)
                  (try rw [Addr.add_zero'] at hw176_1)
                  have hw176_0 := hx176_0
                  (try rw [show ((0 : Int)).toNat = 0 from rfl] at hw176_0)
                  (try rw [show 0 * 2 = 0 from rfl] at hw176_0)
                  (try rw [Addr.add_zero'] at hw176_0)
                  obtain rfl : ad168 = ad176 := (by injection e176)
                  have qi176 : (0 < l0.length) = True := eq_true t11_
                  (try rw [show ((0 : Int)).toNat = 0 from rfl] at hx176_0)
                  (try rw [show 0 * 2 = 0 from rfl] at hx176_0)
                  (try rw [Addr.add_zero'] at hx176_0)
                  (try rw [show ((0 : Int)).toNat = 0 from rfl] at hx176_1)
                  (try rw [show 0 * 2 = 0 from rfl] at hx176_1)
                  (try rw [Addr.add_zero'] at hx176_1)
                  replace hx176_0 := (HB.out.cell (World.block_lt_of_cell? w _ hx176_0)).trans hx176_0
                  replace hx176_1 := (HB.out.cell (World.block_lt_of_cell? w _ hx176_1)).trans hx176_1
                  have HR176_0 := Aside0.mk hi176_0
                  have HC176_0 := Aside0.mk hl176_0
                  clear hi176_0 hl176_0
                  have HR176_1 := Aside0.mk hi176_1
                  have HC176_1 := Aside0.mk hl176_1
                  clear hi176_1 hl176_1
                  replace p176 := eq_true p176
                  replace q176 := eq_true q176
                  have p177 : 0 ≤ (x4_3 : Int) := of_decide_eq_true t3_
                  have q177 : x4_3 < (((rd_T32 l0 0).f1).length : Int) := of_decide_eq_true t3_
                  obtain ⟨ad177, e177, hx177_0, hx177_1, hx177_2, hx177_3, hx177_4, hx177_5⟩ := at_T80 HR176_1.out x4_3 p177 q177
                  have hw177_5 := hx177_5
                  have hw177_4 := hx177_4
                  have hw177_3 := hx177_3
                  have hw177_2 := hx177_2
                  have hw177_1 := hx177_1
                  have hw177_0 := hx177_0
                  cases e177
                  replace hx177_0 := (HB.out.cell (World.block_lt_of_cell? w _ hx177_0)).trans hx177_0
                  replace hx177_1 := (HB.out.cell (World.block_lt_of_cell? w _ hx177_1)).trans hx177_1
                  replace hx177_2 := (HB.out.cell (World.block_lt_of_cell? w _ hx177_2)).trans hx177_2
                  replace hx177_3 := (HB.out.cell (World.block_lt_of_cell? w _ hx177_3)).trans hx177_3
                  replace hx177_4 := (HB.out.cell (World.block_lt_of_cell? w _ hx177_4)).trans hx177_4
                  replace hx177_5 := (HB.out.cell (World.block_lt_of_cell? w _ hx177_5)).trans hx177_5
                  replace p177 := eq_true p177
                  replace q177 := eq_true q177
                  have p179 : 0 ≤ (0 : Int) := t11_
                  have q179 : 0 < (l0.length : Int) := of_decide_eq_true t3_
                  obtain ⟨ad179, A179_0, c179_0, A179_1, c179_1, e179, hx179_0, hx179_1, hl179_0, hi179_0, hl179_1, hi179_1⟩ := at_T32 HR0.out 0 p179 q179
                  have hw179_1 := hx179_1
                  (try rw [show ((0 : Int)).toNat = 0 from rfl] at hw179_1)
                  (try rw [show 0 * 2 = 0 from rfl] at hw179_1)
                  (try rw [Addr.add_zero'] at hw179_1)
                  have hw179_0 := hx179_0
                  (try rw [show ((0 : Int)).toNat = 0 from rfl] at hw179_0)
                  (try rw [show 0 * 2 = 0 from rfl] at hw179_0)
                  (try rw [Addr.add_zero'] at hw179_0)
                  obtain rfl : ad168 = ad179 := (by injection e179)
                  have qi179 : (0 < l0.length) = True := eq_true t11_
                  (try rw [show ((0 : Int)).toNat = 0 from rfl] at hx179_0)
                  (try rw [show 0 * 2 = 0 from rfl] at hx179_0)
                  (try rw [Addr.add_zero'] at hx179_0)
                  (try rw [show ((0 : Int)).toNat = 0 from rfl] at hx179_1)
                  (try rw [show 0 * 2 = 0 from rfl] at hx179_1)
                  (try rw [Addr.add_zero'] at hx179_1)
                  replace hx179_0 := (HB.out.cell (World.block_lt_of_cell? w _ hx179_0)).trans hx179_0
                  replace hx179_1 := (HB.out.cell (World.block_lt_of_cell? w _ hx179_1)).trans hx179_1
                  have HR179_0 := Aside0.mk hi179_0
                  have HC179_0 := Aside0.mk hl179_0
                  clear hi179_0 hl179_0
                  have HR179_1 := Aside0.mk hi179_1
                  have HC179_1 := Aside0.mk hl179_1
                  clear hi179_1 hl179_1
                  replace p179 := eq_true p179
                  replace q179 := eq_true q179
                  have ea_ := Option.some.inj (hx176_0.symm.trans hx179_0)
                  injection ea_ with ea_ en_ ec_
                  subst ea_
                  subst ec_
                  clear en_
                  have ea_ := Option.some.inj (hx176_1.symm.trans hx179_1)
                  injection ea_ with ea_ en_ ec_
                  subst ea_
                  subst ec_
                  clear en_
                  have p180 : 0 ≤ ((ji17) : Int) := of_decide_eq_true t3_
                  have q180 : (ji17) < (((rd_T32 l0 0).f1).length : Int) := of_decide_eq_true t3_
                  obtain ⟨ad180, e180, hx180_0, hx180_1, hx180_2, hx180_3, hx180_4, hx180_5⟩ := at_T80 HR179_1.out (ji17) p180 q180
                  have hw180_5 := hx180_5
                  have hw180_4 := hx180_4
                  have hw180_3 := hx180_3
                  have hw180_2 := hx180_2
                  have hw180_1 := hx180_1
                  have hw180_0 := hx180_0
                  obtain rfl : ad177 = ad180 := (by injection e180)
                  replace hx180_0 := (HB.out.cell (World.block_lt_of_cell? w _ hx180_0)).trans hx180_0
                  replace hx180_1 := (HB.out.cell (World.block_lt_of_cell? w _ hx180_1)).trans hx180_1
                  replace hx180_2 := (HB.out.cell (World.block_lt_of_cell? w _ hx180_2)).trans hx180_2
                  replace hx180_3 := (HB.out.cell (World.block_lt_of_cell? w _ hx180_3)).trans hx180_3
                  replace hx180_4 := (HB.out.cell (World.block_lt_of_cell? w _ hx180_4)).trans hx180_4
                  replace hx180_5 := (HB.out.cell (World.block_lt_of_cell? w _ hx180_5)).trans hx180_5
                  replace p180 := eq_true p180
                  replace q180 := eq_true q180
                  have p181 : 0 ≤ (0 : Int) := t11_
                  have q181 : 0 < (l0.length : Int) := of_decide_eq_true t3_
                  obtain ⟨ad181, A181_0, c181_0, A181_1, c181_1, e181, hx181_0, hx181_1, hl181_0, hi181_0, hl181_1, hi181_1⟩ := at_T32 HR0.out 0 p181 q181
                  have hw181_1 := hx181_1
                  (try rw [show ((0 : Int)).toNat = 0 from rfl] at hw181_1)
                  (try rw [show 0 * 2 = 0 from rfl] at hw181_1)
                  (try rw [Addr.add_zero'] at hw181_1)
                  have hw181_0 := hx181_0
                  (try rw [show ((0 : Int)).toNat = 0 from rfl] at hw181_0)
                  (try rw [show 0 * 2 = 0 from rfl] at hw181_0)
                  (try rw [Addr.add_zero'] at hw181_0)
                  obtain rfl : ad168 = ad181 := (by injection e181)
                  have qi181 : (0 < l0.length) = True := eq_true t11_
                  (try rw [show ((0 : Int)).toNat = 0 from rfl] at hx181_0)
                  (try rw [show 0 * 2 = 0 from rfl] at hx181_0)
                  (try rw [Addr.add_zero'] at hx181_0)
                  (try rw [show ((0 : Int)).toNat = 0 from rfl] at hx181_1)
                  (try rw [show 0 * 2 = 0 from rfl] at hx181_1)
                  (try rw [Addr.add_zero'] at hx181_1)
                  replace hx181_0 := (HB.out.cell (World.block_lt_of_cell? w _ hx181_0)).trans hx181_0
                  replace hx181_1 := (HB.out.cell (World.block_lt_of_cell? w _ hx181_1)).trans hx181_1
                  have HR181_0 := Aside0.mk hi181_0
                  have HC181_0 := Aside0.mk hl181_0
                  clear hi181_0 hl181_0
                  have HR181_1 := Aside0.mk hi181_1
                  have HC181_1 := Aside0.mk hl181_1
                  clear hi181_1 hl181_1
                  replace p181 := eq_true p181
                  replace q181 := eq_true q181
                  have ea_ := Option.some.inj (hx176_0.symm.trans hx181_0)
                  injection ea_ with ea_ en_ ec_
                  subst ea_
                  subst ec_
                  clear en_
                  have ea_ := Option.some.inj (hx176_1.symm.trans hx181_1)
                  injection ea_ with ea_ en_ ec_
                  subst ea_
                  subst ec_
                  clear en_
                  have p182 : 0 ≤ (x4_3 : Int) := of_decide_eq_true t3_
                  have q182 : x4_3 < (((rd_T32 l0 0).f1).length : Int) := of_decide_eq_true t3_
                  obtain ⟨ad182, e182, hx182_0, hx182_1, hx182_2, hx182_3, hx182_4, hx182_5⟩ := at_T80 HR181_1.out x4_3 p182 q182
                  have hw182_5 := hx182_5
                  have hw182_4 := hx182_4
                  have hw182_3 := hx182_3
                  have hw182_2 := hx182_2
                  have hw182_1 := hx182_1
                  have hw182_0 := hx182_0
                  obtain rfl : ad177 = ad182 := (by injection e182)
                  replace hx182_0 := (HB.out.cell (World.block_lt_of_cell? w _ hx182_0)).trans hx182_0
                  replace hx182_1 := (HB.out.cell (World.block_lt_of_cell? w _ hx182_1)).trans hx182_1
                  replace hx182_2 := (HB.out.cell (World.block_lt_of_cell? w _ hx182_2)).trans hx182_2
                  replace hx182_3 := (HB.out.cell (World.block_lt_of_cell? w _ hx182_3)).trans hx182_3
                  replace hx182_4 := (HB.out.cell (World.block_lt_of_cell? w _ hx182_4)).trans hx182_4
                  replace hx182_5 := (HB.out.cell (World.block_lt_of_cell? w _ hx182_5)).trans hx182_5
                  replace p182 := eq_true p182
                  replace q182 := eq_true q182
                  refine start_ (n := 33) (S := fun w' => w'.cell? ad168 = some (.slice A176_0 ((rd_T32 l0 0).f0).length c176_0) ∧ w'.cell? ⟨ad168.block, ad168.off + 1, none⟩ = some (.slice (some ad177) ((rd_T32 l0 0).f1).length c176_1) ∧ w'.cell? (ad177.add ((x4_3).toNat * 6)) = some (.string ((rd_T80 ((rd_T32 l0 0).f1) x4_3).f0)) ∧ w'.cell? ⟨(ad177.add ((x4_3).toNat * 6)).block, (ad177.add ((x4_3).toNat * 6)).off + 1, none⟩ = some (.int .i64 ((rd_T80 ((rd_T32 l0 0).f1) x4_3).f1)) ∧ w'.cell? ⟨(ad177.add ((x4_3).toNat * 6)).block, (ad177.add ((x4_3).toNat * 6)).off + 2, none⟩ = some (.int .i64 ((rd_T80 ((rd_T32 l0 0).f1) x4_3).f2)) ∧ w'.cell? ⟨(ad177.add ((x4_3).toNat * 6)).block, (ad177.add ((x4_3).toNat * 6)).off + 3, none⟩ = some (.int .i64 ((rd_T80 ((rd_T32 l0 0).f1) x4_3).f3)) ∧ w'.cell? ⟨(ad177.add ((x4_3).toNat * 6)).block, (ad177.add ((x4_3).toNat * 6)).off + 4, none⟩ = some (.int .i64 ((rd_T80 ((rd_T32 l0 0).f1) x4_3).f4)) ∧ w'.cell? ⟨(ad177.add ((x4_3).toNat * 6)).block, (ad177.add ((x4_3).toNat * 6)).off + 5, none⟩ = some (.int .i64 ((rd_T80 ((rd_T32 l0 0).f1) x4_3).f5)) ∧ w'.cell? ad168 = some (.slice A176_0 ((rd_T32 l0 0).f0).length c176_0) ∧ w'.cell? ⟨ad168.block, ad168.off + 1, none⟩ = some (.slice (some ad177) ((rd_T32 l0 0).f1).length c176_1) ∧ w'.cell? (ad177.add (((ji17)).toNat * 6)) = some (.string ((rd_T80 ((rd_T32 l0 0).f1) (ji17)).f0)) ∧ w'.cell? ⟨(ad177.add (((ji17)).toNat * 6)).block, (ad177.add (((ji17)).toNat * 6)).off + 1, none⟩ = some (.int .i64 ((rd_T80 ((rd_T32 l0 0).f1) (ji17)).f1)) ∧ w'.cell? ⟨(ad177.add (((ji17)).toNat * 6)).block, (ad177.add (((ji17)).toNat * 6)).off + 2, none⟩ = some (.int .i64 ((rd_T80 ((rd_T32 l0 0).f1) (ji17)).f2)) ∧ w'.cell? ⟨(ad177.add (((ji17)).toNat * 6)).block, (ad177.add (((ji17)).toNat * 6)).off + 3, none⟩ = some (.int .i64 ((rd_T80 ((rd_T32 l0 0).f1) (ji17)).f3)) ∧ w'.cell? ⟨(ad177.add (((ji17)).toNat * 6)).block, (ad177.add (((ji17)).toNat * 6)).off + 4, none⟩ = some (.int .i64 ((rd_T80 ((rd_T32 l0 0).f1) (ji17)).f4)) ∧ w'.cell? ⟨(ad177.add (((ji17)).toNat * 6)).block, (ad177.add (((ji17)).toNat * 6)).off + 5, none⟩ = some (.int .i64 ((rd_T80 ((rd_T32 l0 0).f1) (ji17)).f5)) ∧ w'.cell? ad168 = some (.slice A176_0 ((rd_T32 l0 0).f0).length c176_0) ∧ w'.cell? ⟨ad168.block, ad168.off + 1, none⟩ = some (.slice (some ad177) ((rd_T32 l0 0).f1).length c176_1) ∧ w'.cell? (ad177.add ((x4_3).toNat * 6)) = some (.string ((rd_T80 ((rd_T32 l0 0).f1) x4_3).f0)) ∧ w'.cell? ⟨(ad177.add ((x4_3).toNat * 6)).block, (ad177.add ((x4_3).toNat * 6)).off + 1, none⟩ = some (.int .i64 ((rd_T80 ((rd_T32 l0 0).f1) x4_3).f1)) ∧ w'.cell? ⟨(ad177.add ((x4_3).toNat * 6)).block, (ad177.add ((x4_3).toNat * 6)).off + 2, none⟩ = some (.int .i64 ((rd_T80 ((rd_T32 l0 0).f1) x4_3).f2)) ∧ w'.cell? ⟨(ad177.add ((x4_3).toNat * 6)).block, (ad177.add ((x4_3).toNat * 6)).off + 3, none⟩ = some (.int .i64 ((rd_T80 ((rd_T32 l0 0).f1) x4_3).f3)) ∧ w'.cell? ⟨(ad177.add ((x4_3).toNat * 6)).block, (ad177.add ((x4_3).toNat * 6)).off + 4, none⟩ = some (.int .i64 ((rd_T80 ((rd_T32 l0 0).f1) x4_3).f4)) ∧ w'.cell? ⟨(ad177.add ((x4_3).toNat * 6)).block, (ad177.add ((x4_3).toNat * 6)).off + 5, none⟩ = some (.int .i64 ((rd_T80 ((rd_T32 l0 0).f1) x4_3).f5))) (ds := []) (tf 0 33) t6_ rfl rfl ⟨((HB.out.cell (World.block_lt_of_cell? w _ hw176_0)).trans hw176_0), ((HB.out.cell (World.block_lt_of_cell? w _ hw176_1)).trans hw176_1), ((HB.out.cell (World.block_lt_of_cell? w _ hw177_0)).trans hw177_0), ((HB.out.cell (World.block_lt_of_cell? w _ hw177_1)).trans hw177_1), ((HB.out.cell (World.block_lt_of_cell? w _ hw177_2)).trans hw177_2), ((HB.out.cell (World.block_lt_of_cell? w _ hw177_3)).trans hw177_3), ((HB.out.cell (World.block_lt_of_cell? w _ hw177_4)).trans hw177_4), ((HB.out.cell (World.block_lt_of_cell? w _ hw177_5)).trans hw177_5), ((HB.out.cell (World.block_lt_of_cell? w _ hw179_0)).trans hw179_0), ((HB.out.cell (World.block_lt_of_cell? w _ hw179_1)).trans hw179_1), ((HB.out.cell (World.block_lt_of_cell? w _ hw180_0)).trans hw180_0), ((HB.out.cell (World.block_lt_of_cell? w _ hw180_1)).trans hw180_1), ((HB.out.cell (World.block_lt_of_cell? w _ hw180_2)).trans hw180_2), ((HB.out.cell (World.block_lt_of_cell? w _ hw180_3)).trans hw180_3), ((HB.out.cell (World.block_lt_of_cell? w _ hw180_4)).trans hw180_4), ((HB.out.cell (World.block_lt_of_cell? w _ hw180_5)).trans hw180_5), ((HB.out.cell (World.block_lt_of_cell? w _ hw181_0)).trans hw181_0), ((HB.out.cell (World.block_lt_of_cell? w _ hw181_1)).trans hw181_1), ((HB.out.cell (World.block_lt_of_cell? w _ hw182_0)).trans hw182_0), ((HB.out.cell (World.block_lt_of_cell? w _ hw182_1)).trans hw182_1), ((HB.out.cell (World.block_lt_of_cell? w _ hw182_2)).trans hw182_2), ((HB.out.cell (World.block_lt_of_cell? w _ hw182_3)).trans hw182_3), ((HB.out.cell (World.block_lt_of_cell? w _ hw182_4)).trans hw182_4), ((HB.out.cell (World.block_lt_of_cell? w _ hw182_5)).trans hw182_5)⟩ (fun hHeld => ?_); refine with_tabW spec_l04Ok.tab11 spec_l04Ok.bits11 (fun HT_ HW_ => ?_)
                  generalize wr.drew = w23 at HB HR176_0 HR176_1 HR179_0 HR179_1 HR181_0 HR181_1 hx176_0 hx176_1 hx177_0 hx177_1 hx177_2 hx177_3 hx177_4 hx177_5 hx179_0 hx179_1 hx180_0 hx180_1 hx180_2 hx180_3 hx180_4 hx180_5 hx181_0 hx181_1 hx182_0 hx182_1 hx182_2 hx182_3 hx182_4 hx182_5 hHeld ⊢
                  refine px 0 (some 54) (tf 1 33) HT_ ?_
                  refine px 1 (some 55) (tf 2 33) HT_ ?_
                  refine px 2 (some 56) (tf 3 33) HT_ ?_
                  refine px 3 (some 57) (tf 4 33) HT_ ?_
                  refine px 5 (some 59) (tb 33 47) HT_ ?_
                  refine tx (v := ?_) 4 (some 58) (tf 6 33) HT_ HW_ hHeld ?_ ?_
                  rotate_left; (· rintro w' ⟨s0, s1, s2, s3, s4, s5, s6, s7, s8, s9, s10, s11, s12, s13, s14, s15, s16, s17, s18, s19, s20, s21, s22, s23⟩; go_simp; with_reducible rfl)
                  refine px 6 (some 60) (tf 7 33) HT_ ?_
                  refine one_ (i := 7) (N := some 61) (tf 8 33) rfl rfl (one_of HT_.out t6_) t24_ (fun K hK => ?_)
                  refine goes_ Try.func86 t6_ rfl #[.pointer (some ad168), .pointer (some (ad177.add (x4_3.toNat * 6)))] t38_ rfl rfl t2_ ?_
                  with_reducible refine (spec_l04Fits.calls k3 _ c0 l0 _ 1 [rd_T80 ((rd_T32 l0 0).f1) x4_3] true _ ?side1 ?side2 ?side3 ?side4 A14.out).mono ?_
                  (case side1 => repeat (first | exact (Kd.C_below HR0.out HB.out) | (with_reducible refine Kd.C_alloc ?_ _) | (with_reducible refine Kd.C_drewN ?_ _) | (with_reducible refine Kd.C_drew ?_)))
                  (case side2 => exact HC0.out)
                  (case side3 => exact Kd.C_sub (z := z80) (n := ((rd_T32 l0 0).f1).length) (t21_) (by first | exact p177 | exact of_eq_true p177 | omega) (by first | exact q177 | exact of_eq_true q177 | omega))
                  (case side4 => exact Nat.le_refl _)
                  rintro e w24 ⟨rfl, hb⟩
                  refine ⟨_, rfl, ?_⟩
                  have n0_ := Aside0.mk (below_step t1_ hb)
                  clear HB
                  have HB := n0_
                  clear n0_
                  (try clear hb)
                  (try clear hb2)
                  (try clear hk)
                  (try clear hi)
                  refine hK.out _ _ ⟨((HB.out.cell (World.block_lt_of_cell? w _ hw176_0)).trans hw176_0), ((HB.out.cell (World.block_lt_of_cell? w _ hw176_1)).trans hw176_1), ((HB.out.cell (World.block_lt_of_cell? w _ hw177_0)).trans hw177_0), ((HB.out.cell (World.block_lt_of_cell? w _ hw177_1)).trans hw177_1), ((HB.out.cell (World.block_lt_of_cell? w _ hw177_2)).trans hw177_2), ((HB.out.cell (World.block_lt_of_cell? w _ hw177_3)).trans hw177_3), ((HB.out.cell (World.block_lt_of_cell? w _ hw177_4)).trans hw177_4), ((HB.out.cell (World.block_lt_of_cell? w _ hw177_5)).trans hw177_5), ((HB.out.cell (World.block_lt_of_cell? w _ hw179_0)).trans hw179_0), ((HB.out.cell (World.block_lt_of_cell? w _ hw179_1)).trans hw179_1), ((HB.out.cell (World.block_lt_of_cell? w _ hw180_0)).trans hw180_0), ((HB.out.cell (World.block_lt_of_cell? w _ hw180_1)).trans hw180_1), ((HB.out.cell (World.block_lt_of_cell? w _ hw180_2)).trans hw180_2), ((HB.out.cell (World.block_lt_of_cell? w _ hw180_3)).trans hw180_3), ((HB.out.cell (World.block_lt_of_cell? w _ hw180_4)).trans hw180_4), ((HB.out.cell (World.block_lt_of_cell? w _ hw180_5)).trans hw180_5), ((HB.out.cell (World.block_lt_of_cell? w _ hw181_0)).trans hw181_0), ((HB.out.cell (World.block_lt_of_cell? w _ hw181_1)).trans hw181_1), ((HB.out.cell (World.block_lt_of_cell? w _ hw182_0)).trans hw182_0), ((HB.out.cell (World.block_lt_of_cell? w _ hw182_1)).trans hw182_1), ((HB.out.cell (World.block_lt_of_cell? w _ hw182_2)).trans hw182_2), ((HB.out.cell (World.block_lt_of_cell? w _ hw182_3)).trans hw182_3), ((HB.out.cell (World.block_lt_of_cell? w _ hw182_4)).trans hw182_4), ((HB.out.cell (World.block_lt_of_cell? w _ hw182_5)).trans hw182_5)⟩ (fun hHeld => ?_)
                  clear hK K
                  refine norm_ (a' := ?_) ?_ ?_
                  rotate_left
                  ·show Act.put _ (some 61) _ = _
                   simp only [Act.put, List.setIfInBounds_toArray, List.set_cons_zero, List.set_cons_succ, i64_w, i32_w]
                   rfl
                  refine px 8 (some 62) (tf 9 33) HT_ ?_
                  refine px 9 (some 63) (tf 10 33) HT_ ?_
                  refine px 10 (some 64) (tf 11 33) HT_ ?_
                  refine px 11 (some 65) (tf 12 33) HT_ ?_
                  refine px 12 (some 66) (tf 13 33) HT_ ?_
                  refine px 13 (some 67) (tf 14 33) HT_ ?_
                  refine px 14 (some 68) (tf 15 33) HT_ ?_
                  refine px 15 (some 69) (tf 16 33) HT_ ?_
                  refine px 17 (some 71) (tb 33 196607) HT_ ?_
                  refine px 18 (some 72) (tb 33 458751) HT_ ?_
                  refine px 22 (some 76) (tb 33 4653055) HT_ ?_
                  refine px 23 (some 77) (tb 33 13041663) HT_ ?_
                  refine px 24 (some 78) (tb 33 29818879) HT_ ?_
                  refine px 26 (some 80) (tb 33 96927743) HT_ ?_
                  refine tx (v := ?_) 16 (some 70) (tb 33 96993279) HT_ HW_ hHeld ?_ ?_
                  rotate_left; (· rintro w' ⟨s0, s1, s2, s3, s4, s5, s6, s7, s8, s9, s10, s11, s12, s13, s14, s15, s16, s17, s18, s19, s20, s21, s22, s23⟩; go_simp; with_reducible rfl)
                  refine px 19 (some 73) (tb 33 97517567) HT_ ?_
                  refine px 20 (some 74) (tb 33 98566143) HT_ ?_
                  refine tx (v := ?_) 21 (some 75) (tb 33 100663295) HT_ HW_ hHeld ?_ ?_
                  rotate_left; (· rintro w' ⟨s0, s1, s2, s3, s4, s5, s6, s7, s8, s9, s10, s11, s12, s13, s14, s15, s16, s17, s18, s19, s20, s21, s22, s23⟩; go_simp; with_reducible rfl)
                  refine tx (v := ?_) 25 (some 79) (tf 27 33) HT_ HW_ hHeld ?_ ?_
                  rotate_left; (· rintro w' ⟨s0, s1, s2, s3, s4, s5, s6, s7, s8, s9, s10, s11, s12, s13, s14, s15, s16, s17, s18, s19, s20, s21, s22, s23⟩; go_simp; with_reducible rfl)
                  refine px 27 (some 81) (tf 28 33) HT_ ?_
                  refine px 28 (some 82) (tf 29 33) HT_ ?_
                  refine tx (v := ?_) 29 (some 83) (tf 30 33) HT_ HW_ hHeld ?_ ?_
                  rotate_left; (· rintro w' ⟨s0, s1, s2, s3, s4, s5, s6, s7, s8, s9, s10, s11, s12, s13, s14, s15, s16, s17, s18, s19, s20, s21, s22, s23⟩; go_simp; with_reducible rfl)
                  refine px 30 (some 84) (tf 31 33) HT_ ?_
                  refine px 31 (some 85) (tf 32 33) HT_ ?_
                  refine px 32 (some 86) (tf 33 33) HT_ ?_
                  refine done_ (done_of HT_.out t6_) ?_
                  try go_wp2
                  go_ret
                  exact ⟨by first | rfl | (rw [Int.tdiv_eq_ediv_of_nonneg t11_]; rfl) | (simp [errW_none, errW_some] <;> rfl) | (simp only [← hji17]; first | rfl | (simp [errW_none, errW_some] <;> rfl)) | (simp [*, errW_none, errW_some] <;> rfl), by repeat (first | (with_reducible first | exact HB.out | apply below_alloc | apply pw_below_drewN | apply below_drew1) | exact HB.out)⟩
                ·rw [if_neg c19] at H
                 exact absurd H t30_
               ·rw [if_neg c18] at H
                exact absurd H t30_
              ·rw [if_neg c16] at H
               have c16b0 : decide (0 < x4_3) = false := decide_eq_false c16
               clear c16
               have H' := Aside0.mk H
               clear H
               have p175 : 0 ≤ (0 : Int) := t11_
               have q175 : 0 < (l0.length : Int) := of_decide_eq_true t3_
               obtain ⟨ad175, A175_0, c175_0, A175_1, c175_1, e175, hx175_0, hx175_1, hl175_0, hi175_0, hl175_1, hi175_1⟩ := at_T32 HR0.out 0 p175 q175
               obtain rfl : ad168 = ad175 := (by injection e175)
               have qi175 : (0 < l0.length) = True := eq_true t11_
               (try rw [show ((0 : Int)).toNat = 0 from rfl] at hx175_0)
               (try rw [show 0 * 2 = 0 from rfl] at hx175_0)
               (try rw [Addr.add_zero'] at hx175_0)
               (try rw [show ((0 : Int)).toNat = 0 from rfl] at hx175_1)
               (try rw [show 0 * 2 = 0 from rfl] at hx175_1)
               (try rw [Addr.add_zero'] at hx175_1)
               replace hx175_0 := (HB.out.cell (World.block_lt_of_cell? w _ hx175_0)).trans hx175_0
               replace hx175_1 := (HB.out.cell (World.block_lt_of_cell? w _ hx175_1)).trans hx175_1
               have HR175_0 := Aside0.mk hi175_0
               have HC175_0 := Aside0.mk hl175_0
               clear hi175_0 hl175_0
               have HR175_1 := Aside0.mk hi175_1
               have HC175_1 := Aside0.mk hl175_1
               clear hi175_1 hl175_1
               replace p175 := eq_true p175
               replace q175 := eq_true q175
               try go_wp2
               have n0_ := Aside0.mk (below_drew1 HB.out)
               clear HB
               have HB := n0_
               clear n0_
               have p176 : 0 ≤ (0 : Int) := t11_
               have q176 : 0 < (l0.length : Int) := of_decide_eq_true t3_
               obtain ⟨ad176, A176_0, c176_0, A176_1, c176_1, e176, hx176_0, hx176_1, hl176_0, hi176_0, hl176_1, hi176_1⟩ := at_T32 HR0.out 0 p176 q176
               have hw176_1 := hx176_1
               (try rw [show ((0 : Int)).toNat = 0 from rfl] at hw176_1)
               (try rw [show 0 * 2 = 0 from rfl] at hw176_1)
               (try rw [Addr.add_zero'] at hw176_1)
               have hw176_0 := hx176_0
               (try rw [show ((0 : Int)).toNat = 0 from rfl] at hw176_0)
               (try rw [show 0 * 2 = 0 from rfl] at hw176_0)
               (try rw [Addr.add_zero'] at hw176_0)
               obtain rfl : ad168 = ad176 := (by injection e176)
               have qi176 : (0 < l0.length) = True := eq_true t11_
               (try rw [show ((0 : Int)).toNat = 0 from rfl] at hx176_0)
               (try rw [show 0 * 2 = 0 from rfl] at hx176_0)
               (try rw [Addr.add_zero'] at hx176_0)
               (try rw [show ((0 : Int)).toNat = 0 from rfl] at hx176_1)
               (try rw [show 0 * 2 = 0 from rfl] at hx176_1)
               (try rw [Addr.add_zero'] at hx176_1)
               replace hx176_0 := (HB.out.cell (World.block_lt_of_cell? w _ hx176_0)).trans hx176_0
               replace hx176_1 := (HB.out.cell (World.block_lt_of_cell? w _ hx176_1)).trans hx176_1
               have HR176_0 := Aside0.mk hi176_0
               have HC176_0 := Aside0.mk hl176_0
               clear hi176_0 hl176_0
               have HR176_1 := Aside0.mk hi176_1
               have HC176_1 := Aside0.mk hl176_1
               clear hi176_1 hl176_1
               replace p176 := eq_true p176
               replace q176 := eq_true q176
               have p177 : 0 ≤ (x4_3 : Int) := of_decide_eq_true t3_
               have q177 : x4_3 < (((rd_T32 l0 0).f1).length : Int) := of_decide_eq_true t3_
               obtain ⟨ad177, e177, hx177_0, hx177_1, hx177_2, hx177_3, hx177_4, hx177_5⟩ := at_T80 HR176_1.out x4_3 p177 q177
               have hw177_5 := hx177_5
               have hw177_4 := hx177_4
               have hw177_3 := hx177_3
               have hw177_2 := hx177_2
               have hw177_1 := hx177_1
               have hw177_0 := hx177_0
               cases e177
               replace hx177_0 := (HB.out.cell (World.block_lt_of_cell? w _ hx177_0)).trans hx177_0
               replace hx177_1 := (HB.out.cell (World.block_lt_of_cell? w _ hx177_1)).trans hx177_1
               replace hx177_2 := (HB.out.cell (World.block_lt_of_cell? w _ hx177_2)).trans hx177_2
               replace hx177_3 := (HB.out.cell (World.block_lt_of_cell? w _ hx177_3)).trans hx177_3
               replace hx177_4 := (HB.out.cell (World.block_lt_of_cell? w _ hx177_4)).trans hx177_4
               replace hx177_5 := (HB.out.cell (World.block_lt_of_cell? w _ hx177_5)).trans hx177_5
               replace p177 := eq_true p177
               replace q177 := eq_true q177
               refine start_ (n := 33) (S := fun w' => w'.cell? ad168 = some (.slice A176_0 ((rd_T32 l0 0).f0).length c176_0) ∧ w'.cell? ⟨ad168.block, ad168.off + 1, none⟩ = some (.slice (some ad177) ((rd_T32 l0 0).f1).length c176_1) ∧ w'.cell? (ad177.add ((x4_3).toNat * 6)) = some (.string ((rd_T80 ((rd_T32 l0 0).f1) x4_3).f0)) ∧ w'.cell? ⟨(ad177.add ((x4_3).toNat * 6)).block, (ad177.add ((x4_3).toNat * 6)).off + 1, none⟩ = some (.int .i64 ((rd_T80 ((rd_T32 l0 0).f1) x4_3).f1)) ∧ w'.cell? ⟨(ad177.add ((x4_3).toNat * 6)).block, (ad177.add ((x4_3).toNat * 6)).off + 2, none⟩ = some (.int .i64 ((rd_T80 ((rd_T32 l0 0).f1) x4_3).f2)) ∧ w'.cell? ⟨(ad177.add ((x4_3).toNat * 6)).block, (ad177.add ((x4_3).toNat * 6)).off + 3, none⟩ = some (.int .i64 ((rd_T80 ((rd_T32 l0 0).f1) x4_3).f3)) ∧ w'.cell? ⟨(ad177.add ((x4_3).toNat * 6)).block, (ad177.add ((x4_3).toNat * 6)).off + 4, none⟩ = some (.int .i64 ((rd_T80 ((rd_T32 l0 0).f1) x4_3).f4)) ∧ w'.cell? ⟨(ad177.add ((x4_3).toNat * 6)).block, (ad177.add ((x4_3).toNat * 6)).off + 5, none⟩ = some (.int .i64 ((rd_T80 ((rd_T32 l0 0).f1) x4_3).f5))) (ds := []) (tf 0 33) t6_ rfl rfl ⟨((HB.out.cell (World.block_lt_of_cell? w _ hw176_0)).trans hw176_0), ((HB.out.cell (World.block_lt_of_cell? w _ hw176_1)).trans hw176_1), ((HB.out.cell (World.block_lt_of_cell? w _ hw177_0)).trans hw177_0), ((HB.out.cell (World.block_lt_of_cell? w _ hw177_1)).trans hw177_1), ((HB.out.cell (World.block_lt_of_cell? w _ hw177_2)).trans hw177_2), ((HB.out.cell (World.block_lt_of_cell? w _ hw177_3)).trans hw177_3), ((HB.out.cell (World.block_lt_of_cell? w _ hw177_4)).trans hw177_4), ((HB.out.cell (World.block_lt_of_cell? w _ hw177_5)).trans hw177_5)⟩ (fun hHeld => ?_); refine with_tabW spec_l04Ok.tab11 spec_l04Ok.bits11 (fun HT_ HW_ => ?_)
               generalize wr.drew = w25 at HB HR176_0 HR176_1 hx176_0 hx176_1 hx177_0 hx177_1 hx177_2 hx177_3 hx177_4 hx177_5 hHeld ⊢
               refine px 0 (some 54) (tf 1 33) HT_ ?_
               refine px 1 (some 55) (tf 2 33) HT_ ?_
               refine px 2 (some 56) (tf 3 33) HT_ ?_
               refine px 3 (some 57) (tf 4 33) HT_ ?_
               refine px 5 (some 59) (tb 33 47) HT_ ?_
               refine tx (v := ?_) 4 (some 58) (tf 6 33) HT_ HW_ hHeld ?_ ?_
               rotate_left; (· rintro w' ⟨s0, s1, s2, s3, s4, s5, s6, s7⟩; go_simp; with_reducible rfl)
               refine px 6 (some 60) (tf 7 33) HT_ ?_
               refine one_ (i := 7) (N := some 61) (tf 8 33) rfl rfl (one_of HT_.out t6_) t24_ (fun K hK => ?_)
               refine goes_ Try.func86 t6_ rfl #[.pointer (some ad168), .pointer (some (ad177.add (x4_3.toNat * 6)))] t38_ rfl rfl t2_ ?_
               with_reducible refine (spec_l04Fits.calls k3 _ c0 l0 _ 1 [rd_T80 ((rd_T32 l0 0).f1) x4_3] true _ ?side1 ?side2 ?side3 ?side4 A14.out).mono ?_
               (case side1 => repeat (first | exact (Kd.C_below HR0.out HB.out) | (with_reducible refine Kd.C_alloc ?_ _) | (with_reducible refine Kd.C_drewN ?_ _) | (with_reducible refine Kd.C_drew ?_)))
               (case side2 => exact HC0.out)
               (case side3 => exact Kd.C_sub (z := z80) (n := ((rd_T32 l0 0).f1).length) (t21_) (by first | exact p177 | exact of_eq_true p177 | omega) (by first | exact q177 | exact of_eq_true q177 | omega))
               (case side4 => exact Nat.le_refl _)
               rintro e w26 ⟨rfl, hb⟩
               refine ⟨_, rfl, ?_⟩
               have n0_ := Aside0.mk (below_step t1_ hb)
               clear HB
               have HB := n0_
               clear n0_
               (try clear hb)
               (try clear hb2)
               (try clear hk)
               (try clear hi)
               refine hK.out _ _ ⟨((HB.out.cell (World.block_lt_of_cell? w _ hw176_0)).trans hw176_0), ((HB.out.cell (World.block_lt_of_cell? w _ hw176_1)).trans hw176_1), ((HB.out.cell (World.block_lt_of_cell? w _ hw177_0)).trans hw177_0), ((HB.out.cell (World.block_lt_of_cell? w _ hw177_1)).trans hw177_1), ((HB.out.cell (World.block_lt_of_cell? w _ hw177_2)).trans hw177_2), ((HB.out.cell (World.block_lt_of_cell? w _ hw177_3)).trans hw177_3), ((HB.out.cell (World.block_lt_of_cell? w _ hw177_4)).trans hw177_4), ((HB.out.cell (World.block_lt_of_cell? w _ hw177_5)).trans hw177_5)⟩ (fun hHeld => ?_)
               clear hK K
               refine norm_ (a' := ?_) ?_ ?_
               rotate_left
               ·show Act.put _ (some 61) _ = _
                simp only [Act.put, List.setIfInBounds_toArray, List.set_cons_zero, List.set_cons_succ, i64_w, i32_w]
                rfl
               refine px 8 (some 62) (tf 9 33) HT_ ?_
               refine px 9 (some 63) (tf 10 33) HT_ ?_
               refine px 10 (some 64) (tf 11 33) HT_ ?_
               refine px 11 (some 65) (tf 12 33) HT_ ?_
               refine px 12 (some 66) (tf 13 33) HT_ ?_
               refine sx 13 (some 67) (tf 14 33) HT_ ?_
               refine sx 14 (some 68) (tf 15 33) HT_ ?_
               refine sx 15 (some 69) (tf 16 33) HT_ ?_
               refine sx 16 (some 70) (tf 17 33) HT_ ?_
               refine sx 17 (some 71) (tf 18 33) HT_ ?_
               refine sx 18 (some 72) (tf 19 33) HT_ ?_
               refine sx 19 (some 73) (tf 20 33) HT_ ?_
               refine sx 20 (some 74) (tf 21 33) HT_ ?_
               refine sx 21 (some 75) (tf 22 33) HT_ ?_
               refine sx 22 (some 76) (tf 23 33) HT_ ?_
               refine sx 23 (some 77) (tf 24 33) HT_ ?_
               refine sx 24 (some 78) (tf 25 33) HT_ ?_
               refine sx 25 (some 79) (tf 26 33) HT_ ?_
               refine sx 26 (some 80) (tf 27 33) HT_ ?_
               refine sx 27 (some 81) (tf 28 33) HT_ ?_
               refine sx 28 (some 82) (tf 29 33) HT_ ?_
               refine sx 29 (some 83) (tf 30 33) HT_ ?_
               refine sx 30 (some 84) (tf 31 33) HT_ ?_
               refine px 31 (some 85) (tf 32 33) HT_ ?_
               refine px 32 (some 86) (tf 33 33) HT_ ?_
               refine done_ (done_of HT_.out t6_) ?_
               try go_wp2
               go_roundg k3
               case measure => have := HK1.out; have := HJ6.out; have := HK3.out; omega
               case rel => exact ⟨(wrap64 (x4_3 + 1)), t5_, H', ⟨by have := HK1.out; have := HJ6.out; have := HK3.out; omega⟩, ⟨by repeat (first | (with_reducible first | exact HB.out | apply below_alloc | apply pw_below_drewN | apply below_drew1) | exact HB.out)⟩⟩
             ·replace c15 := Bool.eq_false_iff.mpr c15
              subst c15
              have H1 : (some false) = some r := by rw [if_neg (show ¬ (false = true) by decide)] at H; exact H
              clear H
              have H := H1
              clear H1
              obtain rfl := Option.some.inj H
              have p175 : 0 ≤ (0 : Int) := t11_
              have q175 : 0 < (l0.length : Int) := of_decide_eq_true t3_
              obtain ⟨ad175, A175_0, c175_0, A175_1, c175_1, e175, hx175_0, hx175_1, hl175_0, hi175_0, hl175_1, hi175_1⟩ := at_T32 HR0.out 0 p175 q175
              obtain rfl : ad168 = ad175 := (by injection e175)
              have qi175 : (0 < l0.length) = True := eq_true t11_
              (try rw [show ((0 : Int)).toNat = 0 from rfl] at hx175_0)
              (try rw [show 0 * 2 = 0 from rfl] at hx175_0)
              (try rw [Addr.add_zero'] at hx175_0)
              (try rw [show ((0 : Int)).toNat = 0 from rfl] at hx175_1)
              (try rw [show 0 * 2 = 0 from rfl] at hx175_1)
              (try rw [Addr.add_zero'] at hx175_1)
              replace hx175_0 := (HB.out.cell (World.block_lt_of_cell? w _ hx175_0)).trans hx175_0
              replace hx175_1 := (HB.out.cell (World.block_lt_of_cell? w _ hx175_1)).trans hx175_1
              have HR175_0 := Aside0.mk hi175_0
              have HC175_0 := Aside0.mk hl175_0
              clear hi175_0 hl175_0
              have HR175_1 := Aside0.mk hi175_1
              have HC175_1 := Aside0.mk hl175_1
              clear hi175_1 hl175_1
              replace p175 := eq_true p175
              replace q175 := eq_true q175
              try go_wp2
              have n0_ := Aside0.mk (below_drew1 HB.out)
              clear HB
              have HB := n0_
              clear n0_
              have p176 : 0 ≤ (0 : Int) := t11_
              have q176 : 0 < (l0.length : Int) := of_decide_eq_true t3_
              obtain ⟨ad176, A176_0, c176_0, A176_1, c176_1, e176, hx176_0, hx176_1, hl176_0, hi176_0, hl176_1, hi176_1⟩ := at_T32 HR0.out 0 p176 q176
              have hw176_1 := hx176_1
              (try rw [show ((0 : Int)).toNat = 0 from rfl] at hw176_1)
              (try rw [show 0 * 2 = 0 from rfl] at hw176_1)
              (try rw [Addr.add_zero'] at hw176_1)
              have hw176_0 := hx176_0
              (try rw [show ((0 : Int)).toNat = 0 from rfl] at hw176_0)
              (try rw [show 0 * 2 = 0 from rfl] at hw176_0)
              (try rw [Addr.add_zero'] at hw176_0)
              obtain rfl : ad168 = ad176 := (by injection e176)
              have qi176 : (0 < l0.length) = True := eq_true t11_
              (try rw [show ((0 : Int)).toNat = 0 from rfl] at hx176_0)
              (try rw [show 0 * 2 = 0 from rfl] at hx176_0)
              (try rw [Addr.add_zero'] at hx176_0)
              (try rw [show ((0 : Int)).toNat = 0 from rfl] at hx176_1)
              (try rw [show 0 * 2 = 0 from rfl] at hx176_1)
              (try rw [Addr.add_zero'] at hx176_1)
              replace hx176_0 := (HB.out.cell (World.block_lt_of_cell? w _ hx176_0)).trans hx176_0
              replace hx176_1 := (HB.out.cell (World.block_lt_of_cell? w _ hx176_1)).trans hx176_1
              have HR176_0 := Aside0.mk hi176_0
              have HC176_0 := Aside0.mk hl176_0
              clear hi176_0 hl176_0
              have HR176_1 := Aside0.mk hi176_1
              have HC176_1 := Aside0.mk hl176_1
              clear hi176_1 hl176_1
              replace p176 := eq_true p176
              replace q176 := eq_true q176
              have p177 : 0 ≤ (x4_3 : Int) := of_decide_eq_true t3_
              have q177 : x4_3 < (((rd_T32 l0 0).f1).length : Int) := of_decide_eq_true t3_
              obtain ⟨ad177, e177, hx177_0, hx177_1, hx177_2, hx177_3, hx177_4, hx177_5⟩ := at_T80 HR176_1.out x4_3 p177 q177
              have hw177_5 := hx177_5
              have hw177_4 := hx177_4
              have hw177_3 := hx177_3
              have hw177_2 := hx177_2
              have hw177_1 := hx177_1
              have hw177_0 := hx177_0
              cases e177
              replace hx177_0 := (HB.out.cell (World.block_lt_of_cell? w _ hx177_0)).trans hx177_0
              replace hx177_1 := (HB.out.cell (World.block_lt_of_cell? w _ hx177_1)).trans hx177_1
              replace hx177_2 := (HB.out.cell (World.block_lt_of_cell? w _ hx177_2)).trans hx177_2
              replace hx177_3 := (HB.out.cell (World.block_lt_of_cell? w _ hx177_3)).trans hx177_3
              replace hx177_4 := (HB.out.cell (World.block_lt_of_cell? w _ hx177_4)).trans hx177_4
              replace hx177_5 := (HB.out.cell (World.block_lt_of_cell? w _ hx177_5)).trans hx177_5
              replace p177 := eq_true p177
              replace q177 := eq_true q177
              refine start_ (n := 33) (S := fun w' => w'.cell? ad168 = some (.slice A176_0 ((rd_T32 l0 0).f0).length c176_0) ∧ w'.cell? ⟨ad168.block, ad168.off + 1, none⟩ = some (.slice (some ad177) ((rd_T32 l0 0).f1).length c176_1) ∧ w'.cell? (ad177.add ((x4_3).toNat * 6)) = some (.string ((rd_T80 ((rd_T32 l0 0).f1) x4_3).f0)) ∧ w'.cell? ⟨(ad177.add ((x4_3).toNat * 6)).block, (ad177.add ((x4_3).toNat * 6)).off + 1, none⟩ = some (.int .i64 ((rd_T80 ((rd_T32 l0 0).f1) x4_3).f1)) ∧ w'.cell? ⟨(ad177.add ((x4_3).toNat * 6)).block, (ad177.add ((x4_3).toNat * 6)).off + 2, none⟩ = some (.int .i64 ((rd_T80 ((rd_T32 l0 0).f1) x4_3).f2)) ∧ w'.cell? ⟨(ad177.add ((x4_3).toNat * 6)).block, (ad177.add ((x4_3).toNat * 6)).off + 3, none⟩ = some (.int .i64 ((rd_T80 ((rd_T32 l0 0).f1) x4_3).f3)) ∧ w'.cell? ⟨(ad177.add ((x4_3).toNat * 6)).block, (ad177.add ((x4_3).toNat * 6)).off + 4, none⟩ = some (.int .i64 ((rd_T80 ((rd_T32 l0 0).f1) x4_3).f4)) ∧ w'.cell? ⟨(ad177.add ((x4_3).toNat * 6)).block, (ad177.add ((x4_3).toNat * 6)).off + 5, none⟩ = some (.int .i64 ((rd_T80 ((rd_T32 l0 0).f1) x4_3).f5))) (ds := []) (tf 0 33) t6_ rfl rfl ⟨((HB.out.cell (World.block_lt_of_cell? w _ hw176_0)).trans hw176_0), ((HB.out.cell (World.block_lt_of_cell? w _ hw176_1)).trans hw176_1), ((HB.out.cell (World.block_lt_of_cell? w _ hw177_0)).trans hw177_0), ((HB.out.cell (World.block_lt_of_cell? w _ hw177_1)).trans hw177_1), ((HB.out.cell (World.block_lt_of_cell? w _ hw177_2)).trans hw177_2), ((HB.out.cell (World.block_lt_of_cell? w _ hw177_3)).trans hw177_3), ((HB.out.cell (World.block_lt_of_cell? w _ hw177_4)).trans hw177_4), ((HB.out.cell (World.block_lt_of_cell? w _ hw177_5)).trans hw177_5)⟩ (fun hHeld => ?_); refine with_tabW spec_l04Ok.tab11 spec_l04Ok.bits11 (fun HT_ HW_ => ?_)
              generalize wr.drew = w27 at HB HR176_0 HR176_1 hx176_0 hx176_1 hx177_0 hx177_1 hx177_2 hx177_3 hx177_4 hx177_5 hHeld ⊢
              refine px 0 (some 54) (tf 1 33) HT_ ?_
              refine px 1 (some 55) (tf 2 33) HT_ ?_
              refine px 2 (some 56) (tf 3 33) HT_ ?_
              refine px 3 (some 57) (tf 4 33) HT_ ?_
              refine px 5 (some 59) (tb 33 47) HT_ ?_
              refine tx (v := ?_) 4 (some 58) (tf 6 33) HT_ HW_ hHeld ?_ ?_
              rotate_left; (· rintro w' ⟨s0, s1, s2, s3, s4, s5, s6, s7⟩; go_simp; with_reducible rfl)
              refine px 6 (some 60) (tf 7 33) HT_ ?_
              refine one_ (i := 7) (N := some 61) (tf 8 33) rfl rfl (one_of HT_.out t6_) t24_ (fun K hK => ?_)
              refine goes_ Try.func86 t6_ rfl #[.pointer (some ad168), .pointer (some (ad177.add (x4_3.toNat * 6)))] t38_ rfl rfl t2_ ?_
              with_reducible refine (spec_l04Fits.calls k3 _ c0 l0 _ 1 [rd_T80 ((rd_T32 l0 0).f1) x4_3] false _ ?side1 ?side2 ?side3 ?side4 A14.out).mono ?_
              (case side1 => repeat (first | exact (Kd.C_below HR0.out HB.out) | (with_reducible refine Kd.C_alloc ?_ _) | (with_reducible refine Kd.C_drewN ?_ _) | (with_reducible refine Kd.C_drew ?_)))
              (case side2 => exact HC0.out)
              (case side3 => exact Kd.C_sub (z := z80) (n := ((rd_T32 l0 0).f1).length) (t21_) (by first | exact p177 | exact of_eq_true p177 | omega) (by first | exact q177 | exact of_eq_true q177 | omega))
              (case side4 => exact Nat.le_refl _)
              rintro e w28 ⟨rfl, hb⟩
              refine ⟨_, rfl, ?_⟩
              have n0_ := Aside0.mk (below_step t1_ hb)
              clear HB
              have HB := n0_
              clear n0_
              (try clear hb)
              (try clear hb2)
              (try clear hk)
              (try clear hi)
              refine hK.out _ _ ⟨((HB.out.cell (World.block_lt_of_cell? w _ hw176_0)).trans hw176_0), ((HB.out.cell (World.block_lt_of_cell? w _ hw176_1)).trans hw176_1), ((HB.out.cell (World.block_lt_of_cell? w _ hw177_0)).trans hw177_0), ((HB.out.cell (World.block_lt_of_cell? w _ hw177_1)).trans hw177_1), ((HB.out.cell (World.block_lt_of_cell? w _ hw177_2)).trans hw177_2), ((HB.out.cell (World.block_lt_of_cell? w _ hw177_3)).trans hw177_3), ((HB.out.cell (World.block_lt_of_cell? w _ hw177_4)).trans hw177_4), ((HB.out.cell (World.block_lt_of_cell? w _ hw177_5)).trans hw177_5)⟩ (fun hHeld => ?_)
              clear hK K
              refine norm_ (a' := ?_) ?_ ?_
              rotate_left
              ·show Act.put _ (some 61) _ = _
               simp only [Act.put, List.setIfInBounds_toArray, List.set_cons_zero, List.set_cons_succ, i64_w, i32_w]
               rfl
              refine px 8 (some 62) (tf 9 33) HT_ ?_
              refine px 9 (some 63) (tf 10 33) HT_ ?_
              refine sx 10 (some 64) (tf 11 33) HT_ ?_
              refine sx 11 (some 65) (tf 12 33) HT_ ?_
              refine sx 12 (some 66) (tf 13 33) HT_ ?_
              refine sx 13 (some 67) (tf 14 33) HT_ ?_
              refine sx 14 (some 68) (tf 15 33) HT_ ?_
              refine sx 15 (some 69) (tf 16 33) HT_ ?_
              refine sx 16 (some 70) (tf 17 33) HT_ ?_
              refine sx 17 (some 71) (tf 18 33) HT_ ?_
              refine sx 18 (some 72) (tf 19 33) HT_ ?_
              refine sx 19 (some 73) (tf 20 33) HT_ ?_
              refine sx 20 (some 74) (tf 21 33) HT_ ?_
              refine sx 21 (some 75) (tf 22 33) HT_ ?_
              refine sx 22 (some 76) (tf 23 33) HT_ ?_
              refine sx 23 (some 77) (tf 24 33) HT_ ?_
              refine sx 24 (some 78) (tf 25 33) HT_ ?_
              refine sx 25 (some 79) (tf 26 33) HT_ ?_
              refine sx 26 (some 80) (tf 27 33) HT_ ?_
              refine sx 27 (some 81) (tf 28 33) HT_ ?_
              refine sx 28 (some 82) (tf 29 33) HT_ ?_
              refine sx 29 (some 83) (tf 30 33) HT_ ?_
              refine sx 30 (some 84) (tf 31 33) HT_ ?_
              refine sx 31 (some 85) (tf 32 33) HT_ ?_
              refine px 32 (some 86) (tf 33 33) HT_ ?_
              refine done_ (done_of HT_.out t6_) ?_
              try go_wp2
              go_ret
              exact ⟨by first | rfl | (rw [Int.tdiv_eq_ediv_of_nonneg t11_]; rfl) | (simp [errW_none, errW_some] <;> rfl) | (simp [*, errW_none, errW_some] <;> rfl), by repeat (first | (with_reducible first | exact HB.out | apply below_alloc | apply pw_below_drewN | apply below_drew1) | exact HB.out)⟩
            ·rw [if_neg c13] at H
             exact absurd H t30_
           ·rw [if_neg c12] at H
            have c12b0 : decide (x4_3 < (((rd_T32 l0 0).f1).length : Int)) = false := decide_eq_false c12
            clear c12
            obtain rfl := Option.some.inj H
            have p175 : 0 ≤ (0 : Int) := t11_
            have q175 : 0 < (l0.length : Int) := of_decide_eq_true t3_
            obtain ⟨ad175, A175_0, c175_0, A175_1, c175_1, e175, hx175_0, hx175_1, hl175_0, hi175_0, hl175_1, hi175_1⟩ := at_T32 HR0.out 0 p175 q175
            obtain rfl : ad168 = ad175 := (by injection e175)
            have qi175 : (0 < l0.length) = True := eq_true t11_
            (try rw [show ((0 : Int)).toNat = 0 from rfl] at hx175_0)
            (try rw [show 0 * 2 = 0 from rfl] at hx175_0)
            (try rw [Addr.add_zero'] at hx175_0)
            (try rw [show ((0 : Int)).toNat = 0 from rfl] at hx175_1)
            (try rw [show 0 * 2 = 0 from rfl] at hx175_1)
            (try rw [Addr.add_zero'] at hx175_1)
            replace hx175_0 := (HB.out.cell (World.block_lt_of_cell? w _ hx175_0)).trans hx175_0
            replace hx175_1 := (HB.out.cell (World.block_lt_of_cell? w _ hx175_1)).trans hx175_1
            have HR175_0 := Aside0.mk hi175_0
            have HC175_0 := Aside0.mk hl175_0
            clear hi175_0 hl175_0
            have HR175_1 := Aside0.mk hi175_1
            have HC175_1 := Aside0.mk hl175_1
            clear hi175_1 hl175_1
            replace p175 := eq_true p175
            replace q175 := eq_true q175
            go_wp2
            go_ret
            exact ⟨by first | rfl | (rw [Int.tdiv_eq_ediv_of_nonneg t11_]; rfl) | (simp [errW_none, errW_some] <;> rfl) | (simp [*, errW_none, errW_some] <;> rfl), by repeat (first | (with_reducible first | exact HB.out | apply below_alloc | apply pw_below_drewN | apply below_drew1) | exact HB.out)⟩
          ·rw [if_neg c11] at H
           exact absurd H t30_
   ·rw [if_neg c2] at H
    exact absurd H t30_

end Go.Proofs.Ytjelfhmgbhidnaa.PFnExactUnservedLoad
