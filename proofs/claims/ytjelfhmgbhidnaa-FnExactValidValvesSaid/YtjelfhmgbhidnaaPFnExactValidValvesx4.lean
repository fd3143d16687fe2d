-- written by wip/xprint.py, a program of this session, for this claim; not trusted: Lean checks it.
import Derived.Test.YtjelfhmgbhidnaaPFnExactValidValvesx0
import Derived.Test.YtjelfhmgbhidnaaPFnExactValidValvesx1
import Derived.Test.YtjelfhmgbhidnaaPFnExactValidValvesx3
namespace Go.Proofs.Ytjelfhmgbhidnaa.PFnExactValidValves
open Go.RowKit Go.Proofs.YtjelfhmgbhidnaaW.PrintWords Go.Proofs.YtjelfhmgbhidnaaW.PrintLast Go.Proofs.YtjelfhmgbhidnaaW.PrintMore
attribute [local go_sem] leq_less_ max2_int min2_int max_two min_two max_three min_three max_four min_four   -- for this text's walks alone
set_option linter.unusedVariables false
set_option linter.unusedSimpArgs false

/-! ### spec_l04Ok: function 54 -/
mutual
def spec_l04Ok.l0 : Nat → List (S32) → Int → Option (Bool)
 | 0, _, _ => none
 | k + 1, x0, x3 => if 0 < (x0.length : Int) then (if x3 < (((rd_T32 x0 0).f0).length : Int) then (if 0 ≤ x3 then ((spec_l00In.f (rd ((rd_T32 x0 0).f0) x3) (-100000) 100000).bind fun t135 => (if t135 = true then (spec_l04Ok.l0 k x0 (wrap64 (x3 + 1))) else (some false))) else (none)) else (if (((rd_T32 x0 0).f0).length : Int) < 1 then (spec_l04Ok.j1 k x0 true) else (if (((rd_T32 x0 0).f0).length : Int) > 16 then (spec_l04Ok.j1 k x0 true) else (spec_l04Ok.j1 k x0 (decide ((((rd_T32 x0 0).f1).length : Int) > 20)))))) else (none)
def spec_l04Ok.j1 : Nat → List (S32) → Bool → Option (Bool)
 | 0, _, _ => none
 | k + 1, x0, x44 => if x44 = true then (some false) else (spec_l04Ok.l1 k x0 0)
def spec_l04Ok.l1 : Nat → List (S32) → Int → Option (Bool)
 | 0, _, _ => none
 | k + 1, x0, x4 => if 0 < (x0.length : Int) then (if x4 < (((rd_T32 x0 0).f1).length : Int) then (if 0 ≤ x4 then ((spec_l04Fits.f k x0 [rd_T80 ((rd_T32 x0 0).f1) x4]).bind fun t142 => (if t142 = true then (if x4 > 0 then (if 0 ≤ (wrap64 (x4 - 1)) then (if (wrap64 (x4 - 1)) < (((rd_T32 x0 0).f1).length : Int) then (if ((Op.bytesLess (((rd_T80 ((rd_T32 x0 0).f1) (wrap64 (x4 - 1))).f0).toList) (((rd_T80 ((rd_T32 x0 0).f1) x4).f0).toList)) = true) then (spec_l04Ok.l1 k x0 (wrap64 (x4 + 1))) else (some false)) else (none)) else (none)) else (spec_l04Ok.l1 k x0 (wrap64 (x4 + 1)))) else (some false))) else (none)) else (some true)) else (none)
end
def spec_l04Ok.f (k : Nat) (l0 : List (S32)) : Option (Bool) := spec_l04Ok.l0 k l0 0
theorem spec_l04Ok.mono_l : ∀ k, (∀ y0 y1, LeO (spec_l04Ok.l0 k y0 y1) (spec_l04Ok.l0 (k + 1) y0 y1)) ∧ (∀ y0 y1, LeO (spec_l04Ok.j1 k y0 y1) (spec_l04Ok.j1 (k + 1) y0 y1)) ∧ (∀ y0 y1, LeO (spec_l04Ok.l1 k y0 y1) (spec_l04Ok.l1 (k + 1) y0 y1))
 | 0 => ⟨fun _ _ r h => by simp [spec_l04Ok.l0] at h, fun _ _ r h => by simp [spec_l04Ok.j1] at h, fun _ _ r h => by simp [spec_l04Ok.l1] at h⟩
 | k + 1 => by
  obtain ⟨ih0, ih1, ih2⟩ := spec_l04Ok.mono_l k
  refine ⟨?_, ?_, ?_⟩ <;> intros <;> first | unfold spec_l04Ok.l0 | unfold spec_l04Ok.j1 | unfold spec_l04Ok.l1
  all_goals
   repeat' first
   | (with_reducible exact ih0 _ _)
   | (with_reducible exact ih1 _ _)
   | (with_reducible exact ih2 _ _)
   | (with_reducible exact spec_l04Fits.mono _ _ _)
   | (with_reducible exact LeO.refl _)
   | (with_reducible exact LeO.none _)
   | (with_reducible refine LeO.ite ?_ ?_)
   | (with_reducible refine LeO.bind ?_ (fun _ => ?_))
   | exact ih0 _ _
   | exact ih1 _ _
   | exact ih2 _ _
   | exact spec_l04Fits.mono _ _ _
   | exact LeO.none _
   | refine LeO.ite ?_ ?_
   | refine LeO.bind ?_ (fun _ => ?_)
theorem spec_l04Ok.mono : ∀ a0 k, LeO (spec_l04Ok.f k a0) (spec_l04Ok.f (k + 1) a0) := by
 intro a0 k
 obtain ⟨ih0, ih1, ih2⟩ := spec_l04Ok.mono_l k
 unfold spec_l04Ok.f
 repeat' first
   | (with_reducible exact ih0 _ _)
   | (with_reducible exact ih1 _ _)
   | (with_reducible exact ih2 _ _)
   | (with_reducible exact spec_l04Fits.mono _ _ _)
   | (with_reducible exact LeO.refl _)
   | (with_reducible exact LeO.none _)
   | (with_reducible refine LeO.ite ?_ ?_)
   | (with_reducible refine LeO.bind ?_ (fun _ => ?_))
   | exact ih0 _ _
   | exact ih1 _ _
   | exact ih2 _ _
   | exact spec_l04Fits.mono _ _ _
   | exact LeO.none _
   | refine LeO.ite ?_ ?_
   | refine LeO.bind ?_ (fun _ => ?_)
def spec_l04Ok.T11 : Bool × List (List Nat × List Nat) := (true, [([], []), ([], []), ([1], [1]), ([2], [2]), ([3], [3]), ([], []), ([4, 5], [4, 5]), ([0, 6], [0, 6]), ([7], [7]), ([8, 7], [8]), ([9], [9]), ([10, 9], [9, 10]), ([11, 9, 9], [9, 11]), ([12], [12]), ([13, 12], [12, 13]), ([14, 12], [12, 14]), ([15, 12], [12, 15]), ([12], [12]), ([17, 12], [12, 17]), ([16, 18, 12], [12, 16, 18]), ([19, 12], [12, 19]), ([20, 12], [12, 20]), ([12], [12]), ([22, 12], [12, 22]), ([23, 12], [12, 23]), ([24, 12], [12, 24]), ([12], [12]), ([25, 26, 12], [12, 25, 26]), ([27, 12], [12, 27]), ([28, 12], [12, 28]), ([21, 29, 12], [12, 21, 29]), ([12, 30, 9], [9, 12, 30]), ([9, 31], [9, 31])])
def spec_l04Ok.B11 : List Nat := [0, 0, 2, 6, 14, 0, 62, 127, 255, 511, 1023, 2047, 4095, 8191, 16383, 32767, 65535, 8191, 139263, 524287, 1048575, 2097151, 8191, 4202495, 12591103, 29368319, 8191, 130031615, 264249343, 532684799, 1073741823, 2147483647, 4294967295]
theorem spec_l04Ok.tab11 : rtab .any (opsOf Try.f54 11) = spec_l04Ok.T11 := by kernel_rfl
theorem spec_l04Ok.bits11 : waitsOk spec_l04Ok.T11.2 spec_l04Ok.B11 = true := by kernel_rfl
set_option maxHeartbeats 8000000 in
set_option maxRecDepth 100000 in
theorem spec_l04Ok.calls (k : Nat) (A0 : Option Addr) (c0 : Nat) (l0 : List (S32)) (r : Bool) (w : World) (hr0 : Kd.C k32 w A0 l0.length l0) (hc0 : l0.length ≤ c0) (h : spec_l04Ok.f k l0 = some r) :
  Calls Try.prog 54 #[.pointer A0] w fun e w' => e = .returned (.bool r) ∧ Below w.heap.size w w' := by
 have HR0 := Aside0.mk hr0
 have HC0 := Aside0.mk hc0
 clear hr0 hc0
 have HB := Aside0.mk (Below.refl w.heap.size w)
 have H : (spec_l04Ok.l0 k l0 0) = some r := h
 clear h
 have H' := Aside0.mk H
 clear H
 go_enter Try.func54, Try.ntmps54
 go_wp2
 go_loopg [3] k (fun kq v3 w' => ∃ (x3_1 : Int), v3 = .int .i64 x3_1 ∧ Aside0 (spec_l04Ok.l0 kq l0 x3_1 = some r) ∧ Aside0 (kq ≤ k) ∧ Aside0 (Below w.heap.size w w'))
 case atStart => exact ⟨(0), t6_, H', ⟨Nat.le_refl _⟩, ⟨by repeat (first | (with_reducible first | exact HB.out | apply below_alloc | apply pw_below_drewN | apply below_drew1) | exact HB.out)⟩⟩
 case round =>
  clear H'
  obtain ⟨x3_1, rfl, HA, HK1, HB⟩ := hrel
  cases gk with
  | zero => exact absurd HA.out (by simp [spec_l04Ok.l0])
  | succ k1 =>
   have H := HA.out
   clear HA
   simp only [spec_l04Ok.l0] at H
   by_cases c2 : 0 < (l0.length : Int)
   ·rw [if_pos c2] at H
    have c2b0 : decide (0 < (l0.length : Int)) = true := decide_eq_true c2
    have c2b1 : decide (0 < l0.length) = true := decide_eq_true t12_
    clear c2
    by_cases c3 : x3_1 < (((rd_T32 l0 0).f0).length : Int)
    ·rw [if_pos c3] at H
     have c3b0 : decide (x3_1 < (((rd_T32 l0 0).f0).length : Int)) = true := decide_eq_true c3
     clear c3
     by_cases c4 : 0 ≤ x3_1
     ·rw [if_pos c4] at H
      have c4b0 : decide (0 ≤ x3_1) = true := decide_eq_true c4
      clear c4
      replace H := Option.bind_eq_some_iff.mp H
      obtain ⟨t135, A50, H⟩ := H
      replace H : (if t135 = true then (spec_l04Ok.l0 k1 l0 (wrap64 (x3_1 + 1))) else (some false)) = some r := H
      have A5 := Aside0.mk A50
      clear A50
      by_cases c6 : t135 = true
      ·subst c6
       have H1 : (spec_l04Ok.l0 k1 l0 (wrap64 (x3_1 + 1))) = some r := by rw [if_pos rfl] at H; exact H
       clear H
       have H := H1
       clear H1
       have H' := Aside0.mk H
       clear H
       have p132 : 0 ≤ (0 : Int) := t12_
       have q132 : 0 < (l0.length : Int) := of_decide_eq_true t3_
       obtain ⟨ad132, A132_0, c132_0, A132_1, c132_1, e132, hx132_0, hx132_1, hl132_0, hi132_0, hl132_1, hi132_1⟩ := at_T32 HR0.out 0 p132 q132
       cases e132
       have qi132 : (0 < l0.length) = True := eq_true t12_
       (try rw [show ((0 : Int)).toNat = 0 from rfl] at hx132_0)
       (try rw [show 0 * 2 = 0 from rfl] at hx132_0)
       (try rw [Addr.add_zero'] at hx132_0)
       (try rw [show ((0 : Int)).toNat = 0 from rfl] at hx132_1)
       (try rw [show 0 * 2 = 0 from rfl] at hx132_1)
       (try rw [Addr.add_zero'] at hx132_1)
       replace hx132_0 := (HB.out.cell (World.block_lt_of_cell? w _ hx132_0)).trans hx132_0
       replace hx132_1 := (HB.out.cell (World.block_lt_of_cell? w _ hx132_1)).trans hx132_1
       have HR132_0 := Aside0.mk hi132_0
       have HC132_0 := Aside0.mk hl132_0
       clear hi132_0 hl132_0
       have HR132_1 := Aside0.mk hi132_1
       have HC132_1 := Aside0.mk hl132_1
       clear hi132_1 hl132_1
       replace p132 := eq_true p132
       replace q132 := eq_true q132
       have p133 : 0 ≤ (0 : Int) := t12_
       have q133 : 0 < (l0.length : Int) := of_decide_eq_true t3_
       obtain ⟨ad133, A133_0, c133_0, A133_1, c133_1, e133, hx133_0, hx133_1, hl133_0, hi133_0, hl133_1, hi133_1⟩ := at_T32 HR0.out 0 p133 q133
       obtain rfl : ad132 = ad133 := (by injection e133)
       have qi133 : (0 < l0.length) = True := eq_true t12_
       (try rw [show ((0 : Int)).toNat = 0 from rfl] at hx133_0)
       (try rw [show 0 * 2 = 0 from rfl] at hx133_0)
       (try rw [Addr.add_zero'] at hx133_0)
       (try rw [show ((0 : Int)).toNat = 0 from rfl] at hx133_1)
       (try rw [show 0 * 2 = 0 from rfl] at hx133_1)
       (try rw [Addr.add_zero'] at hx133_1)
       replace hx133_0 := (HB.out.cell (World.block_lt_of_cell? w _ hx133_0)).trans hx133_0
       replace hx133_1 := (HB.out.cell (World.block_lt_of_cell? w _ hx133_1)).trans hx133_1
       have HR133_0 := Aside0.mk hi133_0
       have HC133_0 := Aside0.mk hl133_0
       clear hi133_0 hl133_0
       have HR133_1 := Aside0.mk hi133_1
       have HC133_1 := Aside0.mk hl133_1
       clear hi133_1 hl133_1
       replace p133 := eq_true p133
       replace q133 := eq_true q133
       have ea_ := Option.some.inj (hx132_0.symm.trans hx133_0)
       injection ea_ with ea_ en_ ec_
       subst ea_
       subst ec_
       clear en_
       have ea_ := Option.some.inj (hx132_1.symm.trans hx133_1)
       injection ea_ with ea_ en_ ec_
       subst ea_
       subst ec_
       clear en_
       have p134 : 0 ≤ (x3_1 : Int) := of_decide_eq_true t3_
       have q134 : x3_1 < (((rd_T32 l0 0).f0).length : Int) := of_decide_eq_true t3_
       obtain ⟨ad134, e134, hx134_0⟩ := Kd.at_int HR133_0.out x3_1 p134 q134
       cases e134
       replace hx134_0 := (HB.out.cell (World.block_lt_of_cell? w _ hx134_0)).trans hx134_0
       replace p134 := eq_true p134
       replace q134 := eq_true q134
       go_wp2_with (first | ((with_reducible refine gate_callee (f := 64) rfl ?_); refine goesL_ (some 21) rfl rfl Try.func64 t8_ rfl #[.int .i64 (rd ((rd_T32 l0 0).f0) x3_1), .int .i64 (-100000), .int .i64 100000] rfl t2_ ?_; (with_reducible refine (spec_l00In.calls (rd ((rd_T32 l0 0).f0) x3_1) (-100000) 100000 true _ A5.out).mono ?_); rintro e w' ⟨rfl, ⟨nd, rfl⟩⟩; refine ⟨_, rfl, ?_⟩))
       go_roundg k1
       case measure => have := HK1.out; omega
       case rel => exact ⟨(wrap64 (x3_1 + 1)), t6_, H', ⟨by have := HK1.out; omega⟩, ⟨by repeat (first | (with_reducible first | exact HB.out | apply below_alloc | apply pw_below_drewN | apply below_drew1) | exact HB.out)⟩⟩
      ·replace c6 := Bool.eq_false_iff.mpr c6
       subst c6
       have H1 : (some false) = some r := by rw [if_neg (show ¬ (false = true) by decide)] at H; exact H
       clear H
       have H := H1
       clear H1
       obtain rfl := Option.some.inj H
       have p132 : 0 ≤ (0 : Int) := t12_
       have q132 : 0 < (l0.length : Int) := of_decide_eq_true t3_
       obtain ⟨ad132, A132_0, c132_0, A132_1, c132_1, e132, hx132_0, hx132_1, hl132_0, hi132_0, hl132_1, hi132_1⟩ := at_T32 HR0.out 0 p132 q132
       cases e132
       have qi132 : (0 < l0.length) = True := eq_true t12_
       (try rw [show ((0 : Int)).toNat = 0 from rfl] at hx132_0)
       (try rw [show 0 * 2 = 0 from rfl] at hx132_0)
       (try rw [Addr.add_zero'] at hx132_0)
       (try rw [show ((0 : Int)).toNat = 0 from rfl] at hx132_1)
       (try rw [show 0 * 2 = 0 from rfl] at hx132_1)
       (try rw [Addr.add_zero'] at hx132_1)
       replace hx132_0 := (HB.out.cell (World.block_lt_of_cell? w _ hx132_0)).trans hx132_0
       replace hx132_1 := (HB.out.cell (World.block_lt_of_cell? w _ hx132_1)).trans hx132_1
       have HR132_0 := Aside0.mk hi132_0
       have HC132_0 := Aside0.mk hl132_0
       clear hi132_0 hl132_0
       have HR132_1 := Aside0.mk hi132_1
       have HC132_1 := Aside0.mk hl132_1
       clear hi132_1 hl132_1
       replace p132 := eq_true p132
       replace q132 := eq_true q132
       have p133 : 0 ≤ (0 : Int) := t12_
       have q133 : 0 < (l0.length : Int) := of_decide_eq_true t3_
       obtain ⟨ad133, A133_0, c133_0, A133_1, c133_1, e133, hx133_0, hx133_1, hl133_0, hi133_0, hl133_1, hi133_1⟩ := at_T32 HR0.out 0 p133 q133
       obtain rfl : ad132 = ad133 := (by injection e133)
       have qi133 : (0 < l0.length) = True := eq_true t12_
       (try rw [show ((0 : Int)).toNat = 0 from rfl] at hx133_0)
       (try rw [show 0 * 2 = 0 from rfl] at hx133_0)
       (try rw [Addr.add_zero'] at hx133_0)
       (try rw [show ((0 : Int)).toNat = 0 from rfl] at hx133_1)
       (try rw [show 0 * 2 = 0 from rfl] at hx133_1)
       (try rw [Addr.add_zero'] at hx133_1)
       replace hx133_0 := (HB.out.cell (World.block_lt_of_cell? w _ hx133_0)).trans hx133_0
       replace hx133_1 := (HB.out.cell (World.block_lt_of_cell? w _ hx133_1)).trans hx133_1
       have HR133_0 := Aside0.mk hi133_0
       have HC133_0 := Aside0.mk hl133_0
       clear hi133_0 hl133_0
       have HR133_1 := Aside0.mk hi133_1
       have HC133_1 := Aside0.mk hl133_1
       clear hi133_1 hl133_1
       replace p133 := eq_true p133
       replace q133 := eq_true q133
       have ea_ := Option.some.inj (hx132_0.symm.trans hx133_0)
       injection ea_ with ea_ en_ ec_
       subst ea_
       subst ec_
       clear en_
       have ea_ := Option.some.inj (hx132_1.symm.trans hx133_1)
       injection ea_ with ea_ en_ ec_
       subst ea_
       subst ec_
       clear en_
       have p134 : 0 ≤ (x3_1 : Int) := of_decide_eq_true t3_
       have q134 : x3_1 < (((rd_T32 l0 0).f0).length : Int) := of_decide_eq_true t3_
       obtain ⟨ad134, e134, hx134_0⟩ := Kd.at_int HR133_0.out x3_1 p134 q134
       cases e134
       replace hx134_0 := (HB.out.cell (World.block_lt_of_cell? w _ hx134_0)).trans hx134_0
       replace p134 := eq_true p134
       replace q134 := eq_true q134
       go_wp2_with (first | ((with_reducible refine gate_callee (f := 64) rfl ?_); refine goesL_ (some 21) rfl rfl Try.func64 t8_ rfl #[.int .i64 (rd ((rd_T32 l0 0).f0) x3_1), .int .i64 (-100000), .int .i64 100000] rfl t2_ ?_; (with_reducible refine (spec_l00In.calls (rd ((rd_T32 l0 0).f0) x3_1) (-100000) 100000 false _ A5.out).mono ?_); rintro e w' ⟨rfl, ⟨nd, rfl⟩⟩; refine ⟨_, rfl, ?_⟩))
       go_ret
       exact ⟨by first | rfl | (rw [Int.tdiv_eq_ediv_of_nonneg t12_]; rfl) | (simp [errW_none, errW_some] <;> rfl) | (simp [*, errW_none, errW_some] <;> rfl), by repeat (first | (with_reducible first | exact HB.out | apply below_alloc | apply pw_below_drewN | apply below_drew1) | exact HB.out)⟩
     ·rw [if_neg c4] at H
      exact absurd H t36_
    ·rw [if_neg c3] at H
     have c3b0 : decide (x3_1 < (((rd_T32 l0 0).f0).length : Int)) = false := decide_eq_false c3
     clear c3
     have HC7 := Aside0.mk H
     clear H
     have p132 : 0 ≤ (0 : Int) := t12_
     have q132 : 0 < (l0.length : Int) := of_decide_eq_true t3_
     obtain ⟨ad132, A132_0, c132_0, A132_1, c132_1, e132, hx132_0, hx132_1, hl132_0, hi132_0, hl132_1, hi132_1⟩ := at_T32 HR0.out 0 p132 q132
     cases e132
     have qi132 : (0 < l0.length) = True := eq_true t12_
     (try rw [show ((0 : Int)).toNat = 0 from rfl] at hx132_0)
     (try rw [show 0 * 2 = 0 from rfl] at hx132_0)
     (try rw [Addr.add_zero'] at hx132_0)
     (try rw [show ((0 : Int)).toNat = 0 from rfl] at hx132_1)
     (try rw [show 0 * 2 = 0 from rfl] at hx132_1)
     (try rw [Addr.add_zero'] at hx132_1)
     replace hx132_0 := (HB.out.cell (World.block_lt_of_cell? w _ hx132_0)).trans hx132_0
     replace hx132_1 := (HB.out.cell (World.block_lt_of_cell? w _ hx132_1)).trans hx132_1
     have HR132_0 := Aside0.mk hi132_0
     have HC132_0 := Aside0.mk hl132_0
     clear hi132_0 hl132_0
     have HR132_1 := Aside0.mk hi132_1
     have HC132_1 := Aside0.mk hl132_1
     clear hi132_1 hl132_1
     replace p132 := eq_true p132
     replace q132 := eq_true q132
     go_upto_region 6 with (fail)
     go_cut [44] (fun v44 wc => ∃ (kq : Nat) (x44_6 : Bool), v44 = .bool x44_6 ∧ Aside0 (spec_l04Ok.j1 kq l0 x44_6 = some r) ∧ Aside0 (kq ≤ k1) ∧ Aside0 (Below w.heap.size w wc))
     case first =>
      have H := HC7.out
      clear HC7
      by_cases c8 : (((rd_T32 l0 0).f0).length : Int) < 1
      ·rw [if_pos c8] at H
       have c8b0 : decide ((((rd_T32 l0 0).f0).length : Int) < 1) = true := decide_eq_true c8
       have c8b1 : decide (((rd_T32 l0 0).f0).length < 1) = true := decide_eq_true t12_
       clear c8
       (first | rw [c8b0] | (simp only [i64_w, i32_w]; rw [c8b0]) | skip)
       have H' := Aside0.mk H
       clear H
       have p136 : 0 ≤ (0 : Int) := t12_
       have q136 : 0 < (l0.length : Int) := of_decide_eq_true t3_
       obtain ⟨ad136, A136_0, c136_0, A136_1, c136_1, e136, hx136_0, hx136_1, hl136_0, hi136_0, hl136_1, hi136_1⟩ := at_T32 HR0.out 0 p136 q136
       obtain rfl : ad132 = ad136 := (by injection e136)
       have qi136 : (0 < l0.length) = True := eq_true t12_
       (try rw [show ((0 : Int)).toNat = 0 from rfl] at hx136_0)
       (try rw [show 0 * 2 = 0 from rfl] at hx136_0)
       (try rw [Addr.add_zero'] at hx136_0)
       (try rw [show ((0 : Int)).toNat = 0 from rfl] at hx136_1)
       (try rw [show 0 * 2 = 0 from rfl] at hx136_1)
       (try rw [Addr.add_zero'] at hx136_1)
       replace hx136_0 := (HB.out.cell (World.block_lt_of_cell? w _ hx136_0)).trans hx136_0
       replace hx136_1 := (HB.out.cell (World.block_lt_of_cell? w _ hx136_1)).trans hx136_1
       have HR136_0 := Aside0.mk hi136_0
       have HC136_0 := Aside0.mk hl136_0
       clear hi136_0 hl136_0
       have HR136_1 := Aside0.mk hi136_1
       have HC136_1 := Aside0.mk hl136_1
       clear hi136_1 hl136_1
       replace p136 := eq_true p136
       replace q136 := eq_true q136
       go_wp2
       go_meet
       case rel => exact ⟨_, (true), t6_, H', ⟨by have := HK1.out; first | omega | exact Nat.le_refl _⟩, ⟨by repeat (first | (with_reducible first | exact HB.out | apply below_alloc | apply pw_below_drewN | apply below_drew1) | exact HB.out)⟩⟩
      ·rw [if_neg c8] at H
       have c8b0 : decide ((((rd_T32 l0 0).f0).length : Int) < 1) = false := decide_eq_false c8
       have c8b1 : decide (((rd_T32 l0 0).f0).length < 1) = false := decide_eq_false t12_
       clear c8
       (first | rw [c8b0] | (simp only [i64_w, i32_w]; rw [c8b0]) | skip)
       by_cases c9 : (((rd_T32 l0 0).f0).length : Int) > 16
       ·rw [if_pos c9] at H
        have c9b0 : decide (16 < (((rd_T32 l0 0).f0).length : Int)) = true := decide_eq_true c9
        have c9b1 : decide (16 < ((rd_T32 l0 0).f0).length) = true := decide_eq_true t12_
        clear c9
        have H' := Aside0.mk H
        clear H
        have p136 : 0 ≤ (0 : Int) := t12_
        have q136 : 0 < (l0.length : Int) := of_decide_eq_true t3_
        obtain ⟨ad136, A136_0, c136_0, A136_1, c136_1, e136, hx136_0, hx136_1, hl136_0, hi136_0, hl136_1, hi136_1⟩ := at_T32 HR0.out 0 p136 q136
        obtain rfl : ad132 = ad136 := (by injection e136)
        have qi136 : (0 < l0.length) = True := eq_true t12_
        (try rw [show ((0 : Int)).toNat = 0 from rfl] at hx136_0)
        (try rw [show 0 * 2 = 0 from rfl] at hx136_0)
        (try rw [Addr.add_zero'] at hx136_0)
        (try rw [show ((0 : Int)).toNat = 0 from rfl] at hx136_1)
        (try rw [show 0 * 2 = 0 from rfl] at hx136_1)
        (try rw [Addr.add_zero'] at hx136_1)
        replace hx136_0 := (HB.out.cell (World.block_lt_of_cell? w _ hx136_0)).trans hx136_0
        replace hx136_1 := (HB.out.cell (World.block_lt_of_cell? w _ hx136_1)).trans hx136_1
        have HR136_0 := Aside0.mk hi136_0
        have HC136_0 := Aside0.mk hl136_0
        clear hi136_0 hl136_0
        have HR136_1 := Aside0.mk hi136_1
        have HC136_1 := Aside0.mk hl136_1
        clear hi136_1 hl136_1
        replace p136 := eq_true p136
        replace q136 := eq_true q136
        have p137 : 0 ≤ (0 : Int) := t12_
        have q137 : 0 < (l0.length : Int) := of_decide_eq_true t3_
        obtain ⟨ad137, A137_0, c137_0, A137_1, c137_1, e137, hx137_0, hx137_1, hl137_0, hi137_0, hl137_1, hi137_1⟩ := at_T32 HR0.out 0 p137 q137
        obtain rfl : ad132 = ad137 := (by injection e137)
        have qi137 : (0 < l0.length) = True := eq_true t12_
        (try rw [show ((0 : Int)).toNat = 0 from rfl] at hx137_0)
        (try rw [show 0 * 2 = 0 from rfl] at hx137_0)
        (try rw [Addr.add_zero'] at hx137_0)
        (try rw [show ((0 : Int)).toNat = 0 from rfl] at hx137_1)
        (try rw [show 0 * 2 = 0 from rfl] at hx137_1)
        (try rw [Addr.add_zero'] at hx137_1)
        replace hx137_0 := (HB.out.cell (World.block_lt_of_cell? w _ hx137_0)).trans hx137_0
        replace hx137_1 := (HB.out.cell (World.block_lt_of_cell? w _ hx137_1)).trans hx137_1
        have HR137_0 := Aside0.mk hi137_0
        have HC137_0 := Aside0.mk hl137_0
        clear hi137_0 hl137_0
        have HR137_1 := Aside0.mk hi137_1
        have HC137_1 := Aside0.mk hl137_1
        clear hi137_1 hl137_1
        replace p137 := eq_true p137
        replace q137 := eq_true q137
        have ea_ := Option.some.inj (hx136_0.symm.trans hx137_0)
        injection ea_ with ea_ en_ ec_
        subst ea_
        subst ec_
        clear en_
        have ea_ := Option.some.inj (hx136_1.symm.trans hx137_1)
        injection ea_ with ea_ en_ ec_
        subst ea_
        subst ec_
        clear en_
        go_wp2
        go_meet
        case rel => exact ⟨_, (true), t6_, H', ⟨by have := HK1.out; first | omega | exact Nat.le_refl _⟩, ⟨by repeat (first | (with_reducible first | exact HB.out | apply below_alloc | apply pw_below_drewN | apply below_drew1) | exact HB.out)⟩⟩
       ·rw [if_neg c9] at H
        have c9b0 : decide (16 < (((rd_T32 l0 0).f0).length : Int)) = false := decide_eq_false c9
        have c9b1 : decide (16 < ((rd_T32 l0 0).f0).length) = false := decide_eq_false t12_
        clear c9
        have H' := Aside0.mk H
        clear H
        have p136 : 0 ≤ (0 : Int) := t12_
        have q136 : 0 < (l0.length : Int) := of_decide_eq_true t3_
        obtain ⟨ad136, A136_0, c136_0, A136_1, c136_1, e136, hx136_0, hx136_1, hl136_0, hi136_0, hl136_1, hi136_1⟩ := at_T32 HR0.out 0 p136 q136
        obtain rfl : ad132 = ad136 := (by injection e136)
        have qi136 : (0 < l0.length) = True := eq_true t12_
        (try rw [show ((0 : Int)).toNat = 0 from rfl] at hx136_0)
        (try rw [show 0 * 2 = 0 from rfl] at hx136_0)
        (try rw [Addr.add_zero'] at hx136_0)
        (try rw [show ((0 : Int)).toNat = 0 from rfl] at hx136_1)
        (try rw [show 0 * 2 = 0 from rfl] at hx136_1)
        (try rw [Addr.add_zero'] at hx136_1)
        replace hx136_0 := (HB.out.cell (World.block_lt_of_cell? w _ hx136_0)).trans hx136_0
        replace hx136_1 := (HB.out.cell (World.block_lt_of_cell? w _ hx136_1)).trans hx136_1
        have HR136_0 := Aside0.mk hi136_0
        have HC136_0 := Aside0.mk hl136_0
        clear hi136_0 hl136_0
        have HR136_1 := Aside0.mk hi136_1
        have HC136_1 := Aside0.mk hl136_1
        clear hi136_1 hl136_1
        replace p136 := eq_true p136
        replace q136 := eq_true q136
        have p137 : 0 ≤ (0 : Int) := t12_
        have q137 : 0 < (l0.length : Int) := of_decide_eq_true t3_
        obtain ⟨ad137, A137_0, c137_0, A137_1, c137_1, e137, hx137_0, hx137_1, hl137_0, hi137_0, hl137_1, hi137_1⟩ := at_T32 HR0.out 0 p137 q137
        obtain rfl : ad132 = ad137 := (by injection e137)
        have qi137 : (0 < l0.length) = True := eq_true t12_
        (try rw [show ((0 : Int)).toNat = 0 from rfl] at hx137_0)
        (try rw [show 0 * 2 = 0 from rfl] at hx137_0)
        (try rw [Addr.add_zero'] at hx137_0)
        (try rw [show ((0 : Int)).toNat = 0 from rfl] at hx137_1)
        (try rw [show 0 * 2 = 0 from rfl] at hx137_1)
        (try rw [Addr.add_zero'] at hx137_1)
        replace hx137_0 := (HB.out.cell (World.block_lt_of_cell? w _ hx137_0)).trans hx137_0
        replace hx137_1 := (HB.out.cell (World.block_lt_of_cell? w _ hx137_1)).trans hx137_1
        have HR137_0 := Aside0.mk hi137_0
        have HC137_0 := Aside0.mk hl137_0
        clear hi137_0 hl137_0
        have HR137_1 := Aside0.mk hi137_1
        have HC137_1 := Aside0.mk hl137_1
        clear hi137_1 hl137_1
        replace p137 := eq_true p137
        replace q137 := eq_true q137
        have ea_ := Option.some.inj (hx136_0.symm.trans hx137_0)
        injection ea_ with ea_ en_ ec_
        subst ea_
        subst ec_
        clear en_
        have ea_ := Option.some.inj (hx136_1.symm.trans hx137_1)
        injection ea_ with ea_ en_ ec_
        subst ea_
        subst ec_
        clear en_
        have p138 : 0 ≤ (0 : Int) := t12_
        have q138 : 0 < (l0.length : Int) := of_decide_eq_true t3_
        obtain ⟨ad138, A138_0, c138_0, A138_1, c138_1, e138, hx138_0, hx138_1, hl138_0, hi138_0, hl138_1, hi138_1⟩ := at_T32 HR0.out 0 p138 q138
        obtain rfl : ad132 = ad138 := (by injection e138)
        have qi138 : (0 < l0.length) = True := eq_true t12_
        (try rw [show ((0 : Int)).toNat = 0 from rfl] at hx138_0)
        (try rw [show 0 * 2 = 0 from rfl] at hx138_0)
        (try rw [Addr.add_zero'] at hx138_0)
        (try rw [show ((0 : Int)).toNat = 0 from rfl] at hx138_1)
        (try rw [show 0 * 2 = 0 from rfl] at hx138_1)
        (try rw [Addr.add_zero'] at hx138_1)
        replace hx138_0 := (HB.out.cell (World.block_lt_of_cell? w _ hx138_0)).trans hx138_0
        replace hx138_1 := (HB.out.cell (World.block_lt_of_cell? w _ hx138_1)).trans hx138_1
        have HR138_0 := Aside0.mk hi138_0
        have HC138_0 := Aside0.mk hl138_0
        clear hi138_0 hl138_0
        have HR138_1 := Aside0.mk hi138_1
        have HC138_1 := Aside0.mk hl138_1
        clear hi138_1 hl138_1
        replace p138 := eq_true p138
        replace q138 := eq_true q138
        have ea_ := Option.some.inj (hx136_0.symm.trans hx138_0)
        injection ea_ with ea_ en_ ec_
        subst ea_
        subst ec_
        clear en_
        have ea_ := Option.some.inj (hx136_1.symm.trans hx138_1)
        injection ea_ with ea_ en_ ec_
        subst ea_
        subst ec_
        clear en_
        go_wp2
        go_meet
        case rel => exact ⟨_, (decide ((((rd_T32 l0 0).f1).length : Int) > 20)), t6_, H', ⟨by have := HK1.out; first | omega | exact Nat.le_refl _⟩, ⟨by repeat (first | (with_reducible first | exact HB.out | apply below_alloc | apply pw_below_drewN | apply below_drew1) | exact HB.out)⟩⟩
     case rest =>
      clear HC7
      try clear c1
      try clear p1
      try clear q1
      try clear hx1
      try clear qi1
      try clear c2
      try clear c2b0
      try clear c2b1
      try clear p2
      try clear c3
      try clear c3b0
      try clear c4
      try clear c4b0
      try clear c5
      try clear c6
      try clear p6
      try clear c8
      try clear c8b0
      try clear c8b1
      try clear c9
      try clear c9b0
      try clear c9b1
      try clear hx132_0
      try clear hx132_1
      try clear hx133_0
      try clear hx133_1
      try clear hx134_0
      try clear hx136_0
      try clear hx136_1
      try clear hx137_0
      try clear hx137_1
      try clear hx138_0
      try clear hx138_1
      try clear p132
      try clear p133
      try clear p134
      try clear p136
      try clear p137
      try clear p138
      try clear q132
      try clear q133
      try clear q134
      try clear q136
      try clear q137
      try clear q138
      obtain ⟨kq, x44_6, rfl, HA, HJ6, HB⟩ := hcut
      cases kq with
      | zero => exact absurd HA.out (by simp [spec_l04Ok.j1])
      | succ kj6 =>
       have H := HA.out
       clear HA
       simp only [spec_l04Ok.j1] at H
       by_cases c10 : x44_6 = true
       ·subst c10
        have H1 : (some false) = some r := by rw [if_pos rfl] at H; exact H
        clear H
        have H := H1
        clear H1
        obtain rfl := Option.some.inj H
        go_wp2
        go_ret
        exact ⟨by first | rfl | (rw [Int.tdiv_eq_ediv_of_nonneg t12_]; rfl) | (simp [errW_none, errW_some] <;> rfl) | (simp [*, errW_none, errW_some] <;> rfl), by repeat (first | (with_reducible first | exact HB.out | apply below_alloc | apply pw_below_drewN | apply below_drew1) | exact HB.out)⟩
       ·replace c10 := Bool.eq_false_iff.mpr c10
        subst c10
        have H1 : (spec_l04Ok.l1 kj6 l0 0) = some r := by rw [if_neg (show ¬ (false = true) by decide)] at H; exact H
        clear H
        have H := H1
        clear H1
        have H' := Aside0.mk H
        clear H
        go_wp2
        go_loopg [4] kj6 (fun kq v4 w' => ∃ (x4_3 : Int), v4 = .int .i64 x4_3 ∧ Aside0 (spec_l04Ok.l1 kq l0 x4_3 = some r) ∧ Aside0 (kq ≤ kj6) ∧ Aside0 (Below w.heap.size w w'))
        case atStart => exact ⟨(0), t6_, H', ⟨Nat.le_refl _⟩, ⟨by repeat (first | (with_reducible first | exact HB.out | apply below_alloc | apply pw_below_drewN | apply below_drew1) | exact HB.out)⟩⟩
        case round =>
         clear H'
         try clear c1
         try clear p1
         try clear q1
         try clear hx1
         try clear qi1
         try clear c2
         try clear c2b0
         try clear c2b1
         try clear p2
         try clear c3
         try clear c3b0
         try clear c4
         try clear c4b0
         try clear c5
         try clear c6
         try clear p6
         try clear c8
         try clear c8b0
         try clear c8b1
         try clear c9
         try clear c9b0
         try clear c9b1
         try clear c10
         try clear hx132_0
         try clear hx132_1
         try clear hx133_0
         try clear hx133_1
         try clear hx134_0
         try clear hx136_0
         try clear hx136_1
         try clear hx137_0
         try clear hx137_1
         try clear hx138_0
         try clear hx138_1
         try clear p1
         try clear p132
         try clear p133
         try clear p134
         try clear p136
         try clear p137
         try clear p138
         try clear p2
         try clear p6
         try clear q1
         try clear q132
         try clear q133
         try clear q134
         try clear q136
         try clear q137
         try clear q138
         obtain ⟨x4_3, rfl, HA, HK3, HB⟩ := hrel
         cases gk with
         | zero => exact absurd HA.out (by simp [spec_l04Ok.l1])
         | succ k3 =>
          have H := HA.out
          clear HA
          simp only [spec_l04Ok.l1] at H
          by_cases c11 : 0 < (l0.length : Int)
          ·rw [if_pos c11] at H
           have c11b0 : decide (0 < (l0.length : Int)) = true := decide_eq_true c11
           have c11b1 : decide (0 < l0.length) = true := decide_eq_true t12_
           clear c11
           by_cases c12 : x4_3 < (((rd_T32 l0 0).f1).length : Int)
           ·rw [if_pos c12] at H
            have c12b0 : decide (x4_3 < (((rd_T32 l0 0).f1).length : Int)) = true := decide_eq_true c12
            clear c12
            by_cases c13 : 0 ≤ x4_3
            ·rw [if_pos c13] at H
             have c13b0 : decide (0 ≤ x4_3) = true := decide_eq_true c13
             clear c13
             replace H := Option.bind_eq_some_iff.mp H
             obtain ⟨t142, A140, H⟩ := H
             replace H : (if t142 = true then (if x4_3 > 0 then (if 0 ≤ (wrap64 (x4_3 - 1)) then (if (wrap64 (x4_3 - 1)) < (((rd_T32 l0 0).f1).length : Int) then (if ((Op.bytesLess (((rd_T80 ((rd_T32 l0 0).f1) (wrap64 (x4_3 - 1))).f0).toList) (((rd_T80 ((rd_T32 l0 0).f1) x4_3).f0).toList)) = true) then (spec_l04Ok.l1 k3 l0 (wrap64 (x4_3 + 1))) else (some false)) else (none)) else (none)) else (spec_l04Ok.l1 k3 l0 (wrap64 (x4_3 + 1)))) else (some false)) = some r := H
             have A14 := Aside0.mk A140
             clear A140
             by_cases c15 : t142 = true
             ·subst c15
              have H1 : (if x4_3 > 0 then (if 0 ≤ (wrap64 (x4_3 - 1)) then (if (wrap64 (x4_3 - 1)) < (((rd_T32 l0 0).f1).length : Int) then (if ((Op.bytesLess (((rd_T80 ((rd_T32 l0 0).f1) (wrap64 (x4_3 - 1))).f0).toList) (((rd_T80 ((rd_T32 l0 0).f1) x4_3).f0).toList)) = true) then (spec_l04Ok.l1 k3 l0 (wrap64 (x4_3 + 1))) else (some false)) else (none)) else (none)) else (spec_l04Ok.l1 k3 l0 (wrap64 (x4_3 + 1)))) = some r := by rw [if_pos rfl] at H; exact H
              clear H
              have H := H1
              clear H1
              by_cases c16 : x4_3 > 0
              ·rw [if_pos c16] at H
               have c16b0 : decide (0 < x4_3) = true := decide_eq_true c16
               clear c16
               obtain ⟨ji17, hji17⟩ : ∃ j_ : Int, (wrap64 (x4_3 - 1)) = j_ := ⟨_, rfl⟩
               replace H : (if 0 ≤ (ji17) then (if (ji17) < (((rd_T32 l0 0).f1).length : Int) then (if ((Op.bytesLess (((rd_T80 ((rd_T32 l0 0).f1) (ji17)).f0).toList) (((rd_T80 ((rd_T32 l0 0).f1) x4_3).f0).toList)) = true) then (spec_l04Ok.l1 k3 l0 (wrap64 (x4_3 + 1))) else (some false)) else (none)) else (none)) = some r := by first | (rw [hji17] at H; exact H) | (simp only [hji17] at H ⊢; exact H)
               (try rw [hji17] at A14)
               have hji17w : (IntKind.i64.wrap (x4_3 - 1)) = ji17 := (i64_w _).trans hji17
               by_cases c18 : 0 ≤ (ji17)
               ·rw [if_pos c18] at H
                have c18b0 : decide (0 ≤ (ji17)) = true := decide_eq_true c18
                clear c18
                by_cases c19 : (ji17) < (((rd_T32 l0 0).f1).length : Int)
                ·rw [if_pos c19] at H
                 have c19b0 : decide ((ji17) < (((rd_T32 l0 0).f1).length : Int)) = true := decide_eq_true c19
                 clear c19
                 by_cases c20 : ((Op.bytesLess (((rd_T80 ((rd_T32 l0 0).f1) (ji17)).f0).toList) (((rd_T80 ((rd_T32 l0 0).f1) x4_3).f0).toList)) = true)
                 ·rw [if_pos c20] at H
                  have c20b0 : (Op.bytesLess (((rd_T80 ((rd_T32 l0 0).f1) (ji17)).f0).toList) (((rd_T80 ((rd_T32 l0 0).f1) x4_3).f0).toList)) = true := c20
                  clear c20
                  have H' := Aside0.mk H
                  clear H
                  have p139 : 0 ≤ (0 : Int) := t12_
                  have q139 : 0 < (l0.length : Int) := of_decide_eq_true t3_
                  obtain ⟨ad139, A139_0, c139_0, A139_1, c139_1, e139, hx139_0, hx139_1, hl139_0, hi139_0, hl139_1, hi139_1⟩ := at_T32 HR0.out 0 p139 q139
                  obtain rfl : ad132 = ad139 := (by injection e139)
                  have qi139 : (0 < l0.length) = True := eq_true t12_
                  (try rw [show ((0 : Int)).toNat = 0 from rfl] at hx139_0)
                  (try rw [show 0 * 2 = 0 from rfl] at hx139_0)
                  (try rw [Addr.add_zero'] at hx139_0)
                  (try rw [show ((0 : Int)).toNat = 0 from rfl] at hx139_1)
                  (try rw [show 0 * 2 = 0 from rfl] at hx139_1)
                  (try rw [Addr.add_zero'] at hx139_1)
                  replace hx139_0 := (HB.out.cell (World.block_lt_of_cell? w _ hx139_0)).trans hx139_0
                  replace hx139_1 := (HB.out.cell (World.block_lt_of_cell? w _ hx139_1)).trans hx139_1
                  have HR139_0 := Aside0.mk hi139_0
                  have HC139_0 := Aside0.mk hl139_0
                  clear hi139_0 hl139_0
                  have HR139_1 := Aside0.mk hi139_1
                  have HC139_1 := Aside0.mk hl139_1
                  clear hi139_1 hl139_1
                  replace p139 := eq_true p139
                  replace q139 := eq_true q139
                  try go_wp2
                  have n0_ := Aside0.mk (below_drew1 HB.out)
                  clear HB
                  have HB := n0_
                  clear n0_
                  have p140 : 0 ≤ (0 : Int) := t12_
                  have q140 : 0 < (l0.length : Int) := of_decide_eq_true t3_
                  obtain ⟨ad140, A140_0, c140_0, A140_1, c140_1, e140, hx140_0, hx140_1, hl140_0, hi140_0, hl140_1, hi140_1⟩ := at_T32 HR0.out 0 p140 q140
                  have hw140_1 := hx140_1
                  (try rw [show ((0 : Int)).toNat = 0 from rfl] at hw140_1)
                  (try rw [show 0 * 2 = 0 from rfl] at hw140_1)
                  (try rw [Addr.add_zero'] at hw140_1)
                  have hw140_0 := hx140_0
                  (try rw [show ((0 : Int)).toNat = 0 from rfl] at hw140_0)
                  (try rw [show 0 * 2 = 0 from rfl] at hw140_0)
                  (try rw [Addr.add_zero'] at hw140_0)
                  obtain rfl : ad132 = ad140 := (by injection e140)
                  have qi140 : (0 < l0.length) = True := eq_true t12_
                  (try rw [show ((0 : Int)).toNat = 0 from rfl] at hx140_0)
                  (try rw [show 0 * 2 = 0 from rfl] at hx140_0)
                  (try rw [Addr.add_zero'] at hx140_0)
                  (try rw [show ((0 : Int)).toNat = 0 from rfl] at hx140_1)
                  (try rw [show 0 * 2 = 0 from rfl] at hx140_1)
                  (try rw [Addr.add_zero'] at hx140_1)
                  replace hx140_0 := (HB.out.cell (World.block_lt_of_cell? w _ hx140_0)).trans hx140_0
                  replace hx140_1 := (HB.out.cell (World.block_lt_of_cell? w _ hx140_1)).trans hx140_1
                  have HR140_0 := Aside0.mk hi140_0
                  have HC140_0 := Aside0.mk hl140_0
                  clear hi140_0 hl140_0
                  have HR140_1 := Aside0.mk hi140_1
                  have HC140_1 := Aside0.mk hl140_1
                  clear hi140_1 hl140_1
                  replace p140 := eq_true p140
                  replace q140 := eq_true q140
                  have p141 : 0 ≤ (x4_3 : Int) := of_decide_eq_true t3_
                  have q141 : x4_3 < (((rd_T32 l0 0).f1).length : Int) := of_decide_eq_true t3_
                  obtain ⟨ad141, e141, hx141_0, hx141_1, hx141_2, hx141_3, hx141_4, hx141_5⟩ := at_T80 HR140_1.out x4_3 p141 q141
                  have hw141_5 := hx141_5
                  have hw141_4 := hx141_4
                  have hw141_3 := hx141_3
                  have hw141_2 := hx141_2
                  have hw141_1 := hx141_1
                  have hw141_0 := hx141_0
                  cases e141
                  replace hx141_0 := (HB.out.cell (World.block_lt_of_cell? w _ hx141_0)).trans hx141_0
                  replace hx141_1 := (HB.out.cell (World.block_lt_of_cell? w _ hx141_1)).trans hx141_1
                  replace hx141_2 := (HB.out.cell (World.block_lt_of_cell? w _ hx141_2)).trans hx141_2
                  replace hx141_3 := (HB.out.cell (World.block_lt_of_cell? w _ hx141_3)).trans hx141_3
                  replace hx141_4 := (HB.out.cell (World.block_lt_of_cell? w _ hx141_4)).trans hx141_4
                  replace hx141_5 := (HB.out.cell (World.block_lt_of_cell? w _ hx141_5)).trans hx141_5
                  replace p141 := eq_true p141
                  replace q141 := eq_true q141
                  have p143 : 0 ≤ (0 : Int) := t12_
                  have q143 : 0 < (l0.length : Int) := of_decide_eq_true t3_
                  obtain ⟨ad143, A143_0, c143_0, A143_1, c143_1, e143, hx143_0, hx143_1, hl143_0, hi143_0, hl143_1, hi143_1⟩ := at_T32 HR0.out 0 p143 q143
                  have hw143_1 := hx143_1
                  (try rw [show ((0 : Int)).toNat = 0 from rfl] at hw143_1)
                  (try rw [show 0 * 2 = 0 from rfl] at hw143_1)
                  (try rw [Addr.add_zero'] at hw143_1)
                  have hw143_0 := hx143_0
                  (try rw [show ((0 : Int)).toNat = 0 from rfl] at hw143_0)
                  (try rw [show 0 * 2 = 0 from rfl] at hw143_0)
                  (try rw [Addr.add_zero'] at hw143_0)
                  obtain rfl : ad132 = ad143 := (by injection e143)
                  have qi143 : (0 < l0.length) = True := eq_true t12_
                  (try rw [show ((0 : Int)).toNat = 0 from rfl] at hx143_0)
                  (try rw [show 0 * 2 = 0 from rfl] at hx143_0)
                  (try rw [Addr.add_zero'] at hx143_0)
                  (try rw [show ((0 : Int)).toNat = 0 from rfl] at hx143_1)
                  (try rw [show 0 * 2 = 0 from rfl] at hx143_1)
                  (try rw [Addr.add_zero'] at hx143_1)
                  replace hx143_0 := (HB.out.cell (World.block_lt_of_cell? w _ hx143_0)).trans hx143_0
                  replace hx143_1 := (HB.out.cell (World.block_lt_of_cell? w _ hx143_1)).trans hx143_1
                  have HR143_0 := Aside0.mk hi143_0
                  have HC143_0 := Aside0.mk hl143_0
                  clear hi143_0 hl143_0
                  have HR143_1 := Aside0.mk hi143_1
                  have HC143_1 := Aside0.mk hl143_1
                  clear hi143_1 hl143_1
                  replace p143 := eq_true p143
                  replace q143 := eq_true q143
                  have ea_ := Option.some.inj (hx140_0.symm.trans hx143_0)
                  injection ea_ with ea_ en_ ec_
                  subst ea_
                  subst ec_
                  clear en_
                  have ea_ := Option.some.inj (hx140_1.symm.trans hx143_1)
                  injection ea_ with ea_ en_ ec_
                  subst ea_
                  subst ec_
                  clear en_
                  have p144 : 0 ≤ ((ji17) : Int) := of_decide_eq_true t3_
                  have q144 : (ji17) < (((rd_T32 l0 0).f1).length : Int) := of_decide_eq_true t3_
                  obtain ⟨ad144, e144, hx144_0, hx144_1, hx144_2, hx144_3, hx144_4, hx144_5⟩ := at_T80 HR143_1.out (ji17) p144 q144
                  have hw144_5 := hx144_5
                  have hw144_4 := hx144_4
                  have hw144_3 := hx144_3
                  have hw144_2 := hx144_2
                  have hw144_1 := hx144_1
                  have hw144_0 := hx144_0
                  obtain rfl : ad141 = ad144 := (by injection e144)
                  replace hx144_0 := (HB.out.cell (World.block_lt_of_cell? w _ hx144_0)).trans hx144_0
                  replace hx144_1 := (HB.out.cell (World.block_lt_of_cell? w _ hx144_1)).trans hx144_1
                  replace hx144_2 := (HB.out.cell (World.block_lt_of_cell? w _ hx144_2)).trans hx144_2
                  replace hx144_3 := (HB.out.cell (World.block_lt_of_cell? w _ hx144_3)).trans hx144_3
                  replace hx144_4 := (HB.out.cell (World.block_lt_of_cell? w _ hx144_4)).trans hx144_4
                  replace hx144_5 := (HB.out.cell (World.block_lt_of_cell? w _ hx144_5)).trans hx144_5
                  replace p144 := eq_true p144
                  replace q144 := eq_true q144
                  have p145 : 0 ≤ (0 : Int) := t12_
                  have q145 : 0 < (l0.length : Int) := of_decide_eq_true t3_
                  obtain ⟨ad145, A145_0, c145_0, A145_1, c145_1, e145, hx145_0, hx145_1, hl145_0, hi145_0, hl145_1, hi145_1⟩ := at_T32 HR0.out 0 p145 q145
                  have hw145_1 := hx145_1
                  (try rw [show ((0 : Int)).toNat = 0 from rfl] at hw145_1)
                  (try rw [show 0 * 2 = 0 from rfl] at hw145_1)
                  (try rw [Addr.add_zero'] at hw145_1)
                  have hw145_0 := hx145_0
                  (try rw [show ((0 : Int)).toNat = 0 from rfl] at hw145_0)
                  (try rw [show 0 * 2 = 0 from rfl] at hw145_0)
                  (try rw [Addr.add_zero'] at hw145_0)
                  obtain rfl : ad132 = ad145 := (by injection e145)
                  have qi145 : (0 < l0.length) = True := eq_true t12_
                  (try rw [show ((0 : Int)).toNat = 0 from rfl] at hx145_0)
                  (try rw [show 0 * 2 = 0 from rfl] at hx145_0)
                  (try rw [Addr.add_zero'] at hx145_0)
                  (try rw [show ((0 : Int)).toNat = 0 from rfl] at hx145_1)
                  (try rw [show 0 * 2 = 0 from rfl] at hx145_1)
                  (try rw [Addr.add_zero'] at hx145_1)
                  replace hx145_0 := (HB.out.cell (World.block_lt_of_cell? w _ hx145_0)).trans hx145_0
                  replace hx145_1 := (HB.out.cell (World.block_lt_of_cell? w _ hx145_1)).trans hx145_1
                  have HR145_0 := Aside0.mk hi145_0
                  have HC145_0 := Aside0.mk hl145_0
                  clear hi145_0 hl145_0
                  have HR145_1 := Aside0.mk hi145_1
                  have HC145_1 := Aside0.mk hl145_1
                  clear hi145_1 hl145_1
                  replace p145 := eq_true p145
                  replace q145 := eq_true q145
                  have ea_ := Option.some.inj (hx140_0.symm.trans hx145_0)
                  injection ea_ with ea_ en_ ec_
                  subst ea_
                  subst ec_
                  clear en_
                  have ea_ := Option.some.inj (hx140_1.symm.trans hx145_1)
                  injection ea_ with ea_ en_ ec_
                  subst ea_
                  subst ec_
                  clear en_
                  have p146 : 0 ≤ (x4_3 : Int) := of_decide_eq_true t3_
                  have q146 : x4_3 < (((rd_T32 l0 0).f1).length : Int) := of_decide_eq_true t3_
                  obtain ⟨ad146, e146, hx146_0, hx146_1, hx146_2, hx146_3, hx146_4, hx146_5⟩ := at_T80 HR145_1.out x4_3 p146 q146
                  have hw146_5 := hx146_5
                  have hw146_4 := hx146_4
                  have hw146_3 := hx146_3
                  have hw146_2 := hx146_2
                  have hw146_1 := hx146_1
                  have hw146_0 := hx146_0
                  obtain rfl : ad141 = ad146 := (by injection e146)
                  replace hx146_0 := (HB.out.cell (World.block_lt_of_cell? w _ hx146_0)).trans hx146_0
                  replace hx146_1 := (HB.out.cell (World.block_lt_of_cell? w _ hx146_1)).trans hx146_1
                  replace hx146_2 := (HB.out.cell (World.block_lt_of_cell? w _ hx146_2)).trans hx146_2
                  replace hx146_3 := (HB.out.cell (World.block_lt_of_cell? w _ hx146_3)).trans hx146_3
                  replace hx146_4 := (HB.out.cell (World.block_lt_of_cell? w _ hx146_4)).trans hx146_4
                  replace hx146_5 := (HB.out.cell (World.block_lt_of_cell? w _ hx146_5)).trans hx146_5
                  replace p146 := eq_true p146
                  replace q146 := eq_true q146
                  refine start_ (n := 33) (S := fun w' => w'.cell? ad132 = some (.slice A140_0 ((rd_T32 l0 0).f0).length c140_0) ∧ w'.cell? ⟨ad132.block, ad132.off + 1, none⟩ = some (.slice (some ad141) ((rd_T32 l0 0).f1).length c140_1) ∧ w'.cell? (ad141.add ((x4_3).toNat * 6)) = some (.string ((rd_T80 ((rd_T32 l0 0).f1) x4_3).f0)) ∧ w'.cell? ⟨(ad141.add ((x4_3).toNat * 6)).block, (ad141.add ((x4_3).toNat * 6)).off + 1, none⟩ = some (.int .i64 ((rd_T80 ((rd_T32 l0 0).f1) x4_3).f1)) ∧ w'.cell? ⟨(ad141.add ((x4_3).toNat * 6)).block, (ad141.add ((x4_3).toNat * 6)).off + 2, none⟩ = some (.int .i64 ((rd_T80 ((rd_T32 l0 0).f1) x4_3).f2)) ∧ w'.cell? ⟨(ad141.add ((x4_3).toNat * 6)).block, (ad141.add ((x4_3).toNat * 6)).off + 3, none⟩ = some (.int .i64 ((rd_T80 ((rd_T32 l0 0).f1) x4_3).f3)) ∧ w'.cell? ⟨(ad141.add ((x4_3).toNat * 6)).block, (ad141.add ((x4_3).toNat * 6)).off + 4, none⟩ = some (.int .i64 ((rd_T80 ((rd_T32 l0 0).f1) x4_3).f4)) ∧ w'.cell? ⟨(ad141.add ((x4_3).toNat * 6)).block, (ad141.add ((x4_3).toNat * 6)).off + 5, none⟩ = some (.int .i64 ((rd_T80 ((rd_T32 l0 0).f1) x4_3).f5)) ∧ w'.cell? ad132 = some (.slice A140_0 ((rd_T32 l0 0).f0).length c140_0) ∧ w'.cell? ⟨ad132.block, ad132.off + 1, none⟩ = some (.slice (some ad141) ((rd_T32 l0 0).f1).length c140_1) ∧ w'.cell? (ad141.add (((ji17)).toNat * 6)) = some (.string ((rd_T80 ((rd_T32 l0 0).f1) (ji17)).f0)) ∧ w'.cell? ⟨(ad141.add (((ji17)).toNat * 6)).block, (ad141.add (((ji17)).toNat * 6)).off + 1, none⟩ = some (.int .i64 ((rd_T80 ((rd_T32 l0 0).f1) (ji17)).f1)) ∧ w'.cell? ⟨(ad141.add (((ji17)).toNat * 6)).block, (ad141.add (((ji17)).toNat * 6)).off + 2, none⟩ = some (.int .i64 ((rd_T80 ((rd_T32 l0 0).f1) (ji17)).f2)) ∧ w'.cell? ⟨(ad141.add (((ji17)).toNat * 6)).block, (ad141.add (((ji17)).toNat * 6)).off + 3, none⟩ = some (.int .i64 ((rd_T80 ((rd_T32 l0 0).f1) (ji17)).f3)) ∧ w'.cell? ⟨(ad141.add (((ji17)).toNat * 6)).block, (ad141.add (((ji17)).toNat * 6)).off + 4, none⟩ = some (.int .i64 ((rd_T80 ((rd_T32 l0 0).f1) (ji17)).f4)) ∧ w'.cell? ⟨(ad141.add (((ji17)).toNat * 6)).block, (ad141.add (((ji17)).toNat * 6)).off + 5, none⟩ = some (.int .i64 ((rd_T80 ((rd_T32 l0 0).f1) (ji17)).f5)) ∧ w'.cell? ad132 = some (.slice A140_0 ((rd_T32 l0 0).f0).length c140_0) ∧ w'.cell? ⟨ad132.block, ad132.off + 1, none⟩ = some (.slice (some ad141) ((rd_T32 l0 0).f1).length c140_1) ∧ w'.cell? (ad141.add ((x4_3).toNat * 6)) = some (.string ((rd_T80 ((rd_T32 l0 0).f1) x4_3).f0)) ∧ w'.cell? ⟨(ad141.add ((x4_3).toNat * 6)).block, (ad141.add ((x4_3).toNat * 6)).off + 1, none⟩ = some (.int .i64 ((rd_T80 ((rd_T32 l0 0).f1) x4_3).f1)) ∧ w'.cell? ⟨(ad141.add ((x4_3).toNat * 6)).block, (ad141.add ((x4_3).toNat * 6)).off + 2, none⟩ = some (.int .i64 ((rd_T80 ((rd_T32 l0 0).f1) x4_3).f2)) ∧ w'.cell? ⟨(ad141.add ((x4_3).toNat * 6)).block, (ad141.add ((x4_3).toNat * 6)).off + 3, none⟩ = some (.int .i64 ((rd_T80 ((rd_T32 l0 0).f1) x4_3).f3)) ∧ w'.cell? ⟨(ad141.add ((x4_3).toNat * 6)).block, (ad141.add ((x4_3).toNat * 6)).off + 4, none⟩ = some (.int .i64 ((rd_T80 ((rd_T32 l0 0).f1) x4_3).f4)) ∧ w'.cell? ⟨(ad141.add ((x4_3).toNat * 6)).block, (ad141.add ((x4_3).toNat * 6)).off + 5, none⟩ = some (.int .i64 ((rd_T80 ((rd_T32 l0 0).f1) x4_3).f5))) (ds := []) (tf 0 33) t8_ rfl rfl ⟨((HB.out.cell (World.block_lt_of_cell? w _ hw140_0)).trans hw140_0), ((HB.out.cell (World.block_lt_of_cell? w _ hw140_1)).trans hw140_1), ((HB.out.cell (World.block_lt_of_cell? w _ hw141_0)).trans hw141_0), ((HB.out.cell (World.block_lt_of_cell? w _ hw141_1)).trans hw141_1), ((HB.out.cell (World.block_lt_of_cell? w _ hw141_2)).trans hw141_2), ((HB.out.cell (World.block_lt_of_cell? w _ hw141_3)).trans hw141_3), ((HB.out.cell (World.block_lt_of_cell? w _ hw141_4)).trans hw141_4), ((HB.out.cell (World.block_lt_of_cell? w _ hw141_5)).trans hw141_5), ((HB.out.cell (World.block_lt_of_cell? w _ hw143_0)).trans hw143_0), ((HB.out.cell (World.block_lt_of_cell? w _ hw143_1)).trans hw143_1), ((HB.out.cell (World.block_lt_of_cell? w _ hw144_0)).trans hw144_0), ((HB.out.cell (World.block_lt_of_cell? w _ hw144_1)).trans hw144_1), ((HB.out.cell (World.block_lt_of_cell? w _ hw144_2)).trans hw144_2), ((HB.out.cell (World.block_lt_of_cell? w _ hw144_3)).trans hw144_3), ((HB.out.cell (World.block_lt_of_cell? w _ hw144_4)).trans hw144_4), ((HB.out.cell (World.block_lt_of_cell? w _ hw144_5)).trans hw144_5), ((HB.out.cell (World.block_lt_of_cell? w _ hw145_0)).trans hw145_0), ((HB.out.cell (World.block_lt_of_cell? w _ hw145_1)).trans hw145_1), ((HB.out.cell (World.block_lt_of_cell? w _ hw146_0)).trans hw146_0), ((HB.out.cell (World.block_lt_of_cell? w _ hw146_1)).trans hw146_1), ((HB.out.cell (World.block_lt_of_cell? w _ hw146_2)).trans hw146_2), ((HB.out.cell (World.block_lt_of_cell? w _ hw146_3)).trans hw146_3), ((HB.out.cell (World.block_lt_of_cell? w _ hw146_4)).trans hw146_4), ((HB.out.cell (World.block_lt_of_cell? w _ hw146_5)).trans hw146_5)⟩ (fun hHeld => ?_); refine with_tabW spec_l04Ok.tab11 spec_l04Ok.bits11 (fun HT_ HW_ => ?_)
                  generalize wr.drew = w21 at HB HR140_0 HR140_1 HR143_0 HR143_1 HR145_0 HR145_1 hx140_0 hx140_1 hx141_0 hx141_1 hx141_2 hx141_3 hx141_4 hx141_5 hx143_0 hx143_1 hx144_0 hx144_1 hx144_2 hx144_3 hx144_4 hx144_5 hx145_0 hx145_1 hx146_0 hx146_1 hx146_2 hx146_3 hx146_4 hx146_5 hHeld ⊢
                  refine px 0 (some 54) (tf 1 33) HT_ ?_
                  refine px 1 (some 55) (tf 2 33) HT_ ?_
                  refine px 2 (some 56) (tf 3 33) HT_ ?_
                  refine px 3 (some 57) (tf 4 33) HT_ ?_
                  refine px 5 (some 59) (tb 33 47) HT_ ?_
                  refine tx (v := ?_) 4 (some 58) (tf 6 33) HT_ HW_ hHeld ?_ ?_
                  rotate_left; (· rintro w' ⟨s0, s1, s2, s3, s4, s5, s6, s7, s8, s9, s10, s11, s12, s13, s14, s15, s16, s17, s18, s19, s20, s21, s22, s23⟩; go_simp; with_reducible rfl)
                  refine px 6 (some 60) (tf 7 33) HT_ ?_
                  refine one_ (i := 7) (N := some 61) (tf 8 33) rfl rfl (one_of HT_.out t8_) t20_ (fun K hK => ?_)
                  refine goes_ Try.func86 t8_ rfl #[.pointer (some ad132), .pointer (some (ad141.add (x4_3.toNat * 6)))] t37_ rfl rfl t2_ ?_
                  with_reducible refine (spec_l04Fits.calls k3 _ c0 l0 _ 1 [rd_T80 ((rd_T32 l0 0).f1) x4_3] true _ ?side1 ?side2 ?side3 ?side4 A14.out).mono ?_
                  (case side1 => repeat (first | exact (Kd.C_below HR0.out HB.out) | (with_reducible refine Kd.C_alloc ?_ _) | (with_reducible refine Kd.C_drewN ?_ _) | (with_reducible refine Kd.C_drew ?_)))
                  (case side2 => exact HC0.out)
                  (case side3 => exact Kd.C_sub (z := z80) (n := ((rd_T32 l0 0).f1).length) (t21_) (by first | exact p141 | exact of_eq_true p141 | omega) (by first | exact q141 | exact of_eq_true q141 | omega))
                  (case side4 => exact Nat.le_refl _)
                  rintro e w22 ⟨rfl, hb⟩
                  refine ⟨_, rfl, ?_⟩
                  have n0_ := Aside0.mk (below_step t1_ hb)
                  clear HB
                  have HB := n0_
                  clear n0_
                  (try clear hb)
                  (try clear hb2)
                  (try clear hk)
                  (try clear hi)
                  refine hK.out _ _ ⟨((HB.out.cell (World.block_lt_of_cell? w _ hw140_0)).trans hw140_0), ((HB.out.cell (World.block_lt_of_cell? w _ hw140_1)).trans hw140_1), ((HB.out.cell (World.block_lt_of_cell? w _ hw141_0)).trans hw141_0), ((HB.out.cell (World.block_lt_of_cell? w _ hw141_1)).trans hw141_1), ((HB.out.cell (World.block_lt_of_cell? w _ hw141_2)).trans hw141_2), ((HB.out.cell (World.block_lt_of_cell? w _ hw141_3)).trans hw141_3), ((HB.out.cell (World.block_lt_of_cell? w _ hw141_4)).trans hw141_4), ((HB.out.cell (World.block_lt_of_cell? w _ hw141_5)).trans hw141_5), ((HB.out.cell (World.block_lt_of_cell? w _ hw143_0)).trans hw143_0), ((HB.out.cell (World.block_lt_of_cell? w _ hw143_1)).trans hw143_1), ((HB.out.cell (World.block_lt_of_cell? w _ hw144_0)).trans hw144_0), ((HB.out.cell (World.block_lt_of_cell? w _ hw144_1)).trans hw144_1), ((HB.out.cell (World.block_lt_of_cell? w _ hw144_2)).trans hw144_2), ((HB.out.cell (World.block_lt_of_cell? w _ hw144_3)).trans hw144_3), ((HB.out.cell (World.block_lt_of_cell? w _ hw144_4)).trans hw144_4), ((HB.out.cell (World.block_lt_of_cell? w _ hw144_5)).trans hw144_5), ((HB.out.cell (World.block_lt_of_cell? w _ hw145_0)).trans hw145_0), ((HB.out.cell (World.block_lt_of_cell? w _ hw145_1)).trans hw145_1), ((HB.out.cell (World.block_lt_of_cell? w _ hw146_0)).trans hw146_0), ((HB.out.cell (World.block_lt_of_cell? w _ hw146_1)).trans hw146_1), ((HB.out.cell (World.block_lt_of_cell? w _ hw146_2)).trans hw146_2), ((HB.out.cell (World.block_lt_of_cell? w _ hw146_3)).trans hw146_3), ((HB.out.cell (World.block_lt_of_cell? w _ hw146_4)).trans hw146_4), ((HB.out.cell (World.block_lt_of_cell? w _ hw146_5)).trans hw146_5)⟩ (fun hHeld => ?_)
                  clear hK K
                  refine norm_ (a' := ?_) ?_ ?_
                  rotate_left
                  ·show Act.put _ (some 61) _ = _
                   simp only [Act.put, List.setIfInBounds_toArray, List.set_cons_zero, List.set_cons_succ, i64_w, i32_w]
                   rfl
                  refine px 8 (some 62) (tf 9 33) HT_ ?_
                  refine px 9 (some 63) (tf 10 33) HT_ ?_
                  refine px 10 (some 64) (tf 11 33) HT_ ?_
                  refine px 11 (some 65) (tf 12 33) HT_ ?_
                  refine px 12 (some 66) (tf 13 33) HT_ ?_
                  refine px 13 (some 67) (tf 14 33) HT_ ?_
                  refine px 14 (some 68) (tf 15 33) HT_ ?_
                  refine px 15 (some 69) (tf 16 33) HT_ ?_
                  refine px 17 (some 71) (tb 33 196607) HT_ ?_
                  refine px 18 (some 72) (tb 33 458751) HT_ ?_
                  refine px 22 (some 76) (tb 33 4653055) HT_ ?_
                  refine px 23 (some 77) (tb 33 13041663) HT_ ?_
                  refine px 24 (some 78) (tb 33 29818879) HT_ ?_
                  refine px 26 (some 80) (tb 33 96927743) HT_ ?_
                  refine tx (v := ?_) 16 (some 70) (tb 33 96993279) HT_ HW_ hHeld ?_ ?_
                  rotate_left; (· rintro w' ⟨s0, s1, s2, s3, s4, s5, s6, s7, s8, s9, s10, s11, s12, s13, s14, s15, s16, s17, s18, s19, s20, s21, s22, s23⟩; go_simp; with_reducible rfl)
                  refine px 19 (some 73) (tb 33 97517567) HT_ ?_
                  refine px 20 (some 74) (tb 33 98566143) HT_ ?_
                  refine tx (v := ?_) 21 (some 75) (tb 33 100663295) HT_ HW_ hHeld ?_ ?_
                  rotate_left; (· rintro w' ⟨s0, s1, s2, s3, s4, s5, s6, s7, s8, s9, s10, s11, s12, s13, s14, s15, s16, s17, s18, s19, s20, s21, s22, s23⟩; go_simp; with_reducible rfl)
                  refine tx (v := ?_) 25 (some 79) (tf 27 33) HT_ HW_ hHeld ?_ ?_
                  rotate_left; (· rintro w' ⟨s0, s1, s2, s3, s4, s5, s6, s7, s8, s9, s10, s11, s12, s13, s14, s15, s16, s17, s18, s19, s20, s21, s22, s23⟩; go_simp; with_reducible rfl)
                  refine px 27 (some 81) (tf 28 33) HT_ ?_
                  refine px 28 (some 82) (tf 29 33) HT_ ?_
                  refine tx (v := ?_) 29 (some 83) (tf 30 33) HT_ HW_ hHeld ?_ ?_
                  rotate_left; (· rintro w' ⟨s0, s1, s2, s3, s4, s5, s6, s7, s8, s9, s10, s11, s12, s13, s14, s15, s16, s17, s18, s19, s20, s21, s22, s23⟩; go_simp; with_reducible rfl)
                  refine px 30 (some 84) (tf 31 33) HT_ ?_
                  refine px 31 (some 85) (tf 32 33) HT_ ?_
                  refine px 32 (some 86) (tf 33 33) HT_ ?_
                  refine done_ (done_of HT_.out t8_) ?_
                  try go_wp2
                  go_roundg k3
                  case measure => have := HK1.out; have := HJ6.out; have := HK3.out; omega
                  case rel => exact ⟨(wrap64 (x4_3 + 1)), t6_, H', ⟨by have := HK1.out; have := HJ6.out; have := HK3.out; omega⟩, ⟨by repeat (first | (with_reducible first | exact HB.out | apply below_alloc | apply pw_below_drewN | apply below_drew1) | exact HB.out)⟩⟩
                 ·rw [if_neg c20] at H
                  have c20b0 : (Op.bytesLess (((rd_T80 ((rd_T32 l0 0).f1) (ji17)).f0).toList) (((rd_T80 ((rd_T32 l0 0).f1) x4_3).f0).toList)) = false := by simpa using c20
                  clear c20
                  obtain rfl := Option.some.inj H
                  have p139 : 0 ≤ (0 : Int) := t12_
                  have q139 : 0 < (l0.length : Int) := of_decide_eq_true t3_
                  obtain ⟨ad139, A139_0, c139_0, A139_1, c139_1, e139, hx139_0, hx139_1, hl139_0, hi139_0, hl139_1, hi139_1⟩ := at_T32 HR0.out 0 p139 q139
                  obtain rfl : ad132 = ad139 := (by injection e139)
                  have qi139 : (0 < l0.length) = True := eq_true t12_
                  (try rw [show ((0 : Int)).toNat = 0 from rfl] at hx139_0)
                  (try rw [show 0 * 2 = 0 from rfl] at hx139_0)
                  (try rw [Addr.add_zero'] at hx139_0)
                  (try rw [show ((0 : Int)).toNat = 0 from rfl] at hx139_1)
                  (try rw [show 0 * 2 = 0 from rfl] at hx139_1)
                  (try rw [Addr.add_zero'] at hx139_1)
                  replace hx139_0 := (HB.out.cell (World.block_lt_of_cell? w _ hx139_0)).trans hx139_0
                  replace hx139_1 := (HB.out.cell (World.block_lt_of_cell? w _ hx139_1)).trans hx139_1
                  have HR139_0 := Aside0.mk hi139_0
                  have HC139_0 := Aside0.mk hl139_0
                  clear hi139_0 hl139_0
                  have HR139_1 := Aside0.mk hi139_1
                  have HC139_1 := Aside0.mk hl139_1
                  clear hi139_1 hl139_1
                  replace p139 := eq_true p139
                  replace q139 := eq_true q139
                  try go_wp2
                  have n0_ := Aside0.mk (below_drew1 HB.out)
                  clear HB
                  have HB := n0_
                  clear n0_
                  have p140 : 0 ≤ (0 : Int) := t12_
                  have q140 : 0 < (l0.length : Int) := of_decide_eq_true t3_
                  obtain ⟨ad140, A140_0, c140_0, A140_1, c140_1, e140, hx140_0, hx140_1, hl140_0, hi140_0, hl140_1, hi140_1⟩ := at_T32 HR0.out 0 p140 q140
                  have hw140_1 := hx140_1
                  (try rw [show ((0 : Int)).toNat = 0 from rfl] at hw140_1)
                  (try rw [show 0 * 2 = 0 from rfl] at hw140_1)
                  (try rw [Addr.add_zero'] at hw140_1)
                  have hw140_0 := hx140_0
                  (try rw [show ((0 : Int)).toNat = 0 from rfl] at hw140_0)
                  (try rw [show 0 * 2 = 0 from rfl] at hw140_0)
                  (try rw [Addr.add_zero'] at hw140_0)
                  obtain rfl : ad132 = ad140 := (by injection e140)
                  have qi140 : (0 < l0.length) = True := eq_true t12_
                  (try rw [show ((0 : Int)).toNat = 0 from rfl] at hx140_0)
                  (try rw [show 0 * 2 = 0 from rfl] at hx140_0)
                  (try rw [Addr.add_zero'] at hx140_0)
                  (try rw [show ((0 : Int)).toNat = 0 from rfl] at hx140_1)
                  (try rw [show 0 * 2 = 0 from rfl] at hx140_1)
                  (try rw [Addr.add_zero'] at hx140_1)
                  replace hx140_0 := (HB.out.cell (World.block_lt_of_cell? w _ hx140_0)).trans hx140_0
                  replace hx140_1 := (HB.out.cell (World.block_lt_of_cell? w _ hx140_1)).trans hx140_1
                  have HR140_0 := Aside0.mk hi140_0
                  have HC140_0 := Aside0.mk hl140_0
                  clear hi140_0 hl140_0
                  have HR140_1 := Aside0.mk hi140_1
                  have HC140_1 := Aside0.mk hl140_1
                  clear hi140_1 hl140_1
                  replace p140 := eq_true p140
                  replace q140 := eq_true q140
                  have p141 : 0 ≤ (x4_3 : Int) := of_decide_eq_true t3_
                  have q141 : x4_3 < (((rd_T32 l0 0).f1).length : Int) := of_decide_eq_true t3_
                  obtain ⟨ad141, e141, hx141_0, hx141_1, hx141_2, hx141_3, hx141_4, hx141_5⟩ := at_T80 HR140_1.out x4_3 p141 q141
                  have hw141_5 := hx141_5
                  have hw141_4 := hx141_4
                  have hw141_3 := hx141_3
                  have hw141_2 := hx141_2
                  have hw141_1 := hx141_1
                  have hw141_0 := hx141_0
                  cases e141
                  replace hx141_0 := (HB.out.cell (World.block_lt_of_cell? w _ hx141_0)).trans hx141_0
                  replace hx141_1 := (HB.out.cell (World.block_lt_of_cell? w _ hx141_1)).trans hx141_1
                  replace hx141_2 := (HB.out.cell (World.block_lt_of_cell? w _ hx141_2)).trans hx141_2
                  replace hx141_3 := (HB.out.cell (World.block_lt_of_cell? w _ hx141_3)).trans hx141_3
                  replace hx141_4 := (HB.out.cell (World.block_lt_of_cell? w _ hx141_4)).trans hx141_4
                  replace hx141_5 := (HB.out.cell (World.block_lt_of_cell? w _ hx141_5)).trans hx141_5
                  replace p141 := eq_true p141
                  replace q141 := eq_true q141
                  have p143 : 0 ≤ (0 : Int) := t12_
                  have q143 : 0 < (l0.length : Int) := of_decide_eq_true t3_
                  obtain ⟨ad143, A143_0, c143_0, A143_1, c143_1, e143, hx143_0, hx143_1, hl143_0, hi143_0, hl143_1, hi143_1⟩ := at_T32 HR0.out 0 p143 q143
                  have hw143_1 := hx143_1
                  (try rw [show ((0 : Int)).toNat = 0 from rfl] at hw143_1)
                  (try rw [show 0 * 2 = 0 from rfl] at hw143_1)
                  (try rw [Addr.add_zero'] at hw143_1)
                  have hw143_0 := hx143_0
                  (try rw [show ((0 : Int)).toNat = 0 from rfl] at hw143_0)
                  (try rw [show 0 * 2 = 0 from rfl] at hw143_0)
                  (try rw [Addr.add_zero'] at hw143_0)
                  obtain rfl : ad132 = ad143 := (by injection e143)
                  have qi143 : (0 < l0.length) = True := eq_true t12_
                  (try rw [show ((0 : Int)).toNat = 0 from rfl] at hx143_0)
                  (try rw [show 0 * 2 = 0 from rfl] at hx143_0)
                  (try rw [Addr.add_zero'] at hx143_0)
                  (try rw [show ((0 : Int)).toNat = 0 from rfl] at hx143_1)
                  (try rw [show 0 * 2 = 0 from rfl] at hx143_1)
                  (try rw [Addr.add_zero'] at hx143_1)
                  replace hx143_0 := (HB.out.cell (World.block_lt_of_cell? w _ hx143_0)).trans hx143_0
                  replace hx143_1 := (HB.out.cell (World.block_lt_of_cell? w _ hx143_1)).trans hx143_1
                  have HR143_0 := Aside0.mk hi143_0
                  have HC143_0 := Aside0.mk hl143_0
                  clear hi143_0 hl143_0
                  have HR143_1 := Aside0.mk hi143_1
                  have HC143_1 := Aside0.mk hl143_1
                  clear hi143_1 hl143_1
                  replace p143 := eq_true p143
                  replace q143 := eq_true q143
                  have ea_ := Option.some.inj (hx140_0.symm.trans hx143_0)
                  injection ea_ with ea_ en_ ec_
                  subst ea_
                  subst ec_
                  clear en_
                  have ea_ := Option.some.inj (hx140_1.symm.trans hx143_1)
                  injection ea_ with ea_ en_ ec_
                  subst ea_
                  subst ec_
                  clear en_
                  have p144 : 0 ≤ ((ji17) : Int) := of_decide_eq_true t3_
                  have q144 : (ji17) < (((rd_T32 l0 0).f1).length : Int) := of_decide_eq_true t3_
                  obtain ⟨ad144, e144, hx144_0, hx144_1, hx144_2, hx144_3, hx144_4, hx144_5⟩ := at_T80 HR143_1.out (ji17) p144 q144
                  have hw144_5 := hx144_5
                  have hw144_4 := hx144_4
                  have hw144_3 := hx144_3
                  have hw144_2 := hx144_2
                  have hw144_1 := hx144_1
                  have hw144_0 := hx144_0
                  obtain rfl : ad141 = ad144 := (by injection e144)
                  replace hx144_0 := (HB.out.cell (World.block_lt_of_cell? w _ hx144_0)).trans hx144_0
                  replace hx144_1 := (HB.out.cell (World.block_lt_of_cell? w _ hx144_1)).trans hx144_1
                  replace hx144_2 := (HB.out.cell (World.block_lt_of_cell? w _ hx144_2)).trans hx144_2
                  replace hx144_3 := (HB.out.cell (World.block_lt_of_cell? w _ hx144_3)).trans hx144_3
                  replace hx144_4 := (HB.out.cell (World.block_lt_of_cell? w _ hx144_4)).trans hx144_4
                  replace hx144_5 := (HB.out.cell (World.block_lt_of_cell? w _ hx144_5)).trans hx144_5
                  replace p144 := eq_true p144
                  replace q144 := eq_true q144
                  have p145 : 0 ≤ (0 : Int) := t12_
                  have q145 : 0 < (l0.length : Int) := of_decide_eq_true t3_
                  obtain ⟨ad145, A145_0, c145_0, A145_1, c145_1, e145, hx145_0, hx145_1, hl145_0, hi145_0, hl145_1, hi145_1⟩ := at_T32 HR0.out 0 p145 q145
                  have hw145_1 := hx145_1
                  (try rw [show ((0 : Int)).toNat = 0 from rfl] at hw145_1)
                  (try rw [show 0 * 2 = 0 from rfl] at hw145_1)
                  (try rw [Addr.add_zero'] at hw145_1)
                  have hw145_0 := hx145_0
                  (try rw [show ((0 : Int)).toNat = 0 from rfl] at hw145_0)
                  (try rw [show 0 * 2 = 0 from rfl] at hw145_0)
                  (try rw [Addr.add_zero'] at hw145_0)
                  obtain rfl : ad132 = ad145 := (by injection e145)
                  have qi145 : (0 < l0.length) = True := eq_true t12_
                  (try rw [show ((0 : Int)).toNat = 0 from rfl] at hx145_0)
                  (try rw [show 0 * 2 = 0 from rfl] at hx145_0)
                  (try rw [Addr.add_zero'] at hx145_0)
                  (try rw [show ((0 : Int)).toNat = 0 from rfl] at hx145_1)
                  (try rw [show 0 * 2 = 0 from rfl] at hx145_1)
                  (try rw [Addr.add_zero'] at hx145_1)
                  replace hx145_0 := (HB.out.cell (World.block_lt_of_cell? w _ hx145_0)).trans hx145_0
                  replace hx145_1 := (HB.out.cell (World.block_lt_of_cell? w _ hx145_1)).trans hx145_1
                  have HR145_0 := Aside0.mk hi145_0
                  have HC145_0 := Aside0.mk hl145_0
                  clear hi145_0 hl145_0
                  have HR145_1 := Aside0.mk hi145_1
                  have HC145_1 := Aside0.mk hl145_1
                  clear hi145_1 hl145_1
                  replace p145 := eq_true p145
                  replace q145 := eq_true q145
                  have ea_ := Option.some.inj (hx140_0.symm.trans hx145_0)
                  injection ea_ with ea_ en_ ec_
                  subst ea_
                  subst ec_
                  clear en_
                  have ea_ := Option.some.inj (hx140_1.symm.trans hx145_1)
                  injection ea_ with ea_ en_ ec_
                  subst ea_
                  subst ec_
                  clear en_
                  have p146 : 0 ≤ (x4_3 : Int) := of_decide_eq_true t3_
                  have q146 : x4_3 < (((rd_T32 l0 0).f1).length : Int) := of_decide_eq_true t3_
                  obtain ⟨ad146, e146, hx146_0, hx146_1, hx146_2, hx146_3, hx146_4, hx146_5⟩ := at_T80 HR145_1.out x4_3 p146 q146
                  have hw146_5 := hx146_5
                  have hw146_4 := hx146_4
                  have hw146_3 := hx146_3
                  have hw146_2 := hx146_2
                  have hw146_1 := hx146_1
                  have hw146_0 := hx146_0
                  obtain rfl : ad141 = ad146 := (by injection e146)
                  replace hx146_0 := (HB.out.cell (World.block_lt_of_cell? w _ hx146_0)).trans hx146_0
                  replace hx146_1 := (HB.out.cell (World.block_lt_of_cell? w _ hx146_1)).trans hx146_1
                  replace hx146_2 := (HB.out.cell (World.block_lt_of_cell? w _ hx146_2)).trans hx146_2
                  replace hx146_3 := (HB.out.cell (World.block_lt_of_cell? w _ hx146_3)).trans hx146_3
                  replace hx146_4 := (HB.out.cell (World.block_lt_of_cell? w _ hx146_4)).trans hx146_4
                  replace hx146_5 := (HB.out.cell (World.block_lt_of_cell? w _ hx146_5)).trans hx146_5
                  replace p146 := eq_true p146
                  replace q146 := eq_true q146
                  refine start_ (n := 33) (S := fun w' => w'.cell? ad132 = some (.slice A140_0 ((rd_T32 l0 0).f0).length c140_0) ∧ w'.cell? ⟨ad132.block, ad132.off + 1, none⟩ = some (.slice (some ad141) ((rd_T32 l0 0).f1).length c140_1) ∧ w'.cell? (ad141.add ((x4_3).toNat * 6)) = some (.string ((rd_T80 ((rd_T32 l0 0).f1) x4_3).f0)) ∧ w'.cell? ⟨(ad141.add ((x4_3).toNat * 6)).block, (ad141.add ((x4_3).toNat * 6)).off + 1, none⟩ = some (.int .i64 ((rd_T80 ((rd_T32 l0 0).f1) x4_3).f1)) ∧ w'.cell? ⟨(ad141.add ((x4_3).toNat * 6)).block, (ad141.add ((x4_3).toNat * 6)).off + 2, none⟩ = some (.int .i64 ((rd_T80 ((rd_T32 l0 0).f1) x4_3).f2)) ∧ w'.cell? ⟨(ad141.add ((x4_3).toNat * 6)).block, (ad141.add ((x4_3).toNat * 6)).off + 3, none⟩ = some (.int .i64 ((rd_T80 ((rd_T32 l0 0).f1) x4_3).f3)) ∧ w'.cell? ⟨(ad141.add ((x4_3).toNat * 6)).block, (ad141.add ((x4_3).toNat * 6)).off + 4, none⟩ = some (.int .i64 ((rd_T80 ((rd_T32 l0 0).f1) x4_3).f4)) ∧ w'.cell? ⟨(ad141.add ((x4_3).toNat * 6)).block, (ad141.add ((x4_3).toNat * 6)).off + 5, none⟩ = some (.int .i64 ((rd_T80 ((rd_T32 l0 0).f1) x4_3).f5)) ∧ w'.cell? ad132 = some (.slice A140_0 ((rd_T32 l0 0).f0).length c140_0) ∧ w'.cell? ⟨ad132.block, ad132.off + 1, none⟩ = some (.slice (some ad141) ((rd_T32 l0 0).f1).length c140_1) ∧ w'.cell? (ad141.add (((ji17)).toNat * 6)) = some (.string ((rd_T80 ((rd_T32 l0 0).f1) (ji17)).f0)) ∧ w'.cell? ⟨(ad141.add (((ji17)).toNat * 6)).block, (ad141.add (((ji17)).toNat * 6)).off + 1, none⟩ = some (.int .i64 ((rd_T80 ((rd_T32 l0 0).f1) (ji17)).f1)) ∧ w'.cell? ⟨(ad141.add (((ji17)).toNat * 6)).block, (ad141.add (((ji17)).toNat * 6)).off + 2, none⟩ = some (.int .i64 ((rd_T80 ((rd_T32 l0 0).f1) (ji17)).f2)) ∧ w'.cell? ⟨(ad141.add (((ji17)).toNat * 6)).block, (ad141.add (((ji17)).toNat * 6)).off + 3, none⟩ = some (.int .i64 ((rd_T80 ((rd_T32 l0 0).f1) (ji17)).f3)) ∧ w'.cell? ⟨(ad141.add (((ji17)).toNat * 6)).block, (ad141.add (((ji17)).toNat * 6)).off + 4, none⟩ = some (.int .i64 ((rd_T80 ((rd_T32 l0 0).f1) (ji17)).f4)) ∧ w'.cell? ⟨(ad141.add (((ji17)).toNat * 6)).block, (ad141.add (((ji17)).toNat * 6)).off + 5, none⟩ = some (.int .i64 ((rd_T80 ((rd_T32 l0 0).f1) (ji17)).f5)) ∧ w'.cell? ad132 = some (.slice A140_0 ((rd_T32 l0 0).f0).length c140_0) ∧ w'.cell? ⟨ad132.block, ad132.off + 1, none⟩ = some (.slice (some ad141) ((rd_T32 l0 0).f1).length c140_1) ∧ w'.cell? (ad141.add ((x4_3).toNat * 6)) = some (.string ((rd_T80 ((rd_T32 l0 0).f1) x4_3).f0)) ∧ w'.cell? ⟨(ad141.add ((x4_3).toNat * 6)).block, (ad141.add ((x4_3).toNat * 6)).off + 1, none⟩ = some (.int .i64 ((rd_T80 ((rd_T32 l0 0).f1) x4_3).f1)) ∧ w'.cell? ⟨(ad141.add ((x4_3).toNat * 6)).block, (ad141.add ((x4_3).toNat * 6)).off + 2, none⟩ = some (.int .i64 ((rd_T80 ((rd_T32 l0 0).f1) x4_3).f2)) ∧ w'.cell? ⟨(ad141.add ((x4_3).toNat * 6)).block, (ad141.add ((x4_3).toNat * 6)).off + 3, none⟩ = some (.int .i64 ((rd_T80 ((rd_T32 l0 0).f1) x4_3).f3)) ∧ w'.cell? ⟨(ad141.add ((x4_3).toNat * 6)).block, (ad141.add ((x4_3).toNat * 6)).off + 4, none⟩ = some (.int .i64 ((rd_T80 ((rd_T32 l0 0).f1) x4_3).f4)) ∧ w'.cell? ⟨(ad141.add ((x4_3).toNat * 6)).block, (ad141.add ((x4_3).toNat * 6)).off + 5, none⟩ = some (.int .i64 ((rd_T80 ((rd_T32 l0 0).f1) x4_3).f5))) (ds := []) (tf 0 33) t8_ rfl rfl ⟨((HB.out.cell (World.block_lt_of_cell? w _ hw140_0)).trans hw140_0), ((HB.out.cell (World.block_lt_of_cell? w _ hw140_1)).trans hw140_1), ((HB.out.cell (World.block_lt_of_cell? w _ hw141_0)).trans hw141_0), ((HB.out.cell (World.block_lt_of_cell? w _ hw141_1)).trans hw141_1), ((HB.out.cell (World.block_lt_of_cell? w _ hw141_2)).trans hw141_2), ((HB.out.cell (World.block_lt_of_cell? w _ hw141_3)).trans hw141_3), ((HB.out.cell (World.block_lt_of_cell? w _ hw141_4)).trans hw141_4), ((HB.out.cell (World.block_lt_of_cell? w _ hw141_5)).trans hw141_5), ((HB.out.cell (World.block_lt_of_cell? w _ hw143_0)).trans hw143_0), ((HB.out.cell (World.block_lt_of_cell? w _ hw143_1)).trans hw143_1), ((HB.out.cell (World.block_lt_of_cell? w _ hw144_0)).trans hw144_0), ((HB.out.cell (World.block_lt_of_cell? w _ hw144_1)).trans hw144_1), ((HB.out.cell (World.block_lt_of_cell? w _ hw144_2)).trans hw144_2), ((HB.out.cell (World.block_lt_of_cell? w _ hw144_3)).trans hw144_3), ((HB.out.cell (World.block_lt_of_cell? w _ hw144_4)).trans hw144_4), ((HB.out.cell (World.block_lt_of_cell? w _ hw144_5)).trans hw144_5), ((HB.out.cell (World.block_lt_of_cell? w _ hw145_0)).trans hw145_0), ((HB.out.cell (World.block_lt_of_cell? w _ hw145_1)).trans hw145_1), ((HB.out.cell (World.block_lt_of_cell? w _ hw146_0)).trans hw146_0), ((HB.out.cell (World.block_lt_of_cell? w _ hw146_1)).trans hw146_1), ((HB.out.cell (World.block_lt_of_cell? w _ hw146_2)).trans hw146_2), ((HB.out.cell (World.block_lt_of_cell? w _ hw146_3)).trans hw146_3), ((HB.out.cell (World.block_lt_of_cell? w _ hw146_4)).trans hw146_4), ((HB.out.cell (World.block_lt_of_cell? w _ hw146_5)).trans hw146_5)⟩ (fun hHeld => ?_); refine with_tabW spec_l04Ok.tab11 spec_l04Ok.bits11 (fun HT_ HW_ => ?_)
                  generalize wr.drew = w23 at HB HR140_0 HR140_1 HR143_0 HR143_1 HR145_0 HR145_1 hx140_0 hx140_1 hx141_0 hx141_1 hx141_2 hx141_3 hx141_4 hx141_5 hx143_0 hx143_1 hx144_0 hx144_1 hx144_2 hx144_3 hx144_4 hx144_5 hx145_0 hx145_1 hx146_0 hx146_1 hx146_2 hx146_3 hx146_4 hx146_5 hHeld ⊢
                  refine px 0 (some 54) (tf 1 33) HT_ ?_
                  refine px 1 (some 55) (tf 2 33) HT_ ?_
                  refine px 2 (some 56) (tf 3 33) HT_ ?_
                  refine px 3 (some 57) (tf 4 33) HT_ ?_
                  refine px 5 (some 59) (tb 33 47) HT_ ?_
                  refine tx (v := ?_) 4 (some 58) (tf 6 33) HT_ HW_ hHeld ?_ ?_
                  rotate_left; (· rintro w' ⟨s0, s1, s2, s3, s4, s5, s6, s7, s8, s9, s10, s11, s12, s13, s14, s15, s16, s17, s18, s19, s20, s21, s22, s23⟩; go_simp; with_reducible rfl)
                  refine px 6 (some 60) (tf 7 33) HT_ ?_
                  refine one_ (i := 7) (N := some 61) (tf 8 33) rfl rfl (one_of HT_.out t8_) t20_ (fun K hK => ?_)
                  refine goes_ Try.func86 t8_ rfl #[.pointer (some ad132), .pointer (some (ad141.add (x4_3.toNat * 6)))] t37_ rfl rfl t2_ ?_
                  with_reducible refine (spec_l04Fits.calls k3 _ c0 l0 _ 1 [rd_T80 ((rd_T32 l0 0).f1) x4_3] true _ ?side1 ?side2 ?side3 ?side4 A14.out).mono ?_
                  (case side1 => repeat (first | exact (Kd.C_below HR0.out HB.out) | (with_reducible refine Kd.C_alloc ?_ _) | (with_reducible refine Kd.C_drewN ?_ _) | (with_reducible refine Kd.C_drew ?_)))
                  (case side2 => exact HC0.out)
                  (case side3 => exact Kd.C_sub (z := z80) (n := ((rd_T32 l0 0).f1).length) (t21_) (by first | exact p141 | exact of_eq_true p141 | omega) (by first | exact q141 | exact of_eq_true q141 | omega))
                  (case side4 => exact Nat.le_refl _)
                  rintro e w24 ⟨rfl, hb⟩
                  refine ⟨_, rfl, ?_⟩
                  have n0_ := Aside0.mk (below_step t1_ hb)
                  clear HB
                  have HB := n0_
                  clear n0_
                  (try clear hb)
                  (try clear hb2)
                  (try clear hk)
                  (try clear hi)
                  refine hK.out _ _ ⟨((HB.out.cell (World.block_lt_of_cell? w _ hw140_0)).trans hw140_0), ((HB.out.cell (World.block_lt_of_cell? w _ hw140_1)).trans hw140_1), ((HB.out.cell (World.block_lt_of_cell? w _ hw141_0)).trans hw141_0), ((HB.out.cell (World.block_lt_of_cell? w _ hw141_1)).trans hw141_1), ((HB.out.cell (World.block_lt_of_cell? w _ hw141_2)).trans hw141_2), ((HB.out.cell (World.block_lt_of_cell? w _ hw141_3)).trans hw141_3), ((HB.out.cell (World.block_lt_of_cell? w _ hw141_4)).trans hw141_4), ((HB.out.cell (World.block_lt_of_cell? w _ hw141_5)).trans hw141_5), ((HB.out.cell (World.block_lt_of_cell? w _ hw143_0)).trans hw143_0), ((HB.out.cell (World.block_lt_of_cell? w _ hw143_1)).trans hw143_1), ((HB.out.cell (World.block_lt_of_cell? w _ hw144_0)).trans hw144_0), ((HB.out.cell (World.block_lt_of_cell? w _ hw144_1)).trans hw144_1), ((HB.out.cell (World.block_lt_of_cell? w _ hw144_2)).trans hw144_2), ((HB.out.cell (World.block_lt_of_cell? w _ hw144_3)).trans hw144_3), ((HB.out.cell (World.block_lt_of_cell? w _ hw144_4)).trans hw144_4), ((HB.out.cell (World.block_lt_of_cell? w _ hw144_5)).trans hw144_5), ((HB.out.cell (World.block_lt_of_cell? w _ hw145_0)).trans hw145_0), ((HB.out.cell (World.block_lt_of_cell? w _ hw145_1)).trans hw145_1), ((HB.out.cell (World.block_lt_of_cell? w _ hw146_0)).trans hw146_0), ((HB.out.cell (World.block_lt_of_cell? w _ hw146_1)).trans hw146_1), ((HB.out.cell (World.block_lt_of_cell? w _ hw146_2)).trans hw146_2), ((HB.out.cell (World.block_lt_of_cell? w _ hw146_3)).trans hw146_3), ((HB.out.cell (World.block_lt_of_cell? w _ hw146_4)).trans hw146_4), ((HB.out.cell (World.block_lt_of_cell? w _ hw146_5)).trans hw146_5)⟩ (fun hHeld => ?_)
                  clear hK K
                  refine norm_ (a' := ?_) ?_ ?_
                  rotate_left
                  ·show Act.put _ (some 61) _ = _
                   simp only [Act.put, List.setIfInBounds_toArray, List.set_cons_zero, List.set_cons_succ, i64_w, i32_w]
                   rfl
                  refine px 8 (some 62) (tf 9 33) HT_ ?_
                  refine px 9 (some 63) (tf 10 33) HT_ ?_
                  refine px 10 (some 64) (tf 11 33) HT_ ?_
                  refine px 11 (some 65) (tf 12 33) HT_ ?_
                  refine px 12 (some 66) (tf 13 33) HT_ ?_
                  refine px 13 (some 67) (tf 14 33) HT_ ?_
                  refine px 14 (some 68) (tf 15 33) HT_ ?_
                  refine px 15 (some 69) (tf 16 33) HT_ ?_
                  refine px 17 (some 71) (tb 33 196607) HT_ ?_
                  refine px 18 (some 72) (tb 33 458751) HT_ ?_
                  refine px 22 (some 76) (tb 33 4653055) HT_ ?_
                  refine px 23 (some 77) (tb 33 13041663) HT_ ?_
                  refine px 24 (some 78) (tb 33 29818879) HT_ ?_
                  refine px 26 (some 80) (tb 33 96927743) HT_ ?_
                  refine tx (v := ?_) 16 (some 70) (tb 33 96993279) HT_ HW_ hHeld ?_ ?_
                  rotate_left; (· rintro w' ⟨s0, s1, s2, s3, s4, s5, s6, s7, s8, s9, s10, s11, s12, s13, s14, s15, s16, s17, s18, s19, s20, s21, s22, s23⟩; go_simp; with_reducible rfl)
                  refine px 19 (some 73) (tb 33 97517567) HT_ ?_
                  refine px 20 (some 74) (tb 33 98566143) HT_ ?_
                  refine tx (v := ?_) 21 (some 75) (tb 33 100663295) HT_ HW_ hHeld ?_ ?_
                  rotate_left; (· rintro w' ⟨s0, s1, s2, s3, s4, s5, s6, s7, s8, s9, s10, s11, s12, s13, s14, s15, s16, s17, s18, s19, s20, s21, s22, s23⟩; go_simp; with_reducible rfl)
                  refine tx (v := ?_) 25 (some 79) (tf 27 33) HT_ HW_ hHeld ?_ ?_
                  rotate_left; (· rintro w' ⟨s0, s1, s2, s3, s4, s5, s6, s7, s8, s9, s10, s11, s12, s13, s14, s15, s16, s17, s18, s19, s20, s21, s22, s23⟩; go_simp; with_reducible rfl)
                  refine px 27 (some 81) (tf 28 33) HT_ ?_
                  refine px 28 (some 82) (tf 29 33) HT_ ?_
                  refine tx (v := ?_) 29 (some 83) (tf 30 33) HT_ HW_ hHeld ?_ ?_
                  rotate_left; (· rintro w' ⟨s0, s1, s2, s3, s4, s5, s6, s7, s8, s9, s10, s11, s12, s13, s14, s15, s16, s17, s18, s19, s20, s21, s22, s23⟩; go_simp; with_reducible rfl)
                  refine px 30 (some 84) (tf 31 33) HT_ ?_
                  refine px 31 (some 85) (tf 32 33) HT_ ?_
                  refine px 32 (some 86) (tf 33 33) HT_ ?_
                  refine done_ (done_of HT_.out t8_) ?_
                  try go_wp2
                  go_ret
                  exact ⟨by first | rfl | (rw [Int.tdiv_eq_ediv_of_nonneg t12_]; rfl) | (simp [errW_none, errW_some] <;> rfl) | (simp only [← hji17]; first | rfl | (simp [errW_none, errW_some] <;> rfl)) | (simp [*, errW_none, errW_some] <;> rfl), by repeat (first | (with_reducible first | exact HB.out | apply below_alloc | apply pw_below_drewN | apply below_drew1) | exact HB.out)⟩
                ·rw [if_neg c19] at H
                 exact absurd H t36_
               ·rw [if_neg c18] at H
                exact absurd H t36_
              ·rw [if_neg c16] at H
               have c16b0 : decide (0 < x4_3) = false := decide_eq_false c16
               clear c16
               have H' := Aside0.mk H
               clear H
               have p139 : 0 ≤ (0 : Int) := t12_
               have q139 : 0 < (l0.length : Int) := of_decide_eq_true t3_
               obtain ⟨ad139, A139_0, c139_0, A139_1, c139_1, e139, hx139_0, hx139_1, hl139_0, hi139_0, hl139_1, hi139_1⟩ := at_T32 HR0.out 0 p139 q139
               obtain rfl : ad132 = ad139 := (by injection e139)
               have qi139 : (0 < l0.length) = True := eq_true t12_
               (try rw [show ((0 : Int)).toNat = 0 from rfl] at hx139_0)
               (try rw [show 0 * 2 = 0 from rfl] at hx139_0)
               (try rw [Addr.add_zero'] at hx139_0)
               (try rw [show ((0 : Int)).toNat = 0 from rfl] at hx139_1)
               (try rw [show 0 * 2 = 0 from rfl] at hx139_1)
               (try rw [Addr.add_zero'] at hx139_1)
               replace hx139_0 := (HB.out.cell (World.block_lt_of_cell? w _ hx139_0)).trans hx139_0
               replace hx139_1 := (HB.out.cell (World.block_lt_of_cell? w _ hx139_1)).trans hx139_1
               have HR139_0 := Aside0.mk hi139_0
               have HC139_0 := Aside0.mk hl139_0
               clear hi139_0 hl139_0
               have HR139_1 := Aside0.mk hi139_1
               have HC139_1 := Aside0.mk hl139_1
               clear hi139_1 hl139_1
               replace p139 := eq_true p139
               replace q139 := eq_true q139
               try go_wp2
               have n0_ := Aside0.mk (below_drew1 HB.out)
               clear HB
               have HB := n0_
               clear n0_
               have p140 : 0 ≤ (0 : Int) := t12_
               have q140 : 0 < (l0.length : Int) := of_decide_eq_true t3_
               obtain ⟨ad140, A140_0, c140_0, A140_1, c140_1, e140, hx140_0, hx140_1, hl140_0, hi140_0, hl140_1, hi140_1⟩ := at_T32 HR0.out 0 p140 q140
               have hw140_1 := hx140_1
               (try rw [show ((0 : Int)).toNat = 0 from rfl] at hw140_1)
               (try rw [show 0 * 2 = 0 from rfl] at hw140_1)
               (try rw [Addr.add_zero'] at hw140_1)
               have hw140_0 := hx140_0
               (try rw [show ((0 : Int)).toNat = 0 from rfl] at hw140_0)
               (try rw [show 0 * 2 = 0 from rfl] at hw140_0)
               (try rw [Addr.add_zero'] at hw140_0)
               obtain rfl : ad132 = ad140 := (by injection e140)
               have qi140 : (0 < l0.length) = True := eq_true t12_
               (try rw [show ((0 : Int)).toNat = 0 from rfl] at hx140_0)
               (try rw [show 0 * 2 = 0 from rfl] at hx140_0)
               (try rw [Addr.add_zero'] at hx140_0)
               (try rw [show ((0 : Int)).toNat = 0 from rfl] at hx140_1)
               (try rw [show 0 * 2 = 0 from rfl] at hx140_1)
               (try rw [Addr.add_zero'] at hx140_1)
               replace hx140_0 := (HB.out.cell (World.block_lt_of_cell? w _ hx140_0)).trans hx140_0
               replace hx140_1 := (HB.out.cell (World.block_lt_of_cell? w _ hx140_1)).trans hx140_1
               have HR140_0 := Aside0.mk hi140_0
               have HC140_0 := Aside0.mk hl140_0
               clear hi140_0 hl140_0
               have HR140_1 := Aside0.mk hi140_1
               have HC140_1 := Aside0.mk hl140_1
               clear hi140_1 hl140_1
               replace p140 := eq_true p140
               replace q140 := eq_true q140
               have p141 : 0 ≤ (x4_3 : Int) := of_decide_eq_true t3_
               have q141 : x4_3 < (((rd_T32 l0 0).f1).length : Int) := of_decide_eq_true t3_
               obtain ⟨ad141, e141, hx141_0, hx141_1, hx141_2, hx141_3, hx141_4, hx141_5⟩ := at_T80 HR140_1.out x4_3 p141 q141
               have hw141_5 := hx141_5
               have hw141_4 := hx141_4
               have hw141_3 := hx141_3
               have hw141_2 := hx141_2
               have hw141_1 := hx141_1
               have hw141_0 := hx141_0
               cases e141
               replace hx141_0 := (HB.out.cell (World.block_lt_of_cell? w _ hx141_0)).trans hx141_0
               replace hx141_1 := (HB.out.cell (World.block_lt_of_cell? w _ hx141_1)).trans hx141_1
               replace hx141_2 := (HB.out.cell (World.block_lt_of_cell? w _ hx141_2)).trans hx141_2
               replace hx141_3 := (HB.out.cell (World.block_lt_of_cell? w _ hx141_3)).trans hx141_3
               replace hx141_4 := (HB.out.cell (World.block_lt_of_cell? w _ hx141_4)).trans hx141_4
               replace hx141_5 := (HB.out.cell (World.block_lt_of_cell? w _ hx141_5)).trans hx141_5
               replace p141 := eq_true p141
               replace q141 := eq_true q141
               refine start_ (n := 33) (S := fun w' => w'.cell? ad132 = some (.slice A140_0 ((rd_T32 l0 0).f0).length c140_0) ∧ w'.cell? ⟨ad132.block, ad132.off + 1, none⟩ = some (.slice (some ad141) ((rd_T32 l0 0).f1).length c140_1) ∧ w'.cell? (ad141.add ((x4_3).toNat * 6)) = some (.string ((rd_T80 ((rd_T32 l0 0).f1) x4_3).f0)) ∧ w'.cell? ⟨(ad141.add ((x4_3).toNat * 6)).block, (ad141.add ((x4_3).toNat * 6)).off + 1, none⟩ = some (.int .i64 ((rd_T80 ((rd_T32 l0 0).f1) x4_3).f1)) ∧ w'.cell? ⟨(ad141.add ((x4_3).toNat * 6)).block, (ad141.add ((x4_3).toNat * 6)).off + 2, none⟩ = some (.int .i64 ((rd_T80 ((rd_T32 l0 0).f1) x4_3).f2)) ∧ w'.cell? ⟨(ad141.add ((x4_3).toNat * 6)).block, (ad141.add ((x4_3).toNat * 6)).off + 3, none⟩ = some (.int .i64 ((rd_T80 ((rd_T32 l0 0).f1) x4_3).f3)) ∧ w'.cell? ⟨(ad141.add ((x4_3).toNat * 6)).block, (ad141.add ((x4_3).toNat * 6)).off + 4, none⟩ = some (.int .i64 ((rd_T80 ((rd_T32 l0 0).f1) x4_3).f4)) ∧ w'.cell? ⟨(ad141.add ((x4_3).toNat * 6)).block, (ad141.add ((x4_3).toNat * 6)).off + 5, none⟩ = some (.int .i64 ((rd_T80 ((rd_T32 l0 0).f1) x4_3).f5))) (ds := []) (tf 0 33) t8_ rfl rfl ⟨((HB.out.cell (World.block_lt_of_cell? w _ hw140_0)).trans hw140_0), ((HB.out.cell (World.block_lt_of_cell? w _ hw140_1)).trans hw140_1), ((HB.out.cell (World.block_lt_of_cell? w _ hw141_0)).trans hw141_0), ((HB.out.cell (World.block_lt_of_cell? w _ hw141_1)).trans hw141_1), ((HB.out.cell (World.block_lt_of_cell? w _ hw141_2)).trans hw141_2), ((HB.out.cell (World.block_lt_of_cell? w _ hw141_3)).trans hw141_3), ((HB.out.cell (World.block_lt_of_cell? w _ hw141_4)).trans hw141_4), ((HB.out.cell (World.block_lt_of_cell? w _ hw141_5)).trans hw141_5)⟩ (fun hHeld => ?_); refine with_tabW spec_l04Ok.tab11 spec_l04Ok.bits11 (fun HT_ HW_ => ?_)
               generalize wr.drew = w25 at HB HR140_0 HR140_1 hx140_0 hx140_1 hx141_0 hx141_1 hx141_2 hx141_3 hx141_4 hx141_5 hHeld ⊢
               refine px 0 (some 54) (tf 1 33) HT_ ?_
               refine px 1 (some 55) (tf 2 33) HT_ ?_
               refine px 2 (some 56) (tf 3 33) HT_ ?_
               refine px 3 (some 57) (tf 4 33) HT_ ?_
               refine px 5 (some 59) (tb 33 47) HT_ ?_
               refine tx (v := ?_) 4 (some 58) (tf 6 33) HT_ HW_ hHeld ?_ ?_
               rotate_left; (· rintro w' ⟨s0, s1, s2, s3, s4, s5, s6, s7⟩; go_simp; with_reducible rfl)
               refine px 6 (some 60) (tf 7 33) HT_ ?_
               refine one_ (i := 7) (N := some 61) (tf 8 33) rfl rfl (one_of HT_.out t8_) t20_ (fun K hK => ?_)
               refine goes_ Try.func86 t8_ rfl #[.pointer (some ad132), .pointer (some (ad141.add (x4_3.toNat * 6)))] t37_ rfl rfl t2_ ?_
               with_reducible refine (spec_l04Fits.calls k3 _ c0 l0 _ 1 [rd_T80 ((rd_T32 l0 0).f1) x4_3] true _ ?side1 ?side2 ?side3 ?side4 A14.out).mono ?_
               (case side1 => repeat (first | exact (Kd.C_below HR0.out HB.out) | (with_reducible refine Kd.C_alloc ?_ _) | (with_reducible refine Kd.C_drewN ?_ _) | (with_reducible refine Kd.C_drew ?_)))
               (case side2 => exact HC0.out)
               (case side3 => exact Kd.C_sub (z := z80) (n := ((rd_T32 l0 0).f1).length) (t21_) (by first | exact p141 | exact of_eq_true p141 | omega) (by first | exact q141 | exact of_eq_true q141 | omega))
               (case side4 => exact Nat.le_refl _)
               rintro e w26 ⟨rfl, hb⟩
               refine ⟨_, rfl, ?_⟩
               have n0_ := Aside0.mk (below_step t1_ hb)
               clear HB
               have HB := n0_
               clear n0_
               (try clear hb)
               (try clear hb2)
               (try clear hk)
               (try clear hi)
               refine hK.out _ _ ⟨((HB.out.cell (World.block_lt_of_cell? w _ hw140_0)).trans hw140_0), ((HB.out.cell (World.block_lt_of_cell? w _ hw140_1)).trans hw140_1), ((HB.out.cell (World.block_lt_of_cell? w _ hw141_0)).trans hw141_0), ((HB.out.cell (World.block_lt_of_cell? w _ hw141_1)).trans hw141_1), ((HB.out.cell (World.block_lt_of_cell? w _ hw141_2)).trans hw141_2), ((HB.out.cell (World.block_lt_of_cell? w _ hw141_3)).trans hw141_3), ((HB.out.cell (World.block_lt_of_cell? w _ hw141_4)).trans hw141_4), ((HB.out.cell (World.block_lt_of_cell? w _ hw141_5)).trans hw141_5)⟩ (fun hHeld => ?_)
               clear hK K
               refine norm_ (a' := ?_) ?_ ?_
               rotate_left
               ·show Act.put _ (some 61) _ = _
                simp only [Act.put, List.setIfInBounds_toArray, List.set_cons_zero, List.set_cons_succ, i64_w, i32_w]
                rfl
               refine px 8 (some 62) (tf 9 33) HT_ ?_
               refine px 9 (some 63) (tf 10 33) HT_ ?_
               refine px 10 (some 64) (tf 11 33) HT_ ?_
               refine px 11 (some 65) (tf 12 33) HT_ ?_
               refine px 12 (some 66) (tf 13 33) HT_ ?_
               refine sx 13 (some 67) (tf 14 33) HT_ ?_
               refine sx 14 (some 68) (tf 15 33) HT_ ?_
               refine sx 15 (some 69) (tf 16 33) HT_ ?_
               refine sx 16 (some 70) (tf 17 33) HT_ ?_
               refine sx 17 (some 71) (tf 18 33) HT_ ?_
               refine sx 18 (some 72) (tf 19 33) HT_ ?_
               refine sx 19 (some 73) (tf 20 33) HT_ ?_
               refine sx 20 (some 74) (tf 21 33) HT_ ?_
               refine sx 21 (some 75) (tf 22 33) HT_ ?_
               refine sx 22 (some 76) (tf 23 33) HT_ ?_
               refine sx 23 (some 77) (tf 24 33) HT_ ?_
               refine sx 24 (some 78) (tf 25 33) HT_ ?_
               refine sx 25 (some 79) (tf 26 33) HT_ ?_
               refine sx 26 (some 80) (tf 27 33) HT_ ?_
               refine sx 27 (some 81) (tf 28 33) HT_ ?_
               refine sx 28 (some 82) (tf 29 33) HT_ ?_
               refine sx 29 (some 83) (tf 30 33) HT_ ?_
               refine sx 30 (some 84) (tf 31 33) HT_ ?_
               refine px 31 (some 85) (tf 32 33) HT_ ?_
               refine px 32 (some 86) (tf 33 33) HT_ ?_
               refine done_ (done_of HT_.out t8_) ?_
               try go_wp2
               go_roundg k3
               case measure => have := HK1.out; have := HJ6.out; have := HK3.out; omega
               case rel => exact ⟨(wrap64 (x4_3 + 1)), t6_, H', ⟨by have := HK1.out; have := HJ6.out; have := HK3.out; omega⟩, ⟨by repeat (first | (with_reducible first | exact HB.out | apply below_alloc | apply pw_below_drewN | apply below_drew1) | exact HB.out)⟩⟩
             ·replace c15 := Bool.eq_false_iff.mpr c15
              subst c15
              have H1 : (some false) = some r := by rw [if_neg (show ¬ (false = true) by decide)] at H; exact H
              clear H
              have H := H1
              clear H1
              obtain rfl := Option.some.inj H
              have p139 : 0 ≤ (0 : Int) := t12_
              have q139 : 0 < (l0.length : Int) := of_decide_eq_true t3_
              obtain ⟨ad139, A139_0, c139_0, A139_1, c139_1, e139, hx139_0, hx139_1, hl139_0, hi139_0, hl139_1, hi139_1⟩ := at_T32 HR0.out 0 p139 q139
              obtain rfl : ad132 = ad139 := (by injection e139)
              have qi139 : (0 < l0.length) = True := eq_true t12_
              (try rw [show ((0 : Int)).toNat = 0 from rfl] at hx139_0)
              (try rw [show 0 * 2 = 0 from rfl] at hx139_0)
              (try rw [Addr.add_zero'] at hx139_0)
              (try rw [show ((0 : Int)).toNat = 0 from rfl] at hx139_1)
              (try rw [show 0 * 2 = 0 from rfl] at hx139_1)
              (try rw [Addr.add_zero'] at hx139_1)
              replace hx139_0 := (HB.out.cell (World.block_lt_of_cell? w _ hx139_0)).trans hx139_0
              replace hx139_1 := (HB.out.cell (World.block_lt_of_cell? w _ hx139_1)).trans hx139_1
              have HR139_0 := Aside0.mk hi139_0
              have HC139_0 := Aside0.mk hl139_0
              clear hi139_0 hl139_0
              have HR139_1 := Aside0.mk hi139_1
              have HC139_1 := Aside0.mk hl139_1
              clear hi139_1 hl139_1
              replace p139 := eq_true p139
              replace q139 := eq_true q139
              try go_wp2
              have n0_ := Aside0.mk (below_drew1 HB.out)
              clear HB
              have HB := n0_
              clear n0_
              have p140 : 0 ≤ (0 : Int) := t12_
              have q140 : 0 < (l0.length : Int) := of_decide_eq_true t3_
              obtain ⟨ad140, A140_0, c140_0, A140_1, c140_1, e140, hx140_0, hx140_1, hl140_0, hi140_0, hl140_1, hi140_1⟩ := at_T32 HR0.out 0 p140 q140
              have hw140_1 := hx140_1
              (try rw [show ((0 : Int)).toNat = 0 from rfl] at hw140_1)
              (try rw [show 0 * 2 = 0 from rfl] at hw140_1)
              (try rw [Addr.add_zero'] at hw140_1)
              have hw140_0 := hx140_0
              (try rw [show ((0 : Int)).toNat = 0 from rfl] at hw140_0)
              (try rw [show 0 * 2 = 0 from rfl] at hw140_0)
              (try rw [Addr.add_zero'] at hw140_0)
              obtain rfl : ad132 = ad140 := (by injection e140)
              have qi140 : (0 < l0.length) = True := eq_true t12_
              (try rw [show ((0 : Int)).toNat = 0 from rfl] at hx140_0)
              (try rw [show 0 * 2 = 0 from rfl] at hx140_0)
              (try rw [Addr.add_zero'] at hx140_0)
              (try rw [show ((0 : Int)).toNat = 0 from rfl] at hx140_1)
              (try rw [show 0 * 2 = 0 from rfl] at hx140_1)
              (try rw [Addr.add_zero'] at hx140_1)
              replace hx140_0 := (HB.out.cell (World.block_lt_of_cell? w _ hx140_0)).trans hx140_0
              replace hx140_1 := (HB.out.cell (World.block_lt_of_cell? w _ hx140_1)).trans hx140_1
              have HR140_0 := Aside0.mk hi140_0
              have HC140_0 := Aside0.mk hl140_0
              clear hi140_0 hl140_0
              have HR140_1 := Aside0.mk hi140_1
              have HC140_1 := Aside0.mk hl140_1
              clear hi140_1 hl140_1
              replace p140 := eq_true p140
              replace q140 := eq_true q140
              have p141 : 0 ≤ (x4_3 : Int) := of_decide_eq_true t3_
              have q141 : x4_3 < (((rd_T32 l0 0).f1).length : Int) := of_decide_eq_true t3_
              obtain ⟨ad141, e141, hx141_0, hx141_1, hx141_2, hx141_3, hx141_4, hx141_5⟩ := at_T80 HR140_1.out x4_3 p141 q141
              have hw141_5 := hx141_5
              have hw141_4 := hx141_4
              have hw141_3 := hx141_3
              have hw141_2 := hx141_2
              have hw141_1 := hx141_1
              have hw141_0 := hx141_0
              cases e141
              replace hx141_0 := (HB.out.cell (World.block_lt_of_cell? w _ hx141_0)).trans hx141_0
              replace hx141_1 := (HB.out.cell (World.block_lt_of_cell? w _ hx141_1)).trans hx141_1
              replace hx141_2 := (HB.out.cell (World.block_lt_of_cell? w _ hx141_2)).trans hx141_2
              replace hx141_3 := (HB.out.cell (World.block_lt_of_cell? w _ hx141_3)).trans hx141_3
              replace hx141_4 := (HB.out.cell (World.block_lt_of_cell? w _ hx141_4)).trans hx141_4
              replace hx141_5 := (HB.out.cell (World.block_lt_of_cell? w _ hx141_5)).trans hx141_5
              replace p141 := eq_true p141
              replace q141 := eq_true q141
              refine start_ (n := 33) (S := fun w' => w'.cell? ad132 = some (.slice A140_0 ((rd_T32 l0 0).f0).length c140_0) ∧ w'.cell? ⟨ad132.block, ad132.off + 1, none⟩ = some (.slice (some ad141) ((rd_T32 l0 0).f1).length c140_1) ∧ w'.cell? (ad141.add ((x4_3).toNat * 6)) = some (.string ((rd_T80 ((rd_T32 l0 0).f1) x4_3).f0)) ∧ w'.cell? ⟨(ad141.add ((x4_3).toNat * 6)).block, (ad141.add ((x4_3).toNat * 6)).off + 1, none⟩ = some (.int .i64 ((rd_T80 ((rd_T32 l0 0).f1) x4_3).f1)) ∧ w'.cell? ⟨(ad141.add ((x4_3).toNat * 6)).block, (ad141.add ((x4_3).toNat * 6)).off + 2, none⟩ = some (.int .i64 ((rd_T80 ((rd_T32 l0 0).f1) x4_3).f2)) ∧ w'.cell? ⟨(ad141.add ((x4_3).toNat * 6)).block, (ad141.add ((x4_3).toNat * 6)).off + 3, none⟩ = some (.int .i64 ((rd_T80 ((rd_T32 l0 0).f1) x4_3).f3)) ∧ w'.cell? ⟨(ad141.add ((x4_3).toNat * 6)).block, (ad141.add ((x4_3).toNat * 6)).off + 4, none⟩ = some (.int .i64 ((rd_T80 ((rd_T32 l0 0).f1) x4_3).f4)) ∧ w'.cell? ⟨(ad141.add ((x4_3).toNat * 6)).block, (ad141.add ((x4_3).toNat * 6)).off + 5, none⟩ = some (.int .i64 ((rd_T80 ((rd_T32 l0 0).f1) x4_3).f5))) (ds := []) (tf 0 33) t8_ rfl rfl ⟨((HB.out.cell (World.block_lt_of_cell? w _ hw140_0)).trans hw140_0), ((HB.out.cell (World.block_lt_of_cell? w _ hw140_1)).trans hw140_1), ((HB.out.cell (World.block_lt_of_cell? w _ hw141_0)).trans hw141_0), ((HB.out.cell (World.block_lt_of_cell? w _ hw141_1)).trans hw141_1), ((HB.out.cell (World.block_lt_of_cell? w _ hw141_2)).trans hw141_2), ((HB.out.cell (World.block_lt_of_cell? w _ hw141_3)).trans hw141_3), ((HB.out.cell (World.block_lt_of_cell? w _ hw141_4)).trans hw141_4), ((HB.out.cell (World.block_lt_of_cell? w _ hw141_5)).trans hw141_5)⟩ (fun hHeld => ?_); refine with_tabW spec_l04Ok.tab11 spec_l04Ok.bits11 (fun HT_ HW_ => ?_)
              generalize wr.drew = w27 at HB HR140_0 HR140_1 hx140_0 hx140_1 hx141_0 hx141_1 hx141_2 hx141_3 hx141_4 hx141_5 hHeld ⊢
              refine px 0 (some 54) (tf 1 33) HT_ ?_
              refine px 1 (some 55) (tf 2 33) HT_ ?_
              refine px 2 (some 56) (tf 3 33) HT_ ?_
              refine px 3 (some 57) (tf 4 33) HT_ ?_
              refine px 5 (some 59) (tb 33 47) HT_ ?_
              refine tx (v := ?_) 4 (some 58) (tf 6 33) HT_ HW_ hHeld ?_ ?_
              rotate_left; (· rintro w' ⟨s0, s1, s2, s3, s4, s5, s6, s7⟩; go_simp; with_reducible rfl)
              refine px 6 (some 60) (tf 7 33) HT_ ?_
              refine one_ (i := 7) (N := some 61) (tf 8 33) rfl rfl (one_of HT_.out t8_) t20_ (fun K hK => ?_)
              refine goes_ Try.func86 t8_ rfl #[.pointer (some ad132), .pointer (some (ad141.add (x4_3.toNat * 6)))] t37_ rfl rfl t2_ ?_
              with_reducible refine (spec_l04Fits.calls k3 _ c0 l0 _ 1 [rd_T80 ((rd_T32 l0 0).f1) x4_3] false _ ?side1 ?side2 ?side3 ?side4 A14.out).mono ?_
              (case side1 => repeat (first | exact (Kd.C_below HR0.out HB.out) | (with_reducible refine Kd.C_alloc ?_ _) | (with_reducible refine Kd.C_drewN ?_ _) | (with_reducible refine Kd.C_drew ?_)))
              (case side2 => exact HC0.out)
              (case side3 => exact Kd.C_sub (z := z80) (n := ((rd_T32 l0 0).f1).length) (t21_) (by first | exact p141 | exact of_eq_true p141 | omega) (by first | exact q141 | exact of_eq_true q141 | omega))
              (case side4 => exact Nat.le_refl _)
              rintro e w28 ⟨rfl, hb⟩
              refine ⟨_, rfl, ?_⟩
              have n0_ := Aside0.mk (below_step t1_ hb)
              clear HB
              have HB := n0_
              clear n0_
              (try clear hb)
              (try clear hb2)
              (try clear hk)
              (try clear hi)
              refine hK.out _ _ ⟨((HB.out.cell (World.block_lt_of_cell? w _ hw140_0)).trans hw140_0), ((HB.out.cell (World.block_lt_of_cell? w _ hw140_1)).trans hw140_1), ((HB.out.cell (World.block_lt_of_cell? w _ hw141_0)).trans hw141_0), ((HB.out.cell (World.block_lt_of_cell? w _ hw141_1)).trans hw141_1), ((HB.out.cell (World.block_lt_of_cell? w _ hw141_2)).trans hw141_2), ((HB.out.cell (World.block_lt_of_cell? w _ hw141_3)).trans hw141_3), ((HB.out.cell (World.block_lt_of_cell? w _ hw141_4)).trans hw141_4), ((HB.out.cell (World.block_lt_of_cell? w _ hw141_5)).trans hw141_5)⟩ (fun hHeld => ?_)
              clear hK K
              refine norm_ (a' := ?_) ?_ ?_
              rotate_left
              ·show Act.put _ (some 61) _ = _
               simp only [Act.put, List.setIfInBounds_toArray, List.set_cons_zero, List.set_cons_succ, i64_w, i32_w]
               rfl
              refine px 8 (some 62) (tf 9 33) HT_ ?_
              refine px 9 (some 63) (tf 10 33) HT_ ?_
              refine sx 10 (some 64) (tf 11 33) HT_ ?_
              refine sx 11 (some 65) (tf 12 33) HT_ ?_
              refine sx 12 (some 66) (tf 13 33) HT_ ?_
              refine sx 13 (some 67) (tf 14 33) HT_ ?_
              refine sx 14 (some 68) (tf 15 33) HT_ ?_
              refine sx 15 (some 69) (tf 16 33) HT_ ?_
              refine sx 16 (some 70) (tf 17 33) HT_ ?_
              refine sx 17 (some 71) (tf 18 33) HT_ ?_
              refine sx 18 (some 72) (tf 19 33) HT_ ?_
              refine sx 19 (some 73) (tf 20 33) HT_ ?_
              refine sx 20 (some 74) (tf 21 33) HT_ ?_
              refine sx 21 (some 75) (tf 22 33) HT_ ?_
              refine sx 22 (some 76) (tf 23 33) HT_ ?_
              refine sx 23 (some 77) (tf 24 33) HT_ ?_
              refine sx 24 (some 78) (tf 25 33) HT_ ?_
              refine sx 25 (some 79) (tf 26 33) HT_ ?_
              refine sx 26 (some 80) (tf 27 33) HT_ ?_
              refine sx 27 (some 81) (tf 28 33) HT_ ?_
              refine sx 28 (some 82) (tf 29 33) HT_ ?_
              refine sx 29 (some 83) (tf 30 33) HT_ ?_
              refine sx 30 (some 84) (tf 31 33) HT_ ?_
              refine sx 31 (some 85) (tf 32 33) HT_ ?_
              refine px 32 (some 86) (tf 33 33) HT_ ?_
              refine done_ (done_of HT_.out t8_) ?_
              try go_wp2
              go_ret
              exact ⟨by first | rfl | (rw [Int.tdiv_eq_ediv_of_nonneg t12_]; rfl) | (simp [errW_none, errW_some] <;> rfl) | (simp [*, errW_none, errW_some] <;> rfl), by repeat (first | (with_reducible first | exact HB.out | apply below_alloc | apply pw_below_drewN | apply below_drew1) | exact HB.out)⟩
            ·rw [if_neg c13] at H
             exact absurd H t36_
           ·rw [if_neg c12] at H
            have c12b0 : decide (x4_3 < (((rd_T32 l0 0).f1).length : Int)) = false := decide_eq_false c12
            clear c12
            obtain rfl := Option.some.inj H
            have p139 : 0 ≤ (0 : Int) := t12_
            have q139 : 0 < (l0.length : Int) := of_decide_eq_true t3_
            obtain ⟨ad139, A139_0, c139_0, A139_1, c139_1, e139, hx139_0, hx139_1, hl139_0, hi139_0, hl139_1, hi139_1⟩ := at_T32 HR0.out 0 p139 q139
            obtain rfl : ad132 = ad139 := (by injection e139)
            have qi139 : (0 < l0.length) = True := eq_true t12_
            (try rw [show ((0 : Int)).toNat = 0 from rfl] at hx139_0)
            (try rw [show 0 * 2 = 0 from rfl] at hx139_0)
            (try rw [Addr.add_zero'] at hx139_0)
            (try rw [show ((0 : Int)).toNat = 0 from rfl] at hx139_1)
            (try rw [show 0 * 2 = 0 from rfl] at hx139_1)
            (try rw [Addr.add_zero'] at hx139_1)
            replace hx139_0 := (HB.out.cell (World.block_lt_of_cell? w _ hx139_0)).trans hx139_0
            replace hx139_1 := (HB.out.cell (World.block_lt_of_cell? w _ hx139_1)).trans hx139_1
            have HR139_0 := Aside0.mk hi139_0
            have HC139_0 := Aside0.mk hl139_0
            clear hi139_0 hl139_0
            have HR139_1 := Aside0.mk hi139_1
            have HC139_1 := Aside0.mk hl139_1
            clear hi139_1 hl139_1
            replace p139 := eq_true p139
            replace q139 := eq_true q139
            go_wp2
            go_ret
            exact ⟨by first | rfl | (rw [Int.tdiv_eq_ediv_of_nonneg t12_]; rfl) | (simp [errW_none, errW_some] <;> rfl) | (simp [*, errW_none, errW_some] <;> rfl), by repeat (first | (with_reducible first | exact HB.out | apply below_alloc | apply pw_below_drewN | apply below_drew1) | exact HB.out)⟩
          ·rw [if_neg c11] at H
           exact absurd H t36_
   ·rw [if_neg c2] at H
    exact absurd H t36_

end Go.Proofs.Ytjelfhmgbhidnaa.PFnExactValidValves
