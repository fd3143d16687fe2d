-- written by wip/xprint.py, a program of this session, for this claim; not trusted: Lean checks it.
import Derived.Test.YtaomflfofihknaaPFnExactLeastSpeedx0
import Derived.Test.YtaomflfofihknaaPFnExactLeastSpeedx6
import Derived.Test.YtaomflfofihknaaPFnExactLeastSpeedx7
namespace Go.Proofs.Ytaomflfofihknaa.PFnExactLeastSpeed
open Go.RowKit Go.Proofs.YtaomflfofihknaaW.PrintWords Go.Proofs.YtaomflfofihknaaW.PrintLast Go.Proofs.YtaomflfofihknaaW.PrintMore
attribute [local go_sem] max2_int min2_int max_two min_two max_three min_three max_four min_four   -- for this text's walks alone
set_option linter.unusedVariables false
set_option linter.unusedSimpArgs false

/-! ### impl_Pump_head: function 94 -/
def impl_Pump_head.l0 : Nat → Int → Int → ByteArray → List (List Int) → Option (Int)
 | 0, _, _, _, _ => none
 | k + 1, x1, x5, x244000, x244001 => if x5 < (x244001.length : Int) then (if 0 ≤ x5 then (if 0 < ((rd_L1 x244001 x5).length : Int) then (if (rd (rd_L1 x244001 x5) 0) < x1 then (impl_Pump_head.l0 k x1 (wrap64 (x5 + 1)) x244000 x244001) else (if x5 = (x244001.length : Int) then (some 0) else (if 0 ≤ (wrap64 (x5 - 1)) then (if (wrap64 (x5 - 1)) < (x244001.length : Int) then (if 0 < ((rd_L1 x244001 (wrap64 (x5 - 1))).length : Int) then (if 1 < ((rd_L1 x244001 (wrap64 (x5 - 1))).length : Int) then (if 1 < ((rd_L1 x244001 x5).length : Int) then ((impl_blend.f k (rd (rd_L1 x244001 (wrap64 (x5 - 1))) 0) (rd (rd_L1 x244001 (wrap64 (x5 - 1))) 1) (rd (rd_L1 x244001 x5) 0) (rd (rd_L1 x244001 x5) 1) x1).bind fun t252 => (some t252)) else (none)) else (none)) else (none)) else (none)) else (none)))) else (none)) else (none)) else (if x5 = (x244001.length : Int) then (some 0) else (if 0 ≤ (wrap64 (x5 - 1)) then (if (wrap64 (x5 - 1)) < (x244001.length : Int) then (if 0 ≤ x5 then (none) else (none)) else (none)) else (none)))
def impl_Pump_head.f (k : Nat) (a0_0 : ByteArray) (l0_1 : List (List Int)) (a1 : Int) : Option (Int) := impl_Pump_head.l0 k a1 1 a0_0 l0_1
theorem impl_Pump_head.mono_l : ∀ k, (∀ y0 y1 y2 y3, LeO (impl_Pump_head.l0 k y0 y1 y2 y3) (impl_Pump_head.l0 (k + 1) y0 y1 y2 y3))
 | 0 => fun _ _ _ _ r h => by simp [impl_Pump_head.l0] at h
 | k + 1 => by
  have ih0 := impl_Pump_head.mono_l k
  ·intro y0 y1 y2 y3
   unfold impl_Pump_head.l0
   repeat' first
   | (with_reducible exact ih0 _ _ _ _)
   | (with_reducible exact impl_blend.mono _ _ _ _ _ _)
   | (with_reducible exact LeO.refl _)
   | (with_reducible exact LeO.none _)
   | (with_reducible refine LeO.ite ?_ ?_)
   | (with_reducible refine LeO.bind ?_ (fun _ => ?_))
   | exact ih0 _ _ _ _
   | exact impl_blend.mono _ _ _ _ _ _
   | exact LeO.none _
   | refine LeO.ite ?_ ?_
   | refine LeO.bind ?_ (fun _ => ?_)
theorem impl_Pump_head.mono : ∀ a0 a1 a2 k, LeO (impl_Pump_head.f k a0 a1 a2) (impl_Pump_head.f (k + 1) a0 a1 a2) := by
 intro a0 a1 a2 k
 have ih0 := impl_Pump_head.mono_l k
 unfold impl_Pump_head.f
 repeat' first
   | (with_reducible exact ih0 _ _ _ _)
   | (with_reducible exact impl_blend.mono _ _ _ _ _ _)
   | (with_reducible exact LeO.refl _)
   | (with_reducible exact LeO.none _)
   | (with_reducible refine LeO.ite ?_ ?_)
   | (with_reducible refine LeO.bind ?_ (fun _ => ?_))
   | exact ih0 _ _ _ _
   | exact impl_blend.mono _ _ _ _ _ _
   | exact LeO.none _
   | refine LeO.ite ?_ ?_
   | refine LeO.bind ?_ (fun _ => ?_)
def impl_Pump_head.T6 : Bool × List (List Nat × List Nat) := (true, [([], []), ([0], [0]), ([], []), ([2], [2]), ([1, 3], [1, 3]), ([4], [4]), ([], []), ([6], [6]), ([], []), ([7, 8], [7, 8]), ([9], [9]), ([5, 0, 1, 2, 3, 4, 5], [5]), ([10, 11, 0, 1, 2, 3, 4, 5, 6, 7, 8, 9, 10, 11], [10])])
def impl_Pump_head.B6 : List Nat := [0, 1, 0, 4, 15, 31, 0, 64, 0, 448, 960, 63, 4095]
theorem impl_Pump_head.tab6 : rtab .any (opsOf Try.f94 6) = impl_Pump_head.T6 := by kernel_rfl
theorem impl_Pump_head.bits6 : waitsOk impl_Pump_head.T6.2 impl_Pump_head.B6 = true := by kernel_rfl
def impl_Pump_head.T7 : Bool × List (List Nat × List Nat) := (true, [([], []), ([0], [0]), ([1], [1]), ([], []), ([3], [3]), ([4], [4]), ([], []), ([6], [6]), ([7], [7]), ([], []), ([9], [9]), ([10], [10]), ([], []), ([2, 5, 8, 11, 12], [2, 5, 8, 11, 12]), ([13, 13, 0, 1, 2, 3, 4, 5, 6, 7, 8, 9, 10, 11, 12, 13], [13])])
def impl_Pump_head.B7 : List Nat := [0, 1, 3, 0, 8, 24, 0, 64, 192, 0, 512, 1536, 0, 8191, 16383]
theorem impl_Pump_head.tab7 : rtab .any (opsOf Try.f94 7) = impl_Pump_head.T7 := by kernel_rfl
theorem impl_Pump_head.bits7 : waitsOk impl_Pump_head.T7.2 impl_Pump_head.B7 = true := by kernel_rfl
set_option maxHeartbeats 8000000 in
set_option maxRecDepth 100000 in
theorem impl_Pump_head.calls (k : Nat) (a0_0 : ByteArray) (A0_1 : Option Addr) (c0_1 : Nat) (l0_1 : List (List Int)) (a1 : Int) (r : Int) (w : World) (hr0_1 : Kd.C (Kd.slice 2 (Kd.int .i64)) w A0_1 l0_1.length l0_1) (hc0_1 : l0_1.length ≤ c0_1) (h : impl_Pump_head.f k a0_0 l0_1 a1 = some r) :
  Calls Try.prog 94 #[.agg #[.string a0_0, .slice A0_1 l0_1.length c0_1], .int .i64 a1] w fun e w' => e = .returned (.int .i64 r) ∧ Below w.heap.size w w' := by
 have hu54 := Try.underlying54
 have HR0_1 := Aside0.mk hr0_1
 have HC0_1 := Aside0.mk hc0_1
 clear hr0_1 hc0_1
 have HB := Aside0.mk (Below.refl w.heap.size w)
 have H : (impl_Pump_head.l0 k a1 1 a0_0 l0_1) = some r := h
 clear h
 have H' := Aside0.mk H
 clear H
 go_enter Try.func94, Try.ntmps94
 go_wp2_with (first | ((with_reducible refine gate_dst (N := 2) rfl ?_); refine box_event ?hg (N := 2) ?hd (cs := #[.string a0_0, .slice A0_1 l0_1.length c0_1]) (t := 54) ?hr ?_; (case hd => rfl); (case hg => rfl); (case hr => first | (go_simp; done) | (go_simp; rfl)); intro gb243 hg w3 hbox hb; have n0_ := Aside0.mk (below_step (by repeat (first | (with_reducible first | exact HB.out | apply below_alloc | apply pw_below_drewN | apply below_drew1) | exact HB.out)) hb); have n1_ := Aside0.mk (hbox); have n2_ := Aside0.mk ((by rw [hg]; exact (below_size (by repeat (first | (with_reducible first | exact HB.out | apply below_alloc | apply pw_below_drewN | apply below_drew1) | exact HB.out))) : w.heap.size ≤ gb243)); have n3_ := Aside0.mk ((by rw [hg]; exact (below_size (by repeat (first | (with_reducible first | exact HB.out | apply below_alloc | apply pw_below_drewN | apply below_drew1) | exact HB.out))) : w.heap.size ≤ gb243)); clear HB; have HB := n0_; have BK243 := n1_; have GW243 := n2_; have GE243 := n3_; clear n0_ n1_ n2_ n3_; clear hb hbox hg))
 go_loopg [5] k (fun kq v5 w' => ∃ (x5_1 : Int), v5 = .int .i64 x5_1 ∧ Aside0 (impl_Pump_head.l0 kq a1 x5_1 a0_0 l0_1 = some r) ∧ Aside0 (kq ≤ k) ∧ Aside0 (w'.heap[gb243]? = some (.cells #[.string a0_0, (.slice A0_1 l0_1.length c0_1)] 54 (0, 0))) ∧ Aside0 (Below w.heap.size w w'))
 case atStart => exact ⟨(1), (by first | rfl | (simp; done) | (simp [*]; done)), H', ⟨Nat.le_refl _⟩, ⟨by (with_reducible repeat (first | refine blk_drewN ?_ _ | refine blk_drew ?_ | refine blk_alloc ?_ _)); exact BK243.out⟩, ⟨by repeat (first | (with_reducible first | exact HB.out | apply below_alloc | apply pw_below_drewN | apply below_drew1 | refine below_set ?_ GE243.out) | exact HB.out)⟩⟩
 case round =>
  clear H'
  try clear p2
  obtain ⟨x5_1, rfl, HA, HK1, BK243, HB⟩ := hrel
  cases gk with
  | zero => exact absurd HA.out (by simp [impl_Pump_head.l0])
  | succ k1 =>
   have H := HA.out
   clear HA
   simp only [impl_Pump_head.l0] at H
   by_cases c4 : x5_1 < (l0_1.length : Int)
   ·rw [if_pos c4] at H
    have c4b0 : decide (x5_1 < (l0_1.length : Int)) = true := decide_eq_true c4
    clear c4
    by_cases c5 : 0 ≤ x5_1
    ·rw [if_pos c5] at H
     have c5b0 : decide (0 ≤ x5_1) = true := decide_eq_true c5
     clear c5
     by_cases c6 : 0 < ((rd_L1 l0_1 x5_1).length : Int)
     ·rw [if_pos c6] at H
      have c6b0 : decide (0 < ((rd_L1 l0_1 x5_1).length : Int)) = true := decide_eq_true c6
      have c6b1 : decide (0 < (rd_L1 l0_1 x5_1).length) = true := decide_eq_true (by omega)
      clear c6
      by_cases c7 : (rd (rd_L1 l0_1 x5_1) 0) < a1
      ·rw [if_pos c7] at H
       have c7b0 : decide ((rd (rd_L1 l0_1 x5_1) 0) < a1) = true := decide_eq_true c7
       clear c7
       have H' := Aside0.mk H
       clear H
       have hcz8_0 : wr.cell? ⟨gb243, 0, none⟩ = some (.string a0_0) := (blk_cell BK243.out 0).trans rfl
       have hcz8_1 : wr.cell? ⟨gb243, 1, none⟩ = some (.slice A0_1 l0_1.length c0_1) := (blk_cell BK243.out 1).trans rfl
       have hfz8_0 := blk_frozen BK243.out 0
       have hfz8_1 := blk_frozen BK243.out 1
       have p244 : 0 ≤ (x5_1 : Int) := of_decide_eq_true (by first | (with_reducible assumption) | assumption)
       have q244 : x5_1 < (l0_1.length : Int) := of_decide_eq_true (by first | (with_reducible assumption) | assumption)
       obtain ⟨ad244, A244_0, c244_0, e244, hx244_0, hl244_0, hi244_0⟩ := at_L1 HR0_1.out x5_1 p244 q244
       cases e244
       replace hx244_0 := (HB.out.cell (World.block_lt_of_cell? w _ hx244_0)).trans hx244_0
       have HR244_0 := Aside0.mk hi244_0
       have HC244_0 := Aside0.mk hl244_0
       clear hi244_0 hl244_0
       replace p244 := eq_true p244
       replace q244 := eq_true q244
       have p245 : 0 ≤ (0 : Int) := (by omega)
       have q245 : 0 < ((rd_L1 l0_1 x5_1).length : Int) := of_decide_eq_true (by first | (with_reducible assumption) | assumption)
       obtain ⟨ad245, e245, hx245_0⟩ := Kd.at_int HR244_0.out 0 p245 q245
       cases e245
       have qi245 : (0 < (rd_L1 l0_1 x5_1).length) = True := eq_true (by omega)
       (try rw [show ((0 : Int)).toNat = 0 from rfl] at hx245_0)
       (try rw [Addr.add_zero'] at hx245_0)
       replace hx245_0 := (HB.out.cell (World.block_lt_of_cell? w _ hx245_0)).trans hx245_0
       replace p245 := eq_true p245
       replace q245 := eq_true q245
       go_wp2
       go_roundg k1
       case measure => have := HK1.out; omega
       case rel => exact ⟨(wrap64 (x5_1 + 1)), (by first | rfl | (simp; done) | (simp [*]; done)), H', ⟨by have := HK1.out; omega⟩, ⟨by (with_reducible repeat (first | refine blk_drewN ?_ _ | refine blk_drew ?_ | refine blk_alloc ?_ _)); exact BK243.out⟩, ⟨by repeat (first | (with_reducible first | exact HB.out | apply below_alloc | apply pw_below_drewN | apply below_drew1 | refine below_set ?_ GE243.out) | exact HB.out)⟩⟩
      ·rw [if_neg c7] at H
       have c7b0 : decide ((rd (rd_L1 l0_1 x5_1) 0) < a1) = false := decide_eq_false c7
       clear c7
       by_cases c9 : x5_1 = (l0_1.length : Int)
       ·rw [if_pos c9] at H
        have c9b0 : (x5_1 == (l0_1.length : Int)) = true := beq_iff_eq.mpr c9
        have c9b1 : (x5_1 != (l0_1.length : Int)) = false := bne_eq_false_iff_eq.mpr c9
        clear c9
        obtain rfl := Option.some.inj H
        have hcz10_0 : wr.cell? ⟨gb243, 0, none⟩ = some (.string a0_0) := (blk_cell BK243.out 0).trans rfl
        have hcz10_1 : wr.cell? ⟨gb243, 1, none⟩ = some (.slice A0_1 l0_1.length c0_1) := (blk_cell BK243.out 1).trans rfl
        have hfz10_0 := blk_frozen BK243.out 0
        have hfz10_1 := blk_frozen BK243.out 1
        have p244 : 0 ≤ (x5_1 : Int) := of_decide_eq_true (by first | (with_reducible assumption) | assumption)
        have q244 : x5_1 < (l0_1.length : Int) := of_decide_eq_true (by first | (with_reducible assumption) | assumption)
        obtain ⟨ad244, A244_0, c244_0, e244, hx244_0, hl244_0, hi244_0⟩ := at_L1 HR0_1.out x5_1 p244 q244
        cases e244
        replace hx244_0 := (HB.out.cell (World.block_lt_of_cell? w _ hx244_0)).trans hx244_0
        have HR244_0 := Aside0.mk hi244_0
        have HC244_0 := Aside0.mk hl244_0
        clear hi244_0 hl244_0
        replace p244 := eq_true p244
        replace q244 := eq_true q244
        have p245 : 0 ≤ (0 : Int) := (by omega)
        have q245 : 0 < ((rd_L1 l0_1 x5_1).length : Int) := of_decide_eq_true (by first | (with_reducible assumption) | assumption)
        obtain ⟨ad245, e245, hx245_0⟩ := Kd.at_int HR244_0.out 0 p245 q245
        cases e245
        have qi245 : (0 < (rd_L1 l0_1 x5_1).length) = True := eq_true (by omega)
        (try rw [show ((0 : Int)).toNat = 0 from rfl] at hx245_0)
        (try rw [Addr.add_zero'] at hx245_0)
        replace hx245_0 := (HB.out.cell (World.block_lt_of_cell? w _ hx245_0)).trans hx245_0
        replace p245 := eq_true p245
        replace q245 := eq_true q245
        go_wp2
        go_ret
        exact ⟨by first | rfl | (rw [Int.tdiv_eq_ediv_of_nonneg (by omega)]; rfl) | (simp [errW_none, errW_some] <;> rfl) | (simp [*, errW_none, errW_some] <;> rfl), by repeat (first | (with_reducible first | exact HB.out | apply below_alloc | apply pw_below_drewN | apply below_drew1 | refine below_set ?_ GE243.out) | exact HB.out)⟩
       ·rw [if_neg c9] at H
        have c9b0 : (x5_1 == (l0_1.length : Int)) = false := beq_eq_false_iff_ne.mpr c9
        have c9b1 : (x5_1 != (l0_1.length : Int)) = true := bne_iff_ne.mpr c9
        obtain ⟨ji11, hji11⟩ : ∃ j_ : Int, (wrap64 (x5_1 - 1)) = j_ := ⟨_, rfl⟩
        replace H : (if 0 ≤ (ji11) then (if (ji11) < (l0_1.length : Int) then (if 0 < ((rd_L1 l0_1 (ji11)).length : Int) then (if 1 < ((rd_L1 l0_1 (ji11)).length : Int) then (if 1 < ((rd_L1 l0_1 x5_1).length : Int) then ((impl_blend.f k1 (rd (rd_L1 l0_1 (ji11)) 0) (rd (rd_L1 l0_1 (ji11)) 1) (rd (rd_L1 l0_1 x5_1) 0) (rd (rd_L1 l0_1 x5_1) 1) a1).bind fun t252 => (some t252)) else (none)) else (none)) else (none)) else (none)) else (none)) = some r := by first | (rw [hji11] at H; exact H) | (simp only [hji11] at H ⊢; exact H)
        have hji11w : (IntKind.i64.wrap (x5_1 - 1)) = ji11 := (i64_w _).trans hji11
        by_cases c12 : 0 ≤ (ji11)
        ·rw [if_pos c12] at H
         have c12b0 : decide (0 ≤ (ji11)) = true := decide_eq_true c12
         clear c12
         by_cases c13 : (ji11) < (l0_1.length : Int)
         ·rw [if_pos c13] at H
          have c13b0 : decide ((ji11) < (l0_1.length : Int)) = true := decide_eq_true c13
          clear c13
          by_cases c14 : 0 < ((rd_L1 l0_1 (ji11)).length : Int)
          ·rw [if_pos c14] at H
           have c14b0 : decide (0 < ((rd_L1 l0_1 (ji11)).length : Int)) = true := decide_eq_true c14
           have c14b1 : decide (0 < (rd_L1 l0_1 (ji11)).length) = true := decide_eq_true (by omega)
           clear c14
           by_cases c15 : 1 < ((rd_L1 l0_1 (ji11)).length : Int)
           ·rw [if_pos c15] at H
            have c15b0 : decide (1 < ((rd_L1 l0_1 (ji11)).length : Int)) = true := decide_eq_true c15
            have c15b1 : decide (1 < (rd_L1 l0_1 (ji11)).length) = true := decide_eq_true (by omega)
            clear c15
            by_cases c16 : 1 < ((rd_L1 l0_1 x5_1).length : Int)
            ·rw [if_pos c16] at H
             have c16b0 : decide (1 < ((rd_L1 l0_1 x5_1).length : Int)) = true := decide_eq_true c16
             have c16b1 : decide (1 < (rd_L1 l0_1 x5_1).length) = true := decide_eq_true (by omega)
             clear c16
             replace H := Option.bind_eq_some_iff.mp H
             obtain ⟨t252, A170, H⟩ := H
             replace H : (some t252) = some r := H
             have A17 := Aside0.mk A170
             clear A170
             obtain rfl := Option.some.inj H
             have hcz18_0 : wr.cell? ⟨gb243, 0, none⟩ = some (.string a0_0) := (blk_cell BK243.out 0).trans rfl
             have hcz18_1 : wr.cell? ⟨gb243, 1, none⟩ = some (.slice A0_1 l0_1.length c0_1) := (blk_cell BK243.out 1).trans rfl
             have hfz18_0 := blk_frozen BK243.out 0
             have hfz18_1 := blk_frozen BK243.out 1
             have p244 : 0 ≤ (x5_1 : Int) := of_decide_eq_true (by first | (with_reducible assumption) | assumption)
             have q244 : x5_1 < (l0_1.length : Int) := of_decide_eq_true (by first | (with_reducible assumption) | assumption)
             obtain ⟨ad244, A244_0, c244_0, e244, hx244_0, hl244_0, hi244_0⟩ := at_L1 HR0_1.out x5_1 p244 q244
             cases e244
             replace hx244_0 := (HB.out.cell (World.block_lt_of_cell? w _ hx244_0)).trans hx244_0
             have HR244_0 := Aside0.mk hi244_0
             have HC244_0 := Aside0.mk hl244_0
             clear hi244_0 hl244_0
             replace p244 := eq_true p244
             replace q244 := eq_true q244
             have p245 : 0 ≤ (0 : Int) := (by omega)
             have q245 : 0 < ((rd_L1 l0_1 x5_1).length : Int) := of_decide_eq_true (by first | (with_reducible assumption) | assumption)
             obtain ⟨ad245, e245, hx245_0⟩ := Kd.at_int HR244_0.out 0 p245 q245
             cases e245
             have qi245 : (0 < (rd_L1 l0_1 x5_1).length) = True := eq_true (by omega)
             (try rw [show ((0 : Int)).toNat = 0 from rfl] at hx245_0)
             (try rw [Addr.add_zero'] at hx245_0)
             replace hx245_0 := (HB.out.cell (World.block_lt_of_cell? w _ hx245_0)).trans hx245_0
             replace p245 := eq_true p245
             replace q245 := eq_true q245
             try go_wp2
             have n0_ := Aside0.mk (blk_drew BK243.out)
             have n1_ := Aside0.mk (below_drew1 HB.out)
             clear BK243
             clear HB
             have BK243 := n0_
             have HB := n1_
             clear n0_ n1_
             have p246 : 0 ≤ ((ji11) : Int) := of_decide_eq_true (by first | (with_reducible assumption) | assumption)
             have q246 : (ji11) < (l0_1.length : Int) := of_decide_eq_true (by first | (with_reducible assumption) | assumption)
             obtain ⟨ad246, A246_0, c246_0, e246, hx246_0, hl246_0, hi246_0⟩ := at_L1 HR0_1.out (ji11) p246 q246
             have hw246_0 := hx246_0
             obtain rfl : ad244 = ad246 := (by injection e246)
             replace hx246_0 := (HB.out.cell (World.block_lt_of_cell? w _ hx246_0)).trans hx246_0
             have HR246_0 := Aside0.mk hi246_0
             have HC246_0 := Aside0.mk hl246_0
             clear hi246_0 hl246_0
             replace p246 := eq_true p246
             replace q246 := eq_true q246
             have p247 : 0 ≤ (x5_1 : Int) := of_decide_eq_true (by first | (with_reducible assumption) | assumption)
             have q247 : x5_1 < (l0_1.length : Int) := of_decide_eq_true (by first | (with_reducible assumption) | assumption)
             obtain ⟨ad247, A247_0, c247_0, e247, hx247_0, hl247_0, hi247_0⟩ := at_L1 HR0_1.out x5_1 p247 q247
             have hw247_0 := hx247_0
             obtain rfl : ad244 = ad247 := (by injection e247)
             replace hx247_0 := (HB.out.cell (World.block_lt_of_cell? w _ hx247_0)).trans hx247_0
             have HR247_0 := Aside0.mk hi247_0
             have HC247_0 := Aside0.mk hl247_0
             clear hi247_0 hl247_0
             replace p247 := eq_true p247
             replace q247 := eq_true q247
             refine start_ (n := 13) (S := fun w' => w'.cell? ⟨gb243, 0, none⟩ = some (.string a0_0) ∧ w'.cell? ⟨gb243, 1, none⟩ = some (.slice (some ad244) l0_1.length c0_1) ∧ w'.cell? (ad244.add ((ji11)).toNat) = some (.slice A246_0 (rd_L1 l0_1 (ji11)).length c246_0) ∧ w'.cell? (ad244.add (x5_1).toNat) = some (.slice A247_0 (rd_L1 l0_1 x5_1).length c247_0)) (ds := []) (tf 0 13) (by kernel_rfl) rfl rfl ⟨(blk_cell BK243.out 0).trans rfl, (blk_cell BK243.out 1).trans rfl, ((HB.out.cell (World.block_lt_of_cell? w _ hw246_0)).trans hw246_0), ((HB.out.cell (World.block_lt_of_cell? w _ hw247_0)).trans hw247_0)⟩ (fun hHeld => ?_); refine with_tabW impl_Pump_head.tab6 impl_Pump_head.bits6 (fun HT_ HW_ => ?_)
             generalize wr.drew = w19 at BK243 HB HR246_0 HR247_0 hx246_0 hx247_0 hHeld ⊢
             refine px 0 (some 31) (tf 1 13) HT_ ?_
             refine px 2 (some 33) (tb 13 5) HT_ ?_
             refine px 3 (some 34) (tb 13 13) HT_ ?_
             refine px 6 (some 37) (tb 13 77) HT_ ?_
             refine px 8 (some 39) (tb 13 333) HT_ ?_
             refine tx (v := ?_) 1 (some 32) (tb 13 335) HT_ HW_ hHeld ?_ ?_
             rotate_left; (· rintro w' ⟨s0, s1, s2, s3⟩; go_simp; with_reducible rfl)
             refine px 4 (some 35) (tb 13 351) HT_ ?_
             refine tx (v := ?_) 5 (some 36) (tb 13 383) HT_ HW_ hHeld ?_ ?_
             rotate_left; (· rintro w' ⟨s0, s1, s2, s3⟩; go_simp; with_reducible rfl)
             refine px 11 (some 6) (tb 13 2431) HT_ ?_
             refine tx (v := ?_) 7 (some 38) (tb 13 2559) HT_ HW_ hHeld ?_ ?_
             rotate_left; (· rintro w' ⟨s0, s1, s2, s3⟩; go_simp; with_reducible rfl)
             refine px 9 (some 40) (tb 13 3071) HT_ ?_
             refine tx (v := ?_) 10 (some 41) (tf 12 13) HT_ HW_ hHeld ?_ ?_
             rotate_left; (· rintro w' ⟨s0, s1, s2, s3⟩; go_simp; with_reducible rfl)
             refine px 12 (some 7) (tf 13 13) HT_ ?_
             refine done_ (done_of HT_.out (by kernel_rfl)) ?_
             try go_wp2
             have n0_ := Aside0.mk (blk_drew BK243.out)
             have n1_ := Aside0.mk (below_drew1 HB.out)
             clear BK243
             clear HB
             have BK243 := n0_
             have HB := n1_
             clear n0_ n1_
             have p248 : 0 ≤ (0 : Int) := (by omega)
             have q248 : 0 < ((rd_L1 l0_1 (ji11)).length : Int) := of_decide_eq_true (by first | (with_reducible assumption) | assumption)
             obtain ⟨ad248, e248, hx248_0⟩ := Kd.at_int HR246_0.out 0 p248 q248
             have hw248_0 := hx248_0
             (try rw [show ((0 : Int)).toNat = 0 from rfl] at hw248_0)
             (try rw [show 0 * 1 = 0 from rfl] at hw248_0)
             (try rw [Addr.add_zero'] at hw248_0)
             cases e248
             have qi248 : (0 < (rd_L1 l0_1 (ji11)).length) = True := eq_true (by omega)
             (try rw [show ((0 : Int)).toNat = 0 from rfl] at hx248_0)
             (try rw [Addr.add_zero'] at hx248_0)
             replace hx248_0 := (HB.out.cell (World.block_lt_of_cell? w _ hx248_0)).trans hx248_0
             replace p248 := eq_true p248
             replace q248 := eq_true q248
             have p249 : 0 ≤ (1 : Int) := (by omega)
             have q249 : 1 < ((rd_L1 l0_1 (ji11)).length : Int) := of_decide_eq_true (by first | (with_reducible assumption) | assumption)
             obtain ⟨ad249, e249, hx249_0⟩ := Kd.at_int HR246_0.out 1 p249 q249
             have hw249_0 := hx249_0
             (try rw [show ((1 : Int)).toNat = 1 from rfl] at hw249_0)
             (try rw [show 1 * 1 = 1 from rfl] at hw249_0)
             (try simp only [Nat.reduceMul, Nat.reduceEqDiff, Go.Addr.add, ↓reduceIte] at hw249_0)
             obtain rfl : ad248 = ad249 := (by injection e249)
             (try simp only [show (1 : Int).toNat = 1 from rfl, Nat.reduceMul, Nat.reduceEqDiff, Go.Addr.add, ↓reduceIte] at hx249_0)
             have qi249 : (1 < (rd_L1 l0_1 (ji11)).length) = True := eq_true (by omega)
             (try rw [show ((1 : Int)).toNat = 1 from rfl] at hx249_0)
             replace hx249_0 := (HB.out.cell (World.block_lt_of_cell? w _ hx249_0)).trans hx249_0
             replace p249 := eq_true p249
             replace q249 := eq_true q249
             have p250 : 0 ≤ (0 : Int) := (by omega)
             have q250 : 0 < ((rd_L1 l0_1 x5_1).length : Int) := of_decide_eq_true (by first | (with_reducible assumption) | assumption)
             obtain ⟨ad250, e250, hx250_0⟩ := Kd.at_int HR247_0.out 0 p250 q250
             have hw250_0 := hx250_0
             (try rw [show ((0 : Int)).toNat = 0 from rfl] at hw250_0)
             (try rw [show 0 * 1 = 0 from rfl] at hw250_0)
             (try rw [Addr.add_zero'] at hw250_0)
             cases e250
             have qi250 : (0 < (rd_L1 l0_1 x5_1).length) = True := eq_true (by omega)
             (try rw [show ((0 : Int)).toNat = 0 from rfl] at hx250_0)
             (try rw [Addr.add_zero'] at hx250_0)
             replace hx250_0 := (HB.out.cell (World.block_lt_of_cell? w _ hx250_0)).trans hx250_0
             replace p250 := eq_true p250
             replace q250 := eq_true q250
             have p251 : 0 ≤ (1 : Int) := (by omega)
             have q251 : 1 < ((rd_L1 l0_1 x5_1).length : Int) := of_decide_eq_true (by first | (with_reducible assumption) | assumption)
             obtain ⟨ad251, e251, hx251_0⟩ := Kd.at_int HR247_0.out 1 p251 q251
             have hw251_0 := hx251_0
             (try rw [show ((1 : Int)).toNat = 1 from rfl] at hw251_0)
             (try rw [show 1 * 1 = 1 from rfl] at hw251_0)
             (try simp only [Nat.reduceMul, Nat.reduceEqDiff, Go.Addr.add, ↓reduceIte] at hw251_0)
             obtain rfl : ad250 = ad251 := (by injection e251)
             (try simp only [show (1 : Int).toNat = 1 from rfl, Nat.reduceMul, Nat.reduceEqDiff, Go.Addr.add, ↓reduceIte] at hx251_0)
             have qi251 : (1 < (rd_L1 l0_1 x5_1).length) = True := eq_true (by omega)
             (try rw [show ((1 : Int)).toNat = 1 from rfl] at hx251_0)
             replace hx251_0 := (HB.out.cell (World.block_lt_of_cell? w _ hx251_0)).trans hx251_0
             replace p251 := eq_true p251
             replace q251 := eq_true q251
             refine start_ (n := 15) (S := fun w' => w'.cell? ad248 = some (.int .i64 (rd (rd_L1 l0_1 (ji11)) 0)) ∧ w'.cell? ⟨ad248.block, ad248.off + 1, none⟩ = some (.int .i64 (rd (rd_L1 l0_1 (ji11)) 1)) ∧ w'.cell? ad250 = some (.int .i64 (rd (rd_L1 l0_1 x5_1) 0)) ∧ w'.cell? ⟨ad250.block, ad250.off + 1, none⟩ = some (.int .i64 (rd (rd_L1 l0_1 x5_1) 1))) (ds := []) (tf 0 15) (by kernel_rfl) rfl rfl ⟨((HB.out.cell (World.block_lt_of_cell? w _ hw248_0)).trans hw248_0), ((HB.out.cell (World.block_lt_of_cell? w _ hw249_0)).trans hw249_0), ((HB.out.cell (World.block_lt_of_cell? w _ hw250_0)).trans hw250_0), ((HB.out.cell (World.block_lt_of_cell? w _ hw251_0)).trans hw251_0)⟩ (fun hHeld => ?_); refine with_tabW impl_Pump_head.tab7 impl_Pump_head.bits7 (fun HT_ HW_ => ?_)
             generalize w19.drew = w20 at BK243 HB hx248_0 hx249_0 hx250_0 hx251_0 hHeld ⊢
             refine px 0 (some 42) (tf 1 15) HT_ ?_
             refine px 1 (some 43) (tf 2 15) HT_ ?_
             refine px 3 (some 45) (tb 15 11) HT_ ?_
             refine px 4 (some 46) (tb 15 27) HT_ ?_
             refine px 6 (some 48) (tb 15 91) HT_ ?_
             refine px 7 (some 49) (tb 15 219) HT_ ?_
             refine px 9 (some 51) (tb 15 731) HT_ ?_
             refine px 10 (some 52) (tb 15 1755) HT_ ?_
             refine px 12 (some 54) (tb 15 5851) HT_ ?_
             refine tx (v := ?_) 2 (some 44) (tb 15 5855) HT_ HW_ hHeld ?_ ?_
             rotate_left; (· rintro w' ⟨s0, s1, s2, s3⟩; go_simp; with_reducible rfl)
             refine tx (v := ?_) 5 (some 47) (tb 15 5887) HT_ HW_ hHeld ?_ ?_
             rotate_left; (· rintro w' ⟨s0, s1, s2, s3⟩; go_simp; with_reducible rfl)
             refine tx (v := ?_) 8 (some 50) (tb 15 6143) HT_ HW_ hHeld ?_ ?_
             rotate_left; (· rintro w' ⟨s0, s1, s2, s3⟩; go_simp; with_reducible rfl)
             refine tx (v := ?_) 11 (some 53) (tf 13 15) HT_ HW_ hHeld ?_ ?_
             rotate_left; (· rintro w' ⟨s0, s1, s2, s3⟩; go_simp; with_reducible rfl)
             refine one_ (i := 13) (N := some 55) (tf 14 15) rfl rfl (one_of HT_.out (by kernel_rfl)) (by decide) (fun K hK => ?_)
             refine goes_ Try.func147 (by kernel_rfl) rfl #[.int .i64 (rd (rd_L1 l0_1 (ji11)) 0), .int .i64 (rd (rd_L1 l0_1 (ji11)) 1), .int .i64 (rd (rd_L1 l0_1 x5_1) 0), .int .i64 (rd (rd_L1 l0_1 x5_1) 1), .int .i64 a1] (by rfl) rfl rfl (by (try simp only [List.map_toArray, List.map_cons, List.map_nil]); first | done | (simp only [hji11]; rfl) | rfl | (simp only [List.length_drop, List.length_take]; rfl)) ?_
             with_reducible refine (impl_blend.calls k1 (rd (rd_L1 l0_1 (ji11)) 0) (rd (rd_L1 l0_1 (ji11)) 1) (rd (rd_L1 l0_1 x5_1) 0) (rd (rd_L1 l0_1 x5_1) 1) a1 t252 _ A17.out).mono ?_
             rintro e w21 ⟨rfl, hb⟩
             refine ⟨_, rfl, ?_⟩
             have n0_ := Aside0.mk (blk_below (g := gb243) (o := .cells #[.string a0_0, .slice (some ad244) l0_1.length c0_1] 54 (0, 0)) (by (with_reducible repeat (first | refine blk_drewN ?_ _ | refine blk_drew ?_ | refine blk_alloc ?_ _)); exact BK243.out) hb)
             have n1_ := Aside0.mk (below_step (by repeat (first | (with_reducible first | exact HB.out | apply below_alloc | apply pw_below_drewN | apply below_drew1 | refine below_set ?_ GE243.out) | exact HB.out)) hb)
             clear BK243
             clear HB
             have BK243 := n0_
             have HB := n1_
             clear n0_ n1_
             (try clear hb)
             (try clear hb2)
             (try clear hk)
             (try clear hi)
             refine hK.out _ _ ⟨((HB.out.cell (World.block_lt_of_cell? w _ hw248_0)).trans hw248_0), ((HB.out.cell (World.block_lt_of_cell? w _ hw249_0)).trans hw249_0), ((HB.out.cell (World.block_lt_of_cell? w _ hw250_0)).trans hw250_0), ((HB.out.cell (World.block_lt_of_cell? w _ hw251_0)).trans hw251_0)⟩ (fun hHeld => ?_)
             clear hK K
             refine norm_ (a' := ?_) ?_ ?_
             rotate_left
             ·show Act.put _ (some 55) _ = _
              simp only [Act.put, List.setIfInBounds_toArray, List.set_cons_zero, List.set_cons_succ, i64_w, i32_w]
              rfl
             refine px 14 (some 4) (tf 15 15) HT_ ?_
             refine done_ (done_of HT_.out (by kernel_rfl)) ?_
             try go_wp2
             go_ret
             exact ⟨by first | rfl | (rw [Int.tdiv_eq_ediv_of_nonneg (by omega)]; rfl) | (simp [errW_none, errW_some] <;> rfl) | (simp only [← hji11]; first | rfl | (simp [errW_none, errW_some] <;> rfl)) | (simp [*, errW_none, errW_some] <;> rfl), by repeat (first | (with_reducible first | exact HB.out | apply below_alloc | apply pw_below_drewN | apply below_drew1 | refine below_set ?_ GE243.out) | exact HB.out)⟩
            ·rw [if_neg c16] at H
             exact absurd H (by simp)
           ·rw [if_neg c15] at H
            exact absurd H (by simp)
          ·rw [if_neg c14] at H
           exact absurd H (by simp)
         ·rw [if_neg c13] at H
          exact absurd H (by simp)
        ·rw [if_neg c12] at H
         exact absurd H (by simp)
     ·rw [if_neg c6] at H
      exact absurd H (by simp)
    ·rw [if_neg c5] at H
     exact absurd H (by simp)
   ·rw [if_neg c4] at H
    have c4b0 : decide (x5_1 < (l0_1.length : Int)) = false := decide_eq_false c4
    clear c4
    by_cases c22 : x5_1 = (l0_1.length : Int)
    ·rw [if_pos c22] at H
     have c22b0 : (x5_1 == (l0_1.length : Int)) = true := beq_iff_eq.mpr c22
     have c22b1 : (x5_1 != (l0_1.length : Int)) = false := bne_eq_false_iff_eq.mpr c22
     clear c22
     obtain rfl := Option.some.inj H
     have hcz23_0 : wr.cell? ⟨gb243, 0, none⟩ = some (.string a0_0) := (blk_cell BK243.out 0).trans rfl
     have hcz23_1 : wr.cell? ⟨gb243, 1, none⟩ = some (.slice A0_1 l0_1.length c0_1) := (blk_cell BK243.out 1).trans rfl
     have hfz23_0 := blk_frozen BK243.out 0
     have hfz23_1 := blk_frozen BK243.out 1
     go_wp2
     go_ret
     exact ⟨by first | rfl | (rw [Int.tdiv_eq_ediv_of_nonneg (by omega)]; rfl) | (simp [errW_none, errW_some] <;> rfl) | (simp [*, errW_none, errW_some] <;> rfl), by repeat (first | (with_reducible first | exact HB.out | apply below_alloc | apply pw_below_drewN | apply below_drew1 | refine below_set ?_ GE243.out) | exact HB.out)⟩
    ·rw [if_neg c22] at H
     have c22b0 : (x5_1 == (l0_1.length : Int)) = false := beq_eq_false_iff_ne.mpr c22
     have c22b1 : (x5_1 != (l0_1.length : Int)) = true := bne_iff_ne.mpr c22
     obtain ⟨ji24, hji24⟩ : ∃ j_ : Int, (wrap64 (x5_1 - 1)) = j_ := ⟨_, rfl⟩
     replace H : (if 0 ≤ (ji24) then (if (ji24) < (l0_1.length : Int) then (if 0 ≤ x5_1 then (none) else (none)) else (none)) else (none)) = some r := by first | (rw [hji24] at H; exact H) | (simp only [hji24] at H ⊢; exact H)
     have hji24w : (IntKind.i64.wrap (x5_1 - 1)) = ji24 := (i64_w _).trans hji24
     (try clear hji11w)
     by_cases c25 : 0 ≤ (ji24)
     ·rw [if_pos c25] at H
      have c25b0 : decide (0 ≤ (ji24)) = true := decide_eq_true c25
      clear c25
      by_cases c26 : (ji24) < (l0_1.length : Int)
      ·rw [if_pos c26] at H
       have c26b0 : decide ((ji24) < (l0_1.length : Int)) = true := decide_eq_true c26
       clear c26
       by_cases c27 : 0 ≤ x5_1
       ·rw [if_pos c27] at H
        exact absurd H (by simp)
       ·rw [if_neg c27] at H
        exact absurd H (by simp)
      ·rw [if_neg c26] at H
       exact absurd H (by simp)
     ·rw [if_neg c25] at H
      exact absurd H (by simp)

/-! ### impl_systemHead: function 95 -/
def impl_systemHead.f (a0 : Int) (a1 : Int) (a2 : Int) : Option (Int) := (impl_divRound.f (wrap64 ((wrap64 (a1 * a2)) * a2)) 10000000000).bind fun t254 => (some (wrap64 (a0 + t254)))
set_option maxHeartbeats 8000000 in
set_option maxRecDepth 100000 in
theorem impl_systemHead.calls (a0 : Int) (a1 : Int) (a2 : Int) (r : Int) (w : World) (h : impl_systemHead.f a0 a1 a2 = some r) :
  Calls Try.prog 95 #[.int .i64 a0, .int .i64 a1, .int .i64 a2] w fun e w' => e = .returned (.int .i64 r) ∧ Below w.heap.size w w' := by
 have HB := Aside0.mk (Below.refl w.heap.size w)
 have H : ((impl_divRound.f (wrap64 ((wrap64 (a1 * a2)) * a2)) 10000000000).bind fun t254 => (some (wrap64 (a0 + t254)))) = some r := h
 clear h
 replace H := Option.bind_eq_some_iff.mp H
 obtain ⟨t254, A40, H⟩ := H
 replace H : (some (wrap64 (a0 + t254))) = some r := H
 have A4 := Aside0.mk A40
 clear A40
 obtain rfl := Option.some.inj H
 go_enter Try.func95, Try.ntmps95
 go_wp2_with (first | ((with_reducible refine gate_callee (f := 107) rfl ?_); refine goesL_ (some 13) rfl rfl Try.func107 (by kernel_rfl) rfl #[.int .i64 (wrap64 ((wrap64 (a1 * a2)) * a2)), .int .i64 10000000000] rfl (by (try simp only [List.map_toArray, List.map_cons, List.map_nil]); first | done | rfl | (simp only [List.length_drop, List.length_take]; rfl)) ?_; (with_reducible refine (impl_divRound.calls (wrap64 ((wrap64 (a1 * a2)) * a2)) 10000000000 t254 _ A4.out).mono ?_); rintro e w5 ⟨rfl, hb⟩; refine ⟨_, rfl, ?_⟩; have n0_ := Aside0.mk (below_step (by repeat (first | (with_reducible first | exact HB.out | apply below_alloc | apply pw_below_drewN | apply below_drew1) | exact HB.out)) hb); clear HB; have HB := n0_; clear n0_; (try clear hb); (try clear hb2); (try clear hk); (try clear hi)))
 go_ret
 exact ⟨by first | rfl | (rw [Int.tdiv_eq_ediv_of_nonneg (by omega)]; rfl) | (simp [errW_none, errW_some] <;> rfl) | (simp [*, errW_none, errW_some] <;> rfl), by repeat (first | (with_reducible first | exact HB.out | apply below_alloc | apply pw_below_drewN | apply below_drew1) | exact HB.out)⟩

/-! ### impl_LeastSpeed_1: function 92 -/
def impl_LeastSpeed_1.f (k : Nat) (a0 : Int) (l1 : List (S54)) (l2 : List Int) (l3 : List Int) (l4 : List Int) : Option (Bool) := if 0 < (l1.length : Int) then ((impl_Pump_atSpeed.f k ((rd_T54 l1 0).f0) ((rd_T54 l1 0).f1) a0).bind fun bt256 => ((impl_ValidPump.f k bt256.1 bt256.2).bind fun t261 => (if t261 = true then (if 0 < (l2.length : Int) then ((impl_Pump_head.f k bt256.1 bt256.2 (rd l2 0)).bind fun t263 => (if 0 < (l3.length : Int) then (if 0 < (l4.length : Int) then ((impl_systemHead.f (rd l3 0) (rd l4 0) (rd l2 0)).bind fun t267 => (some (decide (t263 ≥ t267)))) else (none)) else (none))) else (none)) else (some false)))) else (none)
theorem impl_LeastSpeed_1.mono : ∀ a0 a1 a2 a3 a4 k, LeO (impl_LeastSpeed_1.f k a0 a1 a2 a3 a4) (impl_LeastSpeed_1.f (k + 1) a0 a1 a2 a3 a4) := by
 intro a0 a1 a2 a3 a4 k
 unfold impl_LeastSpeed_1.f
 repeat' first
   | (with_reducible exact impl_Pump_atSpeed.mono _ _ _ _)
   | (with_reducible exact impl_Pump_head.mono _ _ _ _)
   | (with_reducible exact impl_ValidPump.mono _ _ _)
   | (with_reducible exact LeO.refl _)
   | (with_reducible exact LeO.none _)
   | (with_reducible refine LeO.ite ?_ ?_)
   | (with_reducible refine LeO.bind ?_ (fun _ => ?_))
   | exact impl_Pump_atSpeed.mono _ _ _ _
   | exact impl_Pump_head.mono _ _ _ _
   | exact impl_ValidPump.mono _ _ _
   | exact LeO.none _
   | refine LeO.ite ?_ ?_
   | refine LeO.bind ?_ (fun _ => ?_)
def impl_LeastSpeed_1.T2 : Bool × List (List Nat × List Nat) := (true, [([], []), ([0], [0]), ([1, 1], [1]), ([2], [2]), ([2], [2]), ([3, 4, 2, 2], [2, 3, 4]), ([2], [2]), ([2], [2]), ([2], [2]), ([6, 7, 8, 5, 2], [2, 6, 7, 8]), ([5, 9, 2], [2, 5, 9]), ([2, 10], [2, 10]), ([11, 9, 0, 1, 2, 3, 4, 5, 6, 7, 8, 9, 10, 11], [11])])
def impl_LeastSpeed_1.B2 : List Nat := [0, 1, 3, 7, 7, 31, 7, 7, 7, 511, 1023, 2047, 4095]
theorem impl_LeastSpeed_1.tab2 : rtab .any (opsOf Try.f92 2) = impl_LeastSpeed_1.T2 := by kernel_rfl
theorem impl_LeastSpeed_1.bits2 : waitsOk impl_LeastSpeed_1.T2.2 impl_LeastSpeed_1.B2 = true := by kernel_rfl
set_option maxHeartbeats 8000000 in
set_option maxRecDepth 100000 in
theorem impl_LeastSpeed_1.calls (k : Nat) (a0 : Int) (A1 : Option Addr) (c1 : Nat) (l1 : List (S54)) (A2 : Option Addr) (c2 : Nat) (l2 : List Int) (A3 : Option Addr) (c3 : Nat) (l3 : List Int) (A4 : Option Addr) (c4 : Nat) (l4 : List Int) (r : Bool) (w : World) (hr1 : Kd.C k54 w A1 l1.length l1) (hc1 : l1.length ≤ c1) (hr2 : Kd.C (Kd.int .i64) w A2 l2.length l2) (hc2 : l2.length ≤ c2) (hr3 : Kd.C (Kd.int .i64) w A3 l3.length l3) (hc3 : l3.length ≤ c3) (hr4 : Kd.C (Kd.int .i64) w A4 l4.length l4) (hc4 : l4.length ≤ c4) (h : impl_LeastSpeed_1.f k a0 l1 l2 l3 l4 = some r) :
  Calls Try.prog 92 #[.int .i64 a0, .pointer A1, .pointer A2, .pointer A3, .pointer A4] w fun e w' => e = .returned (.bool r) ∧ Below w.heap.size w w' := by
 have hu54 := Try.underlying54
 have HR1 := Aside0.mk hr1
 have HC1 := Aside0.mk hc1
 clear hr1 hc1
 have HR2 := Aside0.mk hr2
 have HC2 := Aside0.mk hc2
 clear hr2 hc2
 have HR3 := Aside0.mk hr3
 have HC3 := Aside0.mk hc3
 clear hr3 hc3
 have HR4 := Aside0.mk hr4
 have HC4 := Aside0.mk hc4
 clear hr4 hc4
 have HB := Aside0.mk (Below.refl w.heap.size w)
 have H : (if 0 < (l1.length : Int) then ((impl_Pump_atSpeed.f k ((rd_T54 l1 0).f0) ((rd_T54 l1 0).f1) a0).bind fun bt256 => ((impl_ValidPump.f k bt256.1 bt256.2).bind fun t261 => (if t261 = true then (if 0 < (l2.length : Int) then ((impl_Pump_head.f k bt256.1 bt256.2 (rd l2 0)).bind fun t263 => (if 0 < (l3.length : Int) then (if 0 < (l4.length : Int) then ((impl_systemHead.f (rd l3 0) (rd l4 0) (rd l2 0)).bind fun t267 => (some (decide (t263 ≥ t267)))) else (none)) else (none))) else (none)) else (some false)))) else (none)) = some r := h
 clear h
 by_cases c6 : 0 < (l1.length : Int)
 ·rw [if_pos c6] at H
  have c6b0 : decide (0 < (l1.length : Int)) = true := decide_eq_true c6
  have c6b1 : decide (0 < l1.length) = true := decide_eq_true (by omega)
  clear c6
  replace H := Option.bind_eq_some_iff.mp H
  obtain ⟨⟨t256, t257⟩, A70, H⟩ := H
  replace H : ((impl_ValidPump.f k t256 t257).bind fun t261 => (if t261 = true then (if 0 < (l2.length : Int) then ((impl_Pump_head.f k t256 t257 (rd l2 0)).bind fun t263 => (if 0 < (l3.length : Int) then (if 0 < (l4.length : Int) then ((impl_systemHead.f (rd l3 0) (rd l4 0) (rd l2 0)).bind fun t267 => (some (decide (t263 ≥ t267)))) else (none)) else (none))) else (none)) else (some false))) = some r := H
  have A7 := Aside0.mk A70
  clear A70
  replace H := Option.bind_eq_some_iff.mp H
  obtain ⟨t261, A80, H⟩ := H
  replace H : (if t261 = true then (if 0 < (l2.length : Int) then ((impl_Pump_head.f k t256 t257 (rd l2 0)).bind fun t263 => (if 0 < (l3.length : Int) then (if 0 < (l4.length : Int) then ((impl_systemHead.f (rd l3 0) (rd l4 0) (rd l2 0)).bind fun t267 => (some (decide (t263 ≥ t267)))) else (none)) else (none))) else (none)) else (some false)) = some r := H
  have A8 := Aside0.mk A80
  clear A80
  by_cases c9 : t261 = true
  ·subst c9
   have H1 : (if 0 < (l2.length : Int) then ((impl_Pump_head.f k t256 t257 (rd l2 0)).bind fun t263 => (if 0 < (l3.length : Int) then (if 0 < (l4.length : Int) then ((impl_systemHead.f (rd l3 0) (rd l4 0) (rd l2 0)).bind fun t267 => (some (decide (t263 ≥ t267)))) else (none)) else (none))) else (none)) = some r := by rw [if_pos rfl] at H; exact H
   clear H
   have H := H1
   clear H1
   by_cases c10 : 0 < (l2.length : Int)
   ·rw [if_pos c10] at H
    have c10b0 : decide (0 < (l2.length : Int)) = true := decide_eq_true c10
    have c10b1 : decide (0 < l2.length) = true := decide_eq_true (by omega)
    clear c10
    replace H := Option.bind_eq_some_iff.mp H
    obtain ⟨t263, A110, H⟩ := H
    replace H : (if 0 < (l3.length : Int) then (if 0 < (l4.length : Int) then ((impl_systemHead.f (rd l3 0) (rd l4 0) (rd l2 0)).bind fun t267 => (some (decide (t263 ≥ t267)))) else (none)) else (none)) = some r := H
    have A11 := Aside0.mk A110
    clear A110
    by_cases c12 : 0 < (l3.length : Int)
    ·rw [if_pos c12] at H
     have c12b0 : decide (0 < (l3.length : Int)) = true := decide_eq_true c12
     have c12b1 : decide (0 < l3.length) = true := decide_eq_true (by omega)
     clear c12
     by_cases c13 : 0 < (l4.length : Int)
     ·rw [if_pos c13] at H
      have c13b0 : decide (0 < (l4.length : Int)) = true := decide_eq_true c13
      have c13b1 : decide (0 < l4.length) = true := decide_eq_true (by omega)
      clear c13
      replace H := Option.bind_eq_some_iff.mp H
      obtain ⟨t267, A140, H⟩ := H
      replace H : (some (decide (t263 ≥ t267))) = some r := H
      have A14 := Aside0.mk A140
      clear A140
      obtain rfl := Option.some.inj H
      have p255 : 0 ≤ (0 : Int) := (by omega)
      have q255 : 0 < (l1.length : Int) := of_decide_eq_true (by first | (with_reducible assumption) | assumption)
      obtain ⟨ad255, A255_1, c255_1, e255, hx255_0, hx255_1, hl255_1, hi255_1⟩ := at_T54 HR1.out 0 p255 q255
      cases e255
      have qi255 : (0 < l1.length) = True := eq_true (by omega)
      (try rw [show ((0 : Int)).toNat = 0 from rfl] at hx255_0)
      (try rw [show 0 * 2 = 0 from rfl] at hx255_0)
      (try rw [Addr.add_zero'] at hx255_0)
      (try rw [show ((0 : Int)).toNat = 0 from rfl] at hx255_1)
      (try rw [show 0 * 2 = 0 from rfl] at hx255_1)
      (try rw [Addr.add_zero'] at hx255_1)
      have HR255_1 := Aside0.mk hi255_1
      have HC255_1 := Aside0.mk hl255_1
      clear hi255_1 hl255_1
      replace p255 := eq_true p255
      replace q255 := eq_true q255
      go_enter Try.func92, Try.ntmps92
      try go_wp2_with (first | ((with_reducible refine gate_callee (f := 93) rfl ?_); refine goesL_ (some 10) rfl rfl Try.func93 (by kernel_rfl) rfl #[.agg #[.string ((rd_T54 l1 0).f0), .slice A255_1 ((rd_T54 l1 0).f1).length c255_1], .int .i64 a0] rfl (by (try simp only [List.map_toArray, List.map_cons, List.map_nil]); first | done | rfl | (simp only [List.length_drop, List.length_take]; rfl)) ?_; (with_reducible refine (impl_Pump_atSpeed.calls k ((rd_T54 l1 0).f0) _ _ ((rd_T54 l1 0).f1) a0 t256 t257 _ ?side1 ?side2 A7.out).mono ?_); (case side1 => repeat (first | exact HR255_1.out | (with_reducible refine Kd.C_alloc ?_ _) | (with_reducible refine Kd.C_drewN ?_ _) | (with_reducible refine Kd.C_drew ?_))); (case side2 => exact HC255_1.out); rintro e w15 ⟨v258, rfl, ho0, hb⟩; refine ⟨_, rfl, ?_⟩; have n0_ := Aside0.mk (Kd.S_lower ho0 (below_size (by repeat (first | (with_reducible first | exact HB.out | apply below_alloc | apply pw_below_drewN | apply below_drew1) | exact HB.out)))); have n1_ := Aside0.mk (below_step (by repeat (first | (with_reducible first | exact HB.out | apply below_alloc | apply pw_below_drewN | apply below_drew1) | exact HB.out)) hb); clear HB; have HO259 := n0_; have HB := n1_; clear n0_ n1_; (try clear hb); (try clear hb2); (try clear hk); (try clear hi); (try clear ho0)) | ((with_reducible refine gate_dst (N := 7) rfl ?_); refine box_event ?hg (N := 7) ?hd (cs := #[.string (⟨#[]⟩ : ByteArray), .slice none 0 0]) (t := 54) ?hr ?_; (case hd => rfl); (case hg => rfl); (case hr => first | (go_simp; done) | (go_simp; rfl)); intro gb260 hg w16 hbox hb; have n0_ := Aside0.mk (Kd.S_below (by (with_reducible repeat (first | apply Kd.S_alloc | apply Kd.S_drewN | apply Kd.S_drew)); exact HO259.out) hb); have n1_ := Aside0.mk (below_step (by repeat (first | (with_reducible first | exact HB.out | apply below_alloc | apply pw_below_drewN | apply below_drew1) | exact HB.out)) hb); have n2_ := Aside0.mk (hbox); have n3_ := Aside0.mk ((by rw [hg]; exact (below_size (by repeat (first | (with_reducible first | exact HB.out | apply below_alloc | apply pw_below_drewN | apply below_drew1) | exact HB.out))) : w.heap.size ≤ gb260)); have n4_ := Aside0.mk ((by rw [hg]; exact (below_size (by repeat (first | (with_reducible first | exact HB.out | apply below_alloc | apply pw_below_drewN | apply below_drew1) | exact HB.out))) : w.heap.size ≤ gb260)); clear HO259; clear HB; have HO259 := n0_; have HB := n1_; have BK260 := n2_; have GW260 := n3_; have GE260 := n4_; clear n0_ n1_ n2_ n3_ n4_; clear hb hbox hg; have hcz17_0 : w16.cell? ⟨gb260, 0, none⟩ = some (.string (⟨#[]⟩ : ByteArray)) := (blk_cell BK260.out 0).trans rfl; have hcz17_1 : w16.cell? ⟨gb260, 1, none⟩ = some (.slice none 0 0) := (blk_cell BK260.out 1).trans rfl; have hfz17_0 := blk_frozen BK260.out 0; have hfz17_1 := blk_frozen BK260.out 1; obtain ⟨Ao18, co18, eo18⟩ := Kd.S_slice HO259.out; subst eo18))
      have n0_ : Aside0 (Kd.S (Kd.slice 2 (Kd.int .i64)) 28 ((w16.setCell ⟨gb260, 0, none⟩ (.string t256)).setCell ⟨gb260, 1, none⟩ (.slice Ao18 t257.length co18)) w.heap.size (fun _ => True) (.slice Ao18 t257.length co18) t257) := ⟨by (with_reducible repeat (first | apply Kd.S_alloc | apply Kd.S_drewN | apply Kd.S_drew)); exact Kd.S_mono (Kd.S_far (p := ⟨gb260, 1, none⟩) (Kd.S_far (p := ⟨gb260, 0, none⟩) (Kd.S_types HO259.out BK260.out (by decide)) (fun _ hk => hk.2) (.string t256)) (fun _ hk => hk.2) (.slice Ao18 t257.length co18)) (fun _ hk => trivial)⟩
      have n1_ : Aside0 (((w16.setCell ⟨gb260, 0, none⟩ (.string t256)).setCell ⟨gb260, 1, none⟩ (.slice Ao18 t257.length co18)).heap[gb260]? = some (.cells #[.string t256, .slice Ao18 t257.length co18] 54 (0, 0))) := ⟨by (with_reducible repeat (first | refine blk_drewN ?_ _ | refine blk_drew ?_ | refine blk_alloc ?_ _)); refine blk_put (cs := #[.string t256, .slice none 0 0]) ?_ 1 _ rfl; (with_reducible repeat (first | refine blk_drewN ?_ _ | refine blk_drew ?_ | refine blk_alloc ?_ _)); refine blk_put (cs := #[.string (⟨#[]⟩ : ByteArray), .slice none 0 0]) ?_ 0 _ rfl; (with_reducible repeat (first | refine blk_drewN ?_ _ | refine blk_drew ?_ | refine blk_alloc ?_ _)); exact BK260.out⟩
      have n2_ : Aside0 (Below w.heap.size w ((w16.setCell ⟨gb260, 0, none⟩ (.string t256)).setCell ⟨gb260, 1, none⟩ (.slice Ao18 t257.length co18))) := ⟨by repeat (first | (with_reducible first | exact HB.out | apply below_alloc | apply pw_below_drewN | apply below_drew1 | refine below_set ?_ GE260.out) | exact HB.out)⟩
      (try clear HO259)
      (try clear BK260)
      (try clear HB)
      generalize ((w16.setCell ⟨gb260, 0, none⟩ (.string t256)).setCell ⟨gb260, 1, none⟩ (.slice Ao18 t257.length co18)) = w19 at n0_ n1_ n2_ ⊢
      have HO259 := n0_
      have BK260 := n1_
      have HB := n2_
      clear n0_ n1_ n2_
      have n0_ := Aside0.mk (Kd.S_drew HO259.out)
      have n1_ := Aside0.mk (blk_drew BK260.out)
      have n2_ := Aside0.mk (below_drew1 HB.out)
      clear HO259
      clear BK260
      clear HB
      have HO259 := n0_
      have BK260 := n1_
      have HB := n2_
      clear n0_ n1_ n2_
      have p262 : 0 ≤ (0 : Int) := (by omega)
      have q262 : 0 < (l2.length : Int) := of_decide_eq_true (by first | (with_reducible assumption) | assumption)
      obtain ⟨ad262, e262, hx262_0⟩ := Kd.at_int HR2.out 0 p262 q262
      have hw262_0 := hx262_0
      (try rw [show ((0 : Int)).toNat = 0 from rfl] at hw262_0)
      (try rw [show 0 * 1 = 0 from rfl] at hw262_0)
      (try rw [Addr.add_zero'] at hw262_0)
      cases e262
      have qi262 : (0 < l2.length) = True := eq_true (by omega)
      (try rw [show ((0 : Int)).toNat = 0 from rfl] at hx262_0)
      (try rw [Addr.add_zero'] at hx262_0)
      replace hx262_0 := (HB.out.cell (World.block_lt_of_cell? w _ hx262_0)).trans hx262_0
      replace p262 := eq_true p262
      replace q262 := eq_true q262
      have p264 : 0 ≤ (0 : Int) := (by omega)
      have q264 : 0 < (l3.length : Int) := of_decide_eq_true (by first | (with_reducible assumption) | assumption)
      obtain ⟨ad264, e264, hx264_0⟩ := Kd.at_int HR3.out 0 p264 q264
      have hw264_0 := hx264_0
      (try rw [show ((0 : Int)).toNat = 0 from rfl] at hw264_0)
      (try rw [show 0 * 1 = 0 from rfl] at hw264_0)
      (try rw [Addr.add_zero'] at hw264_0)
      cases e264
      have qi264 : (0 < l3.length) = True := eq_true (by omega)
      (try rw [show ((0 : Int)).toNat = 0 from rfl] at hx264_0)
      (try rw [Addr.add_zero'] at hx264_0)
      replace hx264_0 := (HB.out.cell (World.block_lt_of_cell? w _ hx264_0)).trans hx264_0
      replace p264 := eq_true p264
      replace q264 := eq_true q264
      have p265 : 0 ≤ (0 : Int) := (by omega)
      have q265 : 0 < (l4.length : Int) := of_decide_eq_true (by first | (with_reducible assumption) | assumption)
      obtain ⟨ad265, e265, hx265_0⟩ := Kd.at_int HR4.out 0 p265 q265
      have hw265_0 := hx265_0
      (try rw [show ((0 : Int)).toNat = 0 from rfl] at hw265_0)
      (try rw [show 0 * 1 = 0 from rfl] at hw265_0)
      (try rw [Addr.add_zero'] at hw265_0)
      cases e265
      have qi265 : (0 < l4.length) = True := eq_true (by omega)
      (try rw [show ((0 : Int)).toNat = 0 from rfl] at hx265_0)
      (try rw [Addr.add_zero'] at hx265_0)
      replace hx265_0 := (HB.out.cell (World.block_lt_of_cell? w _ hx265_0)).trans hx265_0
      replace p265 := eq_true p265
      replace q265 := eq_true q265
      have p266 : 0 ≤ (0 : Int) := (by omega)
      have q266 : 0 < (l2.length : Int) := of_decide_eq_true (by first | (with_reducible assumption) | assumption)
      obtain ⟨ad266, e266, hx266_0⟩ := Kd.at_int HR2.out 0 p266 q266
      have hw266_0 := hx266_0
      (try rw [show ((0 : Int)).toNat = 0 from rfl] at hw266_0)
      (try rw [show 0 * 1 = 0 from rfl] at hw266_0)
      (try rw [Addr.add_zero'] at hw266_0)
      obtain rfl : ad262 = ad266 := (by injection e266)
      have qi266 : (0 < l2.length) = True := eq_true (by omega)
      (try rw [show ((0 : Int)).toNat = 0 from rfl] at hx266_0)
      (try rw [Addr.add_zero'] at hx266_0)
      replace hx266_0 := (HB.out.cell (World.block_lt_of_cell? w _ hx266_0)).trans hx266_0
      replace p266 := eq_true p266
      replace q266 := eq_true q266
      refine start_ (n := 13) (S := fun w' => w'.cell? ⟨gb260, 0, none⟩ = some (.string t256) ∧ w'.cell? ⟨gb260, 1, none⟩ = some (.slice Ao18 t257.length co18) ∧ w'.cell? ad262 = some (.int .i64 (rd l2 0)) ∧ w'.cell? ad264 = some (.int .i64 (rd l3 0)) ∧ w'.cell? ad265 = some (.int .i64 (rd l4 0)) ∧ w'.cell? ad262 = some (.int .i64 (rd l2 0))) (ds := []) (tf 0 13) (by kernel_rfl) rfl rfl ⟨(blk_cell BK260.out 0).trans rfl, (blk_cell BK260.out 1).trans rfl, ((HB.out.cell (World.block_lt_of_cell? w _ hw262_0)).trans hw262_0), ((HB.out.cell (World.block_lt_of_cell? w _ hw264_0)).trans hw264_0), ((HB.out.cell (World.block_lt_of_cell? w _ hw265_0)).trans hw265_0), ((HB.out.cell (World.block_lt_of_cell? w _ hw266_0)).trans hw266_0)⟩ (fun hHeld => ?_); refine with_tabW impl_LeastSpeed_1.tab2 impl_LeastSpeed_1.bits2 (fun HT_ HW_ => ?_)
      generalize w19.drew = w20 at HO259 BK260 HB hx262_0 hx264_0 hx265_0 hx266_0 hHeld ⊢
      refine tx (v := ?_) 0 (some 11) (tf 1 13) HT_ HW_ hHeld ?_ ?_
      rotate_left; (· rintro w' ⟨s0, s1, s2, s3, s4, s5⟩; go_simp; with_reducible rfl)
      refine one_ (i := 1) (N := some 12) (tf 2 13) rfl rfl (one_of HT_.out (by kernel_rfl)) (by decide) (fun K hK => ?_)
      refine goes_ Try.func88 (by kernel_rfl) rfl #[.agg #[.string t256, .slice Ao18 t257.length co18]] (by rfl) rfl rfl (by (try simp only [List.map_toArray, List.map_cons, List.map_nil]); first | done | rfl | (simp only [List.length_drop, List.length_take]; rfl)) ?_
      with_reducible refine (impl_ValidPump.calls k t256 _ _ t257 true _ ?side1 ?side2 A8.out).mono ?_
      (case side1 => repeat (first | exact (Kd.S_reads' HO259.out).2.2 | (with_reducible refine Kd.C_alloc ?_ _) | (with_reducible refine Kd.C_drewN ?_ _) | (with_reducible refine Kd.C_drew ?_)))
      (case side2 => exact (Kd.S_reads' HO259.out).2.1)
      rintro e w21 ⟨rfl, hb⟩
      refine ⟨_, rfl, ?_⟩
      have n0_ := Aside0.mk (Kd.S_below (by (with_reducible repeat (first | apply Kd.S_alloc | apply Kd.S_drewN | apply Kd.S_drew)); exact HO259.out) hb)
      have n1_ := Aside0.mk (blk_below (g := gb260) (o := .cells #[.string t256, .slice Ao18 t257.length co18] 54 (0, 0)) (by (with_reducible repeat (first | refine blk_drewN ?_ _ | refine blk_drew ?_ | refine blk_alloc ?_ _)); exact BK260.out) hb)
      have n2_ := Aside0.mk (below_step (by repeat (first | (with_reducible first | exact HB.out | apply below_alloc | apply pw_below_drewN | apply below_drew1 | refine below_set ?_ GE260.out) | exact HB.out)) hb)
      clear HO259
      clear BK260
      clear HB
      have HO259 := n0_
      have BK260 := n1_
      have HB := n2_
      clear n0_ n1_ n2_
      (try clear hb)
      (try clear hb2)
      (try clear hk)
      (try clear hi)
      refine hK.out _ _ ⟨(blk_cell BK260.out 0).trans rfl, (blk_cell BK260.out 1).trans rfl, ((HB.out.cell (World.block_lt_of_cell? w _ hw262_0)).trans hw262_0), ((HB.out.cell (World.block_lt_of_cell? w _ hw264_0)).trans hw264_0), ((HB.out.cell (World.block_lt_of_cell? w _ hw265_0)).trans hw265_0), ((HB.out.cell (World.block_lt_of_cell? w _ hw266_0)).trans hw266_0)⟩ (fun hHeld => ?_)
      clear hK K
      refine norm_ (a' := ?_) ?_ ?_
      rotate_left
      ·show Act.put _ (some 12) _ = _
       simp only [Act.put, List.setIfInBounds_toArray, List.set_cons_zero, List.set_cons_succ, i64_w, i32_w]
       rfl
      refine px 2 (some 13) (tf 3 13) HT_ ?_
      refine tx (v := ?_) 3 (some 14) (tf 4 13) HT_ HW_ hHeld ?_ ?_
      rotate_left; (· rintro w' ⟨s0, s1, s2, s3, s4, s5⟩; go_simp; with_reducible rfl)
      refine tx (v := ?_) 4 (some 15) (tf 5 13) HT_ HW_ hHeld ?_ ?_
      rotate_left; (· rintro w' ⟨s0, s1, s2, s3, s4, s5⟩; go_simp; with_reducible rfl)
      refine tx (v := ?_) 6 (some 17) (tb 13 95) HT_ HW_ hHeld ?_ ?_
      rotate_left; (· rintro w' ⟨s0, s1, s2, s3, s4, s5⟩; go_simp; with_reducible rfl)
      refine tx (v := ?_) 7 (some 18) (tb 13 223) HT_ HW_ hHeld ?_ ?_
      rotate_left; (· rintro w' ⟨s0, s1, s2, s3, s4, s5⟩; go_simp; with_reducible rfl)
      refine tx (v := ?_) 8 (some 19) (tb 13 479) HT_ HW_ hHeld ?_ ?_
      rotate_left; (· rintro w' ⟨s0, s1, s2, s3, s4, s5⟩; go_simp; with_reducible rfl)
      refine one_ (i := 5) (N := some 16) (tf 9 13) rfl rfl (one_of HT_.out (by kernel_rfl)) (by decide) (fun K hK => ?_)
      refine goes_ Try.func94 (by kernel_rfl) rfl #[.agg #[.string t256, .slice Ao18 t257.length co18], .int .i64 (rd l2 0)] (by rfl) rfl rfl (by (try simp only [List.map_toArray, List.map_cons, List.map_nil]); first | done | rfl | (simp only [List.length_drop, List.length_take]; rfl)) ?_
      with_reducible refine (impl_Pump_head.calls k t256 _ _ t257 (rd l2 0) t263 _ ?side1 ?side2 A11.out).mono ?_
      (case side1 => repeat (first | exact (Kd.S_reads' HO259.out).2.2 | (with_reducible refine Kd.C_alloc ?_ _) | (with_reducible refine Kd.C_drewN ?_ _) | (with_reducible refine Kd.C_drew ?_)))
      (case side2 => exact (Kd.S_reads' HO259.out).2.1)
      rintro e w22 ⟨rfl, hb⟩
      refine ⟨_, rfl, ?_⟩
      have n0_ := Aside0.mk (Kd.S_below (by (with_reducible repeat (first | apply Kd.S_alloc | apply Kd.S_drewN | apply Kd.S_drew)); exact HO259.out) hb)
      have n1_ := Aside0.mk (blk_below (g := gb260) (o := .cells #[.string t256, .slice Ao18 t257.length co18] 54 (0, 0)) (by (with_reducible repeat (first | refine blk_drewN ?_ _ | refine blk_drew ?_ | refine blk_alloc ?_ _)); exact BK260.out) hb)
      have n2_ := Aside0.mk (below_step (by repeat (first | (with_reducible first | exact HB.out | apply below_alloc | apply pw_below_drewN | apply below_drew1 | refine below_set ?_ GE260.out) | exact HB.out)) hb)
      clear HO259
      clear BK260
      clear HB
      have HO259 := n0_
      have BK260 := n1_
      have HB := n2_
      clear n0_ n1_ n2_
      (try clear hb)
      (try clear hb2)
      (try clear hk)
      (try clear hi)
      refine hK.out _ _ ⟨(blk_cell BK260.out 0).trans rfl, (blk_cell BK260.out 1).trans rfl, ((HB.out.cell (World.block_lt_of_cell? w _ hw262_0)).trans hw262_0), ((HB.out.cell (World.block_lt_of_cell? w _ hw264_0)).trans hw264_0), ((HB.out.cell (World.block_lt_of_cell? w _ hw265_0)).trans hw265_0), ((HB.out.cell (World.block_lt_of_cell? w _ hw266_0)).trans hw266_0)⟩ (fun hHeld => ?_)
      clear hK K
      refine norm_ (a' := ?_) ?_ ?_
      rotate_left
      ·show Act.put _ (some 16) _ = _
       simp only [Act.put, List.setIfInBounds_toArray, List.set_cons_zero, List.set_cons_succ, i64_w, i32_w]
       rfl
      refine one_ (i := 9) (N := some 20) (tf 10 13) rfl rfl (one_of HT_.out (by kernel_rfl)) (by decide) (fun K hK => ?_)
      refine goes_ Try.func95 (by kernel_rfl) rfl #[.int .i64 (rd l3 0), .int .i64 (rd l4 0), .int .i64 (rd l2 0)] (by rfl) rfl rfl (by (try simp only [List.map_toArray, List.map_cons, List.map_nil]); first | done | rfl | (simp only [List.length_drop, List.length_take]; rfl)) ?_
      with_reducible refine (impl_systemHead.calls (rd l3 0) (rd l4 0) (rd l2 0) t267 _ A14.out).mono ?_
      rintro e w23 ⟨rfl, hb⟩
      refine ⟨_, rfl, ?_⟩
      have n0_ := Aside0.mk (Kd.S_below (by (with_reducible repeat (first | apply Kd.S_alloc | apply Kd.S_drewN | apply Kd.S_drew)); exact HO259.out) hb)
      have n1_ := Aside0.mk (blk_below (g := gb260) (o := .cells #[.string t256, .slice Ao18 t257.length co18] 54 (0, 0)) (by (with_reducible repeat (first | refine blk_drewN ?_ _ | refine blk_drew ?_ | refine blk_alloc ?_ _)); exact BK260.out) hb)
      have n2_ := Aside0.mk (below_step (by repeat (first | (with_reducible first | exact HB.out | apply below_alloc | apply pw_below_drewN | apply below_drew1 | refine below_set ?_ GE260.out) | exact HB.out)) hb)
      clear HO259
      clear BK260
      clear HB
      have HO259 := n0_
      have BK260 := n1_
      have HB := n2_
      clear n0_ n1_ n2_
      (try clear hb)
      (try clear hb2)
      (try clear hk)
      (try clear hi)
      refine hK.out _ _ ⟨(blk_cell BK260.out 0).trans rfl, (blk_cell BK260.out 1).trans rfl, ((HB.out.cell (World.block_lt_of_cell? w _ hw262_0)).trans hw262_0), ((HB.out.cell (World.block_lt_of_cell? w _ hw264_0)).trans hw264_0), ((HB.out.cell (World.block_lt_of_cell? w _ hw265_0)).trans hw265_0), ((HB.out.cell (World.block_lt_of_cell? w _ hw266_0)).trans hw266_0)⟩ (fun hHeld => ?_)
      clear hK K
      refine norm_ (a' := ?_) ?_ ?_
      rotate_left
      ·show Act.put _ (some 20) _ = _
       simp only [Act.put, List.setIfInBounds_toArray, List.set_cons_zero, List.set_cons_succ, i64_w, i32_w]
       rfl
      refine px 10 (some 21) (tf 11 13) HT_ ?_
      refine px 11 (some 22) (tf 12 13) HT_ ?_
      refine px 12 (some 6) (tf 13 13) HT_ ?_
      refine done_ (done_of HT_.out (by kernel_rfl)) ?_
      try go_wp2
      go_ret
      exact ⟨by first | rfl | (rw [Int.tdiv_eq_ediv_of_nonneg (by omega)]; rfl) | (simp [errW_none, errW_some] <;> rfl) | (simp [*, errW_none, errW_some] <;> rfl), by repeat (first | (with_reducible first | exact HB.out | apply below_alloc | apply pw_below_drewN | apply below_drew1 | refine below_set ?_ GE260.out) | exact HB.out)⟩
     ·rw [if_neg c13] at H
      exact absurd H (by simp)
    ·rw [if_neg c12] at H
     exact absurd H (by simp)
   ·rw [if_neg c10] at H
    exact absurd H (by simp)
  ·replace c9 := Bool.eq_false_iff.mpr c9
   subst c9
   have H1 : (some false) = some r := by rw [if_neg (show ¬ (false = true) by decide)] at H; exact H
   clear H
   have H := H1
   clear H1
   obtain rfl := Option.some.inj H
   have p255 : 0 ≤ (0 : Int) := (by omega)
   have q255 : 0 < (l1.length : Int) := of_decide_eq_true (by first | (with_reducible assumption) | assumption)
   obtain ⟨ad255, A255_1, c255_1, e255, hx255_0, hx255_1, hl255_1, hi255_1⟩ := at_T54 HR1.out 0 p255 q255
   cases e255
   have qi255 : (0 < l1.length) = True := eq_true (by omega)
   (try rw [show ((0 : Int)).toNat = 0 from rfl] at hx255_0)
   (try rw [show 0 * 2 = 0 from rfl] at hx255_0)
   (try rw [Addr.add_zero'] at hx255_0)
   (try rw [show ((0 : Int)).toNat = 0 from rfl] at hx255_1)
   (try rw [show 0 * 2 = 0 from rfl] at hx255_1)
   (try rw [Addr.add_zero'] at hx255_1)
   have HR255_1 := Aside0.mk hi255_1
   have HC255_1 := Aside0.mk hl255_1
   clear hi255_1 hl255_1
   replace p255 := eq_true p255
   replace q255 := eq_true q255
   go_enter Try.func92, Try.ntmps92
   try go_wp2_with (first | ((with_reducible refine gate_callee (f := 93) rfl ?_); refine goesL_ (some 10) rfl rfl Try.func93 (by kernel_rfl) rfl #[.agg #[.string ((rd_T54 l1 0).f0), .slice A255_1 ((rd_T54 l1 0).f1).length c255_1], .int .i64 a0] rfl (by (try simp only [List.map_toArray, List.map_cons, List.map_nil]); first | done | rfl | (simp only [List.length_drop, List.length_take]; rfl)) ?_; (with_reducible refine (impl_Pump_atSpeed.calls k ((rd_T54 l1 0).f0) _ _ ((rd_T54 l1 0).f1) a0 t256 t257 _ ?side1 ?side2 A7.out).mono ?_); (case side1 => repeat (first | exact HR255_1.out | (with_reducible refine Kd.C_alloc ?_ _) | (with_reducible refine Kd.C_drewN ?_ _) | (with_reducible refine Kd.C_drew ?_))); (case side2 => exact HC255_1.out); rintro e w24 ⟨v258, rfl, ho0, hb⟩; refine ⟨_, rfl, ?_⟩; have n0_ := Aside0.mk (Kd.S_lower ho0 (below_size (by repeat (first | (with_reducible first | exact HB.out | apply below_alloc | apply pw_below_drewN | apply below_drew1) | exact HB.out)))); have n1_ := Aside0.mk (below_step (by repeat (first | (with_reducible first | exact HB.out | apply below_alloc | apply pw_below_drewN | apply below_drew1) | exact HB.out)) hb); clear HB; have HO259 := n0_; have HB := n1_; clear n0_ n1_; (try clear hb); (try clear hb2); (try clear hk); (try clear hi); (try clear ho0)) | ((with_reducible refine gate_dst (N := 7) rfl ?_); refine box_event ?hg (N := 7) ?hd (cs := #[.string (⟨#[]⟩ : ByteArray), .slice none 0 0]) (t := 54) ?hr ?_; (case hd => rfl); (case hg => rfl); (case hr => first | (go_simp; done) | (go_simp; rfl)); intro gb260 hg w25 hbox hb; have n0_ := Aside0.mk (Kd.S_below (by (with_reducible repeat (first | apply Kd.S_alloc | apply Kd.S_drewN | apply Kd.S_drew)); exact HO259.out) hb); have n1_ := Aside0.mk (below_step (by repeat (first | (with_reducible first | exact HB.out | apply below_alloc | apply pw_below_drewN | apply below_drew1) | exact HB.out)) hb); have n2_ := Aside0.mk (hbox); have n3_ := Aside0.mk ((by rw [hg]; exact (below_size (by repeat (first | (with_reducible first | exact HB.out | apply below_alloc | apply pw_below_drewN | apply below_drew1) | exact HB.out))) : w.heap.size ≤ gb260)); have n4_ := Aside0.mk ((by rw [hg]; exact (below_size (by repeat (first | (with_reducible first | exact HB.out | apply below_alloc | apply pw_below_drewN | apply below_drew1) | exact HB.out))) : w.heap.size ≤ gb260)); clear HO259; clear HB; have HO259 := n0_; have HB := n1_; have BK260 := n2_; have GW260 := n3_; have GE260 := n4_; clear n0_ n1_ n2_ n3_ n4_; clear hb hbox hg; have hcz26_0 : w25.cell? ⟨gb260, 0, none⟩ = some (.string (⟨#[]⟩ : ByteArray)) := (blk_cell BK260.out 0).trans rfl; have hcz26_1 : w25.cell? ⟨gb260, 1, none⟩ = some (.slice none 0 0) := (blk_cell BK260.out 1).trans rfl; have hfz26_0 := blk_frozen BK260.out 0; have hfz26_1 := blk_frozen BK260.out 1; obtain ⟨Ao27, co27, eo27⟩ := Kd.S_slice HO259.out; subst eo27))
   have n0_ : Aside0 (Kd.S (Kd.slice 2 (Kd.int .i64)) 28 ((w25.setCell ⟨gb260, 0, none⟩ (.string t256)).setCell ⟨gb260, 1, none⟩ (.slice Ao27 t257.length co27)) w.heap.size (fun _ => True) (.slice Ao27 t257.length co27) t257) := ⟨by (with_reducible repeat (first | apply Kd.S_alloc | apply Kd.S_drewN | apply Kd.S_drew)); exact Kd.S_mono (Kd.S_far (p := ⟨gb260, 1, none⟩) (Kd.S_far (p := ⟨gb260, 0, none⟩) (Kd.S_types HO259.out BK260.out (by decide)) (fun _ hk => hk.2) (.string t256)) (fun _ hk => hk.2) (.slice Ao27 t257.length co27)) (fun _ hk => trivial)⟩
   have n1_ : Aside0 (((w25.setCell ⟨gb260, 0, none⟩ (.string t256)).setCell ⟨gb260, 1, none⟩ (.slice Ao27 t257.length co27)).heap[gb260]? = some (.cells #[.string t256, .slice Ao27 t257.length co27] 54 (0, 0))) := ⟨by (with_reducible repeat (first | refine blk_drewN ?_ _ | refine blk_drew ?_ | refine blk_alloc ?_ _)); refine blk_put (cs := #[.string t256, .slice none 0 0]) ?_ 1 _ rfl; (with_reducible repeat (first | refine blk_drewN ?_ _ | refine blk_drew ?_ | refine blk_alloc ?_ _)); refine blk_put (cs := #[.string (⟨#[]⟩ : ByteArray), .slice none 0 0]) ?_ 0 _ rfl; (with_reducible repeat (first | refine blk_drewN ?_ _ | refine blk_drew ?_ | refine blk_alloc ?_ _)); exact BK260.out⟩
   have n2_ : Aside0 (Below w.heap.size w ((w25.setCell ⟨gb260, 0, none⟩ (.string t256)).setCell ⟨gb260, 1, none⟩ (.slice Ao27 t257.length co27))) := ⟨by repeat (first | (with_reducible first | exact HB.out | apply below_alloc | apply pw_below_drewN | apply below_drew1 | refine below_set ?_ GE260.out) | exact HB.out)⟩
   (try clear HO259)
   (try clear BK260)
   (try clear HB)
   generalize ((w25.setCell ⟨gb260, 0, none⟩ (.string t256)).setCell ⟨gb260, 1, none⟩ (.slice Ao27 t257.length co27)) = w28 at n0_ n1_ n2_ ⊢
   have HO259 := n0_
   have BK260 := n1_
   have HB := n2_
   clear n0_ n1_ n2_
   have n0_ := Aside0.mk (Kd.S_drew HO259.out)
   have n1_ := Aside0.mk (blk_drew BK260.out)
   have n2_ := Aside0.mk (below_drew1 HB.out)
   clear HO259
   clear BK260
   clear HB
   have HO259 := n0_
   have BK260 := n1_
   have HB := n2_
   clear n0_ n1_ n2_
   refine start_ (n := 13) (S := fun w' => w'.cell? ⟨gb260, 0, none⟩ = some (.string t256) ∧ w'.cell? ⟨gb260, 1, none⟩ = some (.slice Ao27 t257.length co27)) (ds := []) (tf 0 13) (by kernel_rfl) rfl rfl ⟨(blk_cell BK260.out 0).trans rfl, (blk_cell BK260.out 1).trans rfl⟩ (fun hHeld => ?_); refine with_tabW impl_LeastSpeed_1.tab2 impl_LeastSpeed_1.bits2 (fun HT_ HW_ => ?_)
   generalize w28.drew = w29 at HO259 BK260 HB hHeld ⊢
   refine tx (v := ?_) 0 (some 11) (tf 1 13) HT_ HW_ hHeld ?_ ?_
   rotate_left; (· rintro w' ⟨s0, s1⟩; go_simp; with_reducible rfl)
   refine one_ (i := 1) (N := some 12) (tf 2 13) rfl rfl (one_of HT_.out (by kernel_rfl)) (by decide) (fun K hK => ?_)
   refine goes_ Try.func88 (by kernel_rfl) rfl #[.agg #[.string t256, .slice Ao27 t257.length co27]] (by rfl) rfl rfl (by (try simp only [List.map_toArray, List.map_cons, List.map_nil]); first | done | rfl | (simp only [List.length_drop, List.length_take]; rfl)) ?_
   with_reducible refine (impl_ValidPump.calls k t256 _ _ t257 false _ ?side1 ?side2 A8.out).mono ?_
   (case side1 => repeat (first | exact (Kd.S_reads' HO259.out).2.2 | (with_reducible refine Kd.C_alloc ?_ _) | (with_reducible refine Kd.C_drewN ?_ _) | (with_reducible refine Kd.C_drew ?_)))
   (case side2 => exact (Kd.S_reads' HO259.out).2.1)
   rintro e w30 ⟨rfl, hb⟩
   refine ⟨_, rfl, ?_⟩
   have n0_ := Aside0.mk (Kd.S_below (by (with_reducible repeat (first | apply Kd.S_alloc | apply Kd.S_drewN | apply Kd.S_drew)); exact HO259.out) hb)
   have n1_ := Aside0.mk (blk_below (g := gb260) (o := .cells #[.string t256, .slice Ao27 t257.length co27] 54 (0, 0)) (by (with_reducible repeat (first | refine blk_drewN ?_ _ | refine blk_drew ?_ | refine blk_alloc ?_ _)); exact BK260.out) hb)
   have n2_ := Aside0.mk (below_step (by repeat (first | (with_reducible first | exact HB.out | apply below_alloc | apply pw_below_drewN | apply below_drew1 | refine below_set ?_ GE260.out) | exact HB.out)) hb)
   clear HO259
   clear BK260
   clear HB
   have HO259 := n0_
   have BK260 := n1_
   have HB := n2_
   clear n0_ n1_ n2_
   (try clear hb)
   (try clear hb2)
   (try clear hk)
   (try clear hi)
   refine hK.out _ _ ⟨(blk_cell BK260.out 0).trans rfl, (blk_cell BK260.out 1).trans rfl⟩ (fun hHeld => ?_)
   clear hK K
   refine norm_ (a' := ?_) ?_ ?_
   rotate_left
   ·show Act.put _ (some 12) _ = _
    simp only [Act.put, List.setIfInBounds_toArray, List.set_cons_zero, List.set_cons_succ, i64_w, i32_w]
    rfl
   refine px 2 (some 13) (tf 3 13) HT_ ?_
   refine sx 3 (some 14) (tf 4 13) HT_ ?_
   refine sx 4 (some 15) (tf 5 13) HT_ ?_
   refine sx 5 (some 16) (tf 6 13) HT_ ?_
   refine sx 6 (some 17) (tf 7 13) HT_ ?_
   refine sx 7 (some 18) (tf 8 13) HT_ ?_
   refine sx 8 (some 19) (tf 9 13) HT_ ?_
   refine sx 9 (some 20) (tf 10 13) HT_ ?_
   refine sx 10 (some 21) (tf 11 13) HT_ ?_
   refine px 11 (some 22) (tf 12 13) HT_ ?_
   refine px 12 (some 6) (tf 13 13) HT_ ?_
   refine done_ (done_of HT_.out (by kernel_rfl)) ?_
   try go_wp2
   go_ret
   exact ⟨by first | rfl | (rw [Int.tdiv_eq_ediv_of_nonneg (by omega)]; rfl) | (simp [errW_none, errW_some] <;> rfl) | (simp [*, errW_none, errW_some] <;> rfl), by repeat (first | (with_reducible first | exact HB.out | apply below_alloc | apply pw_below_drewN | apply below_drew1 | refine below_set ?_ GE260.out) | exact HB.out)⟩
 ·rw [if_neg c6] at H
  exact absurd H (by simp)

end Go.Proofs.Ytaomflfofihknaa.PFnExactLeastSpeed
