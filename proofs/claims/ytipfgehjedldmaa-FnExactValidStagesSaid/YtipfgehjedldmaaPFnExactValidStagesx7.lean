-- written by wip/xprint.py, a program of this session, for this claim; not trusted: Lean checks it.
import Derived.Test.YtipfgehjedldmaaPFnExactValidStagesx0
import Derived.Test.YtipfgehjedldmaaPFnExactValidStagesx4
import Derived.Test.YtipfgehjedldmaaPFnExactValidStagesx6
namespace Go.Proofs.Ytipfgehjedldmaa.PFnExactValidStages
open Go.RowKit Go.Proofs.YtipfgehjedldmaaW.PrintWords Go.Proofs.YtipfgehjedldmaaW.PrintLast Go.Proofs.YtipfgehjedldmaaW.PrintMore
attribute [local go_sem] leq_less_ max2_int min2_int max_two min_two max_three min_three max_four min_four   -- for this text's walks alone
set_option linter.unusedVariables false
set_option linter.unusedSimpArgs false

/-! ### impl_ValidStages: function 10 -/
mutual
def impl_ValidStages.l0 : Nat → List (S54) → List (S54) → Int → Int → Option (Bool)
 | 0, _, _, _, _ => none
 | k + 1, x0, x10, x11, x12 => if x12 < x11 then (if 0 ≤ x12 then (if x12 < (x10.length : Int) then ((impl_IsName.f k ((rd_T54 x10 x12).f0)).bind fun t212 => (if t212 = true then ((impl_within.f ((rd_T54 x10 x12).f1) 1 1000000).bind fun t213 => (if t213 = true then ((impl_within.f ((rd_T54 x10 x12).f2) 0 1000000).bind fun t214 => (if t214 = true then (if (((rd_T54 x10 x12).f3).length : Int) > 8 then (impl_ValidStages.j1 k x0 x10 x11 x12 true ((rd_T54 x10 x12).f0) ((rd_T54 x10 x12).f1) ((rd_T54 x10 x12).f2) ((rd_T54 x10 x12).f3)) else (if x12 > 0 then (if 0 ≤ (wrap64 (x12 - 1)) then (if (wrap64 (x12 - 1)) < (x0.length : Int) then (impl_ValidStages.j1 k x0 x10 x11 x12 (!(Op.bytesLess (((rd_T54 x0 (wrap64 (x12 - 1))).f0).toList) (((rd_T54 x10 x12).f0).toList))) ((rd_T54 x10 x12).f0) ((rd_T54 x10 x12).f1) ((rd_T54 x10 x12).f2) ((rd_T54 x10 x12).f3)) else (none)) else (none)) else (impl_ValidStages.j1 k x0 x10 x11 x12 false ((rd_T54 x10 x12).f0) ((rd_T54 x10 x12).f1) ((rd_T54 x10 x12).f2) ((rd_T54 x10 x12).f3)))) else (impl_ValidStages.j1 k x0 x10 x11 x12 true ((rd_T54 x10 x12).f0) ((rd_T54 x10 x12).f1) ((rd_T54 x10 x12).f2) ((rd_T54 x10 x12).f3)))) else (impl_ValidStages.j1 k x0 x10 x11 x12 true ((rd_T54 x10 x12).f0) ((rd_T54 x10 x12).f1) ((rd_T54 x10 x12).f2) ((rd_T54 x10 x12).f3)))) else (impl_ValidStages.j1 k x0 x10 x11 x12 true ((rd_T54 x10 x12).f0) ((rd_T54 x10 x12).f1) ((rd_T54 x10 x12).f2) ((rd_T54 x10 x12).f3)))) else (none)) else (none)) else ((impl_allStages.f k x0).bind fun t204 => ((impl_firstOrder.f k x0 t204).bind fun t207 => (some ((t207.length : Int) == (x0.length : Int)))))
def impl_ValidStages.j1 : Nat → List (S54) → List (S54) → Int → Int → Bool → ByteArray → Int → Int → List ByteArray → Option (Bool)
 | 0, _, _, _, _, _, _, _, _, _ => none
 | k + 1, x0, x10, x11, x12, x53, x212000, x212001, x212002, x212003 => if x53 = true then (some false) else (impl_ValidStages.l1 k x0 x10 x11 x12 x212003 (x212003.length : Int) 0 x212000 x212001 x212002 x212003)
def impl_ValidStages.l1 : Nat → List (S54) → List (S54) → Int → Int → List ByteArray → Int → Int → ByteArray → Int → Int → List ByteArray → Option (Bool)
 | 0, _, _, _, _, _, _, _, _, _, _, _ => none
 | k + 1, x0, x10, x11, x12, x55, x56, x57, x212000, x212001, x212002, x212003 => if x57 < x56 then (if 0 ≤ x57 then (if x57 < (x55.length : Int) then ((impl_stageAt.f k x0 (rdOf ByteArray.empty x55 x57)).bind fun t217 => (if t217 < 0 then (some false) else (if x57 > 0 then (if 0 ≤ (wrap64 (x57 - 1)) then (if (wrap64 (x57 - 1)) < (x212003.length : Int) then (if ((Op.bytesLess ((rdOf ByteArray.empty x212003 (wrap64 (x57 - 1))).toList) ((rdOf ByteArray.empty x55 x57).toList)) = true) then (impl_ValidStages.l1 k x0 x10 x11 x12 x55 x56 (wrap64 (x57 + 1)) x212000 x212001 x212002 x212003) else (some false)) else (none)) else (none)) else (impl_ValidStages.l1 k x0 x10 x11 x12 x55 x56 (wrap64 (x57 + 1)) x212000 x212001 x212002 x212003)))) else (none)) else (none)) else (impl_ValidStages.l0 k x0 x10 x11 (wrap64 (x12 + 1)))
end
def impl_ValidStages.f (k : Nat) (l0 : List (S54)) : Option (Bool) := if (l0.length : Int) > 8 then (some false) else (impl_ValidStages.l0 k l0 l0 (l0.length : Int) 0)
theorem impl_ValidStages.mono_l : ∀ k, (∀ y0 y1 y2 y3, LeO (impl_ValidStages.l0 k y0 y1 y2 y3) (impl_ValidStages.l0 (k + 1) y0 y1 y2 y3)) ∧ (∀ y0 y1 y2 y3 y4 y5 y6 y7 y8, LeO (impl_ValidStages.j1 k y0 y1 y2 y3 y4 y5 y6 y7 y8) (impl_ValidStages.j1 (k + 1) y0 y1 y2 y3 y4 y5 y6 y7 y8)) ∧ (∀ y0 y1 y2 y3 y4 y5 y6 y7 y8 y9 y10, LeO (impl_ValidStages.l1 k y0 y1 y2 y3 y4 y5 y6 y7 y8 y9 y10) (impl_ValidStages.l1 (k + 1) y0 y1 y2 y3 y4 y5 y6 y7 y8 y9 y10))
 | 0 => ⟨fun _ _ _ _ r h => by simp [impl_ValidStages.l0] at h, fun _ _ _ _ _ _ _ _ _ r h => by simp [impl_ValidStages.j1] at h, fun _ _ _ _ _ _ _ _ _ _ _ r h => by simp [impl_ValidStages.l1] at h⟩
 | k + 1 => by
  obtain ⟨ih0, ih1, ih2⟩ := impl_ValidStages.mono_l k
  refine ⟨?_, ?_, ?_⟩ <;> intros <;> first | unfold impl_ValidStages.l0 | unfold impl_ValidStages.j1 | unfold impl_ValidStages.l1
  all_goals
   repeat' first
   | (with_reducible exact ih0 _ _ _ _)
   | (with_reducible exact ih1 _ _ _ _ _ _ _ _ _)
   | (with_reducible exact ih2 _ _ _ _ _ _ _ _ _ _ _)
   | (with_reducible exact impl_IsName.mono _ _)
   | (with_reducible exact impl_allStages.mono _ _)
   | (with_reducible exact impl_firstOrder.mono _ _ _)
   | (with_reducible exact impl_stageAt.mono _ _ _)
   | (with_reducible exact LeO.refl _)
   | (with_reducible exact LeO.none _)
   | (with_reducible refine LeO.ite ?_ ?_)
   | (with_reducible refine LeO.bind ?_ (fun _ => ?_))
   | exact ih0 _ _ _ _
   | exact ih1 _ _ _ _ _ _ _ _ _
   | exact ih2 _ _ _ _ _ _ _ _ _ _ _
   | exact impl_IsName.mono _ _
   | exact impl_allStages.mono _ _
   | exact impl_firstOrder.mono _ _ _
   | exact impl_stageAt.mono _ _ _
   | exact LeO.none _
   | refine LeO.ite ?_ ?_
   | refine LeO.bind ?_ (fun _ => ?_)
theorem impl_ValidStages.mono : ∀ a0 k, LeO (impl_ValidStages.f k a0) (impl_ValidStages.f (k + 1) a0) := by
 intro a0 k
 obtain ⟨ih0, ih1, ih2⟩ := impl_ValidStages.mono_l k
 unfold impl_ValidStages.f
 repeat' first
   | (with_reducible exact ih0 _ _ _ _)
   | (with_reducible exact ih1 _ _ _ _ _ _ _ _ _)
   | (with_reducible exact ih2 _ _ _ _ _ _ _ _ _ _ _)
   | (with_reducible exact impl_IsName.mono _ _)
   | (with_reducible exact impl_allStages.mono _ _)
   | (with_reducible exact impl_firstOrder.mono _ _ _)
   | (with_reducible exact impl_stageAt.mono _ _ _)
   | (with_reducible exact LeO.refl _)
   | (with_reducible exact LeO.none _)
   | (with_reducible refine LeO.ite ?_ ?_)
   | (with_reducible refine LeO.bind ?_ (fun _ => ?_))
   | exact ih0 _ _ _ _
   | exact ih1 _ _ _ _ _ _ _ _ _
   | exact ih2 _ _ _ _ _ _ _ _ _ _ _
   | exact impl_IsName.mono _ _
   | exact impl_allStages.mono _ _
   | exact impl_firstOrder.mono _ _ _
   | exact impl_stageAt.mono _ _ _
   | exact LeO.none _
   | refine LeO.ite ?_ ?_
   | refine LeO.bind ?_ (fun _ => ?_)
def impl_ValidStages.T6 : Bool × List (List Nat × List Nat) := (true, [([], []), ([0], [0]), ([1], [1]), ([2], [2]), ([3, 2], [3]), ([4], [4]), ([5, 4], [4, 5]), ([6, 4, 4], [4, 6]), ([7, 4], [4, 7]), ([4, 8], [4, 8]), ([9, 7], [9]), ([10], [10]), ([11, 10], [10, 11]), ([12, 10, 10], [10, 12]), ([13, 10], [10, 13]), ([10, 14], [10, 14]), ([15, 13], [15]), ([16], [16]), ([17, 16], [16, 17]), ([18, 16], [16, 18]), ([19, 16], [16, 19]), ([16, 20], [16, 20]), ([21, 16], [21]), ([22], [22]), ([23, 22], [22, 23]), ([24, 22, 22], [22, 24]), ([25], [25]), ([26, 25], [25, 26]), ([25], [25]), ([25], [25]), ([29, 25], [25, 29]), ([28, 30, 25], [25, 28, 30]), ([31, 25], [25, 31]), ([32, 25], [25, 32]), ([27, 33, 25], [25, 27, 33]), ([25, 34, 22], [22, 25, 34]), ([22, 35], [22, 35])])
def impl_ValidStages.B6 : List Nat := [0, 1, 3, 7, 15, 31, 63, 127, 255, 511, 1023, 2047, 4095, 8191, 16383, 32767, 65535, 131071, 262143, 524287, 1048575, 2097151, 4194303, 8388607, 16777215, 33554431, 67108863, 134217727, 67108863, 67108863, 603979775, 1946157055, 4093640703, 8388607999, 17179869183, 34359738367, 68719476735]
theorem impl_ValidStages.tab6 : rtab .any (opsOf Try.f10 6) = impl_ValidStages.T6 := by kernel_rfl
theorem impl_ValidStages.bits6 : waitsOk impl_ValidStages.T6.2 impl_ValidStages.B6 = true := by kernel_rfl
set_option maxHeartbeats 8000000 in
set_option maxRecDepth 100000 in
theorem impl_ValidStages.calls (k : Nat) (A0 : Option Addr) (c0 : Nat) (l0 : List (S54)) (r : Bool) (w : World) (hr0 : Kd.C k54 w A0 l0.length l0) (hc0 : l0.length ≤ c0) (h : impl_ValidStages.f k l0 = some r) :
  Calls Try.prog 10 #[.slice A0 l0.length c0] w fun e w' => e = .returned (.bool r) ∧ Below w.heap.size w w' := by
 have hu54 := Try.underlying54
 have HR0 := Aside0.mk hr0
 have HC0 := Aside0.mk hc0
 clear hr0 hc0
 have HB := Aside0.mk (Below.refl w.heap.size w)
 have H : (if (l0.length : Int) > 8 then (some false) else (impl_ValidStages.l0 k l0 l0 (l0.length : Int) 0)) = some r := h
 clear h
 by_cases c2 : (l0.length : Int) > 8
 ·rw [if_pos c2] at H
  have c2b0 : decide (8 < (l0.length : Int)) = true := decide_eq_true c2
  have c2b1 : decide (8 < l0.length) = true := decide_eq_true t7_
  clear c2
  obtain rfl := Option.some.inj H
  go_enter Try.func10, Try.ntmps10
  go_wp2
  go_ret
  exact ⟨by first | rfl | (rw [Int.tdiv_eq_ediv_of_nonneg t7_]; rfl) | (simp [errW_none, errW_some] <;> rfl) | (simp [*, errW_none, errW_some] <;> rfl), by repeat (first | (with_reducible first | exact HB.out | apply below_alloc | apply pw_below_drewN | apply below_drew1) | exact HB.out)⟩
 ·rw [if_neg c2] at H
  have c2b0 : decide (8 < (l0.length : Int)) = false := decide_eq_false c2
  have c2b1 : decide (8 < l0.length) = false := decide_eq_false t7_
  clear c2
  have H' := Aside0.mk H
  clear H
  go_enter Try.func10, Try.ntmps10
  go_wp2
  go_loopg [12] k (fun kq v12 w' => ∃ (x12_1 : Int), v12 = .int .i64 x12_1 ∧ Aside0 (impl_ValidStages.l0 kq l0 l0 (l0.length : Int) x12_1 = some r) ∧ Aside0 (kq ≤ k) ∧ Aside0 (Below w.heap.size w w'))
  case atStart => exact ⟨(0), t4_, H', ⟨Nat.le_refl _⟩, ⟨by repeat (first | (with_reducible first | exact HB.out | apply below_alloc | apply pw_below_drewN | apply below_drew1) | exact HB.out)⟩⟩
  case round =>
   clear H'
   try clear c1
   try clear c2
   try clear c2b0
   try clear c2b1
   try clear p2
   obtain ⟨x12_1, rfl, HA, HK1, HB⟩ := hrel
   cases gk with
   | zero => exact absurd HA.out (by simp [impl_ValidStages.l0])
   | succ k1 =>
    have H := HA.out
    clear HA
    simp only [impl_ValidStages.l0] at H
    by_cases c3 : x12_1 < (l0.length : Int)
    ·rw [if_pos c3] at H
     have c3b0 : decide (x12_1 < (l0.length : Int)) = true := decide_eq_true c3
     clear c3
     by_cases c4 : 0 ≤ x12_1
     ·rw [if_pos c4] at H
      have c4b0 : decide (0 ≤ x12_1) = true := decide_eq_true c4
      clear c4
      by_cases c5 : x12_1 < (l0.length : Int)
      ·rw [if_pos c5] at H
       have c5b0 : decide (x12_1 < (l0.length : Int)) = true := decide_eq_true c5
       clear c5
       have HC6 := Aside0.mk H
       clear H
       have p210 : 0 ≤ (x12_1 : Int) := of_decide_eq_true t3_
       have q210 : x12_1 < (l0.length : Int) := of_decide_eq_true t3_
       obtain ⟨ad210, A210_3, c210_3, e210, hx210_0, hx210_1, hx210_2, hx210_3, hl210_3, hi210_3⟩ := at_T54 HR0.out x12_1 p210 q210
       cases e210
       replace hx210_0 := (HB.out.cell (World.block_lt_of_cell? w _ hx210_0)).trans hx210_0
       replace hx210_1 := (HB.out.cell (World.block_lt_of_cell? w _ hx210_1)).trans hx210_1
       replace hx210_2 := (HB.out.cell (World.block_lt_of_cell? w _ hx210_2)).trans hx210_2
       replace hx210_3 := (HB.out.cell (World.block_lt_of_cell? w _ hx210_3)).trans hx210_3
       have HR210_3 := Aside0.mk hi210_3
       have HC210_3 := Aside0.mk hl210_3
       clear hi210_3 hl210_3
       replace p210 := eq_true p210
       replace q210 := eq_true q210
       go_upto_region 6 with (first | ((with_reducible refine gate_dst (N := 4) rfl ?_); (try (refine gate_guard (by rfl) ?_; dsimp only)); refine box_event ?hg (N := 4) ?hd (cs := #[.string (⟨#[]⟩ : ByteArray), .int .i64 0, .int .i64 0, .slice none 0 0]) (t := 54) ?hr ?_; (case hd => rfl); (case hg => rfl); (case hr => first | (go_simp; done) | (go_simp; rfl)); intro gb211 hg w7 hbox hb; have n0_ := Aside0.mk (below_step t1_ hb); have n1_ := Aside0.mk (hbox); have n2_ := Aside0.mk ((by rw [hg]; exact (below_size t1_) : w.heap.size ≤ gb211)); have n3_ := Aside0.mk ((by rw [hg]; exact (below_size t1_) : w.heap.size ≤ gb211)); clear HB; have HB := n0_; have BK211 := n1_; have GW211 := n2_; have GE211 := n3_; clear n0_ n1_ n2_ n3_; clear hb hbox hg; have hcz8_0 : w7.cell? ⟨gb211, 0, none⟩ = some (.string (⟨#[]⟩ : ByteArray)) := (blk_cell BK211.out 0).trans rfl; have hcz8_1 : w7.cell? ⟨gb211, 1, none⟩ = some (.int .i64 0) := (blk_cell BK211.out 1).trans rfl; have hcz8_2 : w7.cell? ⟨gb211, 2, none⟩ = some (.int .i64 0) := (blk_cell BK211.out 2).trans rfl; have hcz8_3 : w7.cell? ⟨gb211, 3, none⟩ = some (.slice none 0 0) := (blk_cell BK211.out 3).trans rfl; have hfz8_0 := blk_frozen BK211.out 0; have hfz8_1 := blk_frozen BK211.out 1; have hfz8_2 := blk_frozen BK211.out 2; have hfz8_3 := blk_frozen BK211.out 3))
       (try simp only [Act.put, List.setIfInBounds_toArray, List.set_cons_zero, List.set_cons_succ])
       go_cut [53] (fun v53 wc => ∃ (kq : Nat) (x53_5 : Bool), v53 = .bool x53_5 ∧ Aside0 (impl_ValidStages.j1 kq l0 l0 (l0.length : Int) x12_1 x53_5 ((rd_T54 l0 x12_1).f0) ((rd_T54 l0 x12_1).f1) ((rd_T54 l0 x12_1).f2) ((rd_T54 l0 x12_1).f3) = some r) ∧ Aside0 (kq ≤ k1) ∧ Aside0 (wc.heap[gb211]? = some (.cells #[.string ((rd_T54 l0 x12_1).f0), .int .i64 ((rd_T54 l0 x12_1).f1), .int .i64 ((rd_T54 l0 x12_1).f2), (.slice A210_3 ((rd_T54 l0 x12_1).f3).length c210_3)] 54 (0, 0))) ∧ Aside0 (Below w.heap.size w wc))
       case first =>
        have H := HC6.out
        clear HC6
        replace H := Option.bind_eq_some_iff.mp H
        obtain ⟨t212, A90, H⟩ := H
        replace H : (if t212 = true then ((impl_within.f ((rd_T54 l0 x12_1).f1) 1 1000000).bind fun t213 => (if t213 = true then ((impl_within.f ((rd_T54 l0 x12_1).f2) 0 1000000).bind fun t214 => (if t214 = true then (if (((rd_T54 l0 x12_1).f3).length : Int) > 8 then (impl_ValidStages.j1 k1 l0 l0 (l0.length : Int) x12_1 true ((rd_T54 l0 x12_1).f0) ((rd_T54 l0 x12_1).f1) ((rd_T54 l0 x12_1).f2) ((rd_T54 l0 x12_1).f3)) else (if x12_1 > 0 then (if 0 ≤ (wrap64 (x12_1 - 1)) then (if (wrap64 (x12_1 - 1)) < (l0.length : Int) then (impl_ValidStages.j1 k1 l0 l0 (l0.length : Int) x12_1 (!(Op.bytesLess (((rd_T54 l0 (wrap64 (x12_1 - 1))).f0).toList) (((rd_T54 l0 x12_1).f0).toList))) ((rd_T54 l0 x12_1).f0) ((rd_T54 l0 x12_1).f1) ((rd_T54 l0 x12_1).f2) ((rd_T54 l0 x12_1).f3)) else (none)) else (none)) else (impl_ValidStages.j1 k1 l0 l0 (l0.length : Int) x12_1 false ((rd_T54 l0 x12_1).f0) ((rd_T54 l0 x12_1).f1) ((rd_T54 l0 x12_1).f2) ((rd_T54 l0 x12_1).f3)))) else (impl_ValidStages.j1 k1 l0 l0 (l0.length : Int) x12_1 true ((rd_T54 l0 x12_1).f0) ((rd_T54 l0 x12_1).f1) ((rd_T54 l0 x12_1).f2) ((rd_T54 l0 x12_1).f3)))) else (impl_ValidStages.j1 k1 l0 l0 (l0.length : Int) x12_1 true ((rd_T54 l0 x12_1).f0) ((rd_T54 l0 x12_1).f1) ((rd_T54 l0 x12_1).f2) ((rd_T54 l0 x12_1).f3)))) else (impl_ValidStages.j1 k1 l0 l0 (l0.length : Int) x12_1 true ((rd_T54 l0 x12_1).f0) ((rd_T54 l0 x12_1).f1) ((rd_T54 l0 x12_1).f2) ((rd_T54 l0 x12_1).f3))) = some r := H
        have A9 := Aside0.mk A90
        clear A90
        by_cases c10 : t212 = true
        ·subst c10
         have H1 : ((impl_within.f ((rd_T54 l0 x12_1).f1) 1 1000000).bind fun t213 => (if t213 = true then ((impl_within.f ((rd_T54 l0 x12_1).f2) 0 1000000).bind fun t214 => (if t214 = true then (if (((rd_T54 l0 x12_1).f3).length : Int) > 8 then (impl_ValidStages.j1 k1 l0 l0 (l0.length : Int) x12_1 true ((rd_T54 l0 x12_1).f0) ((rd_T54 l0 x12_1).f1) ((rd_T54 l0 x12_1).f2) ((rd_T54 l0 x12_1).f3)) else (if x12_1 > 0 then (if 0 ≤ (wrap64 (x12_1 - 1)) then (if (wrap64 (x12_1 - 1)) < (l0.length : Int) then (impl_ValidStages.j1 k1 l0 l0 (l0.length : Int) x12_1 (!(Op.bytesLess (((rd_T54 l0 (wrap64 (x12_1 - 1))).f0).toList) (((rd_T54 l0 x12_1).f0).toList))) ((rd_T54 l0 x12_1).f0) ((rd_T54 l0 x12_1).f1) ((rd_T54 l0 x12_1).f2) ((rd_T54 l0 x12_1).f3)) else (none)) else (none)) else (impl_ValidStages.j1 k1 l0 l0 (l0.length : Int) x12_1 false ((rd_T54 l0 x12_1).f0) ((rd_T54 l0 x12_1).f1) ((rd_T54 l0 x12_1).f2) ((rd_T54 l0 x12_1).f3)))) else (impl_ValidStages.j1 k1 l0 l0 (l0.length : Int) x12_1 true ((rd_T54 l0 x12_1).f0) ((rd_T54 l0 x12_1).f1) ((rd_T54 l0 x12_1).f2) ((rd_T54 l0 x12_1).f3)))) else (impl_ValidStages.j1 k1 l0 l0 (l0.length : Int) x12_1 true ((rd_T54 l0 x12_1).f0) ((rd_T54 l0 x12_1).f1) ((rd_T54 l0 x12_1).f2) ((rd_T54 l0 x12_1).f3)))) = some r := by rw [if_pos rfl] at H; exact H
         clear H
         have H := H1
         clear H1
         replace H := Option.bind_eq_some_iff.mp H
         obtain ⟨t213, A110, H⟩ := H
         replace H : (if t213 = true then ((impl_within.f ((rd_T54 l0 x12_1).f2) 0 1000000).bind fun t214 => (if t214 = true then (if (((rd_T54 l0 x12_1).f3).length : Int) > 8 then (impl_ValidStages.j1 k1 l0 l0 (l0.length : Int) x12_1 true ((rd_T54 l0 x12_1).f0) ((rd_T54 l0 x12_1).f1) ((rd_T54 l0 x12_1).f2) ((rd_T54 l0 x12_1).f3)) else (if x12_1 > 0 then (if 0 ≤ (wrap64 (x12_1 - 1)) then (if (wrap64 (x12_1 - 1)) < (l0.length : Int) then (impl_ValidStages.j1 k1 l0 l0 (l0.length : Int) x12_1 (!(Op.bytesLess (((rd_T54 l0 (wrap64 (x12_1 - 1))).f0).toList) (((rd_T54 l0 x12_1).f0).toList))) ((rd_T54 l0 x12_1).f0) ((rd_T54 l0 x12_1).f1) ((rd_T54 l0 x12_1).f2) ((rd_T54 l0 x12_1).f3)) else (none)) else (none)) else (impl_ValidStages.j1 k1 l0 l0 (l0.length : Int) x12_1 false ((rd_T54 l0 x12_1).f0) ((rd_T54 l0 x12_1).f1) ((rd_T54 l0 x12_1).f2) ((rd_T54 l0 x12_1).f3)))) else (impl_ValidStages.j1 k1 l0 l0 (l0.length : Int) x12_1 true ((rd_T54 l0 x12_1).f0) ((rd_T54 l0 x12_1).f1) ((rd_T54 l0 x12_1).f2) ((rd_T54 l0 x12_1).f3)))) else (impl_ValidStages.j1 k1 l0 l0 (l0.length : Int) x12_1 true ((rd_T54 l0 x12_1).f0) ((rd_T54 l0 x12_1).f1) ((rd_T54 l0 x12_1).f2) ((rd_T54 l0 x12_1).f3))) = some r := H
         have A11 := Aside0.mk A110
         clear A110
         by_cases c12 : t213 = true
         ·subst c12
          have H1 : ((impl_within.f ((rd_T54 l0 x12_1).f2) 0 1000000).bind fun t214 => (if t214 = true then (if (((rd_T54 l0 x12_1).f3).length : Int) > 8 then (impl_ValidStages.j1 k1 l0 l0 (l0.length : Int) x12_1 true ((rd_T54 l0 x12_1).f0) ((rd_T54 l0 x12_1).f1) ((rd_T54 l0 x12_1).f2) ((rd_T54 l0 x12_1).f3)) else (if x12_1 > 0 then (if 0 ≤ (wrap64 (x12_1 - 1)) then (if (wrap64 (x12_1 - 1)) < (l0.length : Int) then (impl_ValidStages.j1 k1 l0 l0 (l0.length : Int) x12_1 (!(Op.bytesLess (((rd_T54 l0 (wrap64 (x12_1 - 1))).f0).toList) (((rd_T54 l0 x12_1).f0).toList))) ((rd_T54 l0 x12_1).f0) ((rd_T54 l0 x12_1).f1) ((rd_T54 l0 x12_1).f2) ((rd_T54 l0 x12_1).f3)) else (none)) else (none)) else (impl_ValidStages.j1 k1 l0 l0 (l0.length : Int) x12_1 false ((rd_T54 l0 x12_1).f0) ((rd_T54 l0 x12_1).f1) ((rd_T54 l0 x12_1).f2) ((rd_T54 l0 x12_1).f3)))) else (impl_ValidStages.j1 k1 l0 l0 (l0.length : Int) x12_1 true ((rd_T54 l0 x12_1).f0) ((rd_T54 l0 x12_1).f1) ((rd_T54 l0 x12_1).f2) ((rd_T54 l0 x12_1).f3)))) = some r := by rw [if_pos rfl] at H; exact H
          clear H
          have H := H1
          clear H1
          replace H := Option.bind_eq_some_iff.mp H
          obtain ⟨t214, A130, H⟩ := H
          replace H : (if t214 = true then (if (((rd_T54 l0 x12_1).f3).length : Int) > 8 then (impl_ValidStages.j1 k1 l0 l0 (l0.length : Int) x12_1 true ((rd_T54 l0 x12_1).f0) ((rd_T54 l0 x12_1).f1) ((rd_T54 l0 x12_1).f2) ((rd_T54 l0 x12_1).f3)) else (if x12_1 > 0 then (if 0 ≤ (wrap64 (x12_1 - 1)) then (if (wrap64 (x12_1 - 1)) < (l0.length : Int) then (impl_ValidStages.j1 k1 l0 l0 (l0.length : Int) x12_1 (!(Op.bytesLess (((rd_T54 l0 (wrap64 (x12_1 - 1))).f0).toList) (((rd_T54 l0 x12_1).f0).toList))) ((rd_T54 l0 x12_1).f0) ((rd_T54 l0 x12_1).f1) ((rd_T54 l0 x12_1).f2) ((rd_T54 l0 x12_1).f3)) else (none)) else (none)) else (impl_ValidStages.j1 k1 l0 l0 (l0.length : Int) x12_1 false ((rd_T54 l0 x12_1).f0) ((rd_T54 l0 x12_1).f1) ((rd_T54 l0 x12_1).f2) ((rd_T54 l0 x12_1).f3)))) else (impl_ValidStages.j1 k1 l0 l0 (l0.length : Int) x12_1 true ((rd_T54 l0 x12_1).f0) ((rd_T54 l0 x12_1).f1) ((rd_T54 l0 x12_1).f2) ((rd_T54 l0 x12_1).f3))) = some r := H
          have A13 := Aside0.mk A130
          clear A130
          by_cases c14 : t214 = true
          ·subst c14
           have H1 : (if (((rd_T54 l0 x12_1).f3).length : Int) > 8 then (impl_ValidStages.j1 k1 l0 l0 (l0.length : Int) x12_1 true ((rd_T54 l0 x12_1).f0) ((rd_T54 l0 x12_1).f1) ((rd_T54 l0 x12_1).f2) ((rd_T54 l0 x12_1).f3)) else (if x12_1 > 0 then (if 0 ≤ (wrap64 (x12_1 - 1)) then (if (wrap64 (x12_1 - 1)) < (l0.length : Int) then (impl_ValidStages.j1 k1 l0 l0 (l0.length : Int) x12_1 (!(Op.bytesLess (((rd_T54 l0 (wrap64 (x12_1 - 1))).f0).toList) (((rd_T54 l0 x12_1).f0).toList))) ((rd_T54 l0 x12_1).f0) ((rd_T54 l0 x12_1).f1) ((rd_T54 l0 x12_1).f2) ((rd_T54 l0 x12_1).f3)) else (none)) else (none)) else (impl_ValidStages.j1 k1 l0 l0 (l0.length : Int) x12_1 false ((rd_T54 l0 x12_1).f0) ((rd_T54 l0 x12_1).f1) ((rd_T54 l0 x12_1).f2) ((rd_T54 l0 x12_1).f3)))) = some r := by rw [if_pos rfl] at H; exact H
           clear H
           have H := H1
           clear H1
           by_cases c15 : (((rd_T54 l0 x12_1).f3).length : Int) > 8
           ·rw [if_pos c15] at H
            have c15b0 : decide (8 < (((rd_T54 l0 x12_1).f3).length : Int)) = true := decide_eq_true c15
            have c15b1 : decide (8 < ((rd_T54 l0 x12_1).f3).length) = true := decide_eq_true t7_
            clear c15
            (first | rw [c15b0] | (simp only [i64_w, i32_w]; rw [c15b0]) | skip)
            have H' := Aside0.mk H
            clear H
            try go_wp2
            have n0_ : Aside0 (((((w7.setCell ⟨gb211, 0, none⟩ (.string ((rd_T54 l0 x12_1).f0))).setCell ⟨gb211, 1, none⟩ (.int .i64 ((rd_T54 l0 x12_1).f1))).setCell ⟨gb211, 2, none⟩ (.int .i64 ((rd_T54 l0 x12_1).f2))).setCell ⟨gb211, 3, none⟩ (.slice A210_3 ((rd_T54 l0 x12_1).f3).length c210_3)).heap[gb211]? = some (.cells #[.string ((rd_T54 l0 x12_1).f0), .int .i64 ((rd_T54 l0 x12_1).f1), .int .i64 ((rd_T54 l0 x12_1).f2), .slice A210_3 ((rd_T54 l0 x12_1).f3).length c210_3] 54 (0, 0))) := ⟨by (with_reducible repeat (first | refine blk_drewN ?_ _ | refine blk_drew ?_ | refine blk_alloc ?_ _)); refine blk_put (cs := #[.string ((rd_T54 l0 x12_1).f0), .int .i64 ((rd_T54 l0 x12_1).f1), .int .i64 ((rd_T54 l0 x12_1).f2), .slice none 0 0]) ?_ 3 _ rfl; (with_reducible repeat (first | refine blk_drewN ?_ _ | refine blk_drew ?_ | refine blk_alloc ?_ _)); refine blk_put (cs := #[.string ((rd_T54 l0 x12_1).f0), .int .i64 ((rd_T54 l0 x12_1).f1), .int .i64 0, .slice none 0 0]) ?_ 2 _ rfl; (with_reducible repeat (first | refine blk_drewN ?_ _ | refine blk_drew ?_ | refine blk_alloc ?_ _)); refine blk_put (cs := #[.string ((rd_T54 l0 x12_1).f0), .int .i64 0, .int .i64 0, .slice none 0 0]) ?_ 1 _ rfl; (with_reducible repeat (first | refine blk_drewN ?_ _ | refine blk_drew ?_ | refine blk_alloc ?_ _)); refine blk_put (cs := #[.string (⟨#[]⟩ : ByteArray), .int .i64 0, .int .i64 0, .slice none 0 0]) ?_ 0 _ rfl; (with_reducible repeat (first | refine blk_drewN ?_ _ | refine blk_drew ?_ | refine blk_alloc ?_ _)); exact BK211.out⟩
            have n1_ : Aside0 (Below w.heap.size w ((((w7.setCell ⟨gb211, 0, none⟩ (.string ((rd_T54 l0 x12_1).f0))).setCell ⟨gb211, 1, none⟩ (.int .i64 ((rd_T54 l0 x12_1).f1))).setCell ⟨gb211, 2, none⟩ (.int .i64 ((rd_T54 l0 x12_1).f2))).setCell ⟨gb211, 3, none⟩ (.slice A210_3 ((rd_T54 l0 x12_1).f3).length c210_3))) := ⟨by repeat (first | (with_reducible first | exact HB.out | apply below_alloc | apply pw_below_drewN | apply below_drew1 | refine below_set ?_ GE211.out) | exact HB.out)⟩
            (try clear BK211)
            (try clear HB)
            generalize ((((w7.setCell ⟨gb211, 0, none⟩ (.string ((rd_T54 l0 x12_1).f0))).setCell ⟨gb211, 1, none⟩ (.int .i64 ((rd_T54 l0 x12_1).f1))).setCell ⟨gb211, 2, none⟩ (.int .i64 ((rd_T54 l0 x12_1).f2))).setCell ⟨gb211, 3, none⟩ (.slice A210_3 ((rd_T54 l0 x12_1).f3).length c210_3)) = w16 at n0_ n1_ ⊢
            have BK211 := n0_
            have HB := n1_
            clear n0_ n1_
            have n0_ := Aside0.mk (blk_drew BK211.out)
            have n1_ := Aside0.mk (below_drew1 HB.out)
            clear BK211
            clear HB
            have BK211 := n0_
            have HB := n1_
            clear n0_ n1_
            refine start_ (n := 37) (S := fun w' => w'.cell? ⟨gb211, 0, none⟩ = some (.string ((rd_T54 l0 x12_1).f0)) ∧ w'.cell? ⟨gb211, 1, none⟩ = some (.int .i64 ((rd_T54 l0 x12_1).f1)) ∧ w'.cell? ⟨gb211, 2, none⟩ = some (.int .i64 ((rd_T54 l0 x12_1).f2)) ∧ w'.cell? ⟨gb211, 3, none⟩ = some (.slice A210_3 ((rd_T54 l0 x12_1).f3).length c210_3)) (ds := []) (tf 0 37) t6_ rfl rfl ⟨(blk_cell BK211.out 0).trans rfl, (blk_cell BK211.out 1).trans rfl, (blk_cell BK211.out 2).trans rfl, (blk_cell BK211.out 3).trans rfl⟩ (fun hHeld => ?_); refine with_tabW impl_ValidStages.tab6 impl_ValidStages.bits6 (fun HT_ HW_ => ?_)
            generalize w16.drew = w17 at BK211 HB hHeld ⊢
            refine px 0 (some 17) (tf 1 37) HT_ ?_
            refine tx (v := ?_) 1 (some 18) (tf 2 37) HT_ HW_ hHeld ?_ ?_
            rotate_left; (· rintro w' ⟨s0, s1, s2, s3⟩; go_simp; with_reducible rfl)
            refine one_ (i := 2) (N := some 19) (tf 3 37) rfl rfl (one_of HT_.out t6_) t12_ (fun K hK => ?_)
            refine goes_ Try.func30 t6_ rfl #[.string ((rd_T54 l0 x12_1).f0)] (by rfl) rfl rfl t2_ ?_
            with_reducible refine (impl_IsName.calls k1 ((rd_T54 l0 x12_1).f0) true _ A9.out).mono ?_
            rintro e w' ⟨rfl, ⟨nd, rfl⟩⟩
            refine ⟨_, rfl, ?_⟩
            refine hK.out _ _ ⟨(blk_cell BK211.out 0).trans rfl, (blk_cell BK211.out 1).trans rfl, (blk_cell BK211.out 2).trans rfl, (blk_cell BK211.out 3).trans rfl⟩ (fun hHeld => ?_)
            clear hK K
            refine norm_ (a' := ?_) ?_ ?_
            rotate_left
            ·show Act.put _ (some 19) _ = _
             simp only [Act.put, List.setIfInBounds_toArray, List.set_cons_zero, List.set_cons_succ, i64_w, i32_w]
             rfl
            refine px 3 (some 20) (tf 4 37) HT_ ?_
            refine px 4 (some 21) (tf 5 37) HT_ ?_
            refine px 5 (some 22) (tf 6 37) HT_ ?_
            refine tx (v := ?_) 6 (some 23) (tf 7 37) HT_ HW_ hHeld ?_ ?_
            rotate_left; (· rintro w' ⟨s0, s1, s2, s3⟩; go_simp; with_reducible rfl)
            refine one_ (i := 7) (N := some 24) (tf 8 37) rfl rfl (one_of HT_.out t6_) t12_ (fun K hK => ?_)
            refine goes_ Try.func31 t6_ rfl #[.int .i64 ((rd_T54 l0 x12_1).f1), .int .i64 1, .int .i64 1000000] (by rfl) rfl rfl t2_ ?_
            with_reducible refine (impl_within.calls ((rd_T54 l0 x12_1).f1) 1 1000000 true _ A11.out).mono ?_
            rintro e w' ⟨rfl, ⟨nd, rfl⟩⟩
            refine ⟨_, rfl, ?_⟩
            refine hK.out _ _ ⟨(blk_cell BK211.out 0).trans rfl, (blk_cell BK211.out 1).trans rfl, (blk_cell BK211.out 2).trans rfl, (blk_cell BK211.out 3).trans rfl⟩ (fun hHeld => ?_)
            clear hK K
            refine norm_ (a' := ?_) ?_ ?_
            rotate_left
            ·show Act.put _ (some 24) _ = _
             simp only [Act.put, List.setIfInBounds_toArray, List.set_cons_zero, List.set_cons_succ, i64_w, i32_w]
             rfl
            refine px 8 (some 25) (tf 9 37) HT_ ?_
            refine px 9 (some 26) (tf 10 37) HT_ ?_
            refine px 10 (some 27) (tf 11 37) HT_ ?_
            refine px 11 (some 28) (tf 12 37) HT_ ?_
            refine tx (v := ?_) 12 (some 29) (tf 13 37) HT_ HW_ hHeld ?_ ?_
            rotate_left; (· rintro w' ⟨s0, s1, s2, s3⟩; go_simp; with_reducible rfl)
            refine one_ (i := 13) (N := some 30) (tf 14 37) rfl rfl (one_of HT_.out t6_) t12_ (fun K hK => ?_)
            refine goes_ Try.func31 t6_ rfl #[.int .i64 ((rd_T54 l0 x12_1).f2), .int .i64 0, .int .i64 1000000] (by rfl) rfl rfl t2_ ?_
            with_reducible refine (impl_within.calls ((rd_T54 l0 x12_1).f2) 0 1000000 true _ A13.out).mono ?_
            rintro e w' ⟨rfl, ⟨nd, rfl⟩⟩
            refine ⟨_, rfl, ?_⟩
            refine hK.out _ _ ⟨(blk_cell BK211.out 0).trans rfl, (blk_cell BK211.out 1).trans rfl, (blk_cell BK211.out 2).trans rfl, (blk_cell BK211.out 3).trans rfl⟩ (fun hHeld => ?_)
            clear hK K
            refine norm_ (a' := ?_) ?_ ?_
            rotate_left
            ·show Act.put _ (some 30) _ = _
             simp only [Act.put, List.setIfInBounds_toArray, List.set_cons_zero, List.set_cons_succ, i64_w, i32_w]
             rfl
            refine px 14 (some 31) (tf 15 37) HT_ ?_
            refine px 15 (some 32) (tf 16 37) HT_ ?_
            refine px 16 (some 33) (tf 17 37) HT_ ?_
            refine px 17 (some 34) (tf 18 37) HT_ ?_
            refine tx (v := ?_) 18 (some 35) (tf 19 37) HT_ HW_ hHeld ?_ ?_
            rotate_left; (· rintro w' ⟨s0, s1, s2, s3⟩; go_simp; with_reducible rfl)
            refine px 19 (some 36) (tf 20 37) HT_ ?_
            refine px 20 (some 37) (tf 21 37) HT_ ?_
            refine px 21 (some 38) (tf 22 37) HT_ ?_
            refine px 22 (some 39) (tf 23 37) HT_ ?_
            refine sx 23 (some 40) (tf 24 37) HT_ ?_
            refine sx 24 (some 41) (tf 25 37) HT_ ?_
            refine sx 25 (some 42) (tf 26 37) HT_ ?_
            refine sx 26 (some 43) (tf 27 37) HT_ ?_
            refine sx 27 (some 44) (tf 28 37) HT_ ?_
            refine sx 28 (some 45) (tf 29 37) HT_ ?_
            refine sx 29 (some 46) (tf 30 37) HT_ ?_
            refine sx 30 (some 47) (tf 31 37) HT_ ?_
            refine sx 31 (some 48) (tf 32 37) HT_ ?_
            refine sx 32 (some 49) (tf 33 37) HT_ ?_
            refine sx 33 (some 50) (tf 34 37) HT_ ?_
            refine sx 34 (some 51) (tf 35 37) HT_ ?_
            refine sx 35 (some 52) (tf 36 37) HT_ ?_
            refine px 36 (some 53) (tf 37 37) HT_ ?_
            refine done_ (done_of HT_.out t6_) ?_
            try go_wp2
            go_meet
            case rel => exact ⟨_, (true), t4_, H', ⟨by have := HK1.out; first | omega | exact Nat.le_refl _⟩, ⟨by (with_reducible repeat (first | refine blk_drewN ?_ _ | refine blk_drew ?_ | refine blk_alloc ?_ _)); exact BK211.out⟩, ⟨by repeat (first | (with_reducible first | exact HB.out | apply below_alloc | apply pw_below_drewN | apply below_drew1 | refine below_set ?_ GE211.out) | exact HB.out)⟩⟩
           ·rw [if_neg c15] at H
            have c15b0 : decide (8 < (((rd_T54 l0 x12_1).f3).length : Int)) = false := decide_eq_false c15
            have c15b1 : decide (8 < ((rd_T54 l0 x12_1).f3).length) = false := decide_eq_false t7_
            clear c15
            (first | rw [c15b0] | (simp only [i64_w, i32_w]; rw [c15b0]) | skip)
            by_cases c18 : x12_1 > 0
            ·rw [if_pos c18] at H
             have c18b0 : decide (0 < x12_1) = true := decide_eq_true c18
             clear c18
             obtain ⟨ji19, hji19⟩ : ∃ j_ : Int, (wrap64 (x12_1 - 1)) = j_ := ⟨_, rfl⟩
             replace H : (if 0 ≤ (ji19) then (if (ji19) < (l0.length : Int) then (impl_ValidStages.j1 k1 l0 l0 (l0.length : Int) x12_1 (!(Op.bytesLess (((rd_T54 l0 (ji19)).f0).toList) (((rd_T54 l0 x12_1).f0).toList))) ((rd_T54 l0 x12_1).f0) ((rd_T54 l0 x12_1).f1) ((rd_T54 l0 x12_1).f2) ((rd_T54 l0 x12_1).f3)) else (none)) else (none)) = some r := by first | (rw [hji19] at H; exact H) | (simp only [hji19] at H ⊢; exact H)
             (try rw [hji19] at A9)
             (try rw [hji19] at A11)
             (try rw [hji19] at A13)
             have hji19w : (IntKind.i64.wrap (x12_1 - 1)) = ji19 := (i64_w _).trans hji19
             by_cases c20 : 0 ≤ (ji19)
             ·rw [if_pos c20] at H
              have c20b0 : decide (0 ≤ (ji19)) = true := decide_eq_true c20
              clear c20
              by_cases c21 : (ji19) < (l0.length : Int)
              ·rw [if_pos c21] at H
               have c21b0 : decide ((ji19) < (l0.length : Int)) = true := decide_eq_true c21
               clear c21
               have H' := Aside0.mk H
               clear H
               try go_wp2
               have n0_ : Aside0 (((((w7.setCell ⟨gb211, 0, none⟩ (.string ((rd_T54 l0 x12_1).f0))).setCell ⟨gb211, 1, none⟩ (.int .i64 ((rd_T54 l0 x12_1).f1))).setCell ⟨gb211, 2, none⟩ (.int .i64 ((rd_T54 l0 x12_1).f2))).setCell ⟨gb211, 3, none⟩ (.slice A210_3 ((rd_T54 l0 x12_1).f3).length c210_3)).heap[gb211]? = some (.cells #[.string ((rd_T54 l0 x12_1).f0), .int .i64 ((rd_T54 l0 x12_1).f1), .int .i64 ((rd_T54 l0 x12_1).f2), .slice A210_3 ((rd_T54 l0 x12_1).f3).length c210_3] 54 (0, 0))) := ⟨by (with_reducible repeat (first | refine blk_drewN ?_ _ | refine blk_drew ?_ | refine blk_alloc ?_ _)); refine blk_put (cs := #[.string ((rd_T54 l0 x12_1).f0), .int .i64 ((rd_T54 l0 x12_1).f1), .int .i64 ((rd_T54 l0 x12_1).f2), .slice none 0 0]) ?_ 3 _ rfl; (with_reducible repeat (first | refine blk_drewN ?_ _ | refine blk_drew ?_ | refine blk_alloc ?_ _)); refine blk_put (cs := #[.string ((rd_T54 l0 x12_1).f0), .int .i64 ((rd_T54 l0 x12_1).f1), .int .i64 0, .slice none 0 0]) ?_ 2 _ rfl; (with_reducible repeat (first | refine blk_drewN ?_ _ | refine blk_drew ?_ | refine blk_alloc ?_ _)); refine blk_put (cs := #[.string ((rd_T54 l0 x12_1).f0), .int .i64 0, .int .i64 0, .slice none 0 0]) ?_ 1 _ rfl; (with_reducible repeat (first | refine blk_drewN ?_ _ | refine blk_drew ?_ | refine blk_alloc ?_ _)); refine blk_put (cs := #[.string (⟨#[]⟩ : ByteArray), .int .i64 0, .int .i64 0, .slice none 0 0]) ?_ 0 _ rfl; (with_reducible repeat (first | refine blk_drewN ?_ _ | refine blk_drew ?_ | refine blk_alloc ?_ _)); exact BK211.out⟩
               have n1_ : Aside0 (Below w.heap.size w ((((w7.setCell ⟨gb211, 0, none⟩ (.string ((rd_T54 l0 x12_1).f0))).setCell ⟨gb211, 1, none⟩ (.int .i64 ((rd_T54 l0 x12_1).f1))).setCell ⟨gb211, 2, none⟩ (.int .i64 ((rd_T54 l0 x12_1).f2))).setCell ⟨gb211, 3, none⟩ (.slice A210_3 ((rd_T54 l0 x12_1).f3).length c210_3))) := ⟨by repeat (first | (with_reducible first | exact HB.out | apply below_alloc | apply pw_below_drewN | apply below_drew1 | refine below_set ?_ GE211.out) | exact HB.out)⟩
               (try clear BK211)
               (try clear HB)
               generalize ((((w7.setCell ⟨gb211, 0, none⟩ (.string ((rd_T54 l0 x12_1).f0))).setCell ⟨gb211, 1, none⟩ (.int .i64 ((rd_T54 l0 x12_1).f1))).setCell ⟨gb211, 2, none⟩ (.int .i64 ((rd_T54 l0 x12_1).f2))).setCell ⟨gb211, 3, none⟩ (.slice A210_3 ((rd_T54 l0 x12_1).f3).length c210_3)) = w22 at n0_ n1_ ⊢
               have BK211 := n0_
               have HB := n1_
               clear n0_ n1_
               have n0_ := Aside0.mk (blk_drew BK211.out)
               have n1_ := Aside0.mk (below_drew1 HB.out)
               clear BK211
               clear HB
               have BK211 := n0_
               have HB := n1_
               clear n0_ n1_
               have p215 : 0 ≤ ((ji19) : Int) := of_decide_eq_true t3_
               have q215 : (ji19) < (l0.length : Int) := of_decide_eq_true t3_
               obtain ⟨ad215, A215_3, c215_3, e215, hx215_0, hx215_1, hx215_2, hx215_3, hl215_3, hi215_3⟩ := at_T54 HR0.out (ji19) p215 q215
               have hw215_3 := hx215_3
               have hw215_2 := hx215_2
               have hw215_1 := hx215_1
               have hw215_0 := hx215_0
               obtain rfl : ad210 = ad215 := (by injection e215)
               replace hx215_0 := (HB.out.cell (World.block_lt_of_cell? w _ hx215_0)).trans hx215_0
               replace hx215_1 := (HB.out.cell (World.block_lt_of_cell? w _ hx215_1)).trans hx215_1
               replace hx215_2 := (HB.out.cell (World.block_lt_of_cell? w _ hx215_2)).trans hx215_2
               replace hx215_3 := (HB.out.cell (World.block_lt_of_cell? w _ hx215_3)).trans hx215_3
               have HR215_3 := Aside0.mk hi215_3
               have HC215_3 := Aside0.mk hl215_3
               clear hi215_3 hl215_3
               replace p215 := eq_true p215
               replace q215 := eq_true q215
               refine start_ (n := 37) (S := fun w' => w'.cell? ⟨gb211, 0, none⟩ = some (.string ((rd_T54 l0 x12_1).f0)) ∧ w'.cell? ⟨gb211, 1, none⟩ = some (.int .i64 ((rd_T54 l0 x12_1).f1)) ∧ w'.cell? ⟨gb211, 2, none⟩ = some (.int .i64 ((rd_T54 l0 x12_1).f2)) ∧ w'.cell? ⟨gb211, 3, none⟩ = some (.slice A210_3 ((rd_T54 l0 x12_1).f3).length c210_3) ∧ w'.cell? (ad210.add (((ji19)).toNat * 4)) = some (.string ((rd_T54 l0 (ji19)).f0)) ∧ w'.cell? ⟨(ad210.add (((ji19)).toNat * 4)).block, (ad210.add (((ji19)).toNat * 4)).off + 1, none⟩ = some (.int .i64 ((rd_T54 l0 (ji19)).f1)) ∧ w'.cell? ⟨(ad210.add (((ji19)).toNat * 4)).block, (ad210.add (((ji19)).toNat * 4)).off + 2, none⟩ = some (.int .i64 ((rd_T54 l0 (ji19)).f2)) ∧ w'.cell? ⟨(ad210.add (((ji19)).toNat * 4)).block, (ad210.add (((ji19)).toNat * 4)).off + 3, none⟩ = some (.slice A215_3 ((rd_T54 l0 (ji19)).f3).length c215_3)) (ds := []) (tf 0 37) t6_ rfl rfl ⟨(blk_cell BK211.out 0).trans rfl, (blk_cell BK211.out 1).trans rfl, (blk_cell BK211.out 2).trans rfl, (blk_cell BK211.out 3).trans rfl, ((HB.out.cell (World.block_lt_of_cell? w _ hw215_0)).trans hw215_0), ((HB.out.cell (World.block_lt_of_cell? w _ hw215_1)).trans hw215_1), ((HB.out.cell (World.block_lt_of_cell? w _ hw215_2)).trans hw215_2), ((HB.out.cell (World.block_lt_of_cell? w _ hw215_3)).trans hw215_3)⟩ (fun hHeld => ?_); refine with_tabW impl_ValidStages.tab6 impl_ValidStages.bits6 (fun HT_ HW_ => ?_)
               generalize w22.drew = w23 at BK211 HB HR215_3 hx215_0 hx215_1 hx215_2 hx215_3 hHeld ⊢
               refine px 0 (some 17) (tf 1 37) HT_ ?_
               refine tx (v := ?_) 1 (some 18) (tf 2 37) HT_ HW_ hHeld ?_ ?_
               rotate_left; (· rintro w' ⟨s0, s1, s2, s3, s4, s5, s6, s7⟩; go_simp; with_reducible rfl)
               refine one_ (i := 2) (N := some 19) (tf 3 37) rfl rfl (one_of HT_.out t6_) t12_ (fun K hK => ?_)
               refine goes_ Try.func30 t6_ rfl #[.string ((rd_T54 l0 x12_1).f0)] (by rfl) rfl rfl t2_ ?_
               with_reducible refine (impl_IsName.calls k1 ((rd_T54 l0 x12_1).f0) true _ A9.out).mono ?_
               rintro e w' ⟨rfl, ⟨nd, rfl⟩⟩
               refine ⟨_, rfl, ?_⟩
               refine hK.out _ _ ⟨(blk_cell BK211.out 0).trans rfl, (blk_cell BK211.out 1).trans rfl, (blk_cell BK211.out 2).trans rfl, (blk_cell BK211.out 3).trans rfl, ((HB.out.cell (World.block_lt_of_cell? w _ hw215_0)).trans hw215_0), ((HB.out.cell (World.block_lt_of_cell? w _ hw215_1)).trans hw215_1), ((HB.out.cell (World.block_lt_of_cell? w _ hw215_2)).trans hw215_2), ((HB.out.cell (World.block_lt_of_cell? w _ hw215_3)).trans hw215_3)⟩ (fun hHeld => ?_)
               clear hK K
               refine norm_ (a' := ?_) ?_ ?_
               rotate_left
               ·show Act.put _ (some 19) _ = _
                simp only [Act.put, List.setIfInBounds_toArray, List.set_cons_zero, List.set_cons_succ, i64_w, i32_w]
                rfl
               refine px 3 (some 20) (tf 4 37) HT_ ?_
               refine px 4 (some 21) (tf 5 37) HT_ ?_
               refine px 5 (some 22) (tf 6 37) HT_ ?_
               refine tx (v := ?_) 6 (some 23) (tf 7 37) HT_ HW_ hHeld ?_ ?_
               rotate_left; (· rintro w' ⟨s0, s1, s2, s3, s4, s5, s6, s7⟩; go_simp; with_reducible rfl)
               refine one_ (i := 7) (N := some 24) (tf 8 37) rfl rfl (one_of HT_.out t6_) t12_ (fun K hK => ?_)
               refine goes_ Try.func31 t6_ rfl #[.int .i64 ((rd_T54 l0 x12_1).f1), .int .i64 1, .int .i64 1000000] (by rfl) rfl rfl t2_ ?_
               with_reducible refine (impl_within.calls ((rd_T54 l0 x12_1).f1) 1 1000000 true _ A11.out).mono ?_
               rintro e w' ⟨rfl, ⟨nd, rfl⟩⟩
               refine ⟨_, rfl, ?_⟩
               refine hK.out _ _ ⟨(blk_cell BK211.out 0).trans rfl, (blk_cell BK211.out 1).trans rfl, (blk_cell BK211.out 2).trans rfl, (blk_cell BK211.out 3).trans rfl, ((HB.out.cell (World.block_lt_of_cell? w _ hw215_0)).trans hw215_0), ((HB.out.cell (World.block_lt_of_cell? w _ hw215_1)).trans hw215_1), ((HB.out.cell (World.block_lt_of_cell? w _ hw215_2)).trans hw215_2), ((HB.out.cell (World.block_lt_of_cell? w _ hw215_3)).trans hw215_3)⟩ (fun hHeld => ?_)
               clear hK K
               refine norm_ (a' := ?_) ?_ ?_
               rotate_left
               ·show Act.put _ (some 24) _ = _
                simp only [Act.put, List.setIfInBounds_toArray, List.set_cons_zero, List.set_cons_succ, i64_w, i32_w]
                rfl
               refine px 8 (some 25) (tf 9 37) HT_ ?_
               refine px 9 (some 26) (tf 10 37) HT_ ?_
               refine px 10 (some 27) (tf 11 37) HT_ ?_
               refine px 11 (some 28) (tf 12 37) HT_ ?_
               refine tx (v := ?_) 12 (some 29) (tf 13 37) HT_ HW_ hHeld ?_ ?_
               rotate_left; (· rintro w' ⟨s0, s1, s2, s3, s4, s5, s6, s7⟩; go_simp; with_reducible rfl)
               refine one_ (i := 13) (N := some 30) (tf 14 37) rfl rfl (one_of HT_.out t6_) t12_ (fun K hK => ?_)
               refine goes_ Try.func31 t6_ rfl #[.int .i64 ((rd_T54 l0 x12_1).f2), .int .i64 0, .int .i64 1000000] (by rfl) rfl rfl t2_ ?_
               with_reducible refine (impl_within.calls ((rd_T54 l0 x12_1).f2) 0 1000000 true _ A13.out).mono ?_
               rintro e w' ⟨rfl, ⟨nd, rfl⟩⟩
               refine ⟨_, rfl, ?_⟩
               refine hK.out _ _ ⟨(blk_cell BK211.out 0).trans rfl, (blk_cell BK211.out 1).trans rfl, (blk_cell BK211.out 2).trans rfl, (blk_cell BK211.out 3).trans rfl, ((HB.out.cell (World.block_lt_of_cell? w _ hw215_0)).trans hw215_0), ((HB.out.cell (World.block_lt_of_cell? w _ hw215_1)).trans hw215_1), ((HB.out.cell (World.block_lt_of_cell? w _ hw215_2)).trans hw215_2), ((HB.out.cell (World.block_lt_of_cell? w _ hw215_3)).trans hw215_3)⟩ (fun hHeld => ?_)
               clear hK K
               refine norm_ (a' := ?_) ?_ ?_
               rotate_left
               ·show Act.put _ (some 30) _ = _
                simp only [Act.put, List.setIfInBounds_toArray, List.set_cons_zero, List.set_cons_succ, i64_w, i32_w]
                rfl
               refine px 14 (some 31) (tf 15 37) HT_ ?_
               refine px 15 (some 32) (tf 16 37) HT_ ?_
               refine px 16 (some 33) (tf 17 37) HT_ ?_
               refine px 17 (some 34) (tf 18 37) HT_ ?_
               refine tx (v := ?_) 18 (some 35) (tf 19 37) HT_ HW_ hHeld ?_ ?_
               rotate_left; (· rintro w' ⟨s0, s1, s2, s3, s4, s5, s6, s7⟩; go_simp; with_reducible rfl)
               refine px 19 (some 36) (tf 20 37) HT_ ?_
               refine px 20 (some 37) (tf 21 37) HT_ ?_
               refine px 21 (some 38) (tf 22 37) HT_ ?_
               refine px 22 (some 39) (tf 23 37) HT_ ?_
               refine px 23 (some 40) (tf 24 37) HT_ ?_
               refine px 24 (some 41) (tf 25 37) HT_ ?_
               refine px 25 (some 42) (tf 26 37) HT_ ?_
               refine px 26 (some 43) (tf 27 37) HT_ ?_
               refine px 28 (some 45) (tb 37 402653183) HT_ ?_
               refine px 29 (some 46) (tb 37 939524095) HT_ ?_
               refine px 30 (some 47) (tb 37 2013265919) HT_ ?_
               refine px 31 (some 48) (tb 37 4160749567) HT_ ?_
               refine px 32 (some 49) (tb 37 8455716863) HT_ ?_
               refine tx (v := ?_) 27 (some 44) (tf 33 37) HT_ HW_ hHeld ?_ ?_
               rotate_left; (· rintro w' ⟨s0, s1, s2, s3, s4, s5, s6, s7⟩; go_simp; with_reducible rfl)
               refine tx (v := ?_) 33 (some 50) (tf 34 37) HT_ HW_ hHeld ?_ ?_
               rotate_left; (· rintro w' ⟨s0, s1, s2, s3, s4, s5, s6, s7⟩; go_simp; with_reducible rfl)
               refine px 34 (some 51) (tf 35 37) HT_ ?_
               refine px 35 (some 52) (tf 36 37) HT_ ?_
               refine px 36 (some 53) (tf 37 37) HT_ ?_
               refine done_ (done_of HT_.out t6_) ?_
               try go_wp2
               go_meet
               case rel => exact ⟨_, (!(Op.bytesLess (((rd_T54 l0 (ji19)).f0).toList) (((rd_T54 l0 x12_1).f0).toList))), (by first | rfl | (simp; done) | (simp only [← hji19] <;> (first | rfl | simp)) | (simp [*]; done)), H', ⟨by have := HK1.out; first | omega | exact Nat.le_refl _⟩, ⟨by (with_reducible repeat (first | refine blk_drewN ?_ _ | refine blk_drew ?_ | refine blk_alloc ?_ _)); exact BK211.out⟩, ⟨by repeat (first | (with_reducible first | exact HB.out | apply below_alloc | apply pw_below_drewN | apply below_drew1 | refine below_set ?_ GE211.out) | exact HB.out)⟩⟩
              ·rw [if_neg c21] at H
               exact absurd H t17_
             ·rw [if_neg c20] at H
              exact absurd H t17_
            ·rw [if_neg c18] at H
             have c18b0 : decide (0 < x12_1) = false := decide_eq_false c18
             clear c18
             have H' := Aside0.mk H
             clear H
             try go_wp2
             have n0_ : Aside0 (((((w7.setCell ⟨gb211, 0, none⟩ (.string ((rd_T54 l0 x12_1).f0))).setCell ⟨gb211, 1, none⟩ (.int .i64 ((rd_T54 l0 x12_1).f1))).setCell ⟨gb211, 2, none⟩ (.int .i64 ((rd_T54 l0 x12_1).f2))).setCell ⟨gb211, 3, none⟩ (.slice A210_3 ((rd_T54 l0 x12_1).f3).length c210_3)).heap[gb211]? = some (.cells #[.string ((rd_T54 l0 x12_1).f0), .int .i64 ((rd_T54 l0 x12_1).f1), .int .i64 ((rd_T54 l0 x12_1).f2), .slice A210_3 ((rd_T54 l0 x12_1).f3).length c210_3] 54 (0, 0))) := ⟨by (with_reducible repeat (first | refine blk_drewN ?_ _ | refine blk_drew ?_ | refine blk_alloc ?_ _)); refine blk_put (cs := #[.string ((rd_T54 l0 x12_1).f0), .int .i64 ((rd_T54 l0 x12_1).f1), .int .i64 ((rd_T54 l0 x12_1).f2), .slice none 0 0]) ?_ 3 _ rfl; (with_reducible repeat (first | refine blk_drewN ?_ _ | refine blk_drew ?_ | refine blk_alloc ?_ _)); refine blk_put (cs := #[.string ((rd_T54 l0 x12_1).f0), .int .i64 ((rd_T54 l0 x12_1).f1), .int .i64 0, .slice none 0 0]) ?_ 2 _ rfl; (with_reducible repeat (first | refine blk_drewN ?_ _ | refine blk_drew ?_ | refine blk_alloc ?_ _)); refine blk_put (cs := #[.string ((rd_T54 l0 x12_1).f0), .int .i64 0, .int .i64 0, .slice none 0 0]) ?_ 1 _ rfl; (with_reducible repeat (first | refine blk_drewN ?_ _ | refine blk_drew ?_ | refine blk_alloc ?_ _)); refine blk_put (cs := #[.string (⟨#[]⟩ : ByteArray), .int .i64 0, .int .i64 0, .slice none 0 0]) ?_ 0 _ rfl; (with_reducible repeat (first | refine blk_drewN ?_ _ | refine blk_drew ?_ | refine blk_alloc ?_ _)); exact BK211.out⟩
             have n1_ : Aside0 (Below w.heap.size w ((((w7.setCell ⟨gb211, 0, none⟩ (.string ((rd_T54 l0 x12_1).f0))).setCell ⟨gb211, 1, none⟩ (.int .i64 ((rd_T54 l0 x12_1).f1))).setCell ⟨gb211, 2, none⟩ (.int .i64 ((rd_T54 l0 x12_1).f2))).setCell ⟨gb211, 3, none⟩ (.slice A210_3 ((rd_T54 l0 x12_1).f3).length c210_3))) := ⟨by repeat (first | (with_reducible first | exact HB.out | apply below_alloc | apply pw_below_drewN | apply below_drew1 | refine below_set ?_ GE211.out) | exact HB.out)⟩
             (try clear BK211)
             (try clear HB)
             generalize ((((w7.setCell ⟨gb211, 0, none⟩ (.string ((rd_T54 l0 x12_1).f0))).setCell ⟨gb211, 1, none⟩ (.int .i64 ((rd_T54 l0 x12_1).f1))).setCell ⟨gb211, 2, none⟩ (.int .i64 ((rd_T54 l0 x12_1).f2))).setCell ⟨gb211, 3, none⟩ (.slice A210_3 ((rd_T54 l0 x12_1).f3).length c210_3)) = w24 at n0_ n1_ ⊢
             have BK211 := n0_
             have HB := n1_
             clear n0_ n1_
             have n0_ := Aside0.mk (blk_drew BK211.out)
             have n1_ := Aside0.mk (below_drew1 HB.out)
             clear BK211
             clear HB
             have BK211 := n0_
             have HB := n1_
             clear n0_ n1_
             refine start_ (n := 37) (S := fun w' => w'.cell? ⟨gb211, 0, none⟩ = some (.string ((rd_T54 l0 x12_1).f0)) ∧ w'.cell? ⟨gb211, 1, none⟩ = some (.int .i64 ((rd_T54 l0 x12_1).f1)) ∧ w'.cell? ⟨gb211, 2, none⟩ = some (.int .i64 ((rd_T54 l0 x12_1).f2)) ∧ w'.cell? ⟨gb211, 3, none⟩ = some (.slice A210_3 ((rd_T54 l0 x12_1).f3).length c210_3)) (ds := []) (tf 0 37) t6_ rfl rfl ⟨(blk_cell BK211.out 0).trans rfl, (blk_cell BK211.out 1).trans rfl, (blk_cell BK211.out 2).trans rfl, (blk_cell BK211.out 3).trans rfl⟩ (fun hHeld => ?_); refine with_tabW impl_ValidStages.tab6 impl_ValidStages.bits6 (fun HT_ HW_ => ?_)
             generalize w24.drew = w25 at BK211 HB hHeld ⊢
             refine px 0 (some 17) (tf 1 37) HT_ ?_
             refine tx (v := ?_) 1 (some 18) (tf 2 37) HT_ HW_ hHeld ?_ ?_
             rotate_left; (· rintro w' ⟨s0, s1, s2, s3⟩; go_simp; with_reducible rfl)
             refine one_ (i := 2) (N := some 19) (tf 3 37) rfl rfl (one_of HT_.out t6_) t12_ (fun K hK => ?_)
             refine goes_ Try.func30 t6_ rfl #[.string ((rd_T54 l0 x12_1).f0)] (by rfl) rfl rfl t2_ ?_
             with_reducible refine (impl_IsName.calls k1 ((rd_T54 l0 x12_1).f0) true _ A9.out).mono ?_
             rintro e w' ⟨rfl, ⟨nd, rfl⟩⟩
             refine ⟨_, rfl, ?_⟩
             refine hK.out _ _ ⟨(blk_cell BK211.out 0).trans rfl, (blk_cell BK211.out 1).trans rfl, (blk_cell BK211.out 2).trans rfl, (blk_cell BK211.out 3).trans rfl⟩ (fun hHeld => ?_)
             clear hK K
             refine norm_ (a' := ?_) ?_ ?_
             rotate_left
             ·show Act.put _ (some 19) _ = _
              simp only [Act.put, List.setIfInBounds_toArray, List.set_cons_zero, List.set_cons_succ, i64_w, i32_w]
              rfl
             refine px 3 (some 20) (tf 4 37) HT_ ?_
             refine px 4 (some 21) (tf 5 37) HT_ ?_
             refine px 5 (some 22) (tf 6 37) HT_ ?_
             refine tx (v := ?_) 6 (some 23) (tf 7 37) HT_ HW_ hHeld ?_ ?_
             rotate_left; (· rintro w' ⟨s0, s1, s2, s3⟩; go_simp; with_reducible rfl)
             refine one_ (i := 7) (N := some 24) (tf 8 37) rfl rfl (one_of HT_.out t6_) t12_ (fun K hK => ?_)
             refine goes_ Try.func31 t6_ rfl #[.int .i64 ((rd_T54 l0 x12_1).f1), .int .i64 1, .int .i64 1000000] (by rfl) rfl rfl t2_ ?_
             with_reducible refine (impl_within.calls ((rd_T54 l0 x12_1).f1) 1 1000000 true _ A11.out).mono ?_
             rintro e w' ⟨rfl, ⟨nd, rfl⟩⟩
             refine ⟨_, rfl, ?_⟩
             refine hK.out _ _ ⟨(blk_cell BK211.out 0).trans rfl, (blk_cell BK211.out 1).trans rfl, (blk_cell BK211.out 2).trans rfl, (blk_cell BK211.out 3).trans rfl⟩ (fun hHeld => ?_)
             clear hK K
             refine norm_ (a' := ?_) ?_ ?_
             rotate_left
             ·show Act.put _ (some 24) _ = _
              simp only [Act.put, List.setIfInBounds_toArray, List.set_cons_zero, List.set_cons_succ, i64_w, i32_w]
              rfl
             refine px 8 (some 25) (tf 9 37) HT_ ?_
             refine px 9 (some 26) (tf 10 37) HT_ ?_
             refine px 10 (some 27) (tf 11 37) HT_ ?_
             refine px 11 (some 28) (tf 12 37) HT_ ?_
             refine tx (v := ?_) 12 (some 29) (tf 13 37) HT_ HW_ hHeld ?_ ?_
             rotate_left; (· rintro w' ⟨s0, s1, s2, s3⟩; go_simp; with_reducible rfl)
             refine one_ (i := 13) (N := some 30) (tf 14 37) rfl rfl (one_of HT_.out t6_) t12_ (fun K hK => ?_)
             refine goes_ Try.func31 t6_ rfl #[.int .i64 ((rd_T54 l0 x12_1).f2), .int .i64 0, .int .i64 1000000] (by rfl) rfl rfl t2_ ?_
             with_reducible refine (impl_within.calls ((rd_T54 l0 x12_1).f2) 0 1000000 true _ A13.out).mono ?_
             rintro e w' ⟨rfl, ⟨nd, rfl⟩⟩
             refine ⟨_, rfl, ?_⟩
             refine hK.out _ _ ⟨(blk_cell BK211.out 0).trans rfl, (blk_cell BK211.out 1).trans rfl, (blk_cell BK211.out 2).trans rfl, (blk_cell BK211.out 3).trans rfl⟩ (fun hHeld => ?_)
             clear hK K
             refine norm_ (a' := ?_) ?_ ?_
             rotate_left
             ·show Act.put _ (some 30) _ = _
              simp only [Act.put, List.setIfInBounds_toArray, List.set_cons_zero, List.set_cons_succ, i64_w, i32_w]
              rfl
             refine px 14 (some 31) (tf 15 37) HT_ ?_
             refine px 15 (some 32) (tf 16 37) HT_ ?_
             refine px 16 (some 33) (tf 17 37) HT_ ?_
             refine px 17 (some 34) (tf 18 37) HT_ ?_
             refine tx (v := ?_) 18 (some 35) (tf 19 37) HT_ HW_ hHeld ?_ ?_
             rotate_left; (· rintro w' ⟨s0, s1, s2, s3⟩; go_simp; with_reducible rfl)
             refine px 19 (some 36) (tf 20 37) HT_ ?_
             refine px 20 (some 37) (tf 21 37) HT_ ?_
             refine px 21 (some 38) (tf 22 37) HT_ ?_
             refine px 22 (some 39) (tf 23 37) HT_ ?_
             refine px 23 (some 40) (tf 24 37) HT_ ?_
             refine px 24 (some 41) (tf 25 37) HT_ ?_
             refine px 25 (some 42) (tf 26 37) HT_ ?_
             refine sx 26 (some 43) (tf 27 37) HT_ ?_
             refine sx 27 (some 44) (tf 28 37) HT_ ?_
             refine sx 28 (some 45) (tf 29 37) HT_ ?_
             refine sx 29 (some 46) (tf 30 37) HT_ ?_
             refine sx 30 (some 47) (tf 31 37) HT_ ?_
             refine sx 31 (some 48) (tf 32 37) HT_ ?_
             refine sx 32 (some 49) (tf 33 37) HT_ ?_
             refine sx 33 (some 50) (tf 34 37) HT_ ?_
             refine sx 34 (some 51) (tf 35 37) HT_ ?_
             refine px 35 (some 52) (tf 36 37) HT_ ?_
             refine px 36 (some 53) (tf 37 37) HT_ ?_
             refine done_ (done_of HT_.out t6_) ?_
             try go_wp2
             go_meet
             case rel => exact ⟨_, (false), t4_, H', ⟨by have := HK1.out; first | omega | exact Nat.le_refl _⟩, ⟨by (with_reducible repeat (first | refine blk_drewN ?_ _ | refine blk_drew ?_ | refine blk_alloc ?_ _)); exact BK211.out⟩, ⟨by repeat (first | (with_reducible first | exact HB.out | apply below_alloc | apply pw_below_drewN | apply below_drew1 | refine below_set ?_ GE211.out) | exact HB.out)⟩⟩
          ·replace c14 := Bool.eq_false_iff.mpr c14
           subst c14
           have H1 : (impl_ValidStages.j1 k1 l0 l0 (l0.length : Int) x12_1 true ((rd_T54 l0 x12_1).f0) ((rd_T54 l0 x12_1).f1) ((rd_T54 l0 x12_1).f2) ((rd_T54 l0 x12_1).f3)) = some r := by rw [if_neg (show ¬ (false = true) by decide)] at H; exact H
           clear H
           have H := H1
           clear H1
           have H' := Aside0.mk H
           clear H
           try go_wp2
           have n0_ : Aside0 (((((w7.setCell ⟨gb211, 0, none⟩ (.string ((rd_T54 l0 x12_1).f0))).setCell ⟨gb211, 1, none⟩ (.int .i64 ((rd_T54 l0 x12_1).f1))).setCell ⟨gb211, 2, none⟩ (.int .i64 ((rd_T54 l0 x12_1).f2))).setCell ⟨gb211, 3, none⟩ (.slice A210_3 ((rd_T54 l0 x12_1).f3).length c210_3)).heap[gb211]? = some (.cells #[.string ((rd_T54 l0 x12_1).f0), .int .i64 ((rd_T54 l0 x12_1).f1), .int .i64 ((rd_T54 l0 x12_1).f2), .slice A210_3 ((rd_T54 l0 x12_1).f3).length c210_3] 54 (0, 0))) := ⟨by (with_reducible repeat (first | refine blk_drewN ?_ _ | refine blk_drew ?_ | refine blk_alloc ?_ _)); refine blk_put (cs := #[.string ((rd_T54 l0 x12_1).f0), .int .i64 ((rd_T54 l0 x12_1).f1), .int .i64 ((rd_T54 l0 x12_1).f2), .slice none 0 0]) ?_ 3 _ rfl; (with_reducible repeat (first | refine blk_drewN ?_ _ | refine blk_drew ?_ | refine blk_alloc ?_ _)); refine blk_put (cs := #[.string ((rd_T54 l0 x12_1).f0), .int .i64 ((rd_T54 l0 x12_1).f1), .int .i64 0, .slice none 0 0]) ?_ 2 _ rfl; (with_reducible repeat (first | refine blk_drewN ?_ _ | refine blk_drew ?_ | refine blk_alloc ?_ _)); refine blk_put (cs := #[.string ((rd_T54 l0 x12_1).f0), .int .i64 0, .int .i64 0, .slice none 0 0]) ?_ 1 _ rfl; (with_reducible repeat (first | refine blk_drewN ?_ _ | refine blk_drew ?_ | refine blk_alloc ?_ _)); refine blk_put (cs := #[.string (⟨#[]⟩ : ByteArray), .int .i64 0, .int .i64 0, .slice none 0 0]) ?_ 0 _ rfl; (with_reducible repeat (first | refine blk_drewN ?_ _ | refine blk_drew ?_ | refine blk_alloc ?_ _)); exact BK211.out⟩
           have n1_ : Aside0 (Below w.heap.size w ((((w7.setCell ⟨gb211, 0, none⟩ (.string ((rd_T54 l0 x12_1).f0))).setCell ⟨gb211, 1, none⟩ (.int .i64 ((rd_T54 l0 x12_1).f1))).setCell ⟨gb211, 2, none⟩ (.int .i64 ((rd_T54 l0 x12_1).f2))).setCell ⟨gb211, 3, none⟩ (.slice A210_3 ((rd_T54 l0 x12_1).f3).length c210_3))) := ⟨by repeat (first | (with_reducible first | exact HB.out | apply below_alloc | apply pw_below_drewN | apply below_drew1 | refine below_set ?_ GE211.out) | exact HB.out)⟩
           (try clear BK211)
           (try clear HB)
           generalize ((((w7.setCell ⟨gb211, 0, none⟩ (.string ((rd_T54 l0 x12_1).f0))).setCell ⟨gb211, 1, none⟩ (.int .i64 ((rd_T54 l0 x12_1).f1))).setCell ⟨gb211, 2, none⟩ (.int .i64 ((rd_T54 l0 x12_1).f2))).setCell ⟨gb211, 3, none⟩ (.slice A210_3 ((rd_T54 l0 x12_1).f3).length c210_3)) = w26 at n0_ n1_ ⊢
           have BK211 := n0_
           have HB := n1_
           clear n0_ n1_
           have n0_ := Aside0.mk (blk_drew BK211.out)
           have n1_ := Aside0.mk (below_drew1 HB.out)
           clear BK211
           clear HB
           have BK211 := n0_
           have HB := n1_
           clear n0_ n1_
           refine start_ (n := 37) (S := fun w' => w'.cell? ⟨gb211, 0, none⟩ = some (.string ((rd_T54 l0 x12_1).f0)) ∧ w'.cell? ⟨gb211, 1, none⟩ = some (.int .i64 ((rd_T54 l0 x12_1).f1)) ∧ w'.cell? ⟨gb211, 2, none⟩ = some (.int .i64 ((rd_T54 l0 x12_1).f2)) ∧ w'.cell? ⟨gb211, 3, none⟩ = some (.slice A210_3 ((rd_T54 l0 x12_1).f3).length c210_3)) (ds := []) (tf 0 37) t6_ rfl rfl ⟨(blk_cell BK211.out 0).trans rfl, (blk_cell BK211.out 1).trans rfl, (blk_cell BK211.out 2).trans rfl, (blk_cell BK211.out 3).trans rfl⟩ (fun hHeld => ?_); refine with_tabW impl_ValidStages.tab6 impl_ValidStages.bits6 (fun HT_ HW_ => ?_)
           generalize w26.drew = w27 at BK211 HB hHeld ⊢
           refine px 0 (some 17) (tf 1 37) HT_ ?_
           refine tx (v := ?_) 1 (some 18) (tf 2 37) HT_ HW_ hHeld ?_ ?_
           rotate_left; (· rintro w' ⟨s0, s1, s2, s3⟩; go_simp; with_reducible rfl)
           refine one_ (i := 2) (N := some 19) (tf 3 37) rfl rfl (one_of HT_.out t6_) t12_ (fun K hK => ?_)
           refine goes_ Try.func30 t6_ rfl #[.string ((rd_T54 l0 x12_1).f0)] (by rfl) rfl rfl t2_ ?_
           with_reducible refine (impl_IsName.calls k1 ((rd_T54 l0 x12_1).f0) true _ A9.out).mono ?_
           rintro e w' ⟨rfl, ⟨nd, rfl⟩⟩
           refine ⟨_, rfl, ?_⟩
           refine hK.out _ _ ⟨(blk_cell BK211.out 0).trans rfl, (blk_cell BK211.out 1).trans rfl, (blk_cell BK211.out 2).trans rfl, (blk_cell BK211.out 3).trans rfl⟩ (fun hHeld => ?_)
           clear hK K
           refine norm_ (a' := ?_) ?_ ?_
           rotate_left
           ·show Act.put _ (some 19) _ = _
            simp only [Act.put, List.setIfInBounds_toArray, List.set_cons_zero, List.set_cons_succ, i64_w, i32_w]
            rfl
           refine px 3 (some 20) (tf 4 37) HT_ ?_
           refine px 4 (some 21) (tf 5 37) HT_ ?_
           refine px 5 (some 22) (tf 6 37) HT_ ?_
           refine tx (v := ?_) 6 (some 23) (tf 7 37) HT_ HW_ hHeld ?_ ?_
           rotate_left; (· rintro w' ⟨s0, s1, s2, s3⟩; go_simp; with_reducible rfl)
           refine one_ (i := 7) (N := some 24) (tf 8 37) rfl rfl (one_of HT_.out t6_) t12_ (fun K hK => ?_)
           refine goes_ Try.func31 t6_ rfl #[.int .i64 ((rd_T54 l0 x12_1).f1), .int .i64 1, .int .i64 1000000] (by rfl) rfl rfl t2_ ?_
           with_reducible refine (impl_within.calls ((rd_T54 l0 x12_1).f1) 1 1000000 true _ A11.out).mono ?_
           rintro e w' ⟨rfl, ⟨nd, rfl⟩⟩
           refine ⟨_, rfl, ?_⟩
           refine hK.out _ _ ⟨(blk_cell BK211.out 0).trans rfl, (blk_cell BK211.out 1).trans rfl, (blk_cell BK211.out 2).trans rfl, (blk_cell BK211.out 3).trans rfl⟩ (fun hHeld => ?_)
           clear hK K
           refine norm_ (a' := ?_) ?_ ?_
           rotate_left
           ·show Act.put _ (some 24) _ = _
            simp only [Act.put, List.setIfInBounds_toArray, List.set_cons_zero, List.set_cons_succ, i64_w, i32_w]
            rfl
           refine px 8 (some 25) (tf 9 37) HT_ ?_
           refine px 9 (some 26) (tf 10 37) HT_ ?_
           refine px 10 (some 27) (tf 11 37) HT_ ?_
           refine px 11 (some 28) (tf 12 37) HT_ ?_
           refine tx (v := ?_) 12 (some 29) (tf 13 37) HT_ HW_ hHeld ?_ ?_
           rotate_left; (· rintro w' ⟨s0, s1, s2, s3⟩; go_simp; with_reducible rfl)
           refine one_ (i := 13) (N := some 30) (tf 14 37) rfl rfl (one_of HT_.out t6_) t12_ (fun K hK => ?_)
           refine goes_ Try.func31 t6_ rfl #[.int .i64 ((rd_T54 l0 x12_1).f2), .int .i64 0, .int .i64 1000000] (by rfl) rfl rfl t2_ ?_
           with_reducible refine (impl_within.calls ((rd_T54 l0 x12_1).f2) 0 1000000 false _ A13.out).mono ?_
           rintro e w' ⟨rfl, ⟨nd, rfl⟩⟩
           refine ⟨_, rfl, ?_⟩
           refine hK.out _ _ ⟨(blk_cell BK211.out 0).trans rfl, (blk_cell BK211.out 1).trans rfl, (blk_cell BK211.out 2).trans rfl, (blk_cell BK211.out 3).trans rfl⟩ (fun hHeld => ?_)
           clear hK K
           refine norm_ (a' := ?_) ?_ ?_
           rotate_left
           ·show Act.put _ (some 30) _ = _
            simp only [Act.put, List.setIfInBounds_toArray, List.set_cons_zero, List.set_cons_succ, i64_w, i32_w]
            rfl
           refine px 14 (some 31) (tf 15 37) HT_ ?_
           refine px 15 (some 32) (tf 16 37) HT_ ?_
           refine px 16 (some 33) (tf 17 37) HT_ ?_
           refine sx 17 (some 34) (tf 18 37) HT_ ?_
           refine sx 18 (some 35) (tf 19 37) HT_ ?_
           refine sx 19 (some 36) (tf 20 37) HT_ ?_
           refine sx 20 (some 37) (tf 21 37) HT_ ?_
           refine px 21 (some 38) (tf 22 37) HT_ ?_
           refine px 22 (some 39) (tf 23 37) HT_ ?_
           refine sx 23 (some 40) (tf 24 37) HT_ ?_
           refine sx 24 (some 41) (tf 25 37) HT_ ?_
           refine sx 25 (some 42) (tf 26 37) HT_ ?_
           refine sx 26 (some 43) (tf 27 37) HT_ ?_
           refine sx 27 (some 44) (tf 28 37) HT_ ?_
           refine sx 28 (some 45) (tf 29 37) HT_ ?_
           refine sx 29 (some 46) (tf 30 37) HT_ ?_
           refine sx 30 (some 47) (tf 31 37) HT_ ?_
           refine sx 31 (some 48) (tf 32 37) HT_ ?_
           refine sx 32 (some 49) (tf 33 37) HT_ ?_
           refine sx 33 (some 50) (tf 34 37) HT_ ?_
           refine sx 34 (some 51) (tf 35 37) HT_ ?_
           refine sx 35 (some 52) (tf 36 37) HT_ ?_
           refine px 36 (some 53) (tf 37 37) HT_ ?_
           refine done_ (done_of HT_.out t6_) ?_
           try go_wp2
           go_meet
           case rel => exact ⟨_, (true), t4_, H', ⟨by have := HK1.out; first | omega | exact Nat.le_refl _⟩, ⟨by (with_reducible repeat (first | refine blk_drewN ?_ _ | refine blk_drew ?_ | refine blk_alloc ?_ _)); exact BK211.out⟩, ⟨by repeat (first | (with_reducible first | exact HB.out | apply below_alloc | apply pw_below_drewN | apply below_drew1 | refine below_set ?_ GE211.out) | exact HB.out)⟩⟩
         ·replace c12 := Bool.eq_false_iff.mpr c12
          subst c12
          have H1 : (impl_ValidStages.j1 k1 l0 l0 (l0.length : Int) x12_1 true ((rd_T54 l0 x12_1).f0) ((rd_T54 l0 x12_1).f1) ((rd_T54 l0 x12_1).f2) ((rd_T54 l0 x12_1).f3)) = some r := by rw [if_neg (show ¬ (false = true) by decide)] at H; exact H
          clear H
          have H := H1
          clear H1
          have H' := Aside0.mk H
          clear H
          try go_wp2
          have n0_ : Aside0 (((((w7.setCell ⟨gb211, 0, none⟩ (.string ((rd_T54 l0 x12_1).f0))).setCell ⟨gb211, 1, none⟩ (.int .i64 ((rd_T54 l0 x12_1).f1))).setCell ⟨gb211, 2, none⟩ (.int .i64 ((rd_T54 l0 x12_1).f2))).setCell ⟨gb211, 3, none⟩ (.slice A210_3 ((rd_T54 l0 x12_1).f3).length c210_3)).heap[gb211]? = some (.cells #[.string ((rd_T54 l0 x12_1).f0), .int .i64 ((rd_T54 l0 x12_1).f1), .int .i64 ((rd_T54 l0 x12_1).f2), .slice A210_3 ((rd_T54 l0 x12_1).f3).length c210_3] 54 (0, 0))) := ⟨by (with_reducible repeat (first | refine blk_drewN ?_ _ | refine blk_drew ?_ | refine blk_alloc ?_ _)); refine blk_put (cs := #[.string ((rd_T54 l0 x12_1).f0), .int .i64 ((rd_T54 l0 x12_1).f1), .int .i64 ((rd_T54 l0 x12_1).f2), .slice none 0 0]) ?_ 3 _ rfl; (with_reducible repeat (first | refine blk_drewN ?_ _ | refine blk_drew ?_ | refine blk_alloc ?_ _)); refine blk_put (cs := #[.string ((rd_T54 l0 x12_1).f0), .int .i64 ((rd_T54 l0 x12_1).f1), .int .i64 0, .slice none 0 0]) ?_ 2 _ rfl; (with_reducible repeat (first | refine blk_drewN ?_ _ | refine blk_drew ?_ | refine blk_alloc ?_ _)); refine blk_put (cs := #[.string ((rd_T54 l0 x12_1).f0), .int .i64 0, .int .i64 0, .slice none 0 0]) ?_ 1 _ rfl; (with_reducible repeat (first | refine blk_drewN ?_ _ | refine blk_drew ?_ | refine blk_alloc ?_ _)); refine blk_put (cs := #[.string (⟨#[]⟩ : ByteArray), .int .i64 0, .int .i64 0, .slice none 0 0]) ?_ 0 _ rfl; (with_reducible repeat (first | refine blk_drewN ?_ _ | refine blk_drew ?_ | refine blk_alloc ?_ _)); exact BK211.out⟩
          have n1_ : Aside0 (Below w.heap.size w ((((w7.setCell ⟨gb211, 0, none⟩ (.string ((rd_T54 l0 x12_1).f0))).setCell ⟨gb211, 1, none⟩ (.int .i64 ((rd_T54 l0 x12_1).f1))).setCell ⟨gb211, 2, none⟩ (.int .i64 ((rd_T54 l0 x12_1).f2))).setCell ⟨gb211, 3, none⟩ (.slice A210_3 ((rd_T54 l0 x12_1).f3).length c210_3))) := ⟨by repeat (first | (with_reducible first | exact HB.out | apply below_alloc | apply pw_below_drewN | apply below_drew1 | refine below_set ?_ GE211.out) | exact HB.out)⟩
          (try clear BK211)
          (try clear HB)
          generalize ((((w7.setCell ⟨gb211, 0, none⟩ (.string ((rd_T54 l0 x12_1).f0))).setCell ⟨gb211, 1, none⟩ (.int .i64 ((rd_T54 l0 x12_1).f1))).setCell ⟨gb211, 2, none⟩ (.int .i64 ((rd_T54 l0 x12_1).f2))).setCell ⟨gb211, 3, none⟩ (.slice A210_3 ((rd_T54 l0 x12_1).f3).length c210_3)) = w28 at n0_ n1_ ⊢
          have BK211 := n0_
          have HB := n1_
          clear n0_ n1_
          have n0_ := Aside0.mk (blk_drew BK211.out)
          have n1_ := Aside0.mk (below_drew1 HB.out)
          clear BK211
          clear HB
          have BK211 := n0_
          have HB := n1_
          clear n0_ n1_
          refine start_ (n := 37) (S := fun w' => w'.cell? ⟨gb211, 0, none⟩ = some (.string ((rd_T54 l0 x12_1).f0)) ∧ w'.cell? ⟨gb211, 1, none⟩ = some (.int .i64 ((rd_T54 l0 x12_1).f1)) ∧ w'.cell? ⟨gb211, 2, none⟩ = some (.int .i64 ((rd_T54 l0 x12_1).f2)) ∧ w'.cell? ⟨gb211, 3, none⟩ = some (.slice A210_3 ((rd_T54 l0 x12_1).f3).length c210_3)) (ds := []) (tf 0 37) t6_ rfl rfl ⟨(blk_cell BK211.out 0).trans rfl, (blk_cell BK211.out 1).trans rfl, (blk_cell BK211.out 2).trans rfl, (blk_cell BK211.out 3).trans rfl⟩ (fun hHeld => ?_); refine with_tabW impl_ValidStages.tab6 impl_ValidStages.bits6 (fun HT_ HW_ => ?_)
          generalize w28.drew = w29 at BK211 HB hHeld ⊢
          refine px 0 (some 17) (tf 1 37) HT_ ?_
          refine tx (v := ?_) 1 (some 18) (tf 2 37) HT_ HW_ hHeld ?_ ?_
          rotate_left; (· rintro w' ⟨s0, s1, s2, s3⟩; go_simp; with_reducible rfl)
          refine one_ (i := 2) (N := some 19) (tf 3 37) rfl rfl (one_of HT_.out t6_) t12_ (fun K hK => ?_)
          refine goes_ Try.func30 t6_ rfl #[.string ((rd_T54 l0 x12_1).f0)] (by rfl) rfl rfl t2_ ?_
          with_reducible refine (impl_IsName.calls k1 ((rd_T54 l0 x12_1).f0) true _ A9.out).mono ?_
          rintro e w' ⟨rfl, ⟨nd, rfl⟩⟩
          refine ⟨_, rfl, ?_⟩
          refine hK.out _ _ ⟨(blk_cell BK211.out 0).trans rfl, (blk_cell BK211.out 1).trans rfl, (blk_cell BK211.out 2).trans rfl, (blk_cell BK211.out 3).trans rfl⟩ (fun hHeld => ?_)
          clear hK K
          refine norm_ (a' := ?_) ?_ ?_
          rotate_left
          ·show Act.put _ (some 19) _ = _
           simp only [Act.put, List.setIfInBounds_toArray, List.set_cons_zero, List.set_cons_succ, i64_w, i32_w]
           rfl
          refine px 3 (some 20) (tf 4 37) HT_ ?_
          refine px 4 (some 21) (tf 5 37) HT_ ?_
          refine px 5 (some 22) (tf 6 37) HT_ ?_
          refine tx (v := ?_) 6 (some 23) (tf 7 37) HT_ HW_ hHeld ?_ ?_
          rotate_left; (· rintro w' ⟨s0, s1, s2, s3⟩; go_simp; with_reducible rfl)
          refine one_ (i := 7) (N := some 24) (tf 8 37) rfl rfl (one_of HT_.out t6_) t12_ (fun K hK => ?_)
          refine goes_ Try.func31 t6_ rfl #[.int .i64 ((rd_T54 l0 x12_1).f1), .int .i64 1, .int .i64 1000000] (by rfl) rfl rfl t2_ ?_
          with_reducible refine (impl_within.calls ((rd_T54 l0 x12_1).f1) 1 1000000 false _ A11.out).mono ?_
          rintro e w' ⟨rfl, ⟨nd, rfl⟩⟩
          refine ⟨_, rfl, ?_⟩
          refine hK.out _ _ ⟨(blk_cell BK211.out 0).trans rfl, (blk_cell BK211.out 1).trans rfl, (blk_cell BK211.out 2).trans rfl, (blk_cell BK211.out 3).trans rfl⟩ (fun hHeld => ?_)
          clear hK K
          refine norm_ (a' := ?_) ?_ ?_
          rotate_left
          ·show Act.put _ (some 24) _ = _
           simp only [Act.put, List.setIfInBounds_toArray, List.set_cons_zero, List.set_cons_succ, i64_w, i32_w]
           rfl
          refine px 8 (some 25) (tf 9 37) HT_ ?_
          refine px 9 (some 26) (tf 10 37) HT_ ?_
          refine px 10 (some 27) (tf 11 37) HT_ ?_
          refine sx 11 (some 28) (tf 12 37) HT_ ?_
          refine sx 12 (some 29) (tf 13 37) HT_ ?_
          refine sx 13 (some 30) (tf 14 37) HT_ ?_
          refine sx 14 (some 31) (tf 15 37) HT_ ?_
          refine px 15 (some 32) (tf 16 37) HT_ ?_
          refine px 16 (some 33) (tf 17 37) HT_ ?_
          refine sx 17 (some 34) (tf 18 37) HT_ ?_
          refine sx 18 (some 35) (tf 19 37) HT_ ?_
          refine sx 19 (some 36) (tf 20 37) HT_ ?_
          refine sx 20 (some 37) (tf 21 37) HT_ ?_
          refine px 21 (some 38) (tf 22 37) HT_ ?_
          refine px 22 (some 39) (tf 23 37) HT_ ?_
          refine sx 23 (some 40) (tf 24 37) HT_ ?_
          refine sx 24 (some 41) (tf 25 37) HT_ ?_
          refine sx 25 (some 42) (tf 26 37) HT_ ?_
          refine sx 26 (some 43) (tf 27 37) HT_ ?_
          refine sx 27 (some 44) (tf 28 37) HT_ ?_
          refine sx 28 (some 45) (tf 29 37) HT_ ?_
          refine sx 29 (some 46) (tf 30 37) HT_ ?_
          refine sx 30 (some 47) (tf 31 37) HT_ ?_
          refine sx 31 (some 48) (tf 32 37) HT_ ?_
          refine sx 32 (some 49) (tf 33 37) HT_ ?_
          refine sx 33 (some 50) (tf 34 37) HT_ ?_
          refine sx 34 (some 51) (tf 35 37) HT_ ?_
          refine sx 35 (some 52) (tf 36 37) HT_ ?_
          refine px 36 (some 53) (tf 37 37) HT_ ?_
          refine done_ (done_of HT_.out t6_) ?_
          try go_wp2
          go_meet
          case rel => exact ⟨_, (true), t4_, H', ⟨by have := HK1.out; first | omega | exact Nat.le_refl _⟩, ⟨by (with_reducible repeat (first | refine blk_drewN ?_ _ | refine blk_drew ?_ | refine blk_alloc ?_ _)); exact BK211.out⟩, ⟨by repeat (first | (with_reducible first | exact HB.out | apply below_alloc | apply pw_below_drewN | apply below_drew1 | refine below_set ?_ GE211.out) | exact HB.out)⟩⟩
        ·replace c10 := Bool.eq_false_iff.mpr c10
         subst c10
         have H1 : (impl_ValidStages.j1 k1 l0 l0 (l0.length : Int) x12_1 true ((rd_T54 l0 x12_1).f0) ((rd_T54 l0 x12_1).f1) ((rd_T54 l0 x12_1).f2) ((rd_T54 l0 x12_1).f3)) = some r := by rw [if_neg (show ¬ (false = true) by decide)] at H; exact H
         clear H
         have H := H1
         clear H1
         have H' := Aside0.mk H
         clear H
         try go_wp2
         have n0_ : Aside0 (((((w7.setCell ⟨gb211, 0, none⟩ (.string ((rd_T54 l0 x12_1).f0))).setCell ⟨gb211, 1, none⟩ (.int .i64 ((rd_T54 l0 x12_1).f1))).setCell ⟨gb211, 2, none⟩ (.int .i64 ((rd_T54 l0 x12_1).f2))).setCell ⟨gb211, 3, none⟩ (.slice A210_3 ((rd_T54 l0 x12_1).f3).length c210_3)).heap[gb211]? = some (.cells #[.string ((rd_T54 l0 x12_1).f0), .int .i64 ((rd_T54 l0 x12_1).f1), .int .i64 ((rd_T54 l0 x12_1).f2), .slice A210_3 ((rd_T54 l0 x12_1).f3).length c210_3] 54 (0, 0))) := ⟨by (with_reducible repeat (first | refine blk_drewN ?_ _ | refine blk_drew ?_ | refine blk_alloc ?_ _)); refine blk_put (cs := #[.string ((rd_T54 l0 x12_1).f0), .int .i64 ((rd_T54 l0 x12_1).f1), .int .i64 ((rd_T54 l0 x12_1).f2), .slice none 0 0]) ?_ 3 _ rfl; (with_reducible repeat (first | refine blk_drewN ?_ _ | refine blk_drew ?_ | refine blk_alloc ?_ _)); refine blk_put (cs := #[.string ((rd_T54 l0 x12_1).f0), .int .i64 ((rd_T54 l0 x12_1).f1), .int .i64 0, .slice none 0 0]) ?_ 2 _ rfl; (with_reducible repeat (first | refine blk_drewN ?_ _ | refine blk_drew ?_ | refine blk_alloc ?_ _)); refine blk_put (cs := #[.string ((rd_T54 l0 x12_1).f0), .int .i64 0, .int .i64 0, .slice none 0 0]) ?_ 1 _ rfl; (with_reducible repeat (first | refine blk_drewN ?_ _ | refine blk_drew ?_ | refine blk_alloc ?_ _)); refine blk_put (cs := #[.string (⟨#[]⟩ : ByteArray), .int .i64 0, .int .i64 0, .slice none 0 0]) ?_ 0 _ rfl; (with_reducible repeat (first | refine blk_drewN ?_ _ | refine blk_drew ?_ | refine blk_alloc ?_ _)); exact BK211.out⟩
         have n1_ : Aside0 (Below w.heap.size w ((((w7.setCell ⟨gb211, 0, none⟩ (.string ((rd_T54 l0 x12_1).f0))).setCell ⟨gb211, 1, none⟩ (.int .i64 ((rd_T54 l0 x12_1).f1))).setCell ⟨gb211, 2, none⟩ (.int .i64 ((rd_T54 l0 x12_1).f2))).setCell ⟨gb211, 3, none⟩ (.slice A210_3 ((rd_T54 l0 x12_1).f3).length c210_3))) := ⟨by repeat (first | (with_reducible first | exact HB.out | apply below_alloc | apply pw_below_drewN | apply below_drew1 | refine below_set ?_ GE211.out) | exact HB.out)⟩
         (try clear BK211)
         (try clear HB)
         generalize ((((w7.setCell ⟨gb211, 0, none⟩ (.string ((rd_T54 l0 x12_1).f0))).setCell ⟨gb211, 1, none⟩ (.int .i64 ((rd_T54 l0 x12_1).f1))).setCell ⟨gb211, 2, none⟩ (.int .i64 ((rd_T54 l0 x12_1).f2))).setCell ⟨gb211, 3, none⟩ (.slice A210_3 ((rd_T54 l0 x12_1).f3).length c210_3)) = w30 at n0_ n1_ ⊢
         have BK211 := n0_
         have HB := n1_
         clear n0_ n1_
         have n0_ := Aside0.mk (blk_drew BK211.out)
         have n1_ := Aside0.mk (below_drew1 HB.out)
         clear BK211
         clear HB
         have BK211 := n0_
         have HB := n1_
         clear n0_ n1_
         refine start_ (n := 37) (S := fun w' => w'.cell? ⟨gb211, 0, none⟩ = some (.string ((rd_T54 l0 x12_1).f0)) ∧ w'.cell? ⟨gb211, 1, none⟩ = some (.int .i64 ((rd_T54 l0 x12_1).f1)) ∧ w'.cell? ⟨gb211, 2, none⟩ = some (.int .i64 ((rd_T54 l0 x12_1).f2)) ∧ w'.cell? ⟨gb211, 3, none⟩ = some (.slice A210_3 ((rd_T54 l0 x12_1).f3).length c210_3)) (ds := []) (tf 0 37) t6_ rfl rfl ⟨(blk_cell BK211.out 0).trans rfl, (blk_cell BK211.out 1).trans rfl, (blk_cell BK211.out 2).trans rfl, (blk_cell BK211.out 3).trans rfl⟩ (fun hHeld => ?_); refine with_tabW impl_ValidStages.tab6 impl_ValidStages.bits6 (fun HT_ HW_ => ?_)
         generalize w30.drew = w31 at BK211 HB hHeld ⊢
         refine px 0 (some 17) (tf 1 37) HT_ ?_
         refine tx (v := ?_) 1 (some 18) (tf 2 37) HT_ HW_ hHeld ?_ ?_
         rotate_left; (· rintro w' ⟨s0, s1, s2, s3⟩; go_simp; with_reducible rfl)
         refine one_ (i := 2) (N := some 19) (tf 3 37) rfl rfl (one_of HT_.out t6_) t12_ (fun K hK => ?_)
         refine goes_ Try.func30 t6_ rfl #[.string ((rd_T54 l0 x12_1).f0)] (by rfl) rfl rfl t2_ ?_
         with_reducible refine (impl_IsName.calls k1 ((rd_T54 l0 x12_1).f0) false _ A9.out).mono ?_
         rintro e w' ⟨rfl, ⟨nd, rfl⟩⟩
         refine ⟨_, rfl, ?_⟩
         refine hK.out _ _ ⟨(blk_cell BK211.out 0).trans rfl, (blk_cell BK211.out 1).trans rfl, (blk_cell BK211.out 2).trans rfl, (blk_cell BK211.out 3).trans rfl⟩ (fun hHeld => ?_)
         clear hK K
         refine norm_ (a' := ?_) ?_ ?_
         rotate_left
         ·show Act.put _ (some 19) _ = _
          simp only [Act.put, List.setIfInBounds_toArray, List.set_cons_zero, List.set_cons_succ, i64_w, i32_w]
          rfl
         refine px 3 (some 20) (tf 4 37) HT_ ?_
         refine px 4 (some 21) (tf 5 37) HT_ ?_
         refine sx 5 (some 22) (tf 6 37) HT_ ?_
         refine sx 6 (some 23) (tf 7 37) HT_ ?_
         refine sx 7 (some 24) (tf 8 37) HT_ ?_
         refine sx 8 (some 25) (tf 9 37) HT_ ?_
         refine px 9 (some 26) (tf 10 37) HT_ ?_
         refine px 10 (some 27) (tf 11 37) HT_ ?_
         refine sx 11 (some 28) (tf 12 37) HT_ ?_
         refine sx 12 (some 29) (tf 13 37) HT_ ?_
         refine sx 13 (some 30) (tf 14 37) HT_ ?_
         refine sx 14 (some 31) (tf 15 37) HT_ ?_
         refine px 15 (some 32) (tf 16 37) HT_ ?_
         refine px 16 (some 33) (tf 17 37) HT_ ?_
         refine sx 17 (some 34) (tf 18 37) HT_ ?_
         refine sx 18 (some 35) (tf 19 37) HT_ ?_
         refine sx 19 (some 36) (tf 20 37) HT_ ?_
         refine sx 20 (some 37) (tf 21 37) HT_ ?_
         refine px 21 (some 38) (tf 22 37) HT_ ?_
         refine px 22 (some 39) (tf 23 37) HT_ ?_
         refine sx 23 (some 40) (tf 24 37) HT_ ?_
         refine sx 24 (some 41) (tf 25 37) HT_ ?_
         refine sx 25 (some 42) (tf 26 37) HT_ ?_
         refine sx 26 (some 43) (tf 27 37) HT_ ?_
         refine sx 27 (some 44) (tf 28 37) HT_ ?_
         refine sx 28 (some 45) (tf 29 37) HT_ ?_
         refine sx 29 (some 46) (tf 30 37) HT_ ?_
         refine sx 30 (some 47) (tf 31 37) HT_ ?_
         refine sx 31 (some 48) (tf 32 37) HT_ ?_
         refine sx 32 (some 49) (tf 33 37) HT_ ?_
         refine sx 33 (some 50) (tf 34 37) HT_ ?_
         refine sx 34 (some 51) (tf 35 37) HT_ ?_
         refine sx 35 (some 52) (tf 36 37) HT_ ?_
         refine px 36 (some 53) (tf 37 37) HT_ ?_
         refine done_ (done_of HT_.out t6_) ?_
         try go_wp2
         go_meet
         case rel => exact ⟨_, (true), t4_, H', ⟨by have := HK1.out; first | omega | exact Nat.le_refl _⟩, ⟨by (with_reducible repeat (first | refine blk_drewN ?_ _ | refine blk_drew ?_ | refine blk_alloc ?_ _)); exact BK211.out⟩, ⟨by repeat (first | (with_reducible first | exact HB.out | apply below_alloc | apply pw_below_drewN | apply below_drew1 | refine below_set ?_ GE211.out) | exact HB.out)⟩⟩
       case rest =>
        clear HC6
        try clear c1
        try clear c2
        try clear p2
        try clear c3
        try clear c10
        try clear c12
        try clear c21
        try clear c30
        try clear c31
        obtain ⟨kq, x53_5, rfl, HA, HJ5, BK211, HB⟩ := hcut
        cases kq with
        | zero => exact absurd HA.out (by simp [impl_ValidStages.j1])
        | succ kj5 =>
         have H := HA.out
         clear HA
         simp only [impl_ValidStages.j1] at H
         by_cases c32 : x53_5 = true
         ·subst c32
          have H1 : (some false) = some r := by rw [if_pos rfl] at H; exact H
          clear H
          have H := H1
          clear H1
          obtain rfl := Option.some.inj H
          go_wp2
          go_ret
          exact ⟨by first | rfl | (rw [Int.tdiv_eq_ediv_of_nonneg t7_]; rfl) | (simp [errW_none, errW_some] <;> rfl) | (simp [*, errW_none, errW_some] <;> rfl), by repeat (first | (with_reducible first | exact HB.out | apply below_alloc | apply pw_below_drewN | apply below_drew1 | refine below_set ?_ GE211.out) | exact HB.out)⟩
         ·replace c32 := Bool.eq_false_iff.mpr c32
          subst c32
          have H1 : (impl_ValidStages.l1 kj5 l0 l0 (l0.length : Int) x12_1 ((rd_T54 l0 x12_1).f3) (((rd_T54 l0 x12_1).f3).length : Int) 0 ((rd_T54 l0 x12_1).f0) ((rd_T54 l0 x12_1).f1) ((rd_T54 l0 x12_1).f2) ((rd_T54 l0 x12_1).f3)) = some r := by rw [if_neg (show ¬ (false = true) by decide)] at H; exact H
          clear H
          have H := H1
          clear H1
          have H' := Aside0.mk H
          clear H
          have hcz33_0 : wc.cell? ⟨gb211, 0, none⟩ = some (.string ((rd_T54 l0 x12_1).f0)) := (blk_cell BK211.out 0).trans rfl
          have hcz33_1 : wc.cell? ⟨gb211, 1, none⟩ = some (.int .i64 ((rd_T54 l0 x12_1).f1)) := (blk_cell BK211.out 1).trans rfl
          have hcz33_2 : wc.cell? ⟨gb211, 2, none⟩ = some (.int .i64 ((rd_T54 l0 x12_1).f2)) := (blk_cell BK211.out 2).trans rfl
          have hcz33_3 : wc.cell? ⟨gb211, 3, none⟩ = some (.slice A210_3 ((rd_T54 l0 x12_1).f3).length c210_3) := (blk_cell BK211.out 3).trans rfl
          have hfz33_0 := blk_frozen BK211.out 0
          have hfz33_1 := blk_frozen BK211.out 1
          have hfz33_2 := blk_frozen BK211.out 2
          have hfz33_3 := blk_frozen BK211.out 3
          go_wp2
          go_loopg [57] kj5 (fun kq v57 w' => ∃ (x57_3 : Int), v57 = .int .i64 x57_3 ∧ Aside0 (impl_ValidStages.l1 kq l0 l0 (l0.length : Int) x12_1 ((rd_T54 l0 x12_1).f3) (((rd_T54 l0 x12_1).f3).length : Int) x57_3 ((rd_T54 l0 x12_1).f0) ((rd_T54 l0 x12_1).f1) ((rd_T54 l0 x12_1).f2) ((rd_T54 l0 x12_1).f3) = some r) ∧ Aside0 (kq ≤ kj5) ∧ Aside0 (w'.heap[gb211]? = some (.cells #[.string ((rd_T54 l0 x12_1).f0), .int .i64 ((rd_T54 l0 x12_1).f1), .int .i64 ((rd_T54 l0 x12_1).f2), (.slice A210_3 ((rd_T54 l0 x12_1).f3).length c210_3)] 54 (0, 0))) ∧ Aside0 (Below w.heap.size w w'))
          case atStart => exact ⟨(0), t4_, H', ⟨Nat.le_refl _⟩, ⟨by (with_reducible repeat (first | refine blk_drewN ?_ _ | refine blk_drew ?_ | refine blk_alloc ?_ _)); exact BK211.out⟩, ⟨by repeat (first | (with_reducible first | exact HB.out | apply below_alloc | apply pw_below_drewN | apply below_drew1 | refine below_set ?_ GE211.out) | exact HB.out)⟩⟩
          case round =>
           clear H'
           try clear c1
           try clear c2
           try clear p2
           try clear c3
           try clear c10
           try clear c12
           try clear c21
           try clear c30
           try clear c31
           try clear c32
           try clear hcz33_0
           try clear hcz33_1
           try clear hcz33_2
           try clear hcz33_3
           try clear hfz33_0
           try clear hfz33_1
           try clear hfz33_2
           try clear hfz33_3
           try clear p2
           obtain ⟨x57_3, rfl, HA, HK3, BK211, HB⟩ := hrel
           cases gk with
           | zero => exact absurd HA.out (by simp [impl_ValidStages.l1])
           | succ k3 =>
            have H := HA.out
            clear HA
            simp only [impl_ValidStages.l1] at H
            by_cases c34 : x57_3 < (((rd_T54 l0 x12_1).f3).length : Int)
            ·rw [if_pos c34] at H
             have c34b0 : decide (x57_3 < (((rd_T54 l0 x12_1).f3).length : Int)) = true := decide_eq_true c34
             clear c34
             by_cases c35 : 0 ≤ x57_3
             ·rw [if_pos c35] at H
              have c35b0 : decide (0 ≤ x57_3) = true := decide_eq_true c35
              clear c35
              by_cases c36 : x57_3 < (((rd_T54 l0 x12_1).f3).length : Int)
              ·rw [if_pos c36] at H
               have c36b0 : decide (x57_3 < (((rd_T54 l0 x12_1).f3).length : Int)) = true := decide_eq_true c36
               clear c36
               replace H := Option.bind_eq_some_iff.mp H
               obtain ⟨t217, A370, H⟩ := H
               replace H : (if t217 < 0 then (some false) else (if x57_3 > 0 then (if 0 ≤ (wrap64 (x57_3 - 1)) then (if (wrap64 (x57_3 - 1)) < (((rd_T54 l0 x12_1).f3).length : Int) then (if ((Op.bytesLess ((rdOf ByteArray.empty ((rd_T54 l0 x12_1).f3) (wrap64 (x57_3 - 1))).toList) ((rdOf ByteArray.empty ((rd_T54 l0 x12_1).f3) x57_3).toList)) = true) then (impl_ValidStages.l1 k3 l0 l0 (l0.length : Int) x12_1 ((rd_T54 l0 x12_1).f3) (((rd_T54 l0 x12_1).f3).length : Int) (wrap64 (x57_3 + 1)) ((rd_T54 l0 x12_1).f0) ((rd_T54 l0 x12_1).f1) ((rd_T54 l0 x12_1).f2) ((rd_T54 l0 x12_1).f3)) else (some false)) else (none)) else (none)) else (impl_ValidStages.l1 k3 l0 l0 (l0.length : Int) x12_1 ((rd_T54 l0 x12_1).f3) (((rd_T54 l0 x12_1).f3).length : Int) (wrap64 (x57_3 + 1)) ((rd_T54 l0 x12_1).f0) ((rd_T54 l0 x12_1).f1) ((rd_T54 l0 x12_1).f2) ((rd_T54 l0 x12_1).f3)))) = some r := H
               have A37 := Aside0.mk A370
               clear A370
               by_cases c38 : t217 < 0
               ·rw [if_pos c38] at H
                have c38b0 : decide (t217 < 0) = true := decide_eq_true c38
                clear c38
                obtain rfl := Option.some.inj H
                have p216 : 0 ≤ (x57_3 : Int) := of_decide_eq_true t3_
                have q216 : x57_3 < (((rd_T54 l0 x12_1).f3).length : Int) := of_decide_eq_true t3_
                obtain ⟨ad216, e216, hx216_0⟩ := Kd.at_string HR210_3.out x57_3 p216 q216
                cases e216
                replace hx216_0 := (HB.out.cell (World.block_lt_of_cell? w _ hx216_0)).trans hx216_0
                replace p216 := eq_true p216
                replace q216 := eq_true q216
                go_wp2_with (first | ((with_reducible refine gate_callee (f := 32) rfl ?_); refine goesL_ (some 64) rfl rfl Try.func32 t6_ rfl #[.slice (some ad210) l0.length c0, .string (rdOf ByteArray.empty ((rd_T54 l0 x12_1).f3) x57_3)] rfl t2_ ?_; (with_reducible refine (impl_stageAt.calls k3 _ _ l0 (rdOf ByteArray.empty ((rd_T54 l0 x12_1).f3) x57_3) t217 _ ?side1 ?side2 A37.out).mono ?_); (case side1 => repeat (first | exact (Kd.C_below HR0.out HB.out) | (with_reducible refine Kd.C_alloc ?_ _) | (with_reducible refine Kd.C_drewN ?_ _) | (with_reducible refine Kd.C_drew ?_))); (case side2 => exact HC0.out); rintro e w39 ⟨rfl, hb⟩; refine ⟨_, rfl, ?_⟩; have n0_ := Aside0.mk (blk_below (g := gb211) (o := .cells #[.string ((rd_T54 l0 x12_1).f0), .int .i64 ((rd_T54 l0 x12_1).f1), .int .i64 ((rd_T54 l0 x12_1).f2), .slice (some ad216) ((rd_T54 l0 x12_1).f3).length c210_3] 54 (0, 0)) (q2_ BK211.out) hb); have n1_ := Aside0.mk (below_step t9_ hb); clear BK211; clear HB; have BK211 := n0_; have HB := n1_; clear n0_ n1_; (try clear hb); (try clear hb2); (try clear hk); (try clear hi)))
                go_ret
                exact ⟨by first | rfl | (rw [Int.tdiv_eq_ediv_of_nonneg t7_]; rfl) | (simp [errW_none, errW_some] <;> rfl) | (simp [*, errW_none, errW_some] <;> rfl), by repeat (first | (with_reducible first | exact HB.out | apply below_alloc | apply pw_below_drewN | apply below_drew1 | refine below_set ?_ GE211.out) | exact HB.out)⟩
               ·rw [if_neg c38] at H
                have c38b0 : decide (t217 < 0) = false := decide_eq_false c38
                clear c38
                by_cases c40 : x57_3 > 0
                ·rw [if_pos c40] at H
                 have c40b0 : decide (0 < x57_3) = true := decide_eq_true c40
                 clear c40
                 obtain ⟨ji41, hji41⟩ : ∃ j_ : Int, (wrap64 (x57_3 - 1)) = j_ := ⟨_, rfl⟩
                 replace H : (if 0 ≤ (ji41) then (if (ji41) < (((rd_T54 l0 x12_1).f3).length : Int) then (if ((Op.bytesLess ((rdOf ByteArray.empty ((rd_T54 l0 x12_1).f3) (ji41)).toList) ((rdOf ByteArray.empty ((rd_T54 l0 x12_1).f3) x57_3).toList)) = true) then (impl_ValidStages.l1 k3 l0 l0 (l0.length : Int) x12_1 ((rd_T54 l0 x12_1).f3) (((rd_T54 l0 x12_1).f3).length : Int) (wrap64 (x57_3 + 1)) ((rd_T54 l0 x12_1).f0) ((rd_T54 l0 x12_1).f1) ((rd_T54 l0 x12_1).f2) ((rd_T54 l0 x12_1).f3)) else (some false)) else (none)) else (none)) = some r := by first | (rw [hji41] at H; exact H) | (simp only [hji41] at H ⊢; exact H)
                 (try rw [hji41] at A37)
                 have hji41w : (IntKind.i64.wrap (x57_3 - 1)) = ji41 := (i64_w _).trans hji41
                 by_cases c42 : 0 ≤ (ji41)
                 ·rw [if_pos c42] at H
                  have c42b0 : decide (0 ≤ (ji41)) = true := decide_eq_true c42
                  clear c42
                  by_cases c43 : (ji41) < (((rd_T54 l0 x12_1).f3).length : Int)
                  ·rw [if_pos c43] at H
                   have c43b0 : decide ((ji41) < (((rd_T54 l0 x12_1).f3).length : Int)) = true := decide_eq_true c43
                   clear c43
                   by_cases c44 : ((Op.bytesLess ((rdOf ByteArray.empty ((rd_T54 l0 x12_1).f3) (ji41)).toList) ((rdOf ByteArray.empty ((rd_T54 l0 x12_1).f3) x57_3).toList)) = true)
                   ·rw [if_pos c44] at H
                    have c44b0 : (Op.bytesLess ((rdOf ByteArray.empty ((rd_T54 l0 x12_1).f3) (ji41)).toList) ((rdOf ByteArray.empty ((rd_T54 l0 x12_1).f3) x57_3).toList)) = true := c44
                    clear c44
                    have H' := Aside0.mk H
                    clear H
                    have p216 : 0 ≤ (x57_3 : Int) := of_decide_eq_true t3_
                    have q216 : x57_3 < (((rd_T54 l0 x12_1).f3).length : Int) := of_decide_eq_true t3_
                    obtain ⟨ad216, e216, hx216_0⟩ := Kd.at_string HR210_3.out x57_3 p216 q216
                    cases e216
                    replace hx216_0 := (HB.out.cell (World.block_lt_of_cell? w _ hx216_0)).trans hx216_0
                    replace p216 := eq_true p216
                    replace q216 := eq_true q216
                    go_wp2_with (first | ((with_reducible refine gate_callee (f := 32) rfl ?_); refine goesL_ (some 64) rfl rfl Try.func32 t6_ rfl #[.slice (some ad210) l0.length c0, .string (rdOf ByteArray.empty ((rd_T54 l0 x12_1).f3) x57_3)] rfl t2_ ?_; (with_reducible refine (impl_stageAt.calls k3 _ _ l0 (rdOf ByteArray.empty ((rd_T54 l0 x12_1).f3) x57_3) t217 _ ?side1 ?side2 A37.out).mono ?_); (case side1 => repeat (first | exact (Kd.C_below HR0.out HB.out) | (with_reducible refine Kd.C_alloc ?_ _) | (with_reducible refine Kd.C_drewN ?_ _) | (with_reducible refine Kd.C_drew ?_))); (case side2 => exact HC0.out); rintro e w45 ⟨rfl, hb⟩; refine ⟨_, rfl, ?_⟩; have n0_ := Aside0.mk (blk_below (g := gb211) (o := .cells #[.string ((rd_T54 l0 x12_1).f0), .int .i64 ((rd_T54 l0 x12_1).f1), .int .i64 ((rd_T54 l0 x12_1).f2), .slice (some ad216) ((rd_T54 l0 x12_1).f3).length c210_3] 54 (0, 0)) (q2_ BK211.out) hb); have n1_ := Aside0.mk (below_step t9_ hb); clear BK211; clear HB; have BK211 := n0_; have HB := n1_; clear n0_ n1_; (try clear hb); (try clear hb2); (try clear hk); (try clear hi); have hcz46_0 : w45.cell? ⟨gb211, 0, none⟩ = some (.string ((rd_T54 l0 x12_1).f0)) := (blk_cell BK211.out 0).trans rfl; have hcz46_1 : w45.cell? ⟨gb211, 1, none⟩ = some (.int .i64 ((rd_T54 l0 x12_1).f1)) := (blk_cell BK211.out 1).trans rfl; have hcz46_2 : w45.cell? ⟨gb211, 2, none⟩ = some (.int .i64 ((rd_T54 l0 x12_1).f2)) := (blk_cell BK211.out 2).trans rfl; have hcz46_3 : w45.cell? ⟨gb211, 3, none⟩ = some (.slice (some ad216) ((rd_T54 l0 x12_1).f3).length c210_3) := (blk_cell BK211.out 3).trans rfl; have hfz46_0 := blk_frozen BK211.out 0; have hfz46_1 := blk_frozen BK211.out 1; have hfz46_2 := blk_frozen BK211.out 2; have hfz46_3 := blk_frozen BK211.out 3; have p218 : 0 ≤ ((ji41) : Int) := of_decide_eq_true t3_; have q218 : (ji41) < (((rd_T54 l0 x12_1).f3).length : Int) := of_decide_eq_true t3_; obtain ⟨ad218, e218, hx218_0⟩ := Kd.at_string HR210_3.out (ji41) p218 q218; obtain rfl : ad216 = ad218 := (by injection e218); replace hx218_0 := (HB.out.cell (World.block_lt_of_cell? w _ hx218_0)).trans hx218_0; replace p218 := eq_true p218; replace q218 := eq_true q218))
                    go_roundg k3
                    case measure => have := HK1.out; have := HJ5.out; have := HK3.out; omega
                    case rel => exact ⟨(wrap64 (x57_3 + 1)), t4_, H', ⟨by have := HK1.out; have := HJ5.out; have := HK3.out; omega⟩, ⟨by (with_reducible repeat (first | refine blk_drewN ?_ _ | refine blk_drew ?_ | refine blk_alloc ?_ _)); exact BK211.out⟩, ⟨by repeat (first | (with_reducible first | exact HB.out | apply below_alloc | apply pw_below_drewN | apply below_drew1 | refine below_set ?_ GE211.out) | exact HB.out)⟩⟩
                   ·rw [if_neg c44] at H
                    have c44b0 : (Op.bytesLess ((rdOf ByteArray.empty ((rd_T54 l0 x12_1).f3) (ji41)).toList) ((rdOf ByteArray.empty ((rd_T54 l0 x12_1).f3) x57_3).toList)) = false := by simpa using c44
                    clear c44
                    obtain rfl := Option.some.inj H
                    have p216 : 0 ≤ (x57_3 : Int) := of_decide_eq_true t3_
                    have q216 : x57_3 < (((rd_T54 l0 x12_1).f3).length : Int) := of_decide_eq_true t3_
                    obtain ⟨ad216, e216, hx216_0⟩ := Kd.at_string HR210_3.out x57_3 p216 q216
                    cases e216
                    replace hx216_0 := (HB.out.cell (World.block_lt_of_cell? w _ hx216_0)).trans hx216_0
                    replace p216 := eq_true p216
                    replace q216 := eq_true q216
                    go_wp2_with (first | ((with_reducible refine gate_callee (f := 32) rfl ?_); refine goesL_ (some 64) rfl rfl Try.func32 t6_ rfl #[.slice (some ad210) l0.length c0, .string (rdOf ByteArray.empty ((rd_T54 l0 x12_1).f3) x57_3)] rfl t2_ ?_; (with_reducible refine (impl_stageAt.calls k3 _ _ l0 (rdOf ByteArray.empty ((rd_T54 l0 x12_1).f3) x57_3) t217 _ ?side1 ?side2 A37.out).mono ?_); (case side1 => repeat (first | exact (Kd.C_below HR0.out HB.out) | (with_reducible refine Kd.C_alloc ?_ _) | (with_reducible refine Kd.C_drewN ?_ _) | (with_reducible refine Kd.C_drew ?_))); (case side2 => exact HC0.out); rintro e w47 ⟨rfl, hb⟩; refine ⟨_, rfl, ?_⟩; have n0_ := Aside0.mk (blk_below (g := gb211) (o := .cells #[.string ((rd_T54 l0 x12_1).f0), .int .i64 ((rd_T54 l0 x12_1).f1), .int .i64 ((rd_T54 l0 x12_1).f2), .slice (some ad216) ((rd_T54 l0 x12_1).f3).length c210_3] 54 (0, 0)) (q2_ BK211.out) hb); have n1_ := Aside0.mk (below_step t9_ hb); clear BK211; clear HB; have BK211 := n0_; have HB := n1_; clear n0_ n1_; (try clear hb); (try clear hb2); (try clear hk); (try clear hi); have hcz48_0 : w47.cell? ⟨gb211, 0, none⟩ = some (.string ((rd_T54 l0 x12_1).f0)) := (blk_cell BK211.out 0).trans rfl; have hcz48_1 : w47.cell? ⟨gb211, 1, none⟩ = some (.int .i64 ((rd_T54 l0 x12_1).f1)) := (blk_cell BK211.out 1).trans rfl; have hcz48_2 : w47.cell? ⟨gb211, 2, none⟩ = some (.int .i64 ((rd_T54 l0 x12_1).f2)) := (blk_cell BK211.out 2).trans rfl; have hcz48_3 : w47.cell? ⟨gb211, 3, none⟩ = some (.slice (some ad216) ((rd_T54 l0 x12_1).f3).length c210_3) := (blk_cell BK211.out 3).trans rfl; have hfz48_0 := blk_frozen BK211.out 0; have hfz48_1 := blk_frozen BK211.out 1; have hfz48_2 := blk_frozen BK211.out 2; have hfz48_3 := blk_frozen BK211.out 3; have p218 : 0 ≤ ((ji41) : Int) := of_decide_eq_true t3_; have q218 : (ji41) < (((rd_T54 l0 x12_1).f3).length : Int) := of_decide_eq_true t3_; obtain ⟨ad218, e218, hx218_0⟩ := Kd.at_string HR210_3.out (ji41) p218 q218; obtain rfl : ad216 = ad218 := (by injection e218); replace hx218_0 := (HB.out.cell (World.block_lt_of_cell? w _ hx218_0)).trans hx218_0; replace p218 := eq_true p218; replace q218 := eq_true q218))
                    go_ret
                    exact ⟨by first | rfl | (rw [Int.tdiv_eq_ediv_of_nonneg t7_]; rfl) | (simp [errW_none, errW_some] <;> rfl) | (simp only [← hji41]; first | rfl | (simp [errW_none, errW_some] <;> rfl)) | (simp [*, errW_none, errW_some] <;> rfl), by repeat (first | (with_reducible first | exact HB.out | apply below_alloc | apply pw_below_drewN | apply below_drew1 | refine below_set ?_ GE211.out) | exact HB.out)⟩
                  ·rw [if_neg c43] at H
                   exact absurd H t17_
                 ·rw [if_neg c42] at H
                  exact absurd H t17_
                ·rw [if_neg c40] at H
                 have c40b0 : decide (0 < x57_3) = false := decide_eq_false c40
                 clear c40
                 have H' := Aside0.mk H
                 clear H
                 have p216 : 0 ≤ (x57_3 : Int) := of_decide_eq_true t3_
                 have q216 : x57_3 < (((rd_T54 l0 x12_1).f3).length : Int) := of_decide_eq_true t3_
                 obtain ⟨ad216, e216, hx216_0⟩ := Kd.at_string HR210_3.out x57_3 p216 q216
                 cases e216
                 replace hx216_0 := (HB.out.cell (World.block_lt_of_cell? w _ hx216_0)).trans hx216_0
                 replace p216 := eq_true p216
                 replace q216 := eq_true q216
                 go_wp2_with (first | ((with_reducible refine gate_callee (f := 32) rfl ?_); refine goesL_ (some 64) rfl rfl Try.func32 t6_ rfl #[.slice (some ad210) l0.length c0, .string (rdOf ByteArray.empty ((rd_T54 l0 x12_1).f3) x57_3)] rfl t2_ ?_; (with_reducible refine (impl_stageAt.calls k3 _ _ l0 (rdOf ByteArray.empty ((rd_T54 l0 x12_1).f3) x57_3) t217 _ ?side1 ?side2 A37.out).mono ?_); (case side1 => repeat (first | exact (Kd.C_below HR0.out HB.out) | (with_reducible refine Kd.C_alloc ?_ _) | (with_reducible refine Kd.C_drewN ?_ _) | (with_reducible refine Kd.C_drew ?_))); (case side2 => exact HC0.out); rintro e w49 ⟨rfl, hb⟩; refine ⟨_, rfl, ?_⟩; have n0_ := Aside0.mk (blk_below (g := gb211) (o := .cells #[.string ((rd_T54 l0 x12_1).f0), .int .i64 ((rd_T54 l0 x12_1).f1), .int .i64 ((rd_T54 l0 x12_1).f2), .slice (some ad216) ((rd_T54 l0 x12_1).f3).length c210_3] 54 (0, 0)) (q2_ BK211.out) hb); have n1_ := Aside0.mk (below_step t9_ hb); clear BK211; clear HB; have BK211 := n0_; have HB := n1_; clear n0_ n1_; (try clear hb); (try clear hb2); (try clear hk); (try clear hi)))
                 go_roundg k3
                 case measure => have := HK1.out; have := HJ5.out; have := HK3.out; omega
                 case rel => exact ⟨(wrap64 (x57_3 + 1)), t4_, H', ⟨by have := HK1.out; have := HJ5.out; have := HK3.out; omega⟩, ⟨by (with_reducible repeat (first | refine blk_drewN ?_ _ | refine blk_drew ?_ | refine blk_alloc ?_ _)); exact BK211.out⟩, ⟨by repeat (first | (with_reducible first | exact HB.out | apply below_alloc | apply pw_below_drewN | apply below_drew1 | refine below_set ?_ GE211.out) | exact HB.out)⟩⟩
              ·rw [if_neg c36] at H
               exact absurd H t17_
             ·rw [if_neg c35] at H
              exact absurd H t17_
            ·rw [if_neg c34] at H
             have c34b0 : decide (x57_3 < (((rd_T54 l0 x12_1).f3).length : Int)) = false := decide_eq_false c34
             clear c34
             have H' := Aside0.mk H
             clear H
             go_wp2
             go_roundg k3
             case measure => have := HK1.out; have := HJ5.out; have := HK3.out; omega
             case rel => exact ⟨(wrap64 (x12_1 + 1)), t4_, H', ⟨by have := HK1.out; have := HJ5.out; have := HK3.out; omega⟩, ⟨by repeat (first | (with_reducible first | exact HB.out | apply below_alloc | apply pw_below_drewN | apply below_drew1 | refine below_set ?_ GE211.out) | exact HB.out)⟩⟩
      ·rw [if_neg c5] at H
       exact absurd H t17_
     ·rw [if_neg c4] at H
      exact absurd H t17_
    ·rw [if_neg c3] at H
     have c3b0 : decide (x12_1 < (l0.length : Int)) = false := decide_eq_false c3
     clear c3
     replace H := Option.bind_eq_some_iff.mp H
     obtain ⟨t204, A500, H⟩ := H
     replace H : ((impl_firstOrder.f k1 l0 t204).bind fun t207 => (some ((t207.length : Int) == (l0.length : Int)))) = some r := H
     have A50 := Aside0.mk A500
     clear A500
     replace H := Option.bind_eq_some_iff.mp H
     obtain ⟨t207, A510, H⟩ := H
     replace H : (some ((t207.length : Int) == (l0.length : Int))) = some r := H
     have A51 := Aside0.mk A510
     clear A510
     obtain rfl := Option.some.inj H
     go_wp2_with (first | ((with_reducible refine gate_callee (f := 34) rfl ?_); refine goesL_ (some 84) rfl rfl Try.func34 t6_ rfl #[.slice A0 l0.length c0] rfl t2_ ?_; (with_reducible refine (impl_allStages.calls k1 _ _ l0 t204 _ ?side1 ?side2 A50.out).mono ?_); (case side1 => repeat (first | exact (Kd.C_below HR0.out HB.out) | (with_reducible refine Kd.C_alloc ?_ _) | (with_reducible refine Kd.C_drewN ?_ _) | (with_reducible refine Kd.C_drew ?_))); (case side2 => exact HC0.out); rintro e w52 ⟨v205, rfl, ho0, hb⟩; refine ⟨_, rfl, ?_⟩; have n0_ := Aside0.mk (Kd.R_lower ho0 (below_size t1_)); have n1_ := Aside0.mk (below_step t1_ hb); clear HB; have HO206 := n0_; have HB := n1_; clear n0_ n1_; (try clear hb); (try clear hb2); (try clear hk); (try clear hi); (try clear ho0); obtain ⟨Ao53, co53, eo53⟩ := Kd.R_slice HO206.out; subst eo53) | ((with_reducible refine gate_callee (f := 33) rfl ?_); refine goesL_ (some 85) rfl rfl Try.func33 t6_ rfl #[.slice A0 l0.length c0, .slice Ao53 t204.length co53] rfl t2_ ?_; (with_reducible refine (impl_firstOrder.calls k1 _ _ l0 _ _ t204 t207 _ ?side1 ?side2 ?side3 ?side4 A51.out).mono ?_); (case side1 => repeat (first | exact (Kd.C_below HR0.out HB.out) | (with_reducible refine Kd.C_alloc ?_ _) | (with_reducible refine Kd.C_drewN ?_ _) | (with_reducible refine Kd.C_drew ?_))); (case side2 => exact HC0.out); (case side3 => repeat (first | exact (Kd.R_reads' HO206.out).2.2 | (with_reducible refine Kd.C_alloc ?_ _) | (with_reducible refine Kd.C_drewN ?_ _) | (with_reducible refine Kd.C_drew ?_))); (case side4 => exact (Kd.R_reads' HO206.out).2.1); rintro e w54 ⟨v208, rfl, ho0, hb⟩; refine ⟨_, rfl, ?_⟩; have n0_ := Aside0.mk (Kd.R_elder' (q1_ HO206.out) (Kd.R_base ho0) hb); have n1_ := Aside0.mk (Kd.R_lower (Kd.R_new' ho0 (Kd.R_lt (q1_ HO206.out))) (below_size t1_)); have n2_ := Aside0.mk (below_step t1_ hb); clear HO206; clear HB; have HO206 := n0_; have HO209 := n1_; have HB := n2_; clear n0_ n1_ n2_; (try clear hb); (try clear hb2); (try clear hk); (try clear hi); (try clear ho0); obtain ⟨Ao55, co55, eo55⟩ := Kd.R_slice HO209.out; subst eo55))
     go_ret
     exact ⟨by first | rfl | (rw [Int.tdiv_eq_ediv_of_nonneg t7_]; rfl) | (simp [errW_none, errW_some] <;> rfl) | (simp [*, errW_none, errW_some] <;> rfl), by repeat (first | (with_reducible first | exact HB.out | apply below_alloc | apply pw_below_drewN | apply below_drew1) | exact HB.out)⟩

end Go.Proofs.Ytipfgehjedldmaa.PFnExactValidStages
