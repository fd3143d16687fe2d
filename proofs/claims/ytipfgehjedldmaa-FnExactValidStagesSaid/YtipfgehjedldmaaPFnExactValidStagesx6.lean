-- written by wip/xprint.py, a program of this session, for this claim; not trusted: Lean checks it.
import Derived.Test.YtipfgehjedldmaaPFnExactValidStagesx0
import Derived.Test.YtipfgehjedldmaaPFnExactValidStagesx5
namespace Go.Proofs.Ytipfgehjedldmaa.PFnExactValidStages
open Go.RowKit Go.Proofs.YtipfgehjedldmaaW.PrintWords Go.Proofs.YtipfgehjedldmaaW.PrintLast Go.Proofs.YtipfgehjedldmaaW.PrintMore
attribute [local go_sem] leq_less_ max2_int min2_int max_two min_two max_three min_three max_four min_four   -- for this text's walks alone
set_option linter.unusedVariables false
set_option linter.unusedSimpArgs false

/-! ### impl_firstOrder: function 33 -/
def impl_firstOrder.l0 : Nat → List Int → List (S54) → List Int → Option (List Int)
 | 0, _, _, _ => none
 | k + 1, x1, x194000, x3 => (slices_IndexFunc_int64_int64_c67.f k x1 [x3] [x194000]).bind fun t195 => (if t195 < 0 then (some x3) else (if 0 ≤ t195 then (if t195 < (x1.length : Int) then (if x3.length < 17592186044416 then (impl_firstOrder.l0 k x1 x194000 (x3 ++ [rd x1 t195])) else (none)) else (none)) else (none)))
def impl_firstOrder.f (k : Nat) (l0 : List (S54)) (l1 : List Int) : Option (List Int) := impl_firstOrder.l0 k l1 l0 []
theorem impl_firstOrder.mono_l : ∀ k, (∀ y0 y1 y2, LeO (impl_firstOrder.l0 k y0 y1 y2) (impl_firstOrder.l0 (k + 1) y0 y1 y2))
 | 0 => fun _ _ _ r h => by simp [impl_firstOrder.l0] at h
 | k + 1 => by
  have ih0 := impl_firstOrder.mono_l k
  ·intro y0 y1 y2
   unfold impl_firstOrder.l0
   repeat' first
   | (with_reducible exact ih0 _ _ _)
   | (with_reducible exact slices_IndexFunc_int64_int64_c67.mono _ _ _ _)
   | (with_reducible exact LeO.refl _)
   | (with_reducible exact LeO.none _)
   | (with_reducible refine LeO.ite ?_ ?_)
   | (with_reducible refine LeO.bind ?_ (fun _ => ?_))
   | exact ih0 _ _ _
   | exact slices_IndexFunc_int64_int64_c67.mono _ _ _ _
   | exact LeO.none _
   | refine LeO.ite ?_ ?_
   | refine LeO.bind ?_ (fun _ => ?_)
theorem impl_firstOrder.mono : ∀ a0 a1 k, LeO (impl_firstOrder.f k a0 a1) (impl_firstOrder.f (k + 1) a0 a1) := by
 intro a0 a1 k
 have ih0 := impl_firstOrder.mono_l k
 unfold impl_firstOrder.f
 repeat' first
   | (with_reducible exact ih0 _ _ _)
   | (with_reducible exact slices_IndexFunc_int64_int64_c67.mono _ _ _ _)
   | (with_reducible exact LeO.refl _)
   | (with_reducible exact LeO.none _)
   | (with_reducible refine LeO.ite ?_ ?_)
   | (with_reducible refine LeO.bind ?_ (fun _ => ?_))
   | exact ih0 _ _ _
   | exact slices_IndexFunc_int64_int64_c67.mono _ _ _ _
   | exact LeO.none _
   | refine LeO.ite ?_ ?_
   | refine LeO.bind ?_ (fun _ => ?_)
def impl_firstOrder.T5 : Bool × List (List Nat × List Nat) := (true, [([], []), ([], []), ([], []), ([1, 2], [1, 2]), ([3], [3]), ([4], [4]), ([0, 5], [0, 5]), ([6, 6, 0, 1, 2, 3, 4, 5, 6], [6])])
def impl_firstOrder.B5 : List Nat := [0, 0, 0, 6, 14, 30, 63, 127]
theorem impl_firstOrder.tab5 : rtab .any (opsOf Try.f33 5) = impl_firstOrder.T5 := by kernel_rfl
theorem impl_firstOrder.bits5 : waitsOk impl_firstOrder.T5.2 impl_firstOrder.B5 = true := by kernel_rfl
set_option maxHeartbeats 8000000 in
set_option maxRecDepth 100000 in
theorem impl_firstOrder.calls (k : Nat) (A0 : Option Addr) (c0 : Nat) (l0 : List (S54)) (A1 : Option Addr) (c1 : Nat) (l1 : List Int) (r : List Int) (w : World) (hr0 : Kd.C k54 w A0 l0.length l0) (hc0 : l0.length ≤ c0) (hr1 : Kd.C (Kd.int .i64) w A1 l1.length l1) (hc1 : l1.length ≤ c1) (h : impl_firstOrder.f k l0 l1 = some r) :
  Calls Try.prog 33 #[.slice A0 l0.length c0, .slice A1 l1.length c1] w fun e w' => ∃ v0_ : Value, e = .returned (v0_) ∧ Kd.R (Kd.int .i64) 2 w' w.heap.size (fun _ => True) v0_ r ∧ Below w.heap.size w w' := by
 have HR0 := Aside0.mk hr0
 have HC0 := Aside0.mk hc0
 clear hr0 hc0
 have HR1 := Aside0.mk hr1
 have HC1 := Aside0.mk hc1
 clear hr1 hc1
 have HB := Aside0.mk (Below.refl w.heap.size w)
 have H : (impl_firstOrder.l0 k l1 l0 []) = some r := h
 clear h
 have H' := Aside0.mk H
 clear H
 go_enter Try.func33, Try.ntmps33
 go_wp2_with (first | ((with_reducible refine gate_dst (N := 2) rfl ?_); refine box_event ?hg (N := 2) ?hd (cs := #[.slice A0 l0.length c0]) (t := 25) ?hr ?_; (case hd => rfl); (case hg => rfl); (case hr => first | (go_simp; done) | (go_simp; rfl)); intro gb193 hg w3 hbox hb; have n0_ := Aside0.mk (below_step t1_ hb); have n1_ := Aside0.mk (hbox); have n2_ := Aside0.mk ((by rw [hg]; exact (below_size t1_) : w.heap.size ≤ gb193)); have n3_ := Aside0.mk ((by rw [hg]; exact (below_size t1_) : w.heap.size ≤ gb193)); clear HB; have HB := n0_; have BK193 := n1_; have GW193 := n2_; have GE193 := n3_; clear n0_ n1_ n2_ n3_; clear hb hbox hg) | ((with_reducible refine gate_dst (N := 5) rfl ?_); refine box_event ?hg (N := 5) ?hd (cs := #[.slice none 0 0]) (t := 29) ?hr ?_; (case hd => rfl); (case hg => rfl); (case hr => first | (go_simp; done) | (go_simp; rfl)); intro gb194 hg w4 hbox hb; have n0_ := Aside0.mk (blk_below (g := gb193) (o := .cells #[.slice A0 l0.length c0] 25 (0, 0)) (q2_ BK193.out) hb); have n1_ := Aside0.mk (below_step t14_ hb); have n2_ := Aside0.mk (hbox); have n3_ := Aside0.mk ((by rw [hg]; exact (below_size t14_) : w.heap.size ≤ gb194)); have n4_ := Aside0.mk ((by rw [hg]; exact (below_size t14_) : w.heap.size ≤ gb194)); have n5_ := Aside0.mk ((by rw [hg]; exact Nat.ne_of_lt (blk_lt (g := gb193) (o := .cells #[.slice A0 l0.length c0] 25 (0, 0)) (q2_ BK193.out)) : gb193 ≠ gb194)); have n6_ := Aside0.mk ((by rw [hg]; exact Nat.ne_of_gt (blk_lt (g := gb193) (o := .cells #[.slice A0 l0.length c0] 25 (0, 0)) (q2_ BK193.out)) : gb194 ≠ gb193)); clear BK193; clear HB; have BK193 := n0_; have HB := n1_; have BK194 := n2_; have GW194 := n3_; have GE194 := n4_; have NB193_194 := n5_; have NB194_193 := n6_; clear n0_ n1_ n2_ n3_ n4_ n5_ n6_; clear hb hbox hg))
 (try simp only [Act.put, List.setIfInBounds_toArray, List.set_cons_zero, List.set_cons_succ])
 go_loopg [] k (fun kq w' => ∃ (x3 : List Int) (Ao_ : Option Addr) (co_ : Nat), Aside0 (impl_firstOrder.l0 kq l1 l0 x3 = some r) ∧ Aside0 (kq ≤ k) ∧ Aside0 (w'.heap[gb193]? = some (.cells #[(.slice A0 l0.length c0)] 25 (0, 0))) ∧ Aside0 (w'.heap[gb194]? = some (.cells #[(.slice Ao_ x3.length co_)] 29 (0, 0))) ∧ Aside0 (Kd.R (Kd.int .i64) 2 w' w.heap.size (fun _ => True) (.slice Ao_ x3.length co_) x3) ∧ Aside0 (Below w.heap.size w w'))
 case atStart => exact ⟨[], none, 0, H', ⟨Nat.le_refl _⟩, ⟨by (with_reducible repeat (first | refine blk_drewN ?_ _ | refine blk_drew ?_ | refine blk_alloc ?_ _)); exact BK193.out⟩, ⟨by (with_reducible repeat (first | refine blk_drewN ?_ _ | refine blk_drew ?_ | refine blk_alloc ?_ _)); exact BK194.out⟩, ⟨Kd.R_nil _ _ _ _ _⟩, ⟨by repeat (first | (with_reducible first | exact HB.out | apply below_alloc | apply pw_below_drewN | apply below_drew1 | refine below_set ?_ GE193.out | refine below_set ?_ GE194.out) | exact HB.out)⟩⟩
 case round =>
  clear H'
  try clear c1
  try clear p2
  try clear c3
  obtain ⟨x3, Ao_, co_, HA, HK1, BK193, BK194, HO_, HB⟩ := hrel
  cases gk with
  | zero => exact absurd HA.out (by simp [impl_firstOrder.l0])
  | succ k1 =>
   have H := HA.out
   clear HA
   simp only [impl_firstOrder.l0] at H
   replace H := Option.bind_eq_some_iff.mp H
   obtain ⟨t195, A50, H⟩ := H
   replace H : (if t195 < 0 then (some x3) else (if 0 ≤ t195 then (if t195 < (l1.length : Int) then (if x3.length < 17592186044416 then (impl_firstOrder.l0 k1 l1 l0 (x3 ++ [rd l1 t195])) else (none)) else (none)) else (none))) = some r := H
   have A5 := Aside0.mk A50
   clear A50
   by_cases c6 : t195 < 0
   ·rw [if_pos c6] at H
    have c6b0 : decide (t195 < 0) = true := decide_eq_true c6
    clear c6
    obtain rfl := Option.some.inj H
    go_wp2_with (first | ((with_reducible refine gate_callee (f := 66) rfl ?_); refine goesL_ (some 9) rfl rfl Try.func66 t6_ rfl #[.slice A1 l1.length c1, .func (.func 67) #[] #[.pointer (some ⟨gb194, 0, none⟩), .pointer (some ⟨gb193, 0, none⟩)]] rfl t2_ ?_; (with_reducible refine (slices_IndexFunc_int64_int64_c67.calls k1 _ _ l1 _ 1 [x3] _ 1 [l0] t195 _ ?side1 ?side2 ?side3 ?side4 ?side5 ?side6 A5.out).mono ?_); (case side1 => repeat (first | exact (Kd.C_below HR1.out HB.out) | (with_reducible refine Kd.C_alloc ?_ _) | (with_reducible refine Kd.C_drewN ?_ _) | (with_reducible refine Kd.C_drew ?_))); (case side2 => exact HC1.out); (case side3 => exact Kd.C_one (d := (Kd.slice 2 (Kd.int .i64))) (⟨_, _, rfl, (Kd.R_reads' HO_.out).2.1, (by repeat (first | exact (Kd.R_reads' HO_.out).2.2 | (with_reducible refine Kd.C_alloc ?_ _) | (with_reducible refine Kd.C_drewN ?_ _) | (with_reducible refine Kd.C_drew ?_)))⟩) (cells_blk (cs := #[.slice Ao_ x3.length co_]) (t := 29) (q2_ BK194.out))); (case side4 => exact Nat.le_refl _); (case side5 => exact Kd.C_one (d := (Kd.slice 54 k54)) (⟨_, _, rfl, (by exact HC0.out), t13_⟩) (cells_blk (cs := #[.slice A0 l0.length c0]) (t := 25) (q2_ BK193.out))); (case side6 => exact Nat.le_refl _); rintro e w7 ⟨rfl, hb⟩; refine ⟨_, rfl, ?_⟩; have n0_ := Aside0.mk (blk_below (g := gb193) (o := .cells #[.slice A0 l0.length c0] 25 (0, 0)) (q2_ BK193.out) hb); have n1_ := Aside0.mk (blk_below (g := gb194) (o := .cells #[.slice Ao_ x3.length co_] 29 (0, 0)) (q2_ BK194.out) hb); have n2_ := Aside0.mk (below_step t8_ hb); have n3_ := Aside0.mk (Kd.R_below (q1_ HO_.out) hb); clear BK193; clear BK194; clear HB; clear HO_; have BK193 := n0_; have BK194 := n1_; have HB := n2_; have HO_ := n3_; clear n0_ n1_ n2_ n3_; (try clear hb); (try clear hb2); (try clear hk); (try clear hi); have hnb8 := NB194_193.out; have hnc8 := NB193_194.out; have hcz9_0 : w7.cell? ⟨gb194, 0, none⟩ = some (.slice Ao_ x3.length co_) := (blk_cell BK194.out 0).trans rfl; have hfz9_0 := blk_frozen BK194.out 0))
    go_ret
    exact ⟨_, by first | rfl | (simp [errW_none, errW_some] <;> rfl) | (simp [*, errW_none, errW_some] <;> rfl), by (with_reducible repeat (first | apply Kd.R_alloc | apply Kd.R_drewN | apply Kd.R_drew)); exact HO_.out, by repeat (first | (with_reducible first | exact HB.out | apply below_alloc | apply pw_below_drewN | apply below_drew1 | refine below_set ?_ GE193.out | refine below_set ?_ GE194.out) | exact HB.out)⟩
   ·rw [if_neg c6] at H
    have c6b0 : decide (t195 < 0) = false := decide_eq_false c6
    clear c6
    by_cases c10 : 0 ≤ t195
    ·rw [if_pos c10] at H
     have c10b0 : decide (0 ≤ t195) = true := decide_eq_true c10
     clear c10
     by_cases c11 : t195 < (l1.length : Int)
     ·rw [if_pos c11] at H
      have c11b0 : decide (t195 < (l1.length : Int)) = true := decide_eq_true c11
      clear c11
      by_cases c12 : x3.length < 17592186044416
      ·rw [if_pos c12] at H
       have LMc12 := Aside0.mk c12
       clear c12
       obtain ⟨y197, hy197⟩ : ∃ y_ : List Int, y_ = (x3 ++ [rd l1 t195]) := ⟨_, rfl⟩
       replace H : (impl_firstOrder.l0 k1 l1 l0 y197) = some r := by first | (rw [hy197]; with_reducible exact H) | (have H2_ := (Option.bind_some _ _).symm.trans H; rw [hy197]; with_reducible exact H2_) | (have H2_ := (Option.bind_some _ _).symm.trans H; with_reducible exact H2_) | with_reducible exact H | (rw [hy197]; exact H) | exact H
       have Ny197 := Aside0.mk hy197
       clear hy197
       have H' := Aside0.mk H
       clear H
       try go_wp2_with (first | ((with_reducible refine gate_callee (f := 66) rfl ?_); refine goesL_ (some 9) rfl rfl Try.func66 t6_ rfl #[.slice A1 l1.length c1, .func (.func 67) #[] #[.pointer (some ⟨gb194, 0, none⟩), .pointer (some ⟨gb193, 0, none⟩)]] rfl t2_ ?_; (with_reducible refine (slices_IndexFunc_int64_int64_c67.calls k1 _ _ l1 _ 1 [x3] _ 1 [l0] t195 _ ?side1 ?side2 ?side3 ?side4 ?side5 ?side6 A5.out).mono ?_); (case side1 => repeat (first | exact (Kd.C_below HR1.out HB.out) | (with_reducible refine Kd.C_alloc ?_ _) | (with_reducible refine Kd.C_drewN ?_ _) | (with_reducible refine Kd.C_drew ?_))); (case side2 => exact HC1.out); (case side3 => exact Kd.C_one (d := (Kd.slice 2 (Kd.int .i64))) (⟨_, _, rfl, (Kd.R_reads' HO_.out).2.1, (by repeat (first | exact (Kd.R_reads' HO_.out).2.2 | (with_reducible refine Kd.C_alloc ?_ _) | (with_reducible refine Kd.C_drewN ?_ _) | (with_reducible refine Kd.C_drew ?_)))⟩) (cells_blk (cs := #[.slice Ao_ x3.length co_]) (t := 29) (q2_ BK194.out))); (case side4 => exact Nat.le_refl _); (case side5 => exact Kd.C_one (d := (Kd.slice 54 k54)) (⟨_, _, rfl, (by exact HC0.out), t13_⟩) (cells_blk (cs := #[.slice A0 l0.length c0]) (t := 25) (q2_ BK193.out))); (case side6 => exact Nat.le_refl _); rintro e w13 ⟨rfl, hb⟩; refine ⟨_, rfl, ?_⟩; have n0_ := Aside0.mk (blk_below (g := gb193) (o := .cells #[.slice A0 l0.length c0] 25 (0, 0)) (q2_ BK193.out) hb); have n1_ := Aside0.mk (blk_below (g := gb194) (o := .cells #[.slice Ao_ x3.length co_] 29 (0, 0)) (q2_ BK194.out) hb); have n2_ := Aside0.mk (below_step t8_ hb); have n3_ := Aside0.mk (Kd.R_below (q1_ HO_.out) hb); clear BK193; clear BK194; clear HB; clear HO_; have BK193 := n0_; have BK194 := n1_; have HB := n2_; have HO_ := n3_; clear n0_ n1_ n2_ n3_; (try clear hb); (try clear hb2); (try clear hk); (try clear hi)))
       have n0_ := Aside0.mk (blk_drew BK193.out)
       have n1_ := Aside0.mk (blk_drew BK194.out)
       have n2_ := Aside0.mk (below_drew1 HB.out)
       have n3_ := Aside0.mk (Kd.R_drew HO_.out)
       clear HO_
       have HO_ := n3_
       clear n3_
       clear BK193
       clear BK194
       clear HB
       have BK193 := n0_
       have BK194 := n1_
       have HB := n2_
       clear n0_ n1_ n2_
       have p196 : 0 ≤ (t195 : Int) := of_decide_eq_true t3_
       have q196 : t195 < (l1.length : Int) := of_decide_eq_true t3_
       obtain ⟨ad196, e196, hx196_0⟩ := Kd.at_int HR1.out t195 p196 q196
       have hw196_0 := hx196_0
       cases e196
       replace hx196_0 := (HB.out.cell (World.block_lt_of_cell? w _ hx196_0)).trans hx196_0
       replace p196 := eq_true p196
       replace q196 := eq_true q196
       refine start_ (n := 8) (S := fun w' => w'.cell? ⟨gb194, 0, none⟩ = some (.slice Ao_ x3.length co_) ∧ w'.cell? (ad196.add (t195).toNat) = some (.int .i64 (rd l1 t195))) (ds := [7]) (tf 0 8) t6_ rfl rfl ⟨(blk_cell BK194.out 0).trans rfl, ((HB.out.cell (World.block_lt_of_cell? w _ hw196_0)).trans hw196_0)⟩ (fun hHeld => ?_); refine with_tabW impl_firstOrder.tab5 impl_firstOrder.bits5 (fun HT_ HW_ => ?_)
       generalize w13.drew = w14 at BK193 BK194 HO_ HB hx196_0 hHeld ⊢
       refine px 1 (some 14) (tb 8 2) HT_ ?_
       refine px 2 (some 15) (tb 8 6) HT_ ?_
       refine px 3 (some 16) (tb 8 14) HT_ ?_
       refine tx (v := ?_) 0 (some 13) (tf 4 8) HT_ HW_ hHeld ?_ ?_
       rotate_left; (· rintro w' ⟨s0, s1⟩; go_simp; with_reducible rfl)
       refine tx (v := ?_) 4 (some 17) (tf 5 8) HT_ HW_ hHeld ?_ ?_
       rotate_left; (· rintro w' ⟨s0, s1⟩; go_simp; with_reducible rfl)
       refine one_ (i := 5) (N := some 18) (tf 6 8) rfl rfl (one_of HT_.out t6_) t12_ (fun K hK => ?_)
       refine value_ (w1 := ?_) (v := ?_) (by rfl) rfl ?_ ?_
       rotate_left 2
       ·go_simp
        constructor
        ·rfl
        ·rfl
       refine hK.out _ _ ⟨(blk_cell (blk_alloc BK194.out _) 0).trans rfl, (World.cell?_alloc_lt _ _ _ (World.block_lt_of_cell? _ _ (((HB.out.cell (World.block_lt_of_cell? w _ hw196_0)).trans hw196_0)))).trans (((HB.out.cell (World.block_lt_of_cell? w _ hw196_0)).trans hw196_0))⟩ (fun hHeld => ?_)
       clear hK K
       refine norm_ (a' := ?_) ?_ ?_
       rotate_left
       ·show Act.put _ (some 18) _ = _
        simp only [Act.put, List.setIfInBounds_toArray, List.set_cons_zero, List.set_cons_succ, i64_w, i32_w]
        rfl
       refine one_ (i := 6) (N := some 19) (tf 7 8) rfl rfl (one_of HT_.out t6_) t12_ (fun K hK => ?_)
       refine Kd.R_append_step (Kd.int .i64) (w0 := w) w.heap.size (by rfl) (.tmp 13) (.tmp 18) 29 2 (.int .i64 0) 8 rfl Try.underlying29 info2 rfl t12_ t7_ (.slice Ao_ x3.length co_) x3 (rd l1 t195) [.int .i64 (rd l1 t195)] (fun _ => True) (fun _ => False) rfl rfl ?aP (fun _ hk => hk.elim) ?aF ?aO ?aB ?aS ?aL ?_
       (case aP => exact rfl)
       (case aB => exact t8_)
       (case aF => exact (fun _ _ => trivial))
       (case aO => exact (q1_ HO_.out))
       (case aS => exact (below_size t8_))
       (case aL => have := LMc12.out; omega)
       intro v198 w15 ho hb hg hat
       rw [← Ny197.out] at ho
       have n0_ := Aside0.mk (blk_grown (g := gb193) (o := .cells #[.slice A0 l0.length c0] 25 (0, 0)) (q2_ BK193.out) hg (Kd.R_ne HO_.out BK193.out (by decide)))
       have n1_ := Aside0.mk (blk_grown (g := gb194) (o := .cells #[.slice Ao_ x3.length co_] 29 (0, 0)) (q2_ BK194.out) hg (Kd.R_ne HO_.out BK194.out (by decide)))
       have n2_ := Aside0.mk (hb)
       have n3_ := Aside0.mk (ho)
       clear BK193
       clear BK194
       clear HB
       have BK193 := n0_
       have BK194 := n1_
       have HB := n2_
       have HO199 := n3_
       clear n0_ n1_ n2_ n3_
       clear ho hb hg hat
       obtain ⟨Ao16, co16, eo16⟩ := Kd.R_slice HO199.out
       (first | subst eo16 | (injection eo16 with f1_ f2_ f3_; have f4_ := f1_.symm; have f5_ := f3_.symm; clear f1_ f2_ f3_; subst f4_; subst f5_))
       refine hK.out _ _ ⟨(blk_cell BK194.out 0).trans rfl, ((HB.out.cell (World.block_lt_of_cell? w _ hw196_0)).trans hw196_0)⟩ (fun hHeld => ?_)
       clear hK K
       refine norm_ (a' := ?_) ?_ ?_
       rotate_left
       ·show Act.put _ (some 19) _ = _
        simp only [Act.put, List.setIfInBounds_toArray, List.set_cons_zero, List.set_cons_succ, i64_w, i32_w]
        rfl
       refine last_ (i := 7) (N := none) (tf 8 8) rfl rfl (one_of HT_.out t6_) t12_ (fun K hK => ?_)
       have hs17 : w15.cell? ⟨gb194, 0, none⟩ = some (.slice Ao_ x3.length co_) := (blk_cell BK194.out 0).trans rfl
       have hfs17 := blk_frozen BK194.out 0
       have hns17_0 := NB193_194.out
       have hms17_0 := NB194_193.out
       refine skip_ (w1 := ?_) (by rfl) rfl ?_ ?_
       rotate_left
       ·go_simp
        rfl
       refine hK.out _ _ ?_
       clear hK K
       refine done_ (done_of HT_.out t6_) ?_
       try go_wp2
       go_roundg k1
       case measure => have := HK1.out; omega
       case rel => exact ⟨y197, Ao16, co16, H', ⟨by have := HK1.out; omega⟩, ⟨by (with_reducible repeat (first | refine blk_drewN ?_ _ | refine blk_drew ?_ | refine blk_alloc ?_ _)); refine blk_far ?_ NB193_194.out _; (with_reducible repeat (first | refine blk_drewN ?_ _ | refine blk_drew ?_ | refine blk_alloc ?_ _)); exact BK193.out⟩, ⟨by (with_reducible repeat (first | refine blk_drewN ?_ _ | refine blk_drew ?_ | refine blk_alloc ?_ _)); refine blk_put (cs := #[.slice Ao_ x3.length co_]) ?_ 0 _ rfl; (with_reducible repeat (first | refine blk_drewN ?_ _ | refine blk_drew ?_ | refine blk_alloc ?_ _)); exact BK194.out⟩, ⟨by refine Kd.R_set HO199.out (q2_ BK194.out) t12_ 0 _⟩, ⟨by repeat (first | (with_reducible first | exact HB.out | apply below_alloc | apply pw_below_drewN | apply below_drew1 | refine below_set ?_ GE193.out | refine below_set ?_ GE194.out) | exact HB.out)⟩⟩
      ·rw [if_neg c12] at H
       exact absurd H t17_
     ·rw [if_neg c11] at H
      exact absurd H t17_
    ·rw [if_neg c10] at H
     exact absurd H t17_

/-! ### impl_allStages: function 34 -/
def impl_allStages.l0 : Nat → List Int → Int → Int → Option (List Int)
 | 0, _, _, _ => none
 | k + 1, x3, x9, x10 => if x10 < x9 then (if 0 ≤ x10 then (if x10 < (x3.length : Int) then (impl_allStages.l0 k (x3.set (x10 : Int).toNat x10) x9 (wrap64 (x10 + 1))) else (none)) else (none)) else (some x3)
def impl_allStages.f (k : Nat) (l0 : List (S54)) : Option (List Int) := if 0 ≤ (l0.length : Int) then (if ((l0.length : Int) : Int).toNat ≤ 35184372088832 then ((some (List.replicate ((l0.length : Int) : Int).toNat 0 : List Int)).bind fun y200 => (impl_allStages.l0 k y200 (y200.length : Int) 0)) else (none)) else (none)
theorem impl_allStages.mono_l : ∀ k, (∀ y0 y1 y2, LeO (impl_allStages.l0 k y0 y1 y2) (impl_allStages.l0 (k + 1) y0 y1 y2))
 | 0 => fun _ _ _ r h => by simp [impl_allStages.l0] at h
 | k + 1 => by
  have ih0 := impl_allStages.mono_l k
  ·intro y0 y1 y2
   unfold impl_allStages.l0
   repeat' first
   | (with_reducible exact ih0 _ _ _)
   | (with_reducible exact LeO.refl _)
   | (with_reducible exact LeO.none _)
   | (with_reducible refine LeO.ite ?_ ?_)
   | (with_reducible refine LeO.bind ?_ (fun _ => ?_))
   | exact ih0 _ _ _
   | exact LeO.none _
   | refine LeO.ite ?_ ?_
   | refine LeO.bind ?_ (fun _ => ?_)
theorem impl_allStages.mono : ∀ a0 k, LeO (impl_allStages.f k a0) (impl_allStages.f (k + 1) a0) := by
 intro a0 k
 have ih0 := impl_allStages.mono_l k
 unfold impl_allStages.f
 repeat' first
   | (with_reducible exact ih0 _ _ _)
   | (with_reducible exact LeO.refl _)
   | (with_reducible exact LeO.none _)
   | (with_reducible refine LeO.ite ?_ ?_)
   | (with_reducible refine LeO.bind ?_ (fun _ => ?_))
   | exact ih0 _ _ _
   | exact LeO.none _
   | refine LeO.ite ?_ ?_
   | refine LeO.bind ?_ (fun _ => ?_)
set_option maxHeartbeats 8000000 in
set_option maxRecDepth 100000 in
theorem impl_allStages.calls (k : Nat) (A0 : Option Addr) (c0 : Nat) (l0 : List (S54)) (r : List Int) (w : World) (hr0 : Kd.C k54 w A0 l0.length l0) (hc0 : l0.length ≤ c0) (h : impl_allStages.f k l0 = some r) :
  Calls Try.prog 34 #[.slice A0 l0.length c0] w fun e w' => ∃ v0_ : Value, e = .returned (v0_) ∧ Kd.R (Kd.int .i64) 2 w' w.heap.size (fun _ => True) v0_ r ∧ Below w.heap.size w w' := by
 have HR0 := Aside0.mk hr0
 have HC0 := Aside0.mk hc0
 clear hr0 hc0
 have HB := Aside0.mk (Below.refl w.heap.size w)
 have H : (if 0 ≤ (l0.length : Int) then (if ((l0.length : Int) : Int).toNat ≤ 35184372088832 then ((some (List.replicate ((l0.length : Int) : Int).toNat 0 : List Int)).bind fun y200 => (impl_allStages.l0 k y200 (y200.length : Int) 0)) else (none)) else (none)) = some r := h
 clear h
 by_cases c2 : 0 ≤ (l0.length : Int)
 ·rw [if_pos c2] at H
  have c2b0 := eq_true c2
  have c2b1 : decide (0 ≤ (l0.length : Int)) = true := decide_eq_true c2
  clear c2
  by_cases c3 : ((l0.length : Int) : Int).toNat ≤ 35184372088832
  ·rw [if_pos c3] at H
   have c3b0 := eq_true c3
   have c3b1 : decide (((l0.length : Int) : Int).toNat ≤ 35184372088832) = true := decide_eq_true c3
   clear c3
   obtain ⟨y200, hy200⟩ : ∃ y_ : List Int, y_ = (List.replicate ((l0.length : Int) : Int).toNat 0) := ⟨_, rfl⟩
   replace H : (impl_allStages.l0 k y200 (y200.length : Int) 0) = some r := by first | (rw [hy200]; with_reducible exact H) | (have H2_ := (Option.bind_some _ _).symm.trans H; rw [hy200]; with_reducible exact H2_) | (have H2_ := (Option.bind_some _ _).symm.trans H; with_reducible exact H2_) | with_reducible exact H | (rw [hy200]; exact H) | exact H
   have Ny200 := Aside0.mk hy200
   clear hy200
   have H' := Aside0.mk H
   clear H
   go_enter Try.func34, Try.ntmps34
   go_wp2_with (first | ((with_reducible refine gate_dst (N := 7) rfl ?_); refine Kd.R_make (Kd.int .i64) _ 2 rfl (N := 7) rfl 29 _ _ rfl (l0.length : Int) rfl rfl Try.underlying29 (.int .i64 0) 8 info2 rfl t12_ t7_ 0 (ok := fun _ => True) (okp := fun _ => True) rfl (fun _ hk => hk) trivial (of_decide_eq_true t3_) (Nat.le_trans (Nat.mul_le_mul_right _ (of_decide_eq_true t3_ : (l0.length : Int).toNat ≤ 35184372088832)) t7_) (Below.refl _ _) (Nat.le_refl _) ?_; intro v201 w4 ho5 hb hg_ hnew_; clear hg_ hnew_; (first | rw [← Ny200.out] at ho5 | (simp only [Int.reduceToNat] at ho5; rw [← Ny200.out] at ho5)); have n0_ := Aside0.mk (Kd.R_lower ho5 (below_size t1_)); have n1_ := Aside0.mk (below_step t1_ hb); clear HB; have HO202 := n0_; have HB := n1_; clear n0_ n1_; clear hb ho5; obtain ⟨Ao6, co6, eo6⟩ := Kd.R_slice HO202.out; subst eo6))
   go_loopg [10] k (fun kq v10 w' => ∃ (x3_1 : List Int) (x10_1 : Int), v10 = .int .i64 x10_1 ∧ Aside0 (impl_allStages.l0 kq x3_1 (y200.length : Int) x10_1 = some r) ∧ Aside0 (kq ≤ k) ∧ Aside0 (Kd.R (Kd.int .i64) 2 w' w.heap.size (fun _ => True) (.slice Ao6 y200.length co6) x3_1) ∧ Aside0 (Below w.heap.size w w'))
   case atStart => exact ⟨(y200), (0), t4_, H', ⟨Nat.le_refl _⟩, ⟨by (with_reducible repeat (first | apply Kd.R_alloc | apply Kd.R_drewN | apply Kd.R_drew)); exact HO202.out⟩, ⟨by repeat (first | (with_reducible first | exact HB.out | apply below_alloc | apply pw_below_drewN | apply below_drew1) | exact HB.out)⟩⟩
   case round =>
    clear H'
    try clear c2
    try clear c2b0
    try clear c2b1
    try clear p2
    try clear c3
    try clear c3b0
    try clear c3b1
    obtain ⟨x3_1, x10_1, rfl, HA, HK1, HO_3, HB⟩ := hrel
    have hl3_1 := (Kd.R_reads' HO_3.out).1
    rw [hl3_1] at HO_3
    (try simp only [hl3_1])
    cases gk with
    | zero => exact absurd HA.out (by simp [impl_allStages.l0])
    | succ k1 =>
     have H := HA.out
     clear HA
     simp only [impl_allStages.l0] at H
     by_cases c7 : x10_1 < (y200.length : Int)
     ·rw [if_pos c7] at H
      have c7b0 : decide (x10_1 < (y200.length : Int)) = true := decide_eq_true c7
      try (have c7b0h := c7b0; simp only [hl3_1] at c7b0h)
      clear c7
      by_cases c8 : 0 ≤ x10_1
      ·rw [if_pos c8] at H
       have c8b0 : decide (0 ≤ x10_1) = true := decide_eq_true c8
       clear c8
       by_cases c9 : x10_1 < (x3_1.length : Int)
       ·rw [if_pos c9] at H
        have c9b0 : decide (x10_1 < (x3_1.length : Int)) = true := decide_eq_true c9
        clear c9
        obtain ⟨y203, hy203⟩ : ∃ y_ : List Int, y_ = (x3_1.set (x10_1 : Int).toNat x10_1) := ⟨_, rfl⟩
        replace H : (impl_allStages.l0 k1 y203 (y200.length : Int) (wrap64 (x10_1 + 1))) = some r := by first | (rw [hy203]; with_reducible exact H) | (have H2_ := (Option.bind_some _ _).symm.trans H; rw [hy203]; with_reducible exact H2_) | (have H2_ := (Option.bind_some _ _).symm.trans H; with_reducible exact H2_) | with_reducible exact H | (rw [hy203]; exact H) | exact H
        have Ny203 := Aside0.mk hy203
        clear hy203
        have H' := Aside0.mk H
        clear H
        have p10 : 0 ≤ (x10_1 : Int) := of_decide_eq_true t3_
        have q10 : (x10_1 : Int) < ((x3_1.length : Int) : Int) := of_decide_eq_true t3_
        obtain ⟨go10, co10, eo10, gb10, gl10, cl10, HG10⟩ := Kd.R_form HO_3.out t7_
        (first | cases eo10 | (injection eo10 with ea_ en_ ec_; (first | subst ea_ | (injection ea_ with ea_; subst ea_)); subst ec_; clear en_))
        have GB10 := Aside0.mk gb10
        have GG10 := Aside0.mk HG10
        clear gb10 gl10 HG10
        obtain ⟨hx10_0, hf10_0⟩ := Kd.R_celln 0 HO_3.out (x10_1 : Int) p10 q10
        replace p10 := eq_true p10
        replace q10 := eq_true q10
        have HP11 := Kd.R_putg HO_3.out (x10_1 : Int) x10_1
        go_wp2_with (first | ((with_reducible refine gate_store (t := 2) (p := 16) rfl ?_); refine store_event (t := 2) (p := 16) (v := ?vo_w12) (w1 := (wr.setCell ⟨go10, (x10_1 : Int).toNat, none⟩ (.int .i64 x10_1))) ?hg ?ho ?hn ?hr ?_; (case ho => rfl); (case hg => rfl); (case hn => rfl); (case hr => first | (go_simp; done) | (go_simp; rfl)); intro w12 hw; have hg : wr.grownBy w12 (some go10) := (by rw [hw]; exact HP11.2); have hp_ : Kd.R (Kd.int .i64) 2 w12 w.heap.size (fun _ => True) (.slice (some ⟨go10, 0, none⟩) x3_1.length co6) y203 := (by rw [hw, Ny203.out]; exact HP11.1); clear HP11; have n0_ := Aside0.mk (hp_); have n1_ := Aside0.mk ((by rw [hw]; exact below_set (HB.out) GB10.out : Below w.heap.size w w12)); clear HO_3; clear HB; have HO_3 := n0_; have HB := n1_; clear n0_ n1_; clear hg hw hp_))
        (try simp only [← hl3_1])
        go_roundg k1
        case measure => have := HK1.out; omega
        case rel => exact ⟨(y203), (wrap64 (x10_1 + 1)), t4_, H', ⟨by have := HK1.out; omega⟩, ⟨by (try simp only [hl3_1]); (with_reducible repeat (first | apply Kd.R_alloc | apply Kd.R_drewN | apply Kd.R_drew)); exact HO_3.out⟩, ⟨by repeat (first | (with_reducible first | exact HB.out | apply below_alloc | apply pw_below_drewN | apply below_drew1) | exact HB.out)⟩⟩
       ·rw [if_neg c9] at H
        exact absurd H t17_
      ·rw [if_neg c8] at H
       exact absurd H t17_
     ·rw [if_neg c7] at H
      have c7b0 : decide (x10_1 < (y200.length : Int)) = false := decide_eq_false c7
      try (have c7b0h := c7b0; simp only [hl3_1] at c7b0h)
      clear c7
      obtain rfl := Option.some.inj H
      go_wp2
      go_ret
      exact ⟨_, by first | rfl | (simp [errW_none, errW_some] <;> rfl) | (simp [*, errW_none, errW_some] <;> rfl), by (with_reducible repeat (first | apply Kd.R_alloc | apply Kd.R_drewN | apply Kd.R_drew)); exact HO_3.out, by repeat (first | (with_reducible first | exact HB.out | apply below_alloc | apply pw_below_drewN | apply below_drew1) | exact HB.out)⟩
  ·rw [if_neg c3] at H
   exact absurd H t17_
 ·rw [if_neg c2] at H
  exact absurd H t17_

end Go.Proofs.Ytipfgehjedldmaa.PFnExactValidStages
