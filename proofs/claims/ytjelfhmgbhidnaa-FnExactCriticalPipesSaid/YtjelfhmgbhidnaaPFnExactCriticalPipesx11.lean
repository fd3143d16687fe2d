-- written by wip/xprint.py, a program of this session, for this claim; not trusted: Lean checks it.
import Derived.Test.YtjelfhmgbhidnaaPFnExactCriticalPipesx0
import Derived.Test.YtjelfhmgbhidnaaPFnExactCriticalPipesx9
import Derived.Test.YtjelfhmgbhidnaaPFnExactCriticalPipesx10
namespace Go.Proofs.Ytjelfhmgbhidnaa.PFnExactCriticalPipes
open Go.RowKit Go.Proofs.YtjelfhmgbhidnaaW.PrintWords Go.Proofs.YtjelfhmgbhidnaaW.PrintLast Go.Proofs.YtjelfhmgbhidnaaW.PrintMore
attribute [local go_sem] leq_less_ max2_int min2_int max_two min_two max_three min_three max_four min_four   -- for this text's walks alone
set_option linter.unusedVariables false
set_option linter.unusedSimpArgs false

/-! ### impl_ValidNetwork: function 44 -/
mutual
def impl_ValidNetwork.j0 : Nat → Bool → List Int → List (S80) → Option (Bool)
 | 0, _, _, _ => none
 | k + 1, x26, x296000, x296001 => if x26 = true then (some false) else (impl_ValidNetwork.l0 k x296001 (x296001.length : Int) 0 x296000 x296001)
def impl_ValidNetwork.l0 : Nat → List (S80) → Int → Int → List Int → List (S80) → Option (Bool)
 | 0, _, _, _, _, _ => none
 | k + 1, x28, x29, x30, x296000, x296001 => if x30 < x29 then (if 0 ≤ x30 then (if x30 < (x28.length : Int) then ((impl_ValidPipe.f k ((rd_T80 x28 x30).f0) ((rd_T80 x28 x30).f1) ((rd_T80 x28 x30).f2) ((rd_T80 x28 x30).f3) ((rd_T80 x28 x30).f4) ((rd_T80 x28 x30).f5)).bind fun t299 => (if t299 = true then ((impl_Network_hasEnds.f x296000 x296001 ((rd_T80 x28 x30).f0) ((rd_T80 x28 x30).f1) ((rd_T80 x28 x30).f2) ((rd_T80 x28 x30).f3) ((rd_T80 x28 x30).f4) ((rd_T80 x28 x30).f5)).bind fun t300 => (if t300 = true then (if x30 > 0 then (if 0 ≤ (wrap64 (x30 - 1)) then (if (wrap64 (x30 - 1)) < (x296001.length : Int) then (if ((Op.bytesLess (((rd_T80 x296001 (wrap64 (x30 - 1))).f0).toList) (((rd_T80 x28 x30).f0).toList)) = true) then (impl_ValidNetwork.l0 k x28 x29 (wrap64 (x30 + 1)) x296000 x296001) else (some false)) else (none)) else (none)) else (impl_ValidNetwork.l0 k x28 x29 (wrap64 (x30 + 1)) x296000 x296001)) else (some false))) else (some false))) else (none)) else (none)) else (some true)
end
def impl_ValidNetwork.f (k : Nat) (l0_0 : List Int) (l0_1 : List (S80)) : Option (Bool) := if (l0_0.length : Int) < 1 then (impl_ValidNetwork.j0 k true l0_0 l0_1) else (if (l0_0.length : Int) > 16 then (impl_ValidNetwork.j0 k true l0_0 l0_1) else ((impl_allWithin.f l0_0 (-100000) 100000).bind fun t296 => (if t296 = true then (impl_ValidNetwork.j0 k (decide ((l0_1.length : Int) > 20)) l0_0 l0_1) else (impl_ValidNetwork.j0 k true l0_0 l0_1))))
theorem impl_ValidNetwork.mono_l : ∀ k, (∀ y0 y1 y2, LeO (impl_ValidNetwork.j0 k y0 y1 y2) (impl_ValidNetwork.j0 (k + 1) y0 y1 y2)) ∧ (∀ y0 y1 y2 y3 y4, LeO (impl_ValidNetwork.l0 k y0 y1 y2 y3 y4) (impl_ValidNetwork.l0 (k + 1) y0 y1 y2 y3 y4))
 | 0 => ⟨fun _ _ _ r h => by simp [impl_ValidNetwork.j0] at h, fun _ _ _ _ _ r h => by simp [impl_ValidNetwork.l0] at h⟩
 | k + 1 => by
  obtain ⟨ih0, ih1⟩ := impl_ValidNetwork.mono_l k
  refine ⟨?_, ?_⟩ <;> intros <;> first | unfold impl_ValidNetwork.j0 | unfold impl_ValidNetwork.l0
  all_goals
   repeat' first
   | (with_reducible exact ih0 _ _ _)
   | (with_reducible exact ih1 _ _ _ _ _)
   | (with_reducible exact impl_ValidPipe.mono _ _ _ _ _ _ _)
   | (with_reducible exact LeO.refl _)
   | (with_reducible exact LeO.none _)
   | (with_reducible refine LeO.ite ?_ ?_)
   | (with_reducible refine LeO.bind ?_ (fun _ => ?_))
   | exact ih0 _ _ _
   | exact ih1 _ _ _ _ _
   | exact impl_ValidPipe.mono _ _ _ _ _ _ _
   | exact LeO.none _
   | refine LeO.ite ?_ ?_
   | refine LeO.bind ?_ (fun _ => ?_)
theorem impl_ValidNetwork.mono : ∀ a0 a1 k, LeO (impl_ValidNetwork.f k a0 a1) (impl_ValidNetwork.f (k + 1) a0 a1) := by
 intro a0 a1 k
 obtain ⟨ih0, ih1⟩ := impl_ValidNetwork.mono_l k
 unfold impl_ValidNetwork.f
 repeat' first
   | (with_reducible exact ih0 _ _ _)
   | (with_reducible exact ih1 _ _ _ _ _)
   | (with_reducible exact impl_ValidPipe.mono _ _ _ _ _ _ _)
   | (with_reducible exact LeO.refl _)
   | (with_reducible exact LeO.none _)
   | (with_reducible refine LeO.ite ?_ ?_)
   | (with_reducible refine LeO.bind ?_ (fun _ => ?_))
   | exact ih0 _ _ _
   | exact ih1 _ _ _ _ _
   | exact impl_ValidPipe.mono _ _ _ _ _ _ _
   | exact LeO.none _
   | refine LeO.ite ?_ ?_
   | refine LeO.bind ?_ (fun _ => ?_)
def impl_ValidNetwork.T6 : Bool × List (List Nat × List Nat) := (true, [([], []), ([0], [0]), ([1], [1]), ([2, 1], [2]), ([3], [3]), ([3], [3]), ([4, 5, 3, 3], [3, 4, 5]), ([6, 3], [3, 6]), ([3, 7], [3, 7]), ([8, 6], [8]), ([9], [9]), ([10, 9], [9, 10]), ([11, 9, 9], [9, 11]), ([12], [12]), ([13, 12], [12, 13]), ([12], [12]), ([15, 12], [12, 15]), ([12], [12]), ([17, 12], [12, 17]), ([16, 18, 12], [12, 16, 18]), ([19, 12], [12, 19]), ([20, 12], [12, 20]), ([14, 21, 12], [12, 14, 21]), ([12, 22, 9], [9, 12, 22]), ([9, 23], [9, 23])])
def impl_ValidNetwork.B6 : List Nat := [0, 1, 3, 7, 15, 15, 63, 127, 255, 511, 1023, 2047, 4095, 8191, 16383, 8191, 40959, 8191, 139263, 499711, 1023999, 2072575, 4194303, 8388607, 16777215]
theorem impl_ValidNetwork.tab6 : rtab .any (opsOf Try.f44 6) = impl_ValidNetwork.T6 := by kernel_rfl
theorem impl_ValidNetwork.bits6 : waitsOk impl_ValidNetwork.T6.2 impl_ValidNetwork.B6 = true := by kernel_rfl
set_option maxHeartbeats 8000000 in
set_option maxRecDepth 100000 in
theorem impl_ValidNetwork.calls (k : Nat) (A0_0 : Option Addr) (c0_0 : Nat) (l0_0 : List Int) (A0_1 : Option Addr) (c0_1 : Nat) (l0_1 : List (S80)) (r : Bool) (w : World) (hr0_0 : Kd.C (Kd.int .i64) w A0_0 l0_0.length l0_0) (hc0_0 : l0_0.length ≤ c0_0) (hr0_1 : Kd.C k80 w A0_1 l0_1.length l0_1) (hc0_1 : l0_1.length ≤ c0_1) (h : impl_ValidNetwork.f k l0_0 l0_1 = some r) :
  Calls Try.prog 44 #[.agg #[.slice A0_0 l0_0.length c0_0, .slice A0_1 l0_1.length c0_1]] w fun e w' => e = .returned (.bool r) ∧ Below w.heap.size w w' := by
 have hu32 := Try.underlying32
 have hu80 := Try.underlying80
 have HR0_0 := Aside0.mk hr0_0
 have HC0_0 := Aside0.mk hc0_0
 clear hr0_0 hc0_0
 have HR0_1 := Aside0.mk hr0_1
 have HC0_1 := Aside0.mk hc0_1
 clear hr0_1 hc0_1
 have HB := Aside0.mk (Below.refl w.heap.size w)
 have H : (if (l0_0.length : Int) < 1 then (impl_ValidNetwork.j0 k true l0_0 l0_1) else (if (l0_0.length : Int) > 16 then (impl_ValidNetwork.j0 k true l0_0 l0_1) else ((impl_allWithin.f l0_0 (-100000) 100000).bind fun t296 => (if t296 = true then (impl_ValidNetwork.j0 k (decide ((l0_1.length : Int) > 20)) l0_0 l0_1) else (impl_ValidNetwork.j0 k true l0_0 l0_1))))) = some r := h
 clear h
 have HC2 := Aside0.mk H
 clear H
 go_enter Try.func44, Try.ntmps44
 go_upto_region 1 with (first | ((with_reducible refine gate_dst (N := 1) rfl ?_); (try (refine gate_guard t71_ ?_; dsimp only)); refine box_event ?hg (N := 1) ?hd (cs := #[.slice A0_0 l0_0.length c0_0, .slice A0_1 l0_1.length c0_1]) (t := 32) ?hr ?_; (case hd => rfl); (case hg => rfl); (case hr => first | (go_simp; done) | (go_simp; rfl)); intro gb295 hg w3 hbox hb; have n0_ := Aside0.mk (below_step t1_ hb); have n1_ := Aside0.mk (hbox); have n2_ := Aside0.mk ((by rw [hg]; exact (below_size t1_) : w.heap.size ≤ gb295)); have n3_ := Aside0.mk ((by rw [hg]; exact (below_size t1_) : w.heap.size ≤ gb295)); clear HB; have HB := n0_; have BK295 := n1_; have GW295 := n2_; have GE295 := n3_; clear n0_ n1_ n2_ n3_; clear hb hbox hg))
 (try simp only [Act.put, List.setIfInBounds_toArray, List.set_cons_zero, List.set_cons_succ])
 go_cut [26] (fun v26 wc => ∃ (kq : Nat) (x26_1 : Bool), v26 = .bool x26_1 ∧ Aside0 (impl_ValidNetwork.j0 kq x26_1 l0_0 l0_1 = some r) ∧ Aside0 (kq ≤ k) ∧ Aside0 (wc.heap[gb295]? = some (.cells #[(.slice A0_0 l0_0.length c0_0), (.slice A0_1 l0_1.length c0_1)] 32 (0, 0))) ∧ Aside0 (Below w.heap.size w wc))
 case first =>
  have H := HC2.out
  clear HC2
  by_cases c4 : (l0_0.length : Int) < 1
  ·rw [if_pos c4] at H
   have c4b0 : decide ((l0_0.length : Int) < 1) = true := decide_eq_true c4
   have c4b1 : decide (l0_0.length < 1) = true := decide_eq_true t28_
   clear c4
   (first | rw [c4b0] | (simp only [i64_w, i32_w]; rw [c4b0]) | skip)
   have H' := Aside0.mk H
   clear H
   have hcz5_0 : w3.cell? ⟨gb295, 0, none⟩ = some (.slice A0_0 l0_0.length c0_0) := (blk_cell BK295.out 0).trans rfl
   have hcz5_1 : w3.cell? ⟨gb295, 1, none⟩ = some (.slice A0_1 l0_1.length c0_1) := (blk_cell BK295.out 1).trans rfl
   have hfz5_0 := blk_frozen BK295.out 0
   have hfz5_1 := blk_frozen BK295.out 1
   go_wp2
   go_meet
   case rel => exact ⟨_, (true), t6_, H', ⟨t42_⟩, ⟨t38_⟩, ⟨t10_⟩⟩
  ·rw [if_neg c4] at H
   have c4b0 : decide ((l0_0.length : Int) < 1) = false := decide_eq_false c4
   have c4b1 : decide (l0_0.length < 1) = false := decide_eq_false t28_
   clear c4
   (first | rw [c4b0] | (simp only [i64_w, i32_w]; rw [c4b0]) | skip)
   by_cases c6 : (l0_0.length : Int) > 16
   ·rw [if_pos c6] at H
    have c6b0 : decide (16 < (l0_0.length : Int)) = true := decide_eq_true c6
    have c6b1 : decide (16 < l0_0.length) = true := decide_eq_true t28_
    clear c6
    have H' := Aside0.mk H
    clear H
    have hcz7_0 : w3.cell? ⟨gb295, 0, none⟩ = some (.slice A0_0 l0_0.length c0_0) := (blk_cell BK295.out 0).trans rfl
    have hcz7_1 : w3.cell? ⟨gb295, 1, none⟩ = some (.slice A0_1 l0_1.length c0_1) := (blk_cell BK295.out 1).trans rfl
    have hfz7_0 := blk_frozen BK295.out 0
    have hfz7_1 := blk_frozen BK295.out 1
    go_wp2
    go_meet
    case rel => exact ⟨_, (true), t6_, H', ⟨t42_⟩, ⟨t38_⟩, ⟨t10_⟩⟩
   ·rw [if_neg c6] at H
    have c6b0 : decide (16 < (l0_0.length : Int)) = false := decide_eq_false c6
    have c6b1 : decide (16 < l0_0.length) = false := decide_eq_false t28_
    clear c6
    replace H := Option.bind_eq_some_iff.mp H
    obtain ⟨t296, A80, H⟩ := H
    replace H : (if t296 = true then (impl_ValidNetwork.j0 k (decide ((l0_1.length : Int) > 20)) l0_0 l0_1) else (impl_ValidNetwork.j0 k true l0_0 l0_1)) = some r := H
    have A8 := Aside0.mk A80
    clear A80
    by_cases c9 : t296 = true
    ·subst c9
     have H1 : (impl_ValidNetwork.j0 k (decide ((l0_1.length : Int) > 20)) l0_0 l0_1) = some r := by rw [if_pos rfl] at H; exact H
     clear H
     have H := H1
     clear H1
     have H' := Aside0.mk H
     clear H
     have hcz10_0 : w3.cell? ⟨gb295, 0, none⟩ = some (.slice A0_0 l0_0.length c0_0) := (blk_cell BK295.out 0).trans rfl
     have hcz10_1 : w3.cell? ⟨gb295, 1, none⟩ = some (.slice A0_1 l0_1.length c0_1) := (blk_cell BK295.out 1).trans rfl
     have hfz10_0 := blk_frozen BK295.out 0
     have hfz10_1 := blk_frozen BK295.out 1
     go_wp2_with (first | (go_at_call 66; (with_reducible refine (impl_allWithin.calls _ _ l0_0 (-100000) 100000 true _ ?side1 ?side2 A8.out).mono ?_); (case side1 => repeat (first | exact (Kd.C_below HR0_0.out HB.out) | (with_reducible refine Kd.C_alloc ?_ _) | (with_reducible refine Kd.C_drewN ?_ _) | (with_reducible refine Kd.C_drew ?_))); (case side2 => exact HC0_0.out); rintro e w11 ⟨rfl, hb⟩; have n0_ := Aside0.mk (blk_below (g := gb295) (o := .cells #[.slice A0_0 l0_0.length c0_0, .slice A0_1 l0_1.length c0_1] 32 (0, 0)) (q1_ BK295.out) hb); have n1_ := Aside0.mk (below_step t10_ hb); clear BK295; clear HB; have BK295 := n0_; have HB := n1_; clear n0_ n1_; (try clear hb); (try clear hb2); (try clear hk); (try clear hi); have hcz12_0 : w11.cell? ⟨gb295, 0, none⟩ = some (.slice A0_0 l0_0.length c0_0) := (blk_cell BK295.out 0).trans rfl; have hcz12_1 : w11.cell? ⟨gb295, 1, none⟩ = some (.slice A0_1 l0_1.length c0_1) := (blk_cell BK295.out 1).trans rfl; have hfz12_0 := blk_frozen BK295.out 0; have hfz12_1 := blk_frozen BK295.out 1))
     go_meet
     case rel => exact ⟨_, (decide ((l0_1.length : Int) > 20)), t6_, H', ⟨t42_⟩, ⟨t38_⟩, ⟨t10_⟩⟩
    ·replace c9 := Bool.eq_false_iff.mpr c9
     subst c9
     have H1 : (impl_ValidNetwork.j0 k true l0_0 l0_1) = some r := by rw [if_neg (show ¬ (false = true) by decide)] at H; exact H
     clear H
     have H := H1
     clear H1
     have H' := Aside0.mk H
     clear H
     have hcz13_0 : w3.cell? ⟨gb295, 0, none⟩ = some (.slice A0_0 l0_0.length c0_0) := (blk_cell BK295.out 0).trans rfl
     have hcz13_1 : w3.cell? ⟨gb295, 1, none⟩ = some (.slice A0_1 l0_1.length c0_1) := (blk_cell BK295.out 1).trans rfl
     have hfz13_0 := blk_frozen BK295.out 0
     have hfz13_1 := blk_frozen BK295.out 1
     go_wp2_with (first | (go_at_call 66; (with_reducible refine (impl_allWithin.calls _ _ l0_0 (-100000) 100000 false _ ?side1 ?side2 A8.out).mono ?_); (case side1 => repeat (first | exact (Kd.C_below HR0_0.out HB.out) | (with_reducible refine Kd.C_alloc ?_ _) | (with_reducible refine Kd.C_drewN ?_ _) | (with_reducible refine Kd.C_drew ?_))); (case side2 => exact HC0_0.out); rintro e w14 ⟨rfl, hb⟩; have n0_ := Aside0.mk (blk_below (g := gb295) (o := .cells #[.slice A0_0 l0_0.length c0_0, .slice A0_1 l0_1.length c0_1] 32 (0, 0)) (q1_ BK295.out) hb); have n1_ := Aside0.mk (below_step t10_ hb); clear BK295; clear HB; have BK295 := n0_; have HB := n1_; clear n0_ n1_; (try clear hb); (try clear hb2); (try clear hk); (try clear hi)))
     go_meet
     case rel => exact ⟨_, (true), t6_, H', ⟨t42_⟩, ⟨t38_⟩, ⟨t10_⟩⟩
 case rest =>
  clear HC2
  try clear p2
  try clear c4
  try clear c4b0
  try clear c4b1
  try clear c6
  try clear c6b0
  try clear c6b1
  try clear c9
  try clear hcz10_0
  try clear hcz10_1
  try clear hcz12_0
  try clear hcz12_1
  try clear hcz13_0
  try clear hcz13_1
  try clear hcz5_0
  try clear hcz5_1
  try clear hcz7_0
  try clear hcz7_1
  try clear hfz10_0
  try clear hfz10_1
  try clear hfz12_0
  try clear hfz12_1
  try clear hfz13_0
  try clear hfz13_1
  try clear hfz5_0
  try clear hfz5_1
  try clear hfz7_0
  try clear hfz7_1
  obtain ⟨kq, x26_1, rfl, HA, HJ1, BK295, HB⟩ := hcut
  cases kq with
  | zero => exact absurd HA.out (by simp [impl_ValidNetwork.j0])
  | succ kj1 =>
   have H := HA.out
   clear HA
   simp only [impl_ValidNetwork.j0] at H
   by_cases c15 : x26_1 = true
   ·subst c15
    have H1 : (some false) = some r := by rw [if_pos rfl] at H; exact H
    clear H
    have H := H1
    clear H1
    obtain rfl := Option.some.inj H
    go_wp2
    go_ret
    exact ⟨t5_, t10_⟩
   ·replace c15 := Bool.eq_false_iff.mpr c15
    subst c15
    have H1 : (impl_ValidNetwork.l0 kj1 l0_1 (l0_1.length : Int) 0 l0_0 l0_1) = some r := by rw [if_neg (show ¬ (false = true) by decide)] at H; exact H
    clear H
    have H := H1
    clear H1
    have H' := Aside0.mk H
    clear H
    have hcz16_0 : wc.cell? ⟨gb295, 0, none⟩ = some (.slice A0_0 l0_0.length c0_0) := (blk_cell BK295.out 0).trans rfl
    have hcz16_1 : wc.cell? ⟨gb295, 1, none⟩ = some (.slice A0_1 l0_1.length c0_1) := (blk_cell BK295.out 1).trans rfl
    have hfz16_0 := blk_frozen BK295.out 0
    have hfz16_1 := blk_frozen BK295.out 1
    go_wp2
    go_loopg [30] kj1 (fun kq v30 w' => ∃ (x30_2 : Int), v30 = .int .i64 x30_2 ∧ Aside0 (impl_ValidNetwork.l0 kq l0_1 (l0_1.length : Int) x30_2 l0_0 l0_1 = some r) ∧ Aside0 (kq ≤ kj1) ∧ Aside0 (w'.heap[gb295]? = some (.cells #[(.slice A0_0 l0_0.length c0_0), (.slice A0_1 l0_1.length c0_1)] 32 (0, 0))) ∧ Aside0 (Below w.heap.size w w'))
    case atStart => exact ⟨(0), t6_, H', ⟨Nat.le_refl _⟩, ⟨t38_⟩, ⟨t10_⟩⟩
    case round =>
     clear H'
     try clear c1
     try clear p2
     try clear c4
     try clear c4b0
     try clear c4b1
     try clear c6
     try clear c6b0
     try clear c6b1
     try clear c9
     try clear c15
     try clear hcz10_0
     try clear hcz10_1
     try clear hcz12_0
     try clear hcz12_1
     try clear hcz13_0
     try clear hcz13_1
     try clear hcz16_0
     try clear hcz16_1
     try clear hcz5_0
     try clear hcz5_1
     try clear hcz7_0
     try clear hcz7_1
     try clear hfz10_0
     try clear hfz10_1
     try clear hfz12_0
     try clear hfz12_1
     try clear hfz13_0
     try clear hfz13_1
     try clear hfz16_0
     try clear hfz16_1
     try clear hfz5_0
     try clear hfz5_1
     try clear hfz7_0
     try clear hfz7_1
     try clear p2
     obtain ⟨x30_2, rfl, HA, HK2, BK295, HB⟩ := hrel
     cases gk with
     | zero => exact absurd HA.out (by simp [impl_ValidNetwork.l0])
     | succ k2 =>
      have H := HA.out
      clear HA
      simp only [impl_ValidNetwork.l0] at H
      by_cases c17 : x30_2 < (l0_1.length : Int)
      ·rw [if_pos c17] at H
       have c17b0 : decide (x30_2 < (l0_1.length : Int)) = true := decide_eq_true c17
       clear c17
       by_cases c18 : 0 ≤ x30_2
       ·rw [if_pos c18] at H
        have c18b0 : decide (0 ≤ x30_2) = true := decide_eq_true c18
        clear c18
        by_cases c19 : x30_2 < (l0_1.length : Int)
        ·rw [if_pos c19] at H
         have c19b0 : decide (x30_2 < (l0_1.length : Int)) = true := decide_eq_true c19
         clear c19
         replace H := Option.bind_eq_some_iff.mp H
         obtain ⟨t299, A200, H⟩ := H
         replace H : (if t299 = true then ((impl_Network_hasEnds.f l0_0 l0_1 ((rd_T80 l0_1 x30_2).f0) ((rd_T80 l0_1 x30_2).f1) ((rd_T80 l0_1 x30_2).f2) ((rd_T80 l0_1 x30_2).f3) ((rd_T80 l0_1 x30_2).f4) ((rd_T80 l0_1 x30_2).f5)).bind fun t300 => (if t300 = true then (if x30_2 > 0 then (if 0 ≤ (wrap64 (x30_2 - 1)) then (if (wrap64 (x30_2 - 1)) < (l0_1.length : Int) then (if ((Op.bytesLess (((rd_T80 l0_1 (wrap64 (x30_2 - 1))).f0).toList) (((rd_T80 l0_1 x30_2).f0).toList)) = true) then (impl_ValidNetwork.l0 k2 l0_1 (l0_1.length : Int) (wrap64 (x30_2 + 1)) l0_0 l0_1) else (some false)) else (none)) else (none)) else (impl_ValidNetwork.l0 k2 l0_1 (l0_1.length : Int) (wrap64 (x30_2 + 1)) l0_0 l0_1)) else (some false))) else (some false)) = some r := H
         have A20 := Aside0.mk A200
         clear A200
         by_cases c21 : t299 = true
         ·subst c21
          have H1 : ((impl_Network_hasEnds.f l0_0 l0_1 ((rd_T80 l0_1 x30_2).f0) ((rd_T80 l0_1 x30_2).f1) ((rd_T80 l0_1 x30_2).f2) ((rd_T80 l0_1 x30_2).f3) ((rd_T80 l0_1 x30_2).f4) ((rd_T80 l0_1 x30_2).f5)).bind fun t300 => (if t300 = true then (if x30_2 > 0 then (if 0 ≤ (wrap64 (x30_2 - 1)) then (if (wrap64 (x30_2 - 1)) < (l0_1.length : Int) then (if ((Op.bytesLess (((rd_T80 l0_1 (wrap64 (x30_2 - 1))).f0).toList) (((rd_T80 l0_1 x30_2).f0).toList)) = true) then (impl_ValidNetwork.l0 k2 l0_1 (l0_1.length : Int) (wrap64 (x30_2 + 1)) l0_0 l0_1) else (some false)) else (none)) else (none)) else (impl_ValidNetwork.l0 k2 l0_1 (l0_1.length : Int) (wrap64 (x30_2 + 1)) l0_0 l0_1)) else (some false))) = some r := by rw [if_pos rfl] at H; exact H
          clear H
          have H := H1
          clear H1
          replace H := Option.bind_eq_some_iff.mp H
          obtain ⟨t300, A220, H⟩ := H
          replace H : (if t300 = true then (if x30_2 > 0 then (if 0 ≤ (wrap64 (x30_2 - 1)) then (if (wrap64 (x30_2 - 1)) < (l0_1.length : Int) then (if ((Op.bytesLess (((rd_T80 l0_1 (wrap64 (x30_2 - 1))).f0).toList) (((rd_T80 l0_1 x30_2).f0).toList)) = true) then (impl_ValidNetwork.l0 k2 l0_1 (l0_1.length : Int) (wrap64 (x30_2 + 1)) l0_0 l0_1) else (some false)) else (none)) else (none)) else (impl_ValidNetwork.l0 k2 l0_1 (l0_1.length : Int) (wrap64 (x30_2 + 1)) l0_0 l0_1)) else (some false)) = some r := H
          have A22 := Aside0.mk A220
          clear A220
          by_cases c23 : t300 = true
          ·subst c23
           have H1 : (if x30_2 > 0 then (if 0 ≤ (wrap64 (x30_2 - 1)) then (if (wrap64 (x30_2 - 1)) < (l0_1.length : Int) then (if ((Op.bytesLess (((rd_T80 l0_1 (wrap64 (x30_2 - 1))).f0).toList) (((rd_T80 l0_1 x30_2).f0).toList)) = true) then (impl_ValidNetwork.l0 k2 l0_1 (l0_1.length : Int) (wrap64 (x30_2 + 1)) l0_0 l0_1) else (some false)) else (none)) else (none)) else (impl_ValidNetwork.l0 k2 l0_1 (l0_1.length : Int) (wrap64 (x30_2 + 1)) l0_0 l0_1)) = some r := by rw [if_pos rfl] at H; exact H
           clear H
           have H := H1
           clear H1
           by_cases c24 : x30_2 > 0
           ·rw [if_pos c24] at H
            have c24b0 : decide (0 < x30_2) = true := decide_eq_true c24
            clear c24
            obtain ⟨ji25, hji25⟩ : ∃ j_ : Int, (wrap64 (x30_2 - 1)) = j_ := ⟨_, rfl⟩
            replace H : (if 0 ≤ (ji25) then (if (ji25) < (l0_1.length : Int) then (if ((Op.bytesLess (((rd_T80 l0_1 (ji25)).f0).toList) (((rd_T80 l0_1 x30_2).f0).toList)) = true) then (impl_ValidNetwork.l0 k2 l0_1 (l0_1.length : Int) (wrap64 (x30_2 + 1)) l0_0 l0_1) else (some false)) else (none)) else (none)) = some r := by first | (rw [hji25] at H; exact H) | (simp only [hji25] at H ⊢; exact H)
            (try rw [hji25] at A20)
            (try rw [hji25] at A22)
            have hji25w : (IntKind.i64.wrap (x30_2 - 1)) = ji25 := (i64_w _).trans hji25
            by_cases c26 : 0 ≤ (ji25)
            ·rw [if_pos c26] at H
             have c26b0 : decide (0 ≤ (ji25)) = true := decide_eq_true c26
             clear c26
             by_cases c27 : (ji25) < (l0_1.length : Int)
             ·rw [if_pos c27] at H
              have c27b0 : decide ((ji25) < (l0_1.length : Int)) = true := decide_eq_true c27
              clear c27
              by_cases c28 : ((Op.bytesLess (((rd_T80 l0_1 (ji25)).f0).toList) (((rd_T80 l0_1 x30_2).f0).toList)) = true)
              ·rw [if_pos c28] at H
               have c28b0 : (Op.bytesLess (((rd_T80 l0_1 (ji25)).f0).toList) (((rd_T80 l0_1 x30_2).f0).toList)) = true := c28
               clear c28
               have H' := Aside0.mk H
               clear H
               have p297 : 0 ≤ (x30_2 : Int) := of_decide_eq_true t3_
               have q297 : x30_2 < (l0_1.length : Int) := of_decide_eq_true t3_
               obtain ⟨ad297, e297, hx297_0, hx297_1, hx297_2, hx297_3, hx297_4, hx297_5⟩ := at_T80 HR0_1.out x30_2 p297 q297
               cases e297
               replace hx297_0 := hb_ HB hx297_0
               replace hx297_1 := hb_ HB hx297_1
               replace hx297_2 := hb_ HB hx297_2
               replace hx297_3 := hb_ HB hx297_3
               replace hx297_4 := hb_ HB hx297_4
               replace hx297_5 := hb_ HB hx297_5
               replace p297 := eq_true p297
               replace q297 := eq_true q297
               try go_wp2_with (first | ((with_reducible refine gate_dst (N := 4) rfl ?_); (try (refine gate_guard t71_ ?_; dsimp only)); refine box_event ?hg (N := 4) ?hd (cs := #[.string (⟨#[]⟩ : ByteArray), .int .i64 0, .int .i64 0, .int .i64 0, .int .i64 0, .int .i64 0]) (t := 80) ?hr ?_; (case hd => rfl); (case hg => rfl); (case hr => first | (go_simp; done) | (go_simp; rfl)); intro gb298 hg w29 hbox hb; have n0_ := Aside0.mk (blk_below (g := gb295) (o := .cells #[.slice A0_0 l0_0.length c0_0, .slice (some ad297) l0_1.length c0_1] 32 (0, 0)) (q1_ BK295.out) hb); have n1_ := Aside0.mk (below_step t10_ hb); have n2_ := Aside0.mk (hbox); have n3_ := Aside0.mk ((by rw [hg]; exact (below_size t10_) : w.heap.size ≤ gb298)); have n4_ := Aside0.mk ((by rw [hg]; exact (below_size t10_) : w.heap.size ≤ gb298)); have n5_ := Aside0.mk ((by rw [hg]; exact Nat.ne_of_lt (blk_lt (g := gb295) (o := .cells #[.slice A0_0 l0_0.length c0_0, .slice (some ad297) l0_1.length c0_1] 32 (0, 0)) (q1_ BK295.out)) : gb295 ≠ gb298)); have n6_ := Aside0.mk ((by rw [hg]; exact Nat.ne_of_gt (blk_lt (g := gb295) (o := .cells #[.slice A0_0 l0_0.length c0_0, .slice (some ad297) l0_1.length c0_1] 32 (0, 0)) (q1_ BK295.out)) : gb298 ≠ gb295)); clear BK295; clear HB; have BK295 := n0_; have HB := n1_; have BK298 := n2_; have GW298 := n3_; have GE298 := n4_; have NB295_298 := n5_; have NB298_295 := n6_; clear n0_ n1_ n2_ n3_ n4_ n5_ n6_; clear hb hbox hg; have hnb30 := NB298_295.out; have hnc30 := NB295_298.out; have hcz31_0 : w29.cell? ⟨gb298, 0, none⟩ = some (.string (⟨#[]⟩ : ByteArray)) := (blk_cell BK298.out 0).trans rfl; have hcz31_1 : w29.cell? ⟨gb298, 1, none⟩ = some (.int .i64 0) := (blk_cell BK298.out 1).trans rfl; have hcz31_2 : w29.cell? ⟨gb298, 2, none⟩ = some (.int .i64 0) := (blk_cell BK298.out 2).trans rfl; have hcz31_3 : w29.cell? ⟨gb298, 3, none⟩ = some (.int .i64 0) := (blk_cell BK298.out 3).trans rfl; have hcz31_4 : w29.cell? ⟨gb298, 4, none⟩ = some (.int .i64 0) := (blk_cell BK298.out 4).trans rfl; have hcz31_5 : w29.cell? ⟨gb298, 5, none⟩ = some (.int .i64 0) := (blk_cell BK298.out 5).trans rfl; have hfz31_0 := blk_frozen BK298.out 0; have hfz31_1 := blk_frozen BK298.out 1; have hfz31_2 := blk_frozen BK298.out 2; have hfz31_3 := blk_frozen BK298.out 3; have hfz31_4 := blk_frozen BK298.out 4; have hfz31_5 := blk_frozen BK298.out 5))
               have n0_ : Aside0 (((((((w29.setCell ⟨gb298, 0, none⟩ (.string ((rd_T80 l0_1 x30_2).f0))).setCell ⟨gb298, 1, none⟩ (.int .i64 ((rd_T80 l0_1 x30_2).f1))).setCell ⟨gb298, 2, none⟩ (.int .i64 ((rd_T80 l0_1 x30_2).f2))).setCell ⟨gb298, 3, none⟩ (.int .i64 ((rd_T80 l0_1 x30_2).f3))).setCell ⟨gb298, 4, none⟩ (.int .i64 ((rd_T80 l0_1 x30_2).f4))).setCell ⟨gb298, 5, none⟩ (.int .i64 ((rd_T80 l0_1 x30_2).f5))).heap[gb295]? = some (.cells #[.slice A0_0 l0_0.length c0_0, .slice (some ad297) l0_1.length c0_1] 32 (0, 0))) := ⟨t11_⟩
               have n1_ : Aside0 (((((((w29.setCell ⟨gb298, 0, none⟩ (.string ((rd_T80 l0_1 x30_2).f0))).setCell ⟨gb298, 1, none⟩ (.int .i64 ((rd_T80 l0_1 x30_2).f1))).setCell ⟨gb298, 2, none⟩ (.int .i64 ((rd_T80 l0_1 x30_2).f2))).setCell ⟨gb298, 3, none⟩ (.int .i64 ((rd_T80 l0_1 x30_2).f3))).setCell ⟨gb298, 4, none⟩ (.int .i64 ((rd_T80 l0_1 x30_2).f4))).setCell ⟨gb298, 5, none⟩ (.int .i64 ((rd_T80 l0_1 x30_2).f5))).heap[gb298]? = some (.cells #[.string ((rd_T80 l0_1 x30_2).f0), .int .i64 ((rd_T80 l0_1 x30_2).f1), .int .i64 ((rd_T80 l0_1 x30_2).f2), .int .i64 ((rd_T80 l0_1 x30_2).f3), .int .i64 ((rd_T80 l0_1 x30_2).f4), .int .i64 ((rd_T80 l0_1 x30_2).f5)] 80 (0, 0))) := ⟨t8_⟩
               have n2_ : Aside0 (Below w.heap.size w ((((((w29.setCell ⟨gb298, 0, none⟩ (.string ((rd_T80 l0_1 x30_2).f0))).setCell ⟨gb298, 1, none⟩ (.int .i64 ((rd_T80 l0_1 x30_2).f1))).setCell ⟨gb298, 2, none⟩ (.int .i64 ((rd_T80 l0_1 x30_2).f2))).setCell ⟨gb298, 3, none⟩ (.int .i64 ((rd_T80 l0_1 x30_2).f3))).setCell ⟨gb298, 4, none⟩ (.int .i64 ((rd_T80 l0_1 x30_2).f4))).setCell ⟨gb298, 5, none⟩ (.int .i64 ((rd_T80 l0_1 x30_2).f5)))) := ⟨t12_⟩
               (try clear BK295)
               (try clear BK298)
               (try clear HB)
               generalize ((((((w29.setCell ⟨gb298, 0, none⟩ (.string ((rd_T80 l0_1 x30_2).f0))).setCell ⟨gb298, 1, none⟩ (.int .i64 ((rd_T80 l0_1 x30_2).f1))).setCell ⟨gb298, 2, none⟩ (.int .i64 ((rd_T80 l0_1 x30_2).f2))).setCell ⟨gb298, 3, none⟩ (.int .i64 ((rd_T80 l0_1 x30_2).f3))).setCell ⟨gb298, 4, none⟩ (.int .i64 ((rd_T80 l0_1 x30_2).f4))).setCell ⟨gb298, 5, none⟩ (.int .i64 ((rd_T80 l0_1 x30_2).f5))) = w32 at n0_ n1_ n2_ ⊢
               have BK295 := n0_
               have BK298 := n1_
               have HB := n2_
               clear n0_ n1_ n2_
               have n0_ := Aside0.mk (blk_drew BK295.out)
               have n1_ := Aside0.mk (blk_drew BK298.out)
               have n2_ := Aside0.mk (below_drew1 HB.out)
               clear BK295
               clear BK298
               clear HB
               have BK295 := n0_
               have BK298 := n1_
               have HB := n2_
               clear n0_ n1_ n2_
               have p301 : 0 ≤ ((ji25) : Int) := of_decide_eq_true t3_
               have q301 : (ji25) < (l0_1.length : Int) := of_decide_eq_true t3_
               obtain ⟨ad301, e301, hx301_0, hx301_1, hx301_2, hx301_3, hx301_4, hx301_5⟩ := at_T80 HR0_1.out (ji25) p301 q301
               have hw301_5 := hx301_5
               have hw301_4 := hx301_4
               have hw301_3 := hx301_3
               have hw301_2 := hx301_2
               have hw301_1 := hx301_1
               have hw301_0 := hx301_0
               obtain rfl : ad297 = ad301 := (by injection e301)
               replace hx301_0 := hb_ HB hx301_0
               replace hx301_1 := hb_ HB hx301_1
               replace hx301_2 := hb_ HB hx301_2
               replace hx301_3 := hb_ HB hx301_3
               replace hx301_4 := hb_ HB hx301_4
               replace hx301_5 := hb_ HB hx301_5
               replace p301 := eq_true p301
               replace q301 := eq_true q301
               refine start_ (n := 25) (S := fun w' => w'.cell? ⟨gb298, 0, none⟩ = some (.string ((rd_T80 l0_1 x30_2).f0)) ∧ w'.cell? ⟨gb298, 1, none⟩ = some (.int .i64 ((rd_T80 l0_1 x30_2).f1)) ∧ w'.cell? ⟨gb298, 2, none⟩ = some (.int .i64 ((rd_T80 l0_1 x30_2).f2)) ∧ w'.cell? ⟨gb298, 3, none⟩ = some (.int .i64 ((rd_T80 l0_1 x30_2).f3)) ∧ w'.cell? ⟨gb298, 4, none⟩ = some (.int .i64 ((rd_T80 l0_1 x30_2).f4)) ∧ w'.cell? ⟨gb298, 5, none⟩ = some (.int .i64 ((rd_T80 l0_1 x30_2).f5)) ∧ w'.cell? ⟨gb295, 0, none⟩ = some (.slice A0_0 l0_0.length c0_0) ∧ w'.cell? ⟨gb295, 1, none⟩ = some (.slice (some ad297) l0_1.length c0_1) ∧ w'.cell? (ad297.add (((ji25)).toNat * 6)) = some (.string ((rd_T80 l0_1 (ji25)).f0)) ∧ w'.cell? ⟨(ad297.add (((ji25)).toNat * 6)).block, (ad297.add (((ji25)).toNat * 6)).off + 1, none⟩ = some (.int .i64 ((rd_T80 l0_1 (ji25)).f1)) ∧ w'.cell? ⟨(ad297.add (((ji25)).toNat * 6)).block, (ad297.add (((ji25)).toNat * 6)).off + 2, none⟩ = some (.int .i64 ((rd_T80 l0_1 (ji25)).f2)) ∧ w'.cell? ⟨(ad297.add (((ji25)).toNat * 6)).block, (ad297.add (((ji25)).toNat * 6)).off + 3, none⟩ = some (.int .i64 ((rd_T80 l0_1 (ji25)).f3)) ∧ w'.cell? ⟨(ad297.add (((ji25)).toNat * 6)).block, (ad297.add (((ji25)).toNat * 6)).off + 4, none⟩ = some (.int .i64 ((rd_T80 l0_1 (ji25)).f4)) ∧ w'.cell? ⟨(ad297.add (((ji25)).toNat * 6)).block, (ad297.add (((ji25)).toNat * 6)).off + 5, none⟩ = some (.int .i64 ((rd_T80 l0_1 (ji25)).f5))) (ds := []) (tf 0 25) t14_ rfl rfl ⟨(blk_cell BK298.out 0).trans rfl, (blk_cell BK298.out 1).trans rfl, (blk_cell BK298.out 2).trans rfl, (blk_cell BK298.out 3).trans rfl, (blk_cell BK298.out 4).trans rfl, (blk_cell BK298.out 5).trans rfl, (blk_cell BK295.out 0).trans rfl, (blk_cell BK295.out 1).trans rfl, (hb_ HB hw301_0 :), (hb_ HB hw301_1 :), (hb_ HB hw301_2 :), (hb_ HB hw301_3 :), (hb_ HB hw301_4 :), (hb_ HB hw301_5 :)⟩ (fun hHeld => ?_); refine with_tabW impl_ValidNetwork.tab6 impl_ValidNetwork.bits6 (fun HT_ HW_ => ?_)
               generalize w32.drew = w33 at BK295 BK298 HB hx301_0 hx301_1 hx301_2 hx301_3 hx301_4 hx301_5 hHeld ⊢
               refine tx (v := ?_) 0 (some 35) (tf 1 25) HT_ HW_ hHeld ?_ ?_
               rotate_left; (· rintro w' ⟨s0, s1, s2, s3, s4, s5, s6, s7, s8, s9, s10, s11, s12, s13⟩; go_simp; with_reducible rfl)
               refine one_ (i := 1) (N := some 36) (tf 2 25) rfl rfl (one_of HT_.out t14_) t31_ (fun K hK => ?_)
               refine goes_ Try.func80 t14_ rfl #[.agg #[.string ((rd_T80 l0_1 x30_2).f0), .int .i64 ((rd_T80 l0_1 x30_2).f1), .int .i64 ((rd_T80 l0_1 x30_2).f2), .int .i64 ((rd_T80 l0_1 x30_2).f3), .int .i64 ((rd_T80 l0_1 x30_2).f4), .int .i64 ((rd_T80 l0_1 x30_2).f5)]] t71_ rfl rfl t2_ ?_
               with_reducible refine (impl_ValidPipe.calls k2 ((rd_T80 l0_1 x30_2).f0) ((rd_T80 l0_1 x30_2).f1) ((rd_T80 l0_1 x30_2).f2) ((rd_T80 l0_1 x30_2).f3) ((rd_T80 l0_1 x30_2).f4) ((rd_T80 l0_1 x30_2).f5) true _ A20.out).mono ?_
               rintro e w34 ⟨rfl, hb⟩
               refine ⟨_, rfl, ?_⟩
               have n0_ := Aside0.mk (blk_below (g := gb295) (o := .cells #[.slice A0_0 l0_0.length c0_0, .slice (some ad297) l0_1.length c0_1] 32 (0, 0)) (q1_ BK295.out) hb)
               have n1_ := Aside0.mk (blk_below (g := gb298) (o := .cells #[.string ((rd_T80 l0_1 x30_2).f0), .int .i64 ((rd_T80 l0_1 x30_2).f1), .int .i64 ((rd_T80 l0_1 x30_2).f2), .int .i64 ((rd_T80 l0_1 x30_2).f3), .int .i64 ((rd_T80 l0_1 x30_2).f4), .int .i64 ((rd_T80 l0_1 x30_2).f5)] 80 (0, 0)) (q1_ BK298.out) hb)
               have n2_ := Aside0.mk (below_step t12_ hb)
               clear BK295
               clear BK298
               clear HB
               have BK295 := n0_
               have BK298 := n1_
               have HB := n2_
               clear n0_ n1_ n2_
               (try clear hb)
               (try clear hb2)
               (try clear hk)
               (try clear hi)
               refine hK.out _ _ ⟨(blk_cell BK298.out 0).trans rfl, (blk_cell BK298.out 1).trans rfl, (blk_cell BK298.out 2).trans rfl, (blk_cell BK298.out 3).trans rfl, (blk_cell BK298.out 4).trans rfl, (blk_cell BK298.out 5).trans rfl, (blk_cell BK295.out 0).trans rfl, (blk_cell BK295.out 1).trans rfl, (hb_ HB hw301_0 :), (hb_ HB hw301_1 :), (hb_ HB hw301_2 :), (hb_ HB hw301_3 :), (hb_ HB hw301_4 :), (hb_ HB hw301_5 :)⟩ (fun hHeld => ?_)
               clear hK K
               refine norm_ (a' := ?_) ?_ ?_
               rotate_left
               ·show Act.put _ (some 36) _ = _
                simp only [Act.put, List.setIfInBounds_toArray, List.set_cons_zero, List.set_cons_succ, i64_w, i32_w]
                rfl
               refine px 2 (some 37) (tf 3 25) HT_ ?_
               refine px 3 (some 38) (tf 4 25) HT_ ?_
               refine tx (v := ?_) 4 (some 39) (tf 5 25) HT_ HW_ hHeld ?_ ?_
               rotate_left; (· rintro w' ⟨s0, s1, s2, s3, s4, s5, s6, s7, s8, s9, s10, s11, s12, s13⟩; go_simp; with_reducible rfl)
               refine tx (v := ?_) 5 (some 40) (tf 6 25) HT_ HW_ hHeld ?_ ?_
               rotate_left; (· rintro w' ⟨s0, s1, s2, s3, s4, s5, s6, s7, s8, s9, s10, s11, s12, s13⟩; go_simp; with_reducible rfl)
               refine one_ (i := 6) (N := some 41) (tf 7 25) rfl rfl (one_of HT_.out t14_) t31_ (fun K hK => ?_)
               refine goes_ Try.func81 t14_ rfl #[.agg #[.slice A0_0 l0_0.length c0_0, .slice (some ad297) l0_1.length c0_1], .agg #[.string ((rd_T80 l0_1 x30_2).f0), .int .i64 ((rd_T80 l0_1 x30_2).f1), .int .i64 ((rd_T80 l0_1 x30_2).f2), .int .i64 ((rd_T80 l0_1 x30_2).f3), .int .i64 ((rd_T80 l0_1 x30_2).f4), .int .i64 ((rd_T80 l0_1 x30_2).f5)]] t71_ rfl rfl t2_ ?_
               with_reducible refine (impl_Network_hasEnds.calls _ _ l0_0 _ _ l0_1 ((rd_T80 l0_1 x30_2).f0) ((rd_T80 l0_1 x30_2).f1) ((rd_T80 l0_1 x30_2).f2) ((rd_T80 l0_1 x30_2).f3) ((rd_T80 l0_1 x30_2).f4) ((rd_T80 l0_1 x30_2).f5) true _ ?side1 ?side2 ?side3 ?side4 A22.out).mono ?_
               (case side1 => repeat (first | exact (Kd.C_below HR0_0.out HB.out) | (with_reducible refine Kd.C_alloc ?_ _) | (with_reducible refine Kd.C_drewN ?_ _) | (with_reducible refine Kd.C_drew ?_)))
               (case side2 => exact HC0_0.out)
               (case side3 => repeat (first | exact (Kd.C_below HR0_1.out HB.out) | (with_reducible refine Kd.C_alloc ?_ _) | (with_reducible refine Kd.C_drewN ?_ _) | (with_reducible refine Kd.C_drew ?_)))
               (case side4 => exact HC0_1.out)
               rintro e w35 ⟨rfl, hb⟩
               refine ⟨_, rfl, ?_⟩
               have n0_ := Aside0.mk (blk_below (g := gb295) (o := .cells #[.slice A0_0 l0_0.length c0_0, .slice (some ad297) l0_1.length c0_1] 32 (0, 0)) (q1_ BK295.out) hb)
               have n1_ := Aside0.mk (blk_below (g := gb298) (o := .cells #[.string ((rd_T80 l0_1 x30_2).f0), .int .i64 ((rd_T80 l0_1 x30_2).f1), .int .i64 ((rd_T80 l0_1 x30_2).f2), .int .i64 ((rd_T80 l0_1 x30_2).f3), .int .i64 ((rd_T80 l0_1 x30_2).f4), .int .i64 ((rd_T80 l0_1 x30_2).f5)] 80 (0, 0)) (q1_ BK298.out) hb)
               have n2_ := Aside0.mk (below_step t12_ hb)
               clear BK295
               clear BK298
               clear HB
               have BK295 := n0_
               have BK298 := n1_
               have HB := n2_
               clear n0_ n1_ n2_
               (try clear hb)
               (try clear hb2)
               (try clear hk)
               (try clear hi)
               refine hK.out _ _ ⟨(blk_cell BK298.out 0).trans rfl, (blk_cell BK298.out 1).trans rfl, (blk_cell BK298.out 2).trans rfl, (blk_cell BK298.out 3).trans rfl, (blk_cell BK298.out 4).trans rfl, (blk_cell BK298.out 5).trans rfl, (blk_cell BK295.out 0).trans rfl, (blk_cell BK295.out 1).trans rfl, (hb_ HB hw301_0 :), (hb_ HB hw301_1 :), (hb_ HB hw301_2 :), (hb_ HB hw301_3 :), (hb_ HB hw301_4 :), (hb_ HB hw301_5 :)⟩ (fun hHeld => ?_)
               clear hK K
               refine norm_ (a' := ?_) ?_ ?_
               rotate_left
               ·show Act.put _ (some 41) _ = _
                simp only [Act.put, List.setIfInBounds_toArray, List.set_cons_zero, List.set_cons_succ, i64_w, i32_w]
                rfl
               refine px 7 (some 42) (tf 8 25) HT_ ?_
               refine px 8 (some 43) (tf 9 25) HT_ ?_
               refine px 9 (some 44) (tf 10 25) HT_ ?_
               refine px 10 (some 45) (tf 11 25) HT_ ?_
               refine px 11 (some 46) (tf 12 25) HT_ ?_
               refine px 12 (some 47) (tf 13 25) HT_ ?_
               refine px 13 (some 48) (tf 14 25) HT_ ?_
               refine px 15 (some 50) (tb 25 49151) HT_ ?_
               refine px 17 (some 52) (tb 25 180223) HT_ ?_
               refine px 18 (some 53) (tb 25 442367) HT_ ?_
               refine tx (v := ?_) 14 (some 49) (tb 25 458751) HT_ HW_ hHeld ?_ ?_
               rotate_left; (· rintro w' ⟨s0, s1, s2, s3, s4, s5, s6, s7, s8, s9, s10, s11, s12, s13⟩; go_simp; with_reducible rfl)
               refine tx (v := ?_) 16 (some 51) (tf 19 25) HT_ HW_ hHeld ?_ ?_
               rotate_left; (· rintro w' ⟨s0, s1, s2, s3, s4, s5, s6, s7, s8, s9, s10, s11, s12, s13⟩; go_simp; with_reducible rfl)
               refine px 19 (some 54) (tf 20 25) HT_ ?_
               refine px 20 (some 55) (tf 21 25) HT_ ?_
               refine tx (v := ?_) 21 (some 56) (tf 22 25) HT_ HW_ hHeld ?_ ?_
               rotate_left; (· rintro w' ⟨s0, s1, s2, s3, s4, s5, s6, s7, s8, s9, s10, s11, s12, s13⟩; go_simp; with_reducible rfl)
               refine px 22 (some 57) (tf 23 25) HT_ ?_
               refine px 23 (some 58) (tf 24 25) HT_ ?_
               refine px 24 (some 59) (tf 25 25) HT_ ?_
               refine done_ (done_of HT_.out t14_) ?_
               try go_wp2
               go_roundg k2
               case measure => have := HJ1.out; have := HK2.out; omega
               case rel => exact ⟨(wrap64 (x30_2 + 1)), t6_, H', ⟨(by have := HJ1.out; have := HK2.out; omega)⟩, ⟨t38_⟩, ⟨t12_⟩⟩
              ·rw [if_neg c28] at H
               have c28b0 : (Op.bytesLess (((rd_T80 l0_1 (ji25)).f0).toList) (((rd_T80 l0_1 x30_2).f0).toList)) = false := by simpa using c28
               clear c28
               obtain rfl := Option.some.inj H
               have p297 : 0 ≤ (x30_2 : Int) := of_decide_eq_true t3_
               have q297 : x30_2 < (l0_1.length : Int) := of_decide_eq_true t3_
               obtain ⟨ad297, e297, hx297_0, hx297_1, hx297_2, hx297_3, hx297_4, hx297_5⟩ := at_T80 HR0_1.out x30_2 p297 q297
               cases e297
               replace hx297_0 := hb_ HB hx297_0
               replace hx297_1 := hb_ HB hx297_1
               replace hx297_2 := hb_ HB hx297_2
               replace hx297_3 := hb_ HB hx297_3
               replace hx297_4 := hb_ HB hx297_4
               replace hx297_5 := hb_ HB hx297_5
               replace p297 := eq_true p297
               replace q297 := eq_true q297
               try go_wp2_with (first | ((with_reducible refine gate_dst (N := 4) rfl ?_); (try (refine gate_guard t71_ ?_; dsimp only)); refine box_event ?hg (N := 4) ?hd (cs := #[.string (⟨#[]⟩ : ByteArray), .int .i64 0, .int .i64 0, .int .i64 0, .int .i64 0, .int .i64 0]) (t := 80) ?hr ?_; (case hd => rfl); (case hg => rfl); (case hr => first | (go_simp; done) | (go_simp; rfl)); intro gb298 hg w36 hbox hb; have n0_ := Aside0.mk (blk_below (g := gb295) (o := .cells #[.slice A0_0 l0_0.length c0_0, .slice (some ad297) l0_1.length c0_1] 32 (0, 0)) (q1_ BK295.out) hb); have n1_ := Aside0.mk (below_step t10_ hb); have n2_ := Aside0.mk (hbox); have n3_ := Aside0.mk ((by rw [hg]; exact (below_size t10_) : w.heap.size ≤ gb298)); have n4_ := Aside0.mk ((by rw [hg]; exact (below_size t10_) : w.heap.size ≤ gb298)); have n5_ := Aside0.mk ((by rw [hg]; exact Nat.ne_of_lt (blk_lt (g := gb295) (o := .cells #[.slice A0_0 l0_0.length c0_0, .slice (some ad297) l0_1.length c0_1] 32 (0, 0)) (q1_ BK295.out)) : gb295 ≠ gb298)); have n6_ := Aside0.mk ((by rw [hg]; exact Nat.ne_of_gt (blk_lt (g := gb295) (o := .cells #[.slice A0_0 l0_0.length c0_0, .slice (some ad297) l0_1.length c0_1] 32 (0, 0)) (q1_ BK295.out)) : gb298 ≠ gb295)); clear BK295; clear HB; have BK295 := n0_; have HB := n1_; have BK298 := n2_; have GW298 := n3_; have GE298 := n4_; have NB295_298 := n5_; have NB298_295 := n6_; clear n0_ n1_ n2_ n3_ n4_ n5_ n6_; clear hb hbox hg; have hnb37 := NB298_295.out; have hnc37 := NB295_298.out; have hcz38_0 : w36.cell? ⟨gb298, 0, none⟩ = some (.string (⟨#[]⟩ : ByteArray)) := (blk_cell BK298.out 0).trans rfl; have hcz38_1 : w36.cell? ⟨gb298, 1, none⟩ = some (.int .i64 0) := (blk_cell BK298.out 1).trans rfl; have hcz38_2 : w36.cell? ⟨gb298, 2, none⟩ = some (.int .i64 0) := (blk_cell BK298.out 2).trans rfl; have hcz38_3 : w36.cell? ⟨gb298, 3, none⟩ = some (.int .i64 0) := (blk_cell BK298.out 3).trans rfl; have hcz38_4 : w36.cell? ⟨gb298, 4, none⟩ = some (.int .i64 0) := (blk_cell BK298.out 4).trans rfl; have hcz38_5 : w36.cell? ⟨gb298, 5, none⟩ = some (.int .i64 0) := (blk_cell BK298.out 5).trans rfl; have hfz38_0 := blk_frozen BK298.out 0; have hfz38_1 := blk_frozen BK298.out 1; have hfz38_2 := blk_frozen BK298.out 2; have hfz38_3 := blk_frozen BK298.out 3; have hfz38_4 := blk_frozen BK298.out 4; have hfz38_5 := blk_frozen BK298.out 5))
               have n0_ : Aside0 (((((((w36.setCell ⟨gb298, 0, none⟩ (.string ((rd_T80 l0_1 x30_2).f0))).setCell ⟨gb298, 1, none⟩ (.int .i64 ((rd_T80 l0_1 x30_2).f1))).setCell ⟨gb298, 2, none⟩ (.int .i64 ((rd_T80 l0_1 x30_2).f2))).setCell ⟨gb298, 3, none⟩ (.int .i64 ((rd_T80 l0_1 x30_2).f3))).setCell ⟨gb298, 4, none⟩ (.int .i64 ((rd_T80 l0_1 x30_2).f4))).setCell ⟨gb298, 5, none⟩ (.int .i64 ((rd_T80 l0_1 x30_2).f5))).heap[gb295]? = some (.cells #[.slice A0_0 l0_0.length c0_0, .slice (some ad297) l0_1.length c0_1] 32 (0, 0))) := ⟨t11_⟩
               have n1_ : Aside0 (((((((w36.setCell ⟨gb298, 0, none⟩ (.string ((rd_T80 l0_1 x30_2).f0))).setCell ⟨gb298, 1, none⟩ (.int .i64 ((rd_T80 l0_1 x30_2).f1))).setCell ⟨gb298, 2, none⟩ (.int .i64 ((rd_T80 l0_1 x30_2).f2))).setCell ⟨gb298, 3, none⟩ (.int .i64 ((rd_T80 l0_1 x30_2).f3))).setCell ⟨gb298, 4, none⟩ (.int .i64 ((rd_T80 l0_1 x30_2).f4))).setCell ⟨gb298, 5, none⟩ (.int .i64 ((rd_T80 l0_1 x30_2).f5))).heap[gb298]? = some (.cells #[.string ((rd_T80 l0_1 x30_2).f0), .int .i64 ((rd_T80 l0_1 x30_2).f1), .int .i64 ((rd_T80 l0_1 x30_2).f2), .int .i64 ((rd_T80 l0_1 x30_2).f3), .int .i64 ((rd_T80 l0_1 x30_2).f4), .int .i64 ((rd_T80 l0_1 x30_2).f5)] 80 (0, 0))) := ⟨t8_⟩
               have n2_ : Aside0 (Below w.heap.size w ((((((w36.setCell ⟨gb298, 0, none⟩ (.string ((rd_T80 l0_1 x30_2).f0))).setCell ⟨gb298, 1, none⟩ (.int .i64 ((rd_T80 l0_1 x30_2).f1))).setCell ⟨gb298, 2, none⟩ (.int .i64 ((rd_T80 l0_1 x30_2).f2))).setCell ⟨gb298, 3, none⟩ (.int .i64 ((rd_T80 l0_1 x30_2).f3))).setCell ⟨gb298, 4, none⟩ (.int .i64 ((rd_T80 l0_1 x30_2).f4))).setCell ⟨gb298, 5, none⟩ (.int .i64 ((rd_T80 l0_1 x30_2).f5)))) := ⟨t12_⟩
               (try clear BK295)
               (try clear BK298)
               (try clear HB)
               generalize ((((((w36.setCell ⟨gb298, 0, none⟩ (.string ((rd_T80 l0_1 x30_2).f0))).setCell ⟨gb298, 1, none⟩ (.int .i64 ((rd_T80 l0_1 x30_2).f1))).setCell ⟨gb298, 2, none⟩ (.int .i64 ((rd_T80 l0_1 x30_2).f2))).setCell ⟨gb298, 3, none⟩ (.int .i64 ((rd_T80 l0_1 x30_2).f3))).setCell ⟨gb298, 4, none⟩ (.int .i64 ((rd_T80 l0_1 x30_2).f4))).setCell ⟨gb298, 5, none⟩ (.int .i64 ((rd_T80 l0_1 x30_2).f5))) = w39 at n0_ n1_ n2_ ⊢
               have BK295 := n0_
               have BK298 := n1_
               have HB := n2_
               clear n0_ n1_ n2_
               have n0_ := Aside0.mk (blk_drew BK295.out)
               have n1_ := Aside0.mk (blk_drew BK298.out)
               have n2_ := Aside0.mk (below_drew1 HB.out)
               clear BK295
               clear BK298
               clear HB
               have BK295 := n0_
               have BK298 := n1_
               have HB := n2_
               clear n0_ n1_ n2_
               have p301 : 0 ≤ ((ji25) : Int) := of_decide_eq_true t3_
               have q301 : (ji25) < (l0_1.length : Int) := of_decide_eq_true t3_
               obtain ⟨ad301, e301, hx301_0, hx301_1, hx301_2, hx301_3, hx301_4, hx301_5⟩ := at_T80 HR0_1.out (ji25) p301 q301
               have hw301_5 := hx301_5
               have hw301_4 := hx301_4
               have hw301_3 := hx301_3
               have hw301_2 := hx301_2
               have hw301_1 := hx301_1
               have hw301_0 := hx301_0
               obtain rfl : ad297 = ad301 := (by injection e301)
               replace hx301_0 := hb_ HB hx301_0
               replace hx301_1 := hb_ HB hx301_1
               replace hx301_2 := hb_ HB hx301_2
               replace hx301_3 := hb_ HB hx301_3
               replace hx301_4 := hb_ HB hx301_4
               replace hx301_5 := hb_ HB hx301_5
               replace p301 := eq_true p301
               replace q301 := eq_true q301
               refine start_ (n := 25) (S := fun w' => w'.cell? ⟨gb298, 0, none⟩ = some (.string ((rd_T80 l0_1 x30_2).f0)) ∧ w'.cell? ⟨gb298, 1, none⟩ = some (.int .i64 ((rd_T80 l0_1 x30_2).f1)) ∧ w'.cell? ⟨gb298, 2, none⟩ = some (.int .i64 ((rd_T80 l0_1 x30_2).f2)) ∧ w'.cell? ⟨gb298, 3, none⟩ = some (.int .i64 ((rd_T80 l0_1 x30_2).f3)) ∧ w'.cell? ⟨gb298, 4, none⟩ = some (.int .i64 ((rd_T80 l0_1 x30_2).f4)) ∧ w'.cell? ⟨gb298, 5, none⟩ = some (.int .i64 ((rd_T80 l0_1 x30_2).f5)) ∧ w'.cell? ⟨gb295, 0, none⟩ = some (.slice A0_0 l0_0.length c0_0) ∧ w'.cell? ⟨gb295, 1, none⟩ = some (.slice (some ad297) l0_1.length c0_1) ∧ w'.cell? (ad297.add (((ji25)).toNat * 6)) = some (.string ((rd_T80 l0_1 (ji25)).f0)) ∧ w'.cell? ⟨(ad297.add (((ji25)).toNat * 6)).block, (ad297.add (((ji25)).toNat * 6)).off + 1, none⟩ = some (.int .i64 ((rd_T80 l0_1 (ji25)).f1)) ∧ w'.cell? ⟨(ad297.add (((ji25)).toNat * 6)).block, (ad297.add (((ji25)).toNat * 6)).off + 2, none⟩ = some (.int .i64 ((rd_T80 l0_1 (ji25)).f2)) ∧ w'.cell? ⟨(ad297.add (((ji25)).toNat * 6)).block, (ad297.add (((ji25)).toNat * 6)).off + 3, none⟩ = some (.int .i64 ((rd_T80 l0_1 (ji25)).f3)) ∧ w'.cell? ⟨(ad297.add (((ji25)).toNat * 6)).block, (ad297.add (((ji25)).toNat * 6)).off + 4, none⟩ = some (.int .i64 ((rd_T80 l0_1 (ji25)).f4)) ∧ w'.cell? ⟨(ad297.add (((ji25)).toNat * 6)).block, (ad297.add (((ji25)).toNat * 6)).off + 5, none⟩ = some (.int .i64 ((rd_T80 l0_1 (ji25)).f5))) (ds := []) (tf 0 25) t14_ rfl rfl ⟨(blk_cell BK298.out 0).trans rfl, (blk_cell BK298.out 1).trans rfl, (blk_cell BK298.out 2).trans rfl, (blk_cell BK298.out 3).trans rfl, (blk_cell BK298.out 4).trans rfl, (blk_cell BK298.out 5).trans rfl, (blk_cell BK295.out 0).trans rfl, (blk_cell BK295.out 1).trans rfl, (hb_ HB hw301_0 :), (hb_ HB hw301_1 :), (hb_ HB hw301_2 :), (hb_ HB hw301_3 :), (hb_ HB hw301_4 :), (hb_ HB hw301_5 :)⟩ (fun hHeld => ?_); refine with_tabW impl_ValidNetwork.tab6 impl_ValidNetwork.bits6 (fun HT_ HW_ => ?_)
               generalize w39.drew = w40 at BK295 BK298 HB hx301_0 hx301_1 hx301_2 hx301_3 hx301_4 hx301_5 hHeld ⊢
               refine tx (v := ?_) 0 (some 35) (tf 1 25) HT_ HW_ hHeld ?_ ?_
               rotate_left; (· rintro w' ⟨s0, s1, s2, s3, s4, s5, s6, s7, s8, s9, s10, s11, s12, s13⟩; go_simp; with_reducible rfl)
               refine one_ (i := 1) (N := some 36) (tf 2 25) rfl rfl (one_of HT_.out t14_) t31_ (fun K hK => ?_)
               refine goes_ Try.func80 t14_ rfl #[.agg #[.string ((rd_T80 l0_1 x30_2).f0), .int .i64 ((rd_T80 l0_1 x30_2).f1), .int .i64 ((rd_T80 l0_1 x30_2).f2), .int .i64 ((rd_T80 l0_1 x30_2).f3), .int .i64 ((rd_T80 l0_1 x30_2).f4), .int .i64 ((rd_T80 l0_1 x30_2).f5)]] t71_ rfl rfl t2_ ?_
               with_reducible refine (impl_ValidPipe.calls k2 ((rd_T80 l0_1 x30_2).f0) ((rd_T80 l0_1 x30_2).f1) ((rd_T80 l0_1 x30_2).f2) ((rd_T80 l0_1 x30_2).f3) ((rd_T80 l0_1 x30_2).f4) ((rd_T80 l0_1 x30_2).f5) true _ A20.out).mono ?_
               rintro e w41 ⟨rfl, hb⟩
               refine ⟨_, rfl, ?_⟩
               have n0_ := Aside0.mk (blk_below (g := gb295) (o := .cells #[.slice A0_0 l0_0.length c0_0, .slice (some ad297) l0_1.length c0_1] 32 (0, 0)) (q1_ BK295.out) hb)
               have n1_ := Aside0.mk (blk_below (g := gb298) (o := .cells #[.string ((rd_T80 l0_1 x30_2).f0), .int .i64 ((rd_T80 l0_1 x30_2).f1), .int .i64 ((rd_T80 l0_1 x30_2).f2), .int .i64 ((rd_T80 l0_1 x30_2).f3), .int .i64 ((rd_T80 l0_1 x30_2).f4), .int .i64 ((rd_T80 l0_1 x30_2).f5)] 80 (0, 0)) (q1_ BK298.out) hb)
               have n2_ := Aside0.mk (below_step t12_ hb)
               clear BK295
               clear BK298
               clear HB
               have BK295 := n0_
               have BK298 := n1_
               have HB := n2_
               clear n0_ n1_ n2_
               (try clear hb)
               (try clear hb2)
               (try clear hk)
               (try clear hi)
               refine hK.out _ _ ⟨(blk_cell BK298.out 0).trans rfl, (blk_cell BK298.out 1).trans rfl, (blk_cell BK298.out 2).trans rfl, (blk_cell BK298.out 3).trans rfl, (blk_cell BK298.out 4).trans rfl, (blk_cell BK298.out 5).trans rfl, (blk_cell BK295.out 0).trans rfl, (blk_cell BK295.out 1).trans rfl, (hb_ HB hw301_0 :), (hb_ HB hw301_1 :), (hb_ HB hw301_2 :), (hb_ HB hw301_3 :), (hb_ HB hw301_4 :), (hb_ HB hw301_5 :)⟩ (fun hHeld => ?_)
               clear hK K
               refine norm_ (a' := ?_) ?_ ?_
               rotate_left
               ·show Act.put _ (some 36) _ = _
                simp only [Act.put, List.setIfInBounds_toArray, List.set_cons_zero, List.set_cons_succ, i64_w, i32_w]
                rfl
               refine px 2 (some 37) (tf 3 25) HT_ ?_
               refine px 3 (some 38) (tf 4 25) HT_ ?_
               refine tx (v := ?_) 4 (some 39) (tf 5 25) HT_ HW_ hHeld ?_ ?_
               rotate_left; (· rintro w' ⟨s0, s1, s2, s3, s4, s5, s6, s7, s8, s9, s10, s11, s12, s13⟩; go_simp; with_reducible rfl)
               refine tx (v := ?_) 5 (some 40) (tf 6 25) HT_ HW_ hHeld ?_ ?_
               rotate_left; (· rintro w' ⟨s0, s1, s2, s3, s4, s5, s6, s7, s8, s9, s10, s11, s12, s13⟩; go_simp; with_reducible rfl)
               refine one_ (i := 6) (N := some 41) (tf 7 25) rfl rfl (one_of HT_.out t14_) t31_ (fun K hK => ?_)
               refine goes_ Try.func81 t14_ rfl #[.agg #[.slice A0_0 l0_0.length c0_0, .slice (some ad297) l0_1.length c0_1], .agg #[.string ((rd_T80 l0_1 x30_2).f0), .int .i64 ((rd_T80 l0_1 x30_2).f1), .int .i64 ((rd_T80 l0_1 x30_2).f2), .int .i64 ((rd_T80 l0_1 x30_2).f3), .int .i64 ((rd_T80 l0_1 x30_2).f4), .int .i64 ((rd_T80 l0_1 x30_2).f5)]] t71_ rfl rfl t2_ ?_
               with_reducible refine (impl_Network_hasEnds.calls _ _ l0_0 _ _ l0_1 ((rd_T80 l0_1 x30_2).f0) ((rd_T80 l0_1 x30_2).f1) ((rd_T80 l0_1 x30_2).f2) ((rd_T80 l0_1 x30_2).f3) ((rd_T80 l0_1 x30_2).f4) ((rd_T80 l0_1 x30_2).f5) true _ ?side1 ?side2 ?side3 ?side4 A22.out).mono ?_
               (case side1 => repeat (first | exact (Kd.C_below HR0_0.out HB.out) | (with_reducible refine Kd.C_alloc ?_ _) | (with_reducible refine Kd.C_drewN ?_ _) | (with_reducible refine Kd.C_drew ?_)))
               (case side2 => exact HC0_0.out)
               (case side3 => repeat (first | exact (Kd.C_below HR0_1.out HB.out) | (with_reducible refine Kd.C_alloc ?_ _) | (with_reducible refine Kd.C_drewN ?_ _) | (with_reducible refine Kd.C_drew ?_)))
               (case side4 => exact HC0_1.out)
               rintro e w42 ⟨rfl, hb⟩
               refine ⟨_, rfl, ?_⟩
               have n0_ := Aside0.mk (blk_below (g := gb295) (o := .cells #[.slice A0_0 l0_0.length c0_0, .slice (some ad297) l0_1.length c0_1] 32 (0, 0)) (q1_ BK295.out) hb)
               have n1_ := Aside0.mk (blk_below (g := gb298) (o := .cells #[.string ((rd_T80 l0_1 x30_2).f0), .int .i64 ((rd_T80 l0_1 x30_2).f1), .int .i64 ((rd_T80 l0_1 x30_2).f2), .int .i64 ((rd_T80 l0_1 x30_2).f3), .int .i64 ((rd_T80 l0_1 x30_2).f4), .int .i64 ((rd_T80 l0_1 x30_2).f5)] 80 (0, 0)) (q1_ BK298.out) hb)
               have n2_ := Aside0.mk (below_step t12_ hb)
               clear BK295
               clear BK298
               clear HB
               have BK295 := n0_
               have BK298 := n1_
               have HB := n2_
               clear n0_ n1_ n2_
               (try clear hb)
               (try clear hb2)
               (try clear hk)
               (try clear hi)
               refine hK.out _ _ ⟨(blk_cell BK298.out 0).trans rfl, (blk_cell BK298.out 1).trans rfl, (blk_cell BK298.out 2).trans rfl, (blk_cell BK298.out 3).trans rfl, (blk_cell BK298.out 4).trans rfl, (blk_cell BK298.out 5).trans rfl, (blk_cell BK295.out 0).trans rfl, (blk_cell BK295.out 1).trans rfl, (hb_ HB hw301_0 :), (hb_ HB hw301_1 :), (hb_ HB hw301_2 :), (hb_ HB hw301_3 :), (hb_ HB hw301_4 :), (hb_ HB hw301_5 :)⟩ (fun hHeld => ?_)
               clear hK K
               refine norm_ (a' := ?_) ?_ ?_
               rotate_left
               ·show Act.put _ (some 41) _ = _
                simp only [Act.put, List.setIfInBounds_toArray, List.set_cons_zero, List.set_cons_succ, i64_w, i32_w]
                rfl
               refine px 7 (some 42) (tf 8 25) HT_ ?_
               refine px 8 (some 43) (tf 9 25) HT_ ?_
               refine px 9 (some 44) (tf 10 25) HT_ ?_
               refine px 10 (some 45) (tf 11 25) HT_ ?_
               refine px 11 (some 46) (tf 12 25) HT_ ?_
               refine px 12 (some 47) (tf 13 25) HT_ ?_
               refine px 13 (some 48) (tf 14 25) HT_ ?_
               refine px 15 (some 50) (tb 25 49151) HT_ ?_
               refine px 17 (some 52) (tb 25 180223) HT_ ?_
               refine px 18 (some 53) (tb 25 442367) HT_ ?_
               refine tx (v := ?_) 14 (some 49) (tb 25 458751) HT_ HW_ hHeld ?_ ?_
               rotate_left; (· rintro w' ⟨s0, s1, s2, s3, s4, s5, s6, s7, s8, s9, s10, s11, s12, s13⟩; go_simp; with_reducible rfl)
               refine tx (v := ?_) 16 (some 51) (tf 19 25) HT_ HW_ hHeld ?_ ?_
               rotate_left; (· rintro w' ⟨s0, s1, s2, s3, s4, s5, s6, s7, s8, s9, s10, s11, s12, s13⟩; go_simp; with_reducible rfl)
               refine px 19 (some 54) (tf 20 25) HT_ ?_
               refine px 20 (some 55) (tf 21 25) HT_ ?_
               refine tx (v := ?_) 21 (some 56) (tf 22 25) HT_ HW_ hHeld ?_ ?_
               rotate_left; (· rintro w' ⟨s0, s1, s2, s3, s4, s5, s6, s7, s8, s9, s10, s11, s12, s13⟩; go_simp; with_reducible rfl)
               refine px 22 (some 57) (tf 23 25) HT_ ?_
               refine px 23 (some 58) (tf 24 25) HT_ ?_
               refine px 24 (some 59) (tf 25 25) HT_ ?_
               refine done_ (done_of HT_.out t14_) ?_
               try go_wp2
               go_ret
               exact ⟨(by first | rfl | (rw [Int.tdiv_eq_ediv_of_nonneg t28_]; rfl) | (simp [errW_none, errW_some] <;> rfl) | (simp only [← hji25]; first | rfl | (simp [errW_none, errW_some] <;> rfl)) | (simp [*, errW_none, errW_some] <;> rfl)), t12_⟩
             ·rw [if_neg c27] at H
              exact absurd H t44_
            ·rw [if_neg c26] at H
             exact absurd H t44_
           ·rw [if_neg c24] at H
            have c24b0 : decide (0 < x30_2) = false := decide_eq_false c24
            clear c24
            have H' := Aside0.mk H
            clear H
            have p297 : 0 ≤ (x30_2 : Int) := of_decide_eq_true t3_
            have q297 : x30_2 < (l0_1.length : Int) := of_decide_eq_true t3_
            obtain ⟨ad297, e297, hx297_0, hx297_1, hx297_2, hx297_3, hx297_4, hx297_5⟩ := at_T80 HR0_1.out x30_2 p297 q297
            cases e297
            replace hx297_0 := hb_ HB hx297_0
            replace hx297_1 := hb_ HB hx297_1
            replace hx297_2 := hb_ HB hx297_2
            replace hx297_3 := hb_ HB hx297_3
            replace hx297_4 := hb_ HB hx297_4
            replace hx297_5 := hb_ HB hx297_5
            replace p297 := eq_true p297
            replace q297 := eq_true q297
            try go_wp2_with (first | ((with_reducible refine gate_dst (N := 4) rfl ?_); (try (refine gate_guard t71_ ?_; dsimp only)); refine box_event ?hg (N := 4) ?hd (cs := #[.string (⟨#[]⟩ : ByteArray), .int .i64 0, .int .i64 0, .int .i64 0, .int .i64 0, .int .i64 0]) (t := 80) ?hr ?_; (case hd => rfl); (case hg => rfl); (case hr => first | (go_simp; done) | (go_simp; rfl)); intro gb298 hg w43 hbox hb; have n0_ := Aside0.mk (blk_below (g := gb295) (o := .cells #[.slice A0_0 l0_0.length c0_0, .slice (some ad297) l0_1.length c0_1] 32 (0, 0)) (q1_ BK295.out) hb); have n1_ := Aside0.mk (below_step t10_ hb); have n2_ := Aside0.mk (hbox); have n3_ := Aside0.mk ((by rw [hg]; exact (below_size t10_) : w.heap.size ≤ gb298)); have n4_ := Aside0.mk ((by rw [hg]; exact (below_size t10_) : w.heap.size ≤ gb298)); have n5_ := Aside0.mk ((by rw [hg]; exact Nat.ne_of_lt (blk_lt (g := gb295) (o := .cells #[.slice A0_0 l0_0.length c0_0, .slice (some ad297) l0_1.length c0_1] 32 (0, 0)) (q1_ BK295.out)) : gb295 ≠ gb298)); have n6_ := Aside0.mk ((by rw [hg]; exact Nat.ne_of_gt (blk_lt (g := gb295) (o := .cells #[.slice A0_0 l0_0.length c0_0, .slice (some ad297) l0_1.length c0_1] 32 (0, 0)) (q1_ BK295.out)) : gb298 ≠ gb295)); clear BK295; clear HB; have BK295 := n0_; have HB := n1_; have BK298 := n2_; have GW298 := n3_; have GE298 := n4_; have NB295_298 := n5_; have NB298_295 := n6_; clear n0_ n1_ n2_ n3_ n4_ n5_ n6_; clear hb hbox hg; have hnb44 := NB298_295.out; have hnc44 := NB295_298.out; have hcz45_0 : w43.cell? ⟨gb298, 0, none⟩ = some (.string (⟨#[]⟩ : ByteArray)) := (blk_cell BK298.out 0).trans rfl; have hcz45_1 : w43.cell? ⟨gb298, 1, none⟩ = some (.int .i64 0) := (blk_cell BK298.out 1).trans rfl; have hcz45_2 : w43.cell? ⟨gb298, 2, none⟩ = some (.int .i64 0) := (blk_cell BK298.out 2).trans rfl; have hcz45_3 : w43.cell? ⟨gb298, 3, none⟩ = some (.int .i64 0) := (blk_cell BK298.out 3).trans rfl; have hcz45_4 : w43.cell? ⟨gb298, 4, none⟩ = some (.int .i64 0) := (blk_cell BK298.out 4).trans rfl; have hcz45_5 : w43.cell? ⟨gb298, 5, none⟩ = some (.int .i64 0) := (blk_cell BK298.out 5).trans rfl; have hfz45_0 := blk_frozen BK298.out 0; have hfz45_1 := blk_frozen BK298.out 1; have hfz45_2 := blk_frozen BK298.out 2; have hfz45_3 := blk_frozen BK298.out 3; have hfz45_4 := blk_frozen BK298.out 4; have hfz45_5 := blk_frozen BK298.out 5))
            have n0_ : Aside0 (((((((w43.setCell ⟨gb298, 0, none⟩ (.string ((rd_T80 l0_1 x30_2).f0))).setCell ⟨gb298, 1, none⟩ (.int .i64 ((rd_T80 l0_1 x30_2).f1))).setCell ⟨gb298, 2, none⟩ (.int .i64 ((rd_T80 l0_1 x30_2).f2))).setCell ⟨gb298, 3, none⟩ (.int .i64 ((rd_T80 l0_1 x30_2).f3))).setCell ⟨gb298, 4, none⟩ (.int .i64 ((rd_T80 l0_1 x30_2).f4))).setCell ⟨gb298, 5, none⟩ (.int .i64 ((rd_T80 l0_1 x30_2).f5))).heap[gb295]? = some (.cells #[.slice A0_0 l0_0.length c0_0, .slice (some ad297) l0_1.length c0_1] 32 (0, 0))) := ⟨t11_⟩
            have n1_ : Aside0 (((((((w43.setCell ⟨gb298, 0, none⟩ (.string ((rd_T80 l0_1 x30_2).f0))).setCell ⟨gb298, 1, none⟩ (.int .i64 ((rd_T80 l0_1 x30_2).f1))).setCell ⟨gb298, 2, none⟩ (.int .i64 ((rd_T80 l0_1 x30_2).f2))).setCell ⟨gb298, 3, none⟩ (.int .i64 ((rd_T80 l0_1 x30_2).f3))).setCell ⟨gb298, 4, none⟩ (.int .i64 ((rd_T80 l0_1 x30_2).f4))).setCell ⟨gb298, 5, none⟩ (.int .i64 ((rd_T80 l0_1 x30_2).f5))).heap[gb298]? = some (.cells #[.string ((rd_T80 l0_1 x30_2).f0), .int .i64 ((rd_T80 l0_1 x30_2).f1), .int .i64 ((rd_T80 l0_1 x30_2).f2), .int .i64 ((rd_T80 l0_1 x30_2).f3), .int .i64 ((rd_T80 l0_1 x30_2).f4), .int .i64 ((rd_T80 l0_1 x30_2).f5)] 80 (0, 0))) := ⟨t8_⟩
            have n2_ : Aside0 (Below w.heap.size w ((((((w43.setCell ⟨gb298, 0, none⟩ (.string ((rd_T80 l0_1 x30_2).f0))).setCell ⟨gb298, 1, none⟩ (.int .i64 ((rd_T80 l0_1 x30_2).f1))).setCell ⟨gb298, 2, none⟩ (.int .i64 ((rd_T80 l0_1 x30_2).f2))).setCell ⟨gb298, 3, none⟩ (.int .i64 ((rd_T80 l0_1 x30_2).f3))).setCell ⟨gb298, 4, none⟩ (.int .i64 ((rd_T80 l0_1 x30_2).f4))).setCell ⟨gb298, 5, none⟩ (.int .i64 ((rd_T80 l0_1 x30_2).f5)))) := ⟨t12_⟩
            (try clear BK295)
            (try clear BK298)
            (try clear HB)
            generalize ((((((w43.setCell ⟨gb298, 0, none⟩ (.string ((rd_T80 l0_1 x30_2).f0))).setCell ⟨gb298, 1, none⟩ (.int .i64 ((rd_T80 l0_1 x30_2).f1))).setCell ⟨gb298, 2, none⟩ (.int .i64 ((rd_T80 l0_1 x30_2).f2))).setCell ⟨gb298, 3, none⟩ (.int .i64 ((rd_T80 l0_1 x30_2).f3))).setCell ⟨gb298, 4, none⟩ (.int .i64 ((rd_T80 l0_1 x30_2).f4))).setCell ⟨gb298, 5, none⟩ (.int .i64 ((rd_T80 l0_1 x30_2).f5))) = w46 at n0_ n1_ n2_ ⊢
            have BK295 := n0_
            have BK298 := n1_
            have HB := n2_
            clear n0_ n1_ n2_
            have n0_ := Aside0.mk (blk_drew BK295.out)
            have n1_ := Aside0.mk (blk_drew BK298.out)
            have n2_ := Aside0.mk (below_drew1 HB.out)
            clear BK295
            clear BK298
            clear HB
            have BK295 := n0_
            have BK298 := n1_
            have HB := n2_
            clear n0_ n1_ n2_
            refine start_ (n := 25) (S := fun w' => w'.cell? ⟨gb298, 0, none⟩ = some (.string ((rd_T80 l0_1 x30_2).f0)) ∧ w'.cell? ⟨gb298, 1, none⟩ = some (.int .i64 ((rd_T80 l0_1 x30_2).f1)) ∧ w'.cell? ⟨gb298, 2, none⟩ = some (.int .i64 ((rd_T80 l0_1 x30_2).f2)) ∧ w'.cell? ⟨gb298, 3, none⟩ = some (.int .i64 ((rd_T80 l0_1 x30_2).f3)) ∧ w'.cell? ⟨gb298, 4, none⟩ = some (.int .i64 ((rd_T80 l0_1 x30_2).f4)) ∧ w'.cell? ⟨gb298, 5, none⟩ = some (.int .i64 ((rd_T80 l0_1 x30_2).f5)) ∧ w'.cell? ⟨gb295, 0, none⟩ = some (.slice A0_0 l0_0.length c0_0) ∧ w'.cell? ⟨gb295, 1, none⟩ = some (.slice (some ad297) l0_1.length c0_1)) (ds := []) (tf 0 25) t14_ rfl rfl ⟨(blk_cell BK298.out 0).trans rfl, (blk_cell BK298.out 1).trans rfl, (blk_cell BK298.out 2).trans rfl, (blk_cell BK298.out 3).trans rfl, (blk_cell BK298.out 4).trans rfl, (blk_cell BK298.out 5).trans rfl, (blk_cell BK295.out 0).trans rfl, (blk_cell BK295.out 1).trans rfl⟩ (fun hHeld => ?_); refine with_tabW impl_ValidNetwork.tab6 impl_ValidNetwork.bits6 (fun HT_ HW_ => ?_)
            generalize w46.drew = w47 at BK295 BK298 HB hHeld ⊢
            refine tx (v := ?_) 0 (some 35) (tf 1 25) HT_ HW_ hHeld ?_ ?_
            rotate_left; (· rintro w' ⟨s0, s1, s2, s3, s4, s5, s6, s7⟩; go_simp; with_reducible rfl)
            refine one_ (i := 1) (N := some 36) (tf 2 25) rfl rfl (one_of HT_.out t14_) t31_ (fun K hK => ?_)
            refine goes_ Try.func80 t14_ rfl #[.agg #[.string ((rd_T80 l0_1 x30_2).f0), .int .i64 ((rd_T80 l0_1 x30_2).f1), .int .i64 ((rd_T80 l0_1 x30_2).f2), .int .i64 ((rd_T80 l0_1 x30_2).f3), .int .i64 ((rd_T80 l0_1 x30_2).f4), .int .i64 ((rd_T80 l0_1 x30_2).f5)]] t71_ rfl rfl t2_ ?_
            with_reducible refine (impl_ValidPipe.calls k2 ((rd_T80 l0_1 x30_2).f0) ((rd_T80 l0_1 x30_2).f1) ((rd_T80 l0_1 x30_2).f2) ((rd_T80 l0_1 x30_2).f3) ((rd_T80 l0_1 x30_2).f4) ((rd_T80 l0_1 x30_2).f5) true _ A20.out).mono ?_
            rintro e w48 ⟨rfl, hb⟩
            refine ⟨_, rfl, ?_⟩
            have n0_ := Aside0.mk (blk_below (g := gb295) (o := .cells #[.slice A0_0 l0_0.length c0_0, .slice (some ad297) l0_1.length c0_1] 32 (0, 0)) (q1_ BK295.out) hb)
            have n1_ := Aside0.mk (blk_below (g := gb298) (o := .cells #[.string ((rd_T80 l0_1 x30_2).f0), .int .i64 ((rd_T80 l0_1 x30_2).f1), .int .i64 ((rd_T80 l0_1 x30_2).f2), .int .i64 ((rd_T80 l0_1 x30_2).f3), .int .i64 ((rd_T80 l0_1 x30_2).f4), .int .i64 ((rd_T80 l0_1 x30_2).f5)] 80 (0, 0)) (q1_ BK298.out) hb)
            have n2_ := Aside0.mk (below_step t12_ hb)
            clear BK295
            clear BK298
            clear HB
            have BK295 := n0_
            have BK298 := n1_
            have HB := n2_
            clear n0_ n1_ n2_
            (try clear hb)
            (try clear hb2)
            (try clear hk)
            (try clear hi)
            refine hK.out _ _ ⟨(blk_cell BK298.out 0).trans rfl, (blk_cell BK298.out 1).trans rfl, (blk_cell BK298.out 2).trans rfl, (blk_cell BK298.out 3).trans rfl, (blk_cell BK298.out 4).trans rfl, (blk_cell BK298.out 5).trans rfl, (blk_cell BK295.out 0).trans rfl, (blk_cell BK295.out 1).trans rfl⟩ (fun hHeld => ?_)
            clear hK K
            refine norm_ (a' := ?_) ?_ ?_
            rotate_left
            ·show Act.put _ (some 36) _ = _
             simp only [Act.put, List.setIfInBounds_toArray, List.set_cons_zero, List.set_cons_succ, i64_w, i32_w]
             rfl
            refine px 2 (some 37) (tf 3 25) HT_ ?_
            refine px 3 (some 38) (tf 4 25) HT_ ?_
            refine tx (v := ?_) 4 (some 39) (tf 5 25) HT_ HW_ hHeld ?_ ?_
            rotate_left; (· rintro w' ⟨s0, s1, s2, s3, s4, s5, s6, s7⟩; go_simp; with_reducible rfl)
            refine tx (v := ?_) 5 (some 40) (tf 6 25) HT_ HW_ hHeld ?_ ?_
            rotate_left; (· rintro w' ⟨s0, s1, s2, s3, s4, s5, s6, s7⟩; go_simp; with_reducible rfl)
            refine one_ (i := 6) (N := some 41) (tf 7 25) rfl rfl (one_of HT_.out t14_) t31_ (fun K hK => ?_)
            refine goes_ Try.func81 t14_ rfl #[.agg #[.slice A0_0 l0_0.length c0_0, .slice (some ad297) l0_1.length c0_1], .agg #[.string ((rd_T80 l0_1 x30_2).f0), .int .i64 ((rd_T80 l0_1 x30_2).f1), .int .i64 ((rd_T80 l0_1 x30_2).f2), .int .i64 ((rd_T80 l0_1 x30_2).f3), .int .i64 ((rd_T80 l0_1 x30_2).f4), .int .i64 ((rd_T80 l0_1 x30_2).f5)]] t71_ rfl rfl t2_ ?_
            with_reducible refine (impl_Network_hasEnds.calls _ _ l0_0 _ _ l0_1 ((rd_T80 l0_1 x30_2).f0) ((rd_T80 l0_1 x30_2).f1) ((rd_T80 l0_1 x30_2).f2) ((rd_T80 l0_1 x30_2).f3) ((rd_T80 l0_1 x30_2).f4) ((rd_T80 l0_1 x30_2).f5) true _ ?side1 ?side2 ?side3 ?side4 A22.out).mono ?_
            (case side1 => repeat (first | exact (Kd.C_below HR0_0.out HB.out) | (with_reducible refine Kd.C_alloc ?_ _) | (with_reducible refine Kd.C_drewN ?_ _) | (with_reducible refine Kd.C_drew ?_)))
            (case side2 => exact HC0_0.out)
            (case side3 => repeat (first | exact (Kd.C_below HR0_1.out HB.out) | (with_reducible refine Kd.C_alloc ?_ _) | (with_reducible refine Kd.C_drewN ?_ _) | (with_reducible refine Kd.C_drew ?_)))
            (case side4 => exact HC0_1.out)
            rintro e w49 ⟨rfl, hb⟩
            refine ⟨_, rfl, ?_⟩
            have n0_ := Aside0.mk (blk_below (g := gb295) (o := .cells #[.slice A0_0 l0_0.length c0_0, .slice (some ad297) l0_1.length c0_1] 32 (0, 0)) (q1_ BK295.out) hb)
            have n1_ := Aside0.mk (blk_below (g := gb298) (o := .cells #[.string ((rd_T80 l0_1 x30_2).f0), .int .i64 ((rd_T80 l0_1 x30_2).f1), .int .i64 ((rd_T80 l0_1 x30_2).f2), .int .i64 ((rd_T80 l0_1 x30_2).f3), .int .i64 ((rd_T80 l0_1 x30_2).f4), .int .i64 ((rd_T80 l0_1 x30_2).f5)] 80 (0, 0)) (q1_ BK298.out) hb)
            have n2_ := Aside0.mk (below_step t12_ hb)
            clear BK295
            clear BK298
            clear HB
            have BK295 := n0_
            have BK298 := n1_
            have HB := n2_
            clear n0_ n1_ n2_
            (try clear hb)
            (try clear hb2)
            (try clear hk)
            (try clear hi)
            refine hK.out _ _ ⟨(blk_cell BK298.out 0).trans rfl, (blk_cell BK298.out 1).trans rfl, (blk_cell BK298.out 2).trans rfl, (blk_cell BK298.out 3).trans rfl, (blk_cell BK298.out 4).trans rfl, (blk_cell BK298.out 5).trans rfl, (blk_cell BK295.out 0).trans rfl, (blk_cell BK295.out 1).trans rfl⟩ (fun hHeld => ?_)
            clear hK K
            refine norm_ (a' := ?_) ?_ ?_
            rotate_left
            ·show Act.put _ (some 41) _ = _
             simp only [Act.put, List.setIfInBounds_toArray, List.set_cons_zero, List.set_cons_succ, i64_w, i32_w]
             rfl
            refine px 7 (some 42) (tf 8 25) HT_ ?_
            refine px 8 (some 43) (tf 9 25) HT_ ?_
            refine px 9 (some 44) (tf 10 25) HT_ ?_
            refine px 10 (some 45) (tf 11 25) HT_ ?_
            refine px 11 (some 46) (tf 12 25) HT_ ?_
            refine px 12 (some 47) (tf 13 25) HT_ ?_
            refine sx 13 (some 48) (tf 14 25) HT_ ?_
            refine sx 14 (some 49) (tf 15 25) HT_ ?_
            refine sx 15 (some 50) (tf 16 25) HT_ ?_
            refine sx 16 (some 51) (tf 17 25) HT_ ?_
            refine sx 17 (some 52) (tf 18 25) HT_ ?_
            refine sx 18 (some 53) (tf 19 25) HT_ ?_
            refine sx 19 (some 54) (tf 20 25) HT_ ?_
            refine sx 20 (some 55) (tf 21 25) HT_ ?_
            refine sx 21 (some 56) (tf 22 25) HT_ ?_
            refine sx 22 (some 57) (tf 23 25) HT_ ?_
            refine px 23 (some 58) (tf 24 25) HT_ ?_
            refine px 24 (some 59) (tf 25 25) HT_ ?_
            refine done_ (done_of HT_.out t14_) ?_
            try go_wp2
            go_roundg k2
            case measure => have := HJ1.out; have := HK2.out; omega
            case rel => exact ⟨(wrap64 (x30_2 + 1)), t6_, H', ⟨(by have := HJ1.out; have := HK2.out; omega)⟩, ⟨t38_⟩, ⟨t12_⟩⟩
          ·replace c23 := Bool.eq_false_iff.mpr c23
           subst c23
           have H1 : (some false) = some r := by rw [if_neg (show ¬ (false = true) by decide)] at H; exact H
           clear H
           have H := H1
           clear H1
           obtain rfl := Option.some.inj H
           have p297 : 0 ≤ (x30_2 : Int) := of_decide_eq_true t3_
           have q297 : x30_2 < (l0_1.length : Int) := of_decide_eq_true t3_
           obtain ⟨ad297, e297, hx297_0, hx297_1, hx297_2, hx297_3, hx297_4, hx297_5⟩ := at_T80 HR0_1.out x30_2 p297 q297
           cases e297
           replace hx297_0 := hb_ HB hx297_0
           replace hx297_1 := hb_ HB hx297_1
           replace hx297_2 := hb_ HB hx297_2
           replace hx297_3 := hb_ HB hx297_3
           replace hx297_4 := hb_ HB hx297_4
           replace hx297_5 := hb_ HB hx297_5
           replace p297 := eq_true p297
           replace q297 := eq_true q297
           try go_wp2_with (first | ((with_reducible refine gate_dst (N := 4) rfl ?_); (try (refine gate_guard t71_ ?_; dsimp only)); refine box_event ?hg (N := 4) ?hd (cs := #[.string (⟨#[]⟩ : ByteArray), .int .i64 0, .int .i64 0, .int .i64 0, .int .i64 0, .int .i64 0]) (t := 80) ?hr ?_; (case hd => rfl); (case hg => rfl); (case hr => first | (go_simp; done) | (go_simp; rfl)); intro gb298 hg w50 hbox hb; have n0_ := Aside0.mk (blk_below (g := gb295) (o := .cells #[.slice A0_0 l0_0.length c0_0, .slice (some ad297) l0_1.length c0_1] 32 (0, 0)) (q1_ BK295.out) hb); have n1_ := Aside0.mk (below_step t10_ hb); have n2_ := Aside0.mk (hbox); have n3_ := Aside0.mk ((by rw [hg]; exact (below_size t10_) : w.heap.size ≤ gb298)); have n4_ := Aside0.mk ((by rw [hg]; exact (below_size t10_) : w.heap.size ≤ gb298)); have n5_ := Aside0.mk ((by rw [hg]; exact Nat.ne_of_lt (blk_lt (g := gb295) (o := .cells #[.slice A0_0 l0_0.length c0_0, .slice (some ad297) l0_1.length c0_1] 32 (0, 0)) (q1_ BK295.out)) : gb295 ≠ gb298)); have n6_ := Aside0.mk ((by rw [hg]; exact Nat.ne_of_gt (blk_lt (g := gb295) (o := .cells #[.slice A0_0 l0_0.length c0_0, .slice (some ad297) l0_1.length c0_1] 32 (0, 0)) (q1_ BK295.out)) : gb298 ≠ gb295)); clear BK295; clear HB; have BK295 := n0_; have HB := n1_; have BK298 := n2_; have GW298 := n3_; have GE298 := n4_; have NB295_298 := n5_; have NB298_295 := n6_; clear n0_ n1_ n2_ n3_ n4_ n5_ n6_; clear hb hbox hg; have hnb51 := NB298_295.out; have hnc51 := NB295_298.out; have hcz52_0 : w50.cell? ⟨gb298, 0, none⟩ = some (.string (⟨#[]⟩ : ByteArray)) := (blk_cell BK298.out 0).trans rfl; have hcz52_1 : w50.cell? ⟨gb298, 1, none⟩ = some (.int .i64 0) := (blk_cell BK298.out 1).trans rfl; have hcz52_2 : w50.cell? ⟨gb298, 2, none⟩ = some (.int .i64 0) := (blk_cell BK298.out 2).trans rfl; have hcz52_3 : w50.cell? ⟨gb298, 3, none⟩ = some (.int .i64 0) := (blk_cell BK298.out 3).trans rfl; have hcz52_4 : w50.cell? ⟨gb298, 4, none⟩ = some (.int .i64 0) := (blk_cell BK298.out 4).trans rfl; have hcz52_5 : w50.cell? ⟨gb298, 5, none⟩ = some (.int .i64 0) := (blk_cell BK298.out 5).trans rfl; have hfz52_0 := blk_frozen BK298.out 0; have hfz52_1 := blk_frozen BK298.out 1; have hfz52_2 := blk_frozen BK298.out 2; have hfz52_3 := blk_frozen BK298.out 3; have hfz52_4 := blk_frozen BK298.out 4; have hfz52_5 := blk_frozen BK298.out 5))
           have n0_ : Aside0 (((((((w50.setCell ⟨gb298, 0, none⟩ (.string ((rd_T80 l0_1 x30_2).f0))).setCell ⟨gb298, 1, none⟩ (.int .i64 ((rd_T80 l0_1 x30_2).f1))).setCell ⟨gb298, 2, none⟩ (.int .i64 ((rd_T80 l0_1 x30_2).f2))).setCell ⟨gb298, 3, none⟩ (.int .i64 ((rd_T80 l0_1 x30_2).f3))).setCell ⟨gb298, 4, none⟩ (.int .i64 ((rd_T80 l0_1 x30_2).f4))).setCell ⟨gb298, 5, none⟩ (.int .i64 ((rd_T80 l0_1 x30_2).f5))).heap[gb295]? = some (.cells #[.slice A0_0 l0_0.length c0_0, .slice (some ad297) l0_1.length c0_1] 32 (0, 0))) := ⟨t11_⟩
           have n1_ : Aside0 (((((((w50.setCell ⟨gb298, 0, none⟩ (.string ((rd_T80 l0_1 x30_2).f0))).setCell ⟨gb298, 1, none⟩ (.int .i64 ((rd_T80 l0_1 x30_2).f1))).setCell ⟨gb298, 2, none⟩ (.int .i64 ((rd_T80 l0_1 x30_2).f2))).setCell ⟨gb298, 3, none⟩ (.int .i64 ((rd_T80 l0_1 x30_2).f3))).setCell ⟨gb298, 4, none⟩ (.int .i64 ((rd_T80 l0_1 x30_2).f4))).setCell ⟨gb298, 5, none⟩ (.int .i64 ((rd_T80 l0_1 x30_2).f5))).heap[gb298]? = some (.cells #[.string ((rd_T80 l0_1 x30_2).f0), .int .i64 ((rd_T80 l0_1 x30_2).f1), .int .i64 ((rd_T80 l0_1 x30_2).f2), .int .i64 ((rd_T80 l0_1 x30_2).f3), .int .i64 ((rd_T80 l0_1 x30_2).f4), .int .i64 ((rd_T80 l0_1 x30_2).f5)] 80 (0, 0))) := ⟨t8_⟩
           have n2_ : Aside0 (Below w.heap.size w ((((((w50.setCell ⟨gb298, 0, none⟩ (.string ((rd_T80 l0_1 x30_2).f0))).setCell ⟨gb298, 1, none⟩ (.int .i64 ((rd_T80 l0_1 x30_2).f1))).setCell ⟨gb298, 2, none⟩ (.int .i64 ((rd_T80 l0_1 x30_2).f2))).setCell ⟨gb298, 3, none⟩ (.int .i64 ((rd_T80 l0_1 x30_2).f3))).setCell ⟨gb298, 4, none⟩ (.int .i64 ((rd_T80 l0_1 x30_2).f4))).setCell ⟨gb298, 5, none⟩ (.int .i64 ((rd_T80 l0_1 x30_2).f5)))) := ⟨t12_⟩
           (try clear BK295)
           (try clear BK298)
           (try clear HB)
           generalize ((((((w50.setCell ⟨gb298, 0, none⟩ (.string ((rd_T80 l0_1 x30_2).f0))).setCell ⟨gb298, 1, none⟩ (.int .i64 ((rd_T80 l0_1 x30_2).f1))).setCell ⟨gb298, 2, none⟩ (.int .i64 ((rd_T80 l0_1 x30_2).f2))).setCell ⟨gb298, 3, none⟩ (.int .i64 ((rd_T80 l0_1 x30_2).f3))).setCell ⟨gb298, 4, none⟩ (.int .i64 ((rd_T80 l0_1 x30_2).f4))).setCell ⟨gb298, 5, none⟩ (.int .i64 ((rd_T80 l0_1 x30_2).f5))) = w53 at n0_ n1_ n2_ ⊢
           have BK295 := n0_
           have BK298 := n1_
           have HB := n2_
           clear n0_ n1_ n2_
           have n0_ := Aside0.mk (blk_drew BK295.out)
           have n1_ := Aside0.mk (blk_drew BK298.out)
           have n2_ := Aside0.mk (below_drew1 HB.out)
           clear BK295
           clear BK298
           clear HB
           have BK295 := n0_
           have BK298 := n1_
           have HB := n2_
           clear n0_ n1_ n2_
           refine start_ (n := 25) (S := fun w' => w'.cell? ⟨gb298, 0, none⟩ = some (.string ((rd_T80 l0_1 x30_2).f0)) ∧ w'.cell? ⟨gb298, 1, none⟩ = some (.int .i64 ((rd_T80 l0_1 x30_2).f1)) ∧ w'.cell? ⟨gb298, 2, none⟩ = some (.int .i64 ((rd_T80 l0_1 x30_2).f2)) ∧ w'.cell? ⟨gb298, 3, none⟩ = some (.int .i64 ((rd_T80 l0_1 x30_2).f3)) ∧ w'.cell? ⟨gb298, 4, none⟩ = some (.int .i64 ((rd_T80 l0_1 x30_2).f4)) ∧ w'.cell? ⟨gb298, 5, none⟩ = some (.int .i64 ((rd_T80 l0_1 x30_2).f5)) ∧ w'.cell? ⟨gb295, 0, none⟩ = some (.slice A0_0 l0_0.length c0_0) ∧ w'.cell? ⟨gb295, 1, none⟩ = some (.slice (some ad297) l0_1.length c0_1)) (ds := []) (tf 0 25) t14_ rfl rfl ⟨(blk_cell BK298.out 0).trans rfl, (blk_cell BK298.out 1).trans rfl, (blk_cell BK298.out 2).trans rfl, (blk_cell BK298.out 3).trans rfl, (blk_cell BK298.out 4).trans rfl, (blk_cell BK298.out 5).trans rfl, (blk_cell BK295.out 0).trans rfl, (blk_cell BK295.out 1).trans rfl⟩ (fun hHeld => ?_); refine with_tabW impl_ValidNetwork.tab6 impl_ValidNetwork.bits6 (fun HT_ HW_ => ?_)
           generalize w53.drew = w54 at BK295 BK298 HB hHeld ⊢
           refine tx (v := ?_) 0 (some 35) (tf 1 25) HT_ HW_ hHeld ?_ ?_
           rotate_left; (· rintro w' ⟨s0, s1, s2, s3, s4, s5, s6, s7⟩; go_simp; with_reducible rfl)
           refine one_ (i := 1) (N := some 36) (tf 2 25) rfl rfl (one_of HT_.out t14_) t31_ (fun K hK => ?_)
           refine goes_ Try.func80 t14_ rfl #[.agg #[.string ((rd_T80 l0_1 x30_2).f0), .int .i64 ((rd_T80 l0_1 x30_2).f1), .int .i64 ((rd_T80 l0_1 x30_2).f2), .int .i64 ((rd_T80 l0_1 x30_2).f3), .int .i64 ((rd_T80 l0_1 x30_2).f4), .int .i64 ((rd_T80 l0_1 x30_2).f5)]] t71_ rfl rfl t2_ ?_
           with_reducible refine (impl_ValidPipe.calls k2 ((rd_T80 l0_1 x30_2).f0) ((rd_T80 l0_1 x30_2).f1) ((rd_T80 l0_1 x30_2).f2) ((rd_T80 l0_1 x30_2).f3) ((rd_T80 l0_1 x30_2).f4) ((rd_T80 l0_1 x30_2).f5) true _ A20.out).mono ?_
           rintro e w55 ⟨rfl, hb⟩
           refine ⟨_, rfl, ?_⟩
           have n0_ := Aside0.mk (blk_below (g := gb295) (o := .cells #[.slice A0_0 l0_0.length c0_0, .slice (some ad297) l0_1.length c0_1] 32 (0, 0)) (q1_ BK295.out) hb)
           have n1_ := Aside0.mk (blk_below (g := gb298) (o := .cells #[.string ((rd_T80 l0_1 x30_2).f0), .int .i64 ((rd_T80 l0_1 x30_2).f1), .int .i64 ((rd_T80 l0_1 x30_2).f2), .int .i64 ((rd_T80 l0_1 x30_2).f3), .int .i64 ((rd_T80 l0_1 x30_2).f4), .int .i64 ((rd_T80 l0_1 x30_2).f5)] 80 (0, 0)) (q1_ BK298.out) hb)
           have n2_ := Aside0.mk (below_step t12_ hb)
           clear BK295
           clear BK298
           clear HB
           have BK295 := n0_
           have BK298 := n1_
           have HB := n2_
           clear n0_ n1_ n2_
           (try clear hb)
           (try clear hb2)
           (try clear hk)
           (try clear hi)
           refine hK.out _ _ ⟨(blk_cell BK298.out 0).trans rfl, (blk_cell BK298.out 1).trans rfl, (blk_cell BK298.out 2).trans rfl, (blk_cell BK298.out 3).trans rfl, (blk_cell BK298.out 4).trans rfl, (blk_cell BK298.out 5).trans rfl, (blk_cell BK295.out 0).trans rfl, (blk_cell BK295.out 1).trans rfl⟩ (fun hHeld => ?_)
           clear hK K
           refine norm_ (a' := ?_) ?_ ?_
           rotate_left
           ·show Act.put _ (some 36) _ = _
            simp only [Act.put, List.setIfInBounds_toArray, List.set_cons_zero, List.set_cons_succ, i64_w, i32_w]
            rfl
           refine px 2 (some 37) (tf 3 25) HT_ ?_
           refine px 3 (some 38) (tf 4 25) HT_ ?_
           refine tx (v := ?_) 4 (some 39) (tf 5 25) HT_ HW_ hHeld ?_ ?_
           rotate_left; (· rintro w' ⟨s0, s1, s2, s3, s4, s5, s6, s7⟩; go_simp; with_reducible rfl)
           refine tx (v := ?_) 5 (some 40) (tf 6 25) HT_ HW_ hHeld ?_ ?_
           rotate_left; (· rintro w' ⟨s0, s1, s2, s3, s4, s5, s6, s7⟩; go_simp; with_reducible rfl)
           refine one_ (i := 6) (N := some 41) (tf 7 25) rfl rfl (one_of HT_.out t14_) t31_ (fun K hK => ?_)
           refine goes_ Try.func81 t14_ rfl #[.agg #[.slice A0_0 l0_0.length c0_0, .slice (some ad297) l0_1.length c0_1], .agg #[.string ((rd_T80 l0_1 x30_2).f0), .int .i64 ((rd_T80 l0_1 x30_2).f1), .int .i64 ((rd_T80 l0_1 x30_2).f2), .int .i64 ((rd_T80 l0_1 x30_2).f3), .int .i64 ((rd_T80 l0_1 x30_2).f4), .int .i64 ((rd_T80 l0_1 x30_2).f5)]] t71_ rfl rfl t2_ ?_
           with_reducible refine (impl_Network_hasEnds.calls _ _ l0_0 _ _ l0_1 ((rd_T80 l0_1 x30_2).f0) ((rd_T80 l0_1 x30_2).f1) ((rd_T80 l0_1 x30_2).f2) ((rd_T80 l0_1 x30_2).f3) ((rd_T80 l0_1 x30_2).f4) ((rd_T80 l0_1 x30_2).f5) false _ ?side1 ?side2 ?side3 ?side4 A22.out).mono ?_
           (case side1 => repeat (first | exact (Kd.C_below HR0_0.out HB.out) | (with_reducible refine Kd.C_alloc ?_ _) | (with_reducible refine Kd.C_drewN ?_ _) | (with_reducible refine Kd.C_drew ?_)))
           (case side2 => exact HC0_0.out)
           (case side3 => repeat (first | exact (Kd.C_below HR0_1.out HB.out) | (with_reducible refine Kd.C_alloc ?_ _) | (with_reducible refine Kd.C_drewN ?_ _) | (with_reducible refine Kd.C_drew ?_)))
           (case side4 => exact HC0_1.out)
           rintro e w56 ⟨rfl, hb⟩
           refine ⟨_, rfl, ?_⟩
           have n0_ := Aside0.mk (blk_below (g := gb295) (o := .cells #[.slice A0_0 l0_0.length c0_0, .slice (some ad297) l0_1.length c0_1] 32 (0, 0)) (q1_ BK295.out) hb)
           have n1_ := Aside0.mk (blk_below (g := gb298) (o := .cells #[.string ((rd_T80 l0_1 x30_2).f0), .int .i64 ((rd_T80 l0_1 x30_2).f1), .int .i64 ((rd_T80 l0_1 x30_2).f2), .int .i64 ((rd_T80 l0_1 x30_2).f3), .int .i64 ((rd_T80 l0_1 x30_2).f4), .int .i64 ((rd_T80 l0_1 x30_2).f5)] 80 (0, 0)) (q1_ BK298.out) hb)
           have n2_ := Aside0.mk (below_step t12_ hb)
           clear BK295
           clear BK298
           clear HB
           have BK295 := n0_
           have BK298 := n1_
           have HB := n2_
           clear n0_ n1_ n2_
           (try clear hb)
           (try clear hb2)
           (try clear hk)
           (try clear hi)
           refine hK.out _ _ ⟨(blk_cell BK298.out 0).trans rfl, (blk_cell BK298.out 1).trans rfl, (blk_cell BK298.out 2).trans rfl, (blk_cell BK298.out 3).trans rfl, (blk_cell BK298.out 4).trans rfl, (blk_cell BK298.out 5).trans rfl, (blk_cell BK295.out 0).trans rfl, (blk_cell BK295.out 1).trans rfl⟩ (fun hHeld => ?_)
           clear hK K
           refine norm_ (a' := ?_) ?_ ?_
           rotate_left
           ·show Act.put _ (some 41) _ = _
            simp only [Act.put, List.setIfInBounds_toArray, List.set_cons_zero, List.set_cons_succ, i64_w, i32_w]
            rfl
           refine px 7 (some 42) (tf 8 25) HT_ ?_
           refine px 8 (some 43) (tf 9 25) HT_ ?_
           refine px 9 (some 44) (tf 10 25) HT_ ?_
           refine sx 10 (some 45) (tf 11 25) HT_ ?_
           refine sx 11 (some 46) (tf 12 25) HT_ ?_
           refine sx 12 (some 47) (tf 13 25) HT_ ?_
           refine sx 13 (some 48) (tf 14 25) HT_ ?_
           refine sx 14 (some 49) (tf 15 25) HT_ ?_
           refine sx 15 (some 50) (tf 16 25) HT_ ?_
           refine sx 16 (some 51) (tf 17 25) HT_ ?_
           refine sx 17 (some 52) (tf 18 25) HT_ ?_
           refine sx 18 (some 53) (tf 19 25) HT_ ?_
           refine sx 19 (some 54) (tf 20 25) HT_ ?_
           refine sx 20 (some 55) (tf 21 25) HT_ ?_
           refine sx 21 (some 56) (tf 22 25) HT_ ?_
           refine sx 22 (some 57) (tf 23 25) HT_ ?_
           refine sx 23 (some 58) (tf 24 25) HT_ ?_
           refine px 24 (some 59) (tf 25 25) HT_ ?_
           refine done_ (done_of HT_.out t14_) ?_
           try go_wp2
           go_ret
           exact ⟨t5_, t12_⟩
         ·replace c21 := Bool.eq_false_iff.mpr c21
          subst c21
          have H1 : (some false) = some r := by rw [if_neg (show ¬ (false = true) by decide)] at H; exact H
          clear H
          have H := H1
          clear H1
          obtain rfl := Option.some.inj H
          have p297 : 0 ≤ (x30_2 : Int) := of_decide_eq_true t3_
          have q297 : x30_2 < (l0_1.length : Int) := of_decide_eq_true t3_
          obtain ⟨ad297, e297, hx297_0, hx297_1, hx297_2, hx297_3, hx297_4, hx297_5⟩ := at_T80 HR0_1.out x30_2 p297 q297
          cases e297
          replace hx297_0 := hb_ HB hx297_0
          replace hx297_1 := hb_ HB hx297_1
          replace hx297_2 := hb_ HB hx297_2
          replace hx297_3 := hb_ HB hx297_3
          replace hx297_4 := hb_ HB hx297_4
          replace hx297_5 := hb_ HB hx297_5
          replace p297 := eq_true p297
          replace q297 := eq_true q297
          try go_wp2_with (first | ((with_reducible refine gate_dst (N := 4) rfl ?_); (try (refine gate_guard t71_ ?_; dsimp only)); refine box_event ?hg (N := 4) ?hd (cs := #[.string (⟨#[]⟩ : ByteArray), .int .i64 0, .int .i64 0, .int .i64 0, .int .i64 0, .int .i64 0]) (t := 80) ?hr ?_; (case hd => rfl); (case hg => rfl); (case hr => first | (go_simp; done) | (go_simp; rfl)); intro gb298 hg w57 hbox hb; have n0_ := Aside0.mk (blk_below (g := gb295) (o := .cells #[.slice A0_0 l0_0.length c0_0, .slice (some ad297) l0_1.length c0_1] 32 (0, 0)) (q1_ BK295.out) hb); have n1_ := Aside0.mk (below_step t10_ hb); have n2_ := Aside0.mk (hbox); have n3_ := Aside0.mk ((by rw [hg]; exact (below_size t10_) : w.heap.size ≤ gb298)); have n4_ := Aside0.mk ((by rw [hg]; exact (below_size t10_) : w.heap.size ≤ gb298)); have n5_ := Aside0.mk ((by rw [hg]; exact Nat.ne_of_lt (blk_lt (g := gb295) (o := .cells #[.slice A0_0 l0_0.length c0_0, .slice (some ad297) l0_1.length c0_1] 32 (0, 0)) (q1_ BK295.out)) : gb295 ≠ gb298)); have n6_ := Aside0.mk ((by rw [hg]; exact Nat.ne_of_gt (blk_lt (g := gb295) (o := .cells #[.slice A0_0 l0_0.length c0_0, .slice (some ad297) l0_1.length c0_1] 32 (0, 0)) (q1_ BK295.out)) : gb298 ≠ gb295)); clear BK295; clear HB; have BK295 := n0_; have HB := n1_; have BK298 := n2_; have GW298 := n3_; have GE298 := n4_; have NB295_298 := n5_; have NB298_295 := n6_; clear n0_ n1_ n2_ n3_ n4_ n5_ n6_; clear hb hbox hg; have hnb58 := NB298_295.out; have hnc58 := NB295_298.out; have hcz59_0 : w57.cell? ⟨gb298, 0, none⟩ = some (.string (⟨#[]⟩ : ByteArray)) := (blk_cell BK298.out 0).trans rfl; have hcz59_1 : w57.cell? ⟨gb298, 1, none⟩ = some (.int .i64 0) := (blk_cell BK298.out 1).trans rfl; have hcz59_2 : w57.cell? ⟨gb298, 2, none⟩ = some (.int .i64 0) := (blk_cell BK298.out 2).trans rfl; have hcz59_3 : w57.cell? ⟨gb298, 3, none⟩ = some (.int .i64 0) := (blk_cell BK298.out 3).trans rfl; have hcz59_4 : w57.cell? ⟨gb298, 4, none⟩ = some (.int .i64 0) := (blk_cell BK298.out 4).trans rfl; have hcz59_5 : w57.cell? ⟨gb298, 5, none⟩ = some (.int .i64 0) := (blk_cell BK298.out 5).trans rfl; have hfz59_0 := blk_frozen BK298.out 0; have hfz59_1 := blk_frozen BK298.out 1; have hfz59_2 := blk_frozen BK298.out 2; have hfz59_3 := blk_frozen BK298.out 3; have hfz59_4 := blk_frozen BK298.out 4; have hfz59_5 := blk_frozen BK298.out 5))
          have n0_ : Aside0 (((((((w57.setCell ⟨gb298, 0, none⟩ (.string ((rd_T80 l0_1 x30_2).f0))).setCell ⟨gb298, 1, none⟩ (.int .i64 ((rd_T80 l0_1 x30_2).f1))).setCell ⟨gb298, 2, none⟩ (.int .i64 ((rd_T80 l0_1 x30_2).f2))).setCell ⟨gb298, 3, none⟩ (.int .i64 ((rd_T80 l0_1 x30_2).f3))).setCell ⟨gb298, 4, none⟩ (.int .i64 ((rd_T80 l0_1 x30_2).f4))).setCell ⟨gb298, 5, none⟩ (.int .i64 ((rd_T80 l0_1 x30_2).f5))).heap[gb295]? = some (.cells #[.slice A0_0 l0_0.length c0_0, .slice (some ad297) l0_1.length c0_1] 32 (0, 0))) := ⟨t11_⟩
          have n1_ : Aside0 (((((((w57.setCell ⟨gb298, 0, none⟩ (.string ((rd_T80 l0_1 x30_2).f0))).setCell ⟨gb298, 1, none⟩ (.int .i64 ((rd_T80 l0_1 x30_2).f1))).setCell ⟨gb298, 2, none⟩ (.int .i64 ((rd_T80 l0_1 x30_2).f2))).setCell ⟨gb298, 3, none⟩ (.int .i64 ((rd_T80 l0_1 x30_2).f3))).setCell ⟨gb298, 4, none⟩ (.int .i64 ((rd_T80 l0_1 x30_2).f4))).setCell ⟨gb298, 5, none⟩ (.int .i64 ((rd_T80 l0_1 x30_2).f5))).heap[gb298]? = some (.cells #[.string ((rd_T80 l0_1 x30_2).f0), .int .i64 ((rd_T80 l0_1 x30_2).f1), .int .i64 ((rd_T80 l0_1 x30_2).f2), .int .i64 ((rd_T80 l0_1 x30_2).f3), .int .i64 ((rd_T80 l0_1 x30_2).f4), .int .i64 ((rd_T80 l0_1 x30_2).f5)] 80 (0, 0))) := ⟨t8_⟩
          have n2_ : Aside0 (Below w.heap.size w ((((((w57.setCell ⟨gb298, 0, none⟩ (.string ((rd_T80 l0_1 x30_2).f0))).setCell ⟨gb298, 1, none⟩ (.int .i64 ((rd_T80 l0_1 x30_2).f1))).setCell ⟨gb298, 2, none⟩ (.int .i64 ((rd_T80 l0_1 x30_2).f2))).setCell ⟨gb298, 3, none⟩ (.int .i64 ((rd_T80 l0_1 x30_2).f3))).setCell ⟨gb298, 4, none⟩ (.int .i64 ((rd_T80 l0_1 x30_2).f4))).setCell ⟨gb298, 5, none⟩ (.int .i64 ((rd_T80 l0_1 x30_2).f5)))) := ⟨t12_⟩
          (try clear BK295)
          (try clear BK298)
          (try clear HB)
          generalize ((((((w57.setCell ⟨gb298, 0, none⟩ (.string ((rd_T80 l0_1 x30_2).f0))).setCell ⟨gb298, 1, none⟩ (.int .i64 ((rd_T80 l0_1 x30_2).f1))).setCell ⟨gb298, 2, none⟩ (.int .i64 ((rd_T80 l0_1 x30_2).f2))).setCell ⟨gb298, 3, none⟩ (.int .i64 ((rd_T80 l0_1 x30_2).f3))).setCell ⟨gb298, 4, none⟩ (.int .i64 ((rd_T80 l0_1 x30_2).f4))).setCell ⟨gb298, 5, none⟩ (.int .i64 ((rd_T80 l0_1 x30_2).f5))) = w60 at n0_ n1_ n2_ ⊢
          have BK295 := n0_
          have BK298 := n1_
          have HB := n2_
          clear n0_ n1_ n2_
          have n0_ := Aside0.mk (blk_drew BK295.out)
          have n1_ := Aside0.mk (blk_drew BK298.out)
          have n2_ := Aside0.mk (below_drew1 HB.out)
          clear BK295
          clear BK298
          clear HB
          have BK295 := n0_
          have BK298 := n1_
          have HB := n2_
          clear n0_ n1_ n2_
          refine start_ (n := 25) (S := fun w' => w'.cell? ⟨gb298, 0, none⟩ = some (.string ((rd_T80 l0_1 x30_2).f0)) ∧ w'.cell? ⟨gb298, 1, none⟩ = some (.int .i64 ((rd_T80 l0_1 x30_2).f1)) ∧ w'.cell? ⟨gb298, 2, none⟩ = some (.int .i64 ((rd_T80 l0_1 x30_2).f2)) ∧ w'.cell? ⟨gb298, 3, none⟩ = some (.int .i64 ((rd_T80 l0_1 x30_2).f3)) ∧ w'.cell? ⟨gb298, 4, none⟩ = some (.int .i64 ((rd_T80 l0_1 x30_2).f4)) ∧ w'.cell? ⟨gb298, 5, none⟩ = some (.int .i64 ((rd_T80 l0_1 x30_2).f5))) (ds := []) (tf 0 25) t14_ rfl rfl ⟨(blk_cell BK298.out 0).trans rfl, (blk_cell BK298.out 1).trans rfl, (blk_cell BK298.out 2).trans rfl, (blk_cell BK298.out 3).trans rfl, (blk_cell BK298.out 4).trans rfl, (blk_cell BK298.out 5).trans rfl⟩ (fun hHeld => ?_); refine with_tabW impl_ValidNetwork.tab6 impl_ValidNetwork.bits6 (fun HT_ HW_ => ?_)
          generalize w60.drew = w61 at BK295 BK298 HB hHeld ⊢
          refine tx (v := ?_) 0 (some 35) (tf 1 25) HT_ HW_ hHeld ?_ ?_
          rotate_left; (· rintro w' ⟨s0, s1, s2, s3, s4, s5⟩; go_simp; with_reducible rfl)
          refine one_ (i := 1) (N := some 36) (tf 2 25) rfl rfl (one_of HT_.out t14_) t31_ (fun K hK => ?_)
          refine goes_ Try.func80 t14_ rfl #[.agg #[.string ((rd_T80 l0_1 x30_2).f0), .int .i64 ((rd_T80 l0_1 x30_2).f1), .int .i64 ((rd_T80 l0_1 x30_2).f2), .int .i64 ((rd_T80 l0_1 x30_2).f3), .int .i64 ((rd_T80 l0_1 x30_2).f4), .int .i64 ((rd_T80 l0_1 x30_2).f5)]] t71_ rfl rfl t2_ ?_
          with_reducible refine (impl_ValidPipe.calls k2 ((rd_T80 l0_1 x30_2).f0) ((rd_T80 l0_1 x30_2).f1) ((rd_T80 l0_1 x30_2).f2) ((rd_T80 l0_1 x30_2).f3) ((rd_T80 l0_1 x30_2).f4) ((rd_T80 l0_1 x30_2).f5) false _ A20.out).mono ?_
          rintro e w62 ⟨rfl, hb⟩
          refine ⟨_, rfl, ?_⟩
          have n0_ := Aside0.mk (blk_below (g := gb295) (o := .cells #[.slice A0_0 l0_0.length c0_0, .slice (some ad297) l0_1.length c0_1] 32 (0, 0)) (q1_ BK295.out) hb)
          have n1_ := Aside0.mk (blk_below (g := gb298) (o := .cells #[.string ((rd_T80 l0_1 x30_2).f0), .int .i64 ((rd_T80 l0_1 x30_2).f1), .int .i64 ((rd_T80 l0_1 x30_2).f2), .int .i64 ((rd_T80 l0_1 x30_2).f3), .int .i64 ((rd_T80 l0_1 x30_2).f4), .int .i64 ((rd_T80 l0_1 x30_2).f5)] 80 (0, 0)) (q1_ BK298.out) hb)
          have n2_ := Aside0.mk (below_step t12_ hb)
          clear BK295
          clear BK298
          clear HB
          have BK295 := n0_
          have BK298 := n1_
          have HB := n2_
          clear n0_ n1_ n2_
          (try clear hb)
          (try clear hb2)
          (try clear hk)
          (try clear hi)
          refine hK.out _ _ ⟨(blk_cell BK298.out 0).trans rfl, (blk_cell BK298.out 1).trans rfl, (blk_cell BK298.out 2).trans rfl, (blk_cell BK298.out 3).trans rfl, (blk_cell BK298.out 4).trans rfl, (blk_cell BK298.out 5).trans rfl⟩ (fun hHeld => ?_)
          clear hK K
          refine norm_ (a' := ?_) ?_ ?_
          rotate_left
          ·show Act.put _ (some 36) _ = _
           simp only [Act.put, List.setIfInBounds_toArray, List.set_cons_zero, List.set_cons_succ, i64_w, i32_w]
           rfl
          refine px 2 (some 37) (tf 3 25) HT_ ?_
          refine px 3 (some 38) (tf 4 25) HT_ ?_
          refine sx 4 (some 39) (tf 5 25) HT_ ?_
          refine sx 5 (some 40) (tf 6 25) HT_ ?_
          refine sx 6 (some 41) (tf 7 25) HT_ ?_
          refine sx 7 (some 42) (tf 8 25) HT_ ?_
          refine px 8 (some 43) (tf 9 25) HT_ ?_
          refine px 9 (some 44) (tf 10 25) HT_ ?_
          refine sx 10 (some 45) (tf 11 25) HT_ ?_
          refine sx 11 (some 46) (tf 12 25) HT_ ?_
          refine sx 12 (some 47) (tf 13 25) HT_ ?_
          refine sx 13 (some 48) (tf 14 25) HT_ ?_
          refine sx 14 (some 49) (tf 15 25) HT_ ?_
          refine sx 15 (some 50) (tf 16 25) HT_ ?_
          refine sx 16 (some 51) (tf 17 25) HT_ ?_
          refine sx 17 (some 52) (tf 18 25) HT_ ?_
          refine sx 18 (some 53) (tf 19 25) HT_ ?_
          refine sx 19 (some 54) (tf 20 25) HT_ ?_
          refine sx 20 (some 55) (tf 21 25) HT_ ?_
          refine sx 21 (some 56) (tf 22 25) HT_ ?_
          refine sx 22 (some 57) (tf 23 25) HT_ ?_
          refine sx 23 (some 58) (tf 24 25) HT_ ?_
          refine px 24 (some 59) (tf 25 25) HT_ ?_
          refine done_ (done_of HT_.out t14_) ?_
          try go_wp2
          go_ret
          exact ⟨t5_, t12_⟩
        ·rw [if_neg c19] at H
         exact absurd H t44_
       ·rw [if_neg c18] at H
        exact absurd H t44_
      ·rw [if_neg c17] at H
       have c17b0 : decide (x30_2 < (l0_1.length : Int)) = false := decide_eq_false c17
       clear c17
       obtain rfl := Option.some.inj H
       go_wp2
       go_ret
       exact ⟨t5_, t10_⟩

end Go.Proofs.Ytjelfhmgbhidnaa.PFnExactCriticalPipes
