-- written by wip/xprint.py, a program of this session, for this claim; not trusted: Lean checks it.
import Derived.Test.YtjelfhmgbhidnaaPFnExactCriticalPipesx0
import Derived.Test.YtjelfhmgbhidnaaPFnExactCriticalPipesx12
import Derived.Test.YtjelfhmgbhidnaaPFnExactCriticalPipesx14
namespace Go.Proofs.Ytjelfhmgbhidnaa.PFnExactCriticalPipes
open Go.RowKit Go.Proofs.YtjelfhmgbhidnaaW.PrintWords Go.Proofs.YtjelfhmgbhidnaaW.PrintLast Go.Proofs.YtjelfhmgbhidnaaW.PrintMore
attribute [local go_sem] leq_less_ max2_int min2_int max_two min_two max_three min_three max_four min_four   -- for this text's walks alone
set_option linter.unusedVariables false
set_option linter.unusedSimpArgs false

/-! ### impl_CriticalPipes: function 37 -/
def impl_CriticalPipes.l0 : Nat → List Int → List Int → Int → List Int → Int → Int → List Int → List (S80) → Option (List Int × Int)
 | 0, _, _, _, _, _, _, _, _ => none
 | k + 1, x1, x2, x9, x10, x26, x27, x348000, x348001 => if x27 < x26 then ((slices_Contains_int64_int64.f k x2 x27).bind fun t352 => (if t352 = true then (impl_CriticalPipes.l0 k x1 x2 x9 x10 x26 (wrap64 (x27 + 1)) x348000 x348001) else ((slices_Clone_int64_int64.f x2).bind fun t353 => ((some (([x27] : List Int) : List Int)).bind fun y356 => (if t353.length + y356.length < 17592186044416 then ((impl_Network_served.f k x348000 x348001 x1 (t353 ++ y356)).bind fun t362 => (if (t362.length : Int) < x9 then ((some (([x27] : List Int) : List Int)).bind fun y365 => (if x10.length + y365.length < 17592186044416 then (impl_CriticalPipes.l0 k x1 x2 x9 (x10 ++ y365) x26 (wrap64 (x27 + 1)) x348000 x348001) else (none))) else (impl_CriticalPipes.l0 k x1 x2 x9 x10 x26 (wrap64 (x27 + 1)) x348000 x348001))) else (none)))))) else (some (x10, 0))
def impl_CriticalPipes.f (k : Nat) (l0_0 : List Int) (l0_1 : List (S80)) (l1 : List Int) (l2 : List Int) : Option (List Int × Int) := (impl_serviceCode.f k l0_0 l0_1 l1 l2 ([] : List Int) ([] : List Int)).bind fun t348 => (if t348 = 0 then ((impl_Network_served.f k l0_0 l0_1 l1 l2).bind fun t349 => (impl_CriticalPipes.l0 k l1 l2 (t349.length : Int) ([] : List Int) (l0_1.length : Int) 0 l0_0 l0_1)) else (some (([] : List Int), t348)))
theorem impl_CriticalPipes.mono_l : ∀ k, (∀ y0 y1 y2 y3 y4 y5 y6 y7, LeO (impl_CriticalPipes.l0 k y0 y1 y2 y3 y4 y5 y6 y7) (impl_CriticalPipes.l0 (k + 1) y0 y1 y2 y3 y4 y5 y6 y7))
 | 0 => fun _ _ _ _ _ _ _ _ r h => by simp [impl_CriticalPipes.l0] at h
 | k + 1 => by
  have ih0 := impl_CriticalPipes.mono_l k
  ·intro y0 y1 y2 y3 y4 y5 y6 y7
   unfold impl_CriticalPipes.l0
   repeat' first
   | (with_reducible exact ih0 _ _ _ _ _ _ _ _)
   | (with_reducible exact impl_Network_served.mono _ _ _ _ _)
   | (with_reducible exact impl_serviceCode.mono _ _ _ _ _ _ _)
   | (with_reducible exact slices_Contains_int64_int64.mono _ _ _)
   | (with_reducible exact LeO.refl _)
   | (with_reducible exact LeO.none _)
   | (with_reducible refine LeO.ite ?_ ?_)
   | (with_reducible refine LeO.bind ?_ (fun _ => ?_))
   | exact ih0 _ _ _ _ _ _ _ _
   | exact impl_Network_served.mono _ _ _ _ _
   | exact impl_serviceCode.mono _ _ _ _ _ _ _
   | exact slices_Contains_int64_int64.mono _ _ _
   | exact LeO.none _
   | refine LeO.ite ?_ ?_
   | refine LeO.bind ?_ (fun _ => ?_)
theorem impl_CriticalPipes.mono : ∀ a0 a1 a2 a3 k, LeO (impl_CriticalPipes.f k a0 a1 a2 a3) (impl_CriticalPipes.f (k + 1) a0 a1 a2 a3) := by
 intro a0 a1 a2 a3 k
 have ih0 := impl_CriticalPipes.mono_l k
 unfold impl_CriticalPipes.f
 repeat' first
   | (with_reducible exact ih0 _ _ _ _ _ _ _ _)
   | (with_reducible exact impl_Network_served.mono _ _ _ _ _)
   | (with_reducible exact impl_serviceCode.mono _ _ _ _ _ _ _)
   | (with_reducible exact slices_Contains_int64_int64.mono _ _ _)
   | (with_reducible exact LeO.refl _)
   | (with_reducible exact LeO.none _)
   | (with_reducible refine LeO.ite ?_ ?_)
   | (with_reducible refine LeO.bind ?_ (fun _ => ?_))
   | exact ih0 _ _ _ _ _ _ _ _
   | exact impl_Network_served.mono _ _ _ _ _
   | exact impl_serviceCode.mono _ _ _ _ _ _ _
   | exact slices_Contains_int64_int64.mono _ _ _
   | exact LeO.none _
   | refine LeO.ite ?_ ?_
   | refine LeO.bind ?_ (fun _ => ?_)
def impl_CriticalPipes.T9 : Bool × List (List Nat × List Nat) := (true, [([], []), ([], []), ([0, 1], [0, 1]), ([2], [2]), ([3, 2], [3]), ([4], [4]), ([4], [4]), ([4], [4]), ([7, 4, 4], [4, 7]), ([4], [4]), ([9, 4], [4, 9]), ([8, 10, 8, 4], [4, 8, 10]), ([5, 6, 11, 11, 4], [4, 5, 6, 11]), ([12, 4], [4, 12]), ([4], [4]), ([13, 14, 4], [4, 13, 14]), ([4, 15], [4, 15])])
def impl_CriticalPipes.B9 : List Nat := [0, 0, 3, 7, 15, 31, 31, 31, 159, 31, 543, 1951, 4095, 8191, 31, 32767, 65535]
theorem impl_CriticalPipes.tab9 : rtab .any (opsOf Try.f37 9) = impl_CriticalPipes.T9 := by kernel_rfl
theorem impl_CriticalPipes.bits9 : waitsOk impl_CriticalPipes.T9.2 impl_CriticalPipes.B9 = true := by kernel_rfl
set_option maxHeartbeats 8000000 in
set_option maxRecDepth 100000 in
theorem impl_CriticalPipes.calls (k : Nat) (A0_0 : Option Addr) (c0_0 : Nat) (l0_0 : List Int) (A0_1 : Option Addr) (c0_1 : Nat) (l0_1 : List (S80)) (A1 : Option Addr) (c1 : Nat) (l1 : List Int) (A2 : Option Addr) (c2 : Nat) (l2 : List Int) (r1 : List Int) (r2 : Int) (w : World) (hr0_0 : Kd.C (Kd.int .i64) w A0_0 l0_0.length l0_0) (hc0_0 : l0_0.length ≤ c0_0) (hr0_1 : Kd.C k80 w A0_1 l0_1.length l0_1) (hc0_1 : l0_1.length ≤ c0_1) (hr1 : Kd.C (Kd.int .i64) w A1 l1.length l1) (hc1 : l1.length ≤ c1) (hr2 : Kd.C (Kd.int .i64) w A2 l2.length l2) (hc2 : l2.length ≤ c2) (h : impl_CriticalPipes.f k l0_0 l0_1 l1 l2 = some (r1, r2)) :
  Calls Try.prog 37 #[.agg #[.slice A0_0 l0_0.length c0_0, .slice A0_1 l0_1.length c0_1], .slice A1 l1.length c1, .slice A2 l2.length c2] w fun e w' => ∃ v0_ : Value, e = .returned (.tuple #[v0_, .int .i64 r2]) ∧ Kd.R (Kd.int .i64) 2 w' w.heap.size (fun _ => True) v0_ r1 ∧ Below w.heap.size w w' := by
 have hu32 := Try.underlying32
 have HR0_0 := Aside0.mk hr0_0
 have HC0_0 := Aside0.mk hc0_0
 clear hr0_0 hc0_0
 have HR0_1 := Aside0.mk hr0_1
 have HC0_1 := Aside0.mk hc0_1
 clear hr0_1 hc0_1
 have HR1 := Aside0.mk hr1
 have HC1 := Aside0.mk hc1
 clear hr1 hc1
 have HR2 := Aside0.mk hr2
 have HC2 := Aside0.mk hc2
 clear hr2 hc2
 have HB := Aside0.mk (Below.refl w.heap.size w)
 have H : ((impl_serviceCode.f k l0_0 l0_1 l1 l2 ([] : List Int) ([] : List Int)).bind fun t348 => (if t348 = 0 then ((impl_Network_served.f k l0_0 l0_1 l1 l2).bind fun t349 => (impl_CriticalPipes.l0 k l1 l2 (t349.length : Int) ([] : List Int) (l0_1.length : Int) 0 l0_0 l0_1)) else (some (([] : List Int), t348)))) = some (r1, r2) := h
 clear h
 replace H := Option.bind_eq_some_iff.mp H
 obtain ⟨t348, A40, H⟩ := H
 replace H : (if t348 = 0 then ((impl_Network_served.f k l0_0 l0_1 l1 l2).bind fun t349 => (impl_CriticalPipes.l0 k l1 l2 (t349.length : Int) ([] : List Int) (l0_1.length : Int) 0 l0_0 l0_1)) else (some (([] : List Int), t348))) = some (r1, r2) := H
 have A4 := Aside0.mk A40
 clear A40
 by_cases c5 : t348 = 0
 ·rw [if_pos c5] at H
  have c5b0 : (t348 == 0) = true := beq_iff_eq.mpr c5
  have c5b1 : (t348 != 0) = false := bne_eq_false_iff_eq.mpr c5
  clear c5
  replace H := Option.bind_eq_some_iff.mp H
  obtain ⟨t349, A60, H⟩ := H
  replace H : (impl_CriticalPipes.l0 k l1 l2 (t349.length : Int) ([] : List Int) (l0_1.length : Int) 0 l0_0 l0_1) = some (r1, r2) := H
  have A6 := Aside0.mk A60
  clear A60
  have H' := Aside0.mk H
  clear H
  go_enter Try.func37, Try.ntmps37
  go_wp2_with (first | ((with_reducible refine gate_dst (N := 3) rfl ?_); (try (refine gate_guard t71_ ?_; dsimp only)); refine box_event ?hg (N := 3) ?hd (cs := #[.slice A0_0 l0_0.length c0_0, .slice A0_1 l0_1.length c0_1]) (t := 32) ?hr ?_; (case hd => rfl); (case hg => rfl); (case hr => first | (go_simp; done) | (go_simp; rfl)); intro gb347 hg w7 hbox hb; have n0_ := Aside0.mk (below_step t1_ hb); have n1_ := Aside0.mk (hbox); have n2_ := Aside0.mk ((by rw [hg]; exact (below_size t1_) : w.heap.size ≤ gb347)); have n3_ := Aside0.mk ((by rw [hg]; exact (below_size t1_) : w.heap.size ≤ gb347)); clear HB; have HB := n0_; have BK347 := n1_; have GW347 := n2_; have GE347 := n3_; clear n0_ n1_ n2_ n3_; clear hb hbox hg; have hcz8_0 : w7.cell? ⟨gb347, 0, none⟩ = some (.slice A0_0 l0_0.length c0_0) := (blk_cell BK347.out 0).trans rfl; have hcz8_1 : w7.cell? ⟨gb347, 1, none⟩ = some (.slice A0_1 l0_1.length c0_1) := (blk_cell BK347.out 1).trans rfl; have hfz8_0 := blk_frozen BK347.out 0; have hfz8_1 := blk_frozen BK347.out 1) | ((with_reducible refine gate_callee (f := 58) rfl ?_); refine goesL_ (some 15) rfl rfl Try.func58 t14_ rfl #[.agg #[.slice A0_0 l0_0.length c0_0, .slice A0_1 l0_1.length c0_1], .slice A1 l1.length c1, .slice A2 l2.length c2, .slice none 0 0, .slice none 0 0] rfl t2_ ?_; (refine (impl_serviceCode.calls k _ _ l0_0 _ _ l0_1 _ _ l1 _ _ l2 _ _ ([] : List Int) _ _ ([] : List Int) t348 _ ?side1 ?side2 ?side3 ?side4 ?side5 ?side6 ?side7 ?side8 ?side9 ?side10 ?side11 ?side12 A4.out).mono ?_); (case side1 => repeat (first | exact (Kd.C_below HR0_0.out HB.out) | (with_reducible refine Kd.C_alloc ?_ _) | (with_reducible refine Kd.C_drewN ?_ _) | (with_reducible refine Kd.C_drew ?_))); (case side2 => exact HC0_0.out); (case side3 => repeat (first | exact (Kd.C_below HR0_1.out HB.out) | (with_reducible refine Kd.C_alloc ?_ _) | (with_reducible refine Kd.C_drewN ?_ _) | (with_reducible refine Kd.C_drew ?_))); (case side4 => exact HC0_1.out); (case side5 => repeat (first | exact (Kd.C_below HR1.out HB.out) | (with_reducible refine Kd.C_alloc ?_ _) | (with_reducible refine Kd.C_drewN ?_ _) | (with_reducible refine Kd.C_drew ?_))); (case side6 => exact HC1.out); (case side7 => repeat (first | exact (Kd.C_below HR2.out HB.out) | (with_reducible refine Kd.C_alloc ?_ _) | (with_reducible refine Kd.C_drewN ?_ _) | (with_reducible refine Kd.C_drew ?_))); (case side8 => exact HC2.out); (case side9 => exact Kd.C_nil _ _); (case side10 => exact Nat.le_refl _); (case side11 => exact Kd.C_nil _ _); (case side12 => exact Nat.le_refl _); rintro e w9 ⟨rfl, hb⟩; refine ⟨_, rfl, ?_⟩; have n0_ := Aside0.mk (blk_below (g := gb347) (o := .cells #[.slice A0_0 l0_0.length c0_0, .slice A0_1 l0_1.length c0_1] 32 (0, 0)) (q1_ BK347.out) hb); have n1_ := Aside0.mk (below_step t7_ hb); clear BK347; clear HB; have BK347 := n0_; have HB := n1_; clear n0_ n1_; (try clear hb); (try clear hb2); (try clear hk); (try clear hi); have hcz10_0 : w9.cell? ⟨gb347, 0, none⟩ = some (.slice A0_0 l0_0.length c0_0) := (blk_cell BK347.out 0).trans rfl; have hcz10_1 : w9.cell? ⟨gb347, 1, none⟩ = some (.slice A0_1 l0_1.length c0_1) := (blk_cell BK347.out 1).trans rfl; have hfz10_0 := blk_frozen BK347.out 0; have hfz10_1 := blk_frozen BK347.out 1) | ((with_reducible refine gate_callee (f := 67) rfl ?_); refine goesL_ (some 22) rfl rfl Try.func67 t14_ rfl #[.agg #[.slice A0_0 l0_0.length c0_0, .slice A0_1 l0_1.length c0_1], .slice A1 l1.length c1, .slice A2 l2.length c2] rfl t2_ ?_; (with_reducible refine (impl_Network_served.calls k _ _ l0_0 _ _ l0_1 _ _ l1 _ _ l2 t349 _ ?side1 ?side2 ?side3 ?side4 ?side5 ?side6 ?side7 ?side8 A6.out).mono ?_); (case side1 => repeat (first | exact (Kd.C_below HR0_0.out HB.out) | (with_reducible refine Kd.C_alloc ?_ _) | (with_reducible refine Kd.C_drewN ?_ _) | (with_reducible refine Kd.C_drew ?_))); (case side2 => exact HC0_0.out); (case side3 => repeat (first | exact (Kd.C_below HR0_1.out HB.out) | (with_reducible refine Kd.C_alloc ?_ _) | (with_reducible refine Kd.C_drewN ?_ _) | (with_reducible refine Kd.C_drew ?_))); (case side4 => exact HC0_1.out); (case side5 => repeat (first | exact (Kd.C_below HR1.out HB.out) | (with_reducible refine Kd.C_alloc ?_ _) | (with_reducible refine Kd.C_drewN ?_ _) | (with_reducible refine Kd.C_drew ?_))); (case side6 => exact HC1.out); (case side7 => repeat (first | exact (Kd.C_below HR2.out HB.out) | (with_reducible refine Kd.C_alloc ?_ _) | (with_reducible refine Kd.C_drewN ?_ _) | (with_reducible refine Kd.C_drew ?_))); (case side8 => exact HC2.out); rintro e w11 ⟨v350, rfl, ho0, hb⟩; refine ⟨_, rfl, ?_⟩; have n0_ := Aside0.mk (Kd.R_lower ho0 (below_size t7_)); have n1_ := Aside0.mk (blk_below (g := gb347) (o := .cells #[.slice A0_0 l0_0.length c0_0, .slice A0_1 l0_1.length c0_1] 32 (0, 0)) (q1_ BK347.out) hb); have n2_ := Aside0.mk (below_step t7_ hb); clear BK347; clear HB; have HO351 := n0_; have BK347 := n1_; have HB := n2_; clear n0_ n1_ n2_; (try clear hb); (try clear hb2); (try clear hk); (try clear hi); (try clear ho0); obtain ⟨Ao12, co12, eo12⟩ := Kd.R_slice HO351.out; subst eo12; have hcz13_0 : w11.cell? ⟨gb347, 0, none⟩ = some (.slice A0_0 l0_0.length c0_0) := (blk_cell BK347.out 0).trans rfl; have hcz13_1 : w11.cell? ⟨gb347, 1, none⟩ = some (.slice A0_1 l0_1.length c0_1) := (blk_cell BK347.out 1).trans rfl; have hfz13_0 := blk_frozen BK347.out 0; have hfz13_1 := blk_frozen BK347.out 1))
  go_loopg [10, 27] k (fun kq v10 v27 w' => ∃ (x10_1 : List Int) (x27_1 : Int), v27 = .int .i64 x27_1 ∧ Aside0 (impl_CriticalPipes.l0 kq l1 l2 (t349.length : Int) x10_1 (l0_1.length : Int) x27_1 l0_0 l0_1 = some (r1, r2)) ∧ Aside0 (kq ≤ k) ∧ Aside0 (Kd.R (Kd.int .i64) 2 w' w.heap.size (fun _ => True) v10 x10_1) ∧ Aside0 (w'.heap[gb347]? = some (.cells #[(.slice A0_0 l0_0.length c0_0), (.slice A0_1 l0_1.length c0_1)] 32 (0, 0))) ∧ Aside0 (Below w.heap.size w w'))
  case atStart => exact ⟨(([] : List Int)), (0), t6_, H', ⟨Nat.le_refl _⟩, ⟨t52_⟩, ⟨t55_⟩, ⟨t7_⟩⟩
  case round =>
   clear H'
   try clear c1
   try clear c2
   try clear p2
   try clear c3
   try clear c5
   try clear c5b0
   try clear c5b1
   try clear c6
   try clear hcz10_0
   try clear hcz10_1
   try clear hcz13_0
   try clear hcz13_1
   try clear hcz8_0
   try clear hcz8_1
   try clear hfz10_0
   try clear hfz10_1
   try clear hfz13_0
   try clear hfz13_1
   try clear hfz8_0
   try clear hfz8_1
   obtain ⟨x10_1, x27_1, rfl, HA, HK1, HO_10, BK347, HB⟩ := hrel
   cases gk with
   | zero => exact absurd HA.out (by simp [impl_CriticalPipes.l0])
   | succ k1 =>
    have H := HA.out
    clear HA
    simp only [impl_CriticalPipes.l0] at H
    by_cases c14 : x27_1 < (l0_1.length : Int)
    ·rw [if_pos c14] at H
     have c14b0 : decide (x27_1 < (l0_1.length : Int)) = true := decide_eq_true c14
     clear c14
     replace H := Option.bind_eq_some_iff.mp H
     obtain ⟨t352, A150, H⟩ := H
     replace H : (if t352 = true then (impl_CriticalPipes.l0 k1 l1 l2 (t349.length : Int) x10_1 (l0_1.length : Int) (wrap64 (x27_1 + 1)) l0_0 l0_1) else ((slices_Clone_int64_int64.f l2).bind fun t353 => ((some (([x27_1] : List Int) : List Int)).bind fun y356 => (if t353.length + y356.length < 17592186044416 then ((impl_Network_served.f k1 l0_0 l0_1 l1 (t353 ++ y356)).bind fun t362 => (if (t362.length : Int) < (t349.length : Int) then ((some (([x27_1] : List Int) : List Int)).bind fun y365 => (if x10_1.length + y365.length < 17592186044416 then (impl_CriticalPipes.l0 k1 l1 l2 (t349.length : Int) (x10_1 ++ y365) (l0_1.length : Int) (wrap64 (x27_1 + 1)) l0_0 l0_1) else (none))) else (impl_CriticalPipes.l0 k1 l1 l2 (t349.length : Int) x10_1 (l0_1.length : Int) (wrap64 (x27_1 + 1)) l0_0 l0_1))) else (none))))) = some (r1, r2) := H
     have A15 := Aside0.mk A150
     clear A150
     by_cases c16 : t352 = true
     ·subst c16
      have H1 : (impl_CriticalPipes.l0 k1 l1 l2 (t349.length : Int) x10_1 (l0_1.length : Int) (wrap64 (x27_1 + 1)) l0_0 l0_1) = some (r1, r2) := by rw [if_pos rfl] at H; exact H
      clear H
      have H := H1
      clear H1
      have H' := Aside0.mk H
      clear H
      try go_wp2
      have n0_ := Aside0.mk (Kd.R_drew HO_10.out)
      have n1_ := Aside0.mk (blk_drew BK347.out)
      have n2_ := Aside0.mk (below_drew1 HB.out)
      clear HO_10
      clear BK347
      clear HB
      have HO_10 := n0_
      have BK347 := n1_
      have HB := n2_
      clear n0_ n1_ n2_
      refine start_ (n := 17) (S := fun w' => True) (ds := []) (tf 0 17) t14_ rfl rfl trivial (fun hHeld => ?_); refine with_tabW impl_CriticalPipes.tab9 impl_CriticalPipes.bits9 (fun HT_ HW_ => ?_)
      generalize wr.drew = w17 at HO_10 BK347 HB hHeld ⊢
      refine px 0 (some 30) (tf 1 17) HT_ ?_
      refine px 1 (some 31) (tf 2 17) HT_ ?_
      refine one_ (i := 2) (N := some 32) (tf 3 17) rfl rfl (one_of HT_.out t14_) t31_ (fun K hK => ?_)
      refine goes_ Try.func60 t14_ rfl #[.slice A2 l2.length c2, .int .i64 x27_1] t71_ rfl rfl t2_ ?_
      with_reducible refine (slices_Contains_int64_int64.calls k1 _ _ l2 x27_1 true _ ?side1 ?side2 A15.out).mono ?_
      (case side1 => repeat (first | exact (Kd.C_below HR2.out HB.out) | (with_reducible refine Kd.C_alloc ?_ _) | (with_reducible refine Kd.C_drewN ?_ _) | (with_reducible refine Kd.C_drew ?_)))
      (case side2 => exact HC2.out)
      rintro e w' ⟨rfl, ⟨nd, rfl⟩⟩
      refine ⟨_, rfl, ?_⟩
      refine hK.out _ _ trivial (fun hHeld => ?_)
      clear hK K
      refine norm_ (a' := ?_) ?_ ?_
      rotate_left
      ·show Act.put _ (some 32) _ = _
       simp only [Act.put, List.setIfInBounds_toArray, List.set_cons_zero, List.set_cons_succ, i64_w, i32_w]
       rfl
      refine px 3 (some 33) (tf 4 17) HT_ ?_
      refine px 4 (some 34) (tf 5 17) HT_ ?_
      refine sx 5 (some 35) (tf 6 17) HT_ ?_
      refine sx 6 (some 36) (tf 7 17) HT_ ?_
      refine sx 7 (some 37) (tf 8 17) HT_ ?_
      refine sx 8 (some 38) (tf 9 17) HT_ ?_
      refine sx 9 (some 39) (tf 10 17) HT_ ?_
      refine sx 10 (some 40) (tf 11 17) HT_ ?_
      refine sx 11 (some 41) (tf 12 17) HT_ ?_
      refine sx 12 (some 42) (tf 13 17) HT_ ?_
      refine sx 13 (some 43) (tf 14 17) HT_ ?_
      refine sx 14 (some 44) (tf 15 17) HT_ ?_
      refine sx 15 (some 45) (tf 16 17) HT_ ?_
      refine px 16 (some 46) (tf 17 17) HT_ ?_
      refine done_ (done_of HT_.out t14_) ?_
      try go_wp2
      go_roundg k1
      case measure => have := HK1.out; omega
      case rel => exact ⟨(x10_1), (wrap64 (x27_1 + 1)), t6_, H', ⟨t41_⟩, ⟨t66_⟩, ⟨t55_⟩, ⟨t7_⟩⟩
     ·replace c16 := Bool.eq_false_iff.mpr c16
      subst c16
      have H1 : ((slices_Clone_int64_int64.f l2).bind fun t353 => ((some (([x27_1] : List Int) : List Int)).bind fun y356 => (if t353.length + y356.length < 17592186044416 then ((impl_Network_served.f k1 l0_0 l0_1 l1 (t353 ++ y356)).bind fun t362 => (if (t362.length : Int) < (t349.length : Int) then ((some (([x27_1] : List Int) : List Int)).bind fun y365 => (if x10_1.length + y365.length < 17592186044416 then (impl_CriticalPipes.l0 k1 l1 l2 (t349.length : Int) (x10_1 ++ y365) (l0_1.length : Int) (wrap64 (x27_1 + 1)) l0_0 l0_1) else (none))) else (impl_CriticalPipes.l0 k1 l1 l2 (t349.length : Int) x10_1 (l0_1.length : Int) (wrap64 (x27_1 + 1)) l0_0 l0_1))) else (none)))) = some (r1, r2) := by rw [if_neg (show ¬ (false = true) by decide)] at H; exact H
      clear H
      have H := H1
      clear H1
      replace H := Option.bind_eq_some_iff.mp H
      obtain ⟨t353, A180, H⟩ := H
      replace H : ((some (([x27_1] : List Int) : List Int)).bind fun y356 => (if t353.length + y356.length < 17592186044416 then ((impl_Network_served.f k1 l0_0 l0_1 l1 (t353 ++ y356)).bind fun t362 => (if (t362.length : Int) < (t349.length : Int) then ((some (([x27_1] : List Int) : List Int)).bind fun y365 => (if x10_1.length + y365.length < 17592186044416 then (impl_CriticalPipes.l0 k1 l1 l2 (t349.length : Int) (x10_1 ++ y365) (l0_1.length : Int) (wrap64 (x27_1 + 1)) l0_0 l0_1) else (none))) else (impl_CriticalPipes.l0 k1 l1 l2 (t349.length : Int) x10_1 (l0_1.length : Int) (wrap64 (x27_1 + 1)) l0_0 l0_1))) else (none))) = some (r1, r2) := H
      have A18 := Aside0.mk A180
      clear A180
      obtain ⟨y356, hy356⟩ : ∃ y_ : List Int, y_ = (([x27_1] : List Int)) := ⟨_, rfl⟩
      replace H : (if t353.length + y356.length < 17592186044416 then ((impl_Network_served.f k1 l0_0 l0_1 l1 (t353 ++ y356)).bind fun t362 => (if (t362.length : Int) < (t349.length : Int) then ((some (([x27_1] : List Int) : List Int)).bind fun y365 => (if x10_1.length + y365.length < 17592186044416 then (impl_CriticalPipes.l0 k1 l1 l2 (t349.length : Int) (x10_1 ++ y365) (l0_1.length : Int) (wrap64 (x27_1 + 1)) l0_0 l0_1) else (none))) else (impl_CriticalPipes.l0 k1 l1 l2 (t349.length : Int) x10_1 (l0_1.length : Int) (wrap64 (x27_1 + 1)) l0_0 l0_1))) else (none)) = some (r1, r2) := by first | (rw [hy356]; with_reducible exact H) | (have H2_ := (Option.bind_some _ _).symm.trans H; rw [hy356]; with_reducible exact H2_) | (have H2_ := (Option.bind_some _ _).symm.trans H; with_reducible exact H2_) | with_reducible exact H | (rw [hy356]; exact H) | exact H
      have Ny356 := Aside0.mk hy356
      clear hy356
      by_cases c19 : t353.length + y356.length < 17592186044416
      ·rw [if_pos c19] at H
       have LMc19 := Aside0.mk c19
       clear c19
       obtain ⟨y359, hy359⟩ : ∃ y_ : List Int, y_ = (t353 ++ y356) := ⟨_, rfl⟩
       replace H : ((impl_Network_served.f k1 l0_0 l0_1 l1 y359).bind fun t362 => (if (t362.length : Int) < (t349.length : Int) then ((some (([x27_1] : List Int) : List Int)).bind fun y365 => (if x10_1.length + y365.length < 17592186044416 then (impl_CriticalPipes.l0 k1 l1 l2 (t349.length : Int) (x10_1 ++ y365) (l0_1.length : Int) (wrap64 (x27_1 + 1)) l0_0 l0_1) else (none))) else (impl_CriticalPipes.l0 k1 l1 l2 (t349.length : Int) x10_1 (l0_1.length : Int) (wrap64 (x27_1 + 1)) l0_0 l0_1))) = some (r1, r2) := by first | (rw [hy359]; with_reducible exact H) | (have H2_ := (Option.bind_some _ _).symm.trans H; rw [hy359]; with_reducible exact H2_) | (have H2_ := (Option.bind_some _ _).symm.trans H; with_reducible exact H2_) | with_reducible exact H | (rw [hy359]; exact H) | exact H
       have Ny359 := Aside0.mk hy359
       clear hy359
       replace H := Option.bind_eq_some_iff.mp H
       obtain ⟨t362, A200, H⟩ := H
       replace H : (if (t362.length : Int) < (t349.length : Int) then ((some (([x27_1] : List Int) : List Int)).bind fun y365 => (if x10_1.length + y365.length < 17592186044416 then (impl_CriticalPipes.l0 k1 l1 l2 (t349.length : Int) (x10_1 ++ y365) (l0_1.length : Int) (wrap64 (x27_1 + 1)) l0_0 l0_1) else (none))) else (impl_CriticalPipes.l0 k1 l1 l2 (t349.length : Int) x10_1 (l0_1.length : Int) (wrap64 (x27_1 + 1)) l0_0 l0_1)) = some (r1, r2) := H
       have A20 := Aside0.mk A200
       clear A200
       by_cases c21 : (t362.length : Int) < (t349.length : Int)
       ·rw [if_pos c21] at H
        have c21b0 : decide ((t362.length : Int) < (t349.length : Int)) = true := decide_eq_true c21
        have c21b1 : decide (t362.length < t349.length) = true := decide_eq_true (Int.ofNat_lt.mp c21)
        clear c21
        obtain ⟨y365, hy365⟩ : ∃ y_ : List Int, y_ = (([x27_1] : List Int)) := ⟨_, rfl⟩
        replace H : (if x10_1.length + y365.length < 17592186044416 then (impl_CriticalPipes.l0 k1 l1 l2 (t349.length : Int) (x10_1 ++ y365) (l0_1.length : Int) (wrap64 (x27_1 + 1)) l0_0 l0_1) else (none)) = some (r1, r2) := by first | (rw [hy365]; with_reducible exact H) | (have H2_ := (Option.bind_some _ _).symm.trans H; rw [hy365]; with_reducible exact H2_) | (have H2_ := (Option.bind_some _ _).symm.trans H; with_reducible exact H2_) | with_reducible exact H | (rw [hy365]; exact H) | exact H
        have Ny365 := Aside0.mk hy365
        clear hy365
        by_cases c22 : x10_1.length + y365.length < 17592186044416
        ·rw [if_pos c22] at H
         have LMc22 := Aside0.mk c22
         clear c22
         obtain ⟨y368, hy368⟩ : ∃ y_ : List Int, y_ = (x10_1 ++ y365) := ⟨_, rfl⟩
         replace H : (impl_CriticalPipes.l0 k1 l1 l2 (t349.length : Int) y368 (l0_1.length : Int) (wrap64 (x27_1 + 1)) l0_0 l0_1) = some (r1, r2) := by first | (rw [hy368]; with_reducible exact H) | (have H2_ := (Option.bind_some _ _).symm.trans H; rw [hy368]; with_reducible exact H2_) | (have H2_ := (Option.bind_some _ _).symm.trans H; with_reducible exact H2_) | with_reducible exact H | (rw [hy368]; exact H) | exact H
         have Ny368 := Aside0.mk hy368
         clear hy368
         have H' := Aside0.mk H
         clear H
         try go_wp2
         have n0_ := Aside0.mk (Kd.R_drew HO_10.out)
         have n1_ := Aside0.mk (blk_drew BK347.out)
         have n2_ := Aside0.mk (below_drew1 HB.out)
         clear HO_10
         clear BK347
         clear HB
         have HO_10 := n0_
         have BK347 := n1_
         have HB := n2_
         clear n0_ n1_ n2_
         refine start_ (n := 17) (S := fun w' => w'.cell? ⟨gb347, 0, none⟩ = some (.slice A0_0 l0_0.length c0_0) ∧ w'.cell? ⟨gb347, 1, none⟩ = some (.slice A0_1 l0_1.length c0_1)) (ds := []) (tf 0 17) t14_ rfl rfl ⟨(blk_cell BK347.out 0).trans rfl, (blk_cell BK347.out 1).trans rfl⟩ (fun hHeld => ?_); refine with_tabW impl_CriticalPipes.tab9 impl_CriticalPipes.bits9 (fun HT_ HW_ => ?_)
         generalize wr.drew = w23 at HO_10 BK347 HB hHeld ⊢
         refine px 0 (some 30) (tf 1 17) HT_ ?_
         refine px 1 (some 31) (tf 2 17) HT_ ?_
         refine one_ (i := 2) (N := some 32) (tf 3 17) rfl rfl (one_of HT_.out t14_) t31_ (fun K hK => ?_)
         refine goes_ Try.func60 t14_ rfl #[.slice A2 l2.length c2, .int .i64 x27_1] t71_ rfl rfl t2_ ?_
         with_reducible refine (slices_Contains_int64_int64.calls k1 _ _ l2 x27_1 false _ ?side1 ?side2 A15.out).mono ?_
         (case side1 => repeat (first | exact (Kd.C_below HR2.out HB.out) | (with_reducible refine Kd.C_alloc ?_ _) | (with_reducible refine Kd.C_drewN ?_ _) | (with_reducible refine Kd.C_drew ?_)))
         (case side2 => exact HC2.out)
         rintro e w' ⟨rfl, ⟨nd, rfl⟩⟩
         refine ⟨_, rfl, ?_⟩
         refine hK.out _ _ ⟨(blk_cell BK347.out 0).trans rfl, (blk_cell BK347.out 1).trans rfl⟩ (fun hHeld => ?_)
         clear hK K
         refine norm_ (a' := ?_) ?_ ?_
         rotate_left
         ·show Act.put _ (some 32) _ = _
          simp only [Act.put, List.setIfInBounds_toArray, List.set_cons_zero, List.set_cons_succ, i64_w, i32_w]
          rfl
         refine px 3 (some 33) (tf 4 17) HT_ ?_
         refine px 4 (some 34) (tf 5 17) HT_ ?_
         refine px 6 (some 36) (tb 17 95) HT_ ?_
         refine px 7 (some 37) (tb 17 223) HT_ ?_
         refine px 9 (some 39) (tb 17 735) HT_ ?_
         refine px 14 (some 44) (tb 17 17119) HT_ ?_
         refine tx (v := ?_) 5 (some 35) (tb 17 17151) HT_ HW_ hHeld ?_ ?_
         rotate_left; (· rintro w' ⟨s0, s1⟩; go_simp; with_reducible rfl)
         refine join_ (σ := Value × Value) 5 (tb 17 18431) (fun s_ => [(38, s_.1), (40, s_.2)]) (fun s_ w' => (w'.cell? ⟨gb347, 0, none⟩ = some (.slice A0_0 l0_0.length c0_0) ∧ w'.cell? ⟨gb347, 1, none⟩ = some (.slice A0_1 l0_1.length c0_1)) ∧ (Kd.R (Kd.int .i64) 2 w' w.heap.size (fun k_ => some k_ ≠ (s_.2 : Value).ownBlock ∧ some k_ ≠ (u10 : Value).ownBlock) s_.1 t353) ∧ (Kd.R (Kd.int .i64) 2 w' w.heap.size (fun k_ => some k_ ≠ (s_.1 : Value).ownBlock ∧ some k_ ≠ (u10 : Value).ownBlock) s_.2 y356) ∧ (Kd.R (Kd.int .i64) 2 w' w.heap.size (fun k_ => some k_ ≠ (s_.1 : Value).ownBlock ∧ some k_ ≠ (s_.2 : Value).ownBlock) u10 x10_1) ∧ (w'.heap[gb347]? = some (.cells #[.slice A0_0 l0_0.length c0_0, .slice A0_1 l0_1.length c0_1] 32 (0, 0))) ∧ (Below w.heap.size w w')) ?_ ?_
         rotate_left
         ·intro hCont
          refine two_ (i := 8) (j := 10) (Ni := some 38) (Nj := some 40) (tb 17 17407) (tb 17 18175) rfl rfl rfl rfl (two_of HT_.out t14_) t31_ t31_ (fun K hK => ?_) (fun K hK => ?_)
          ·skip
           refine goes_ Try.func75 t14_ rfl #[.slice A2 l2.length c2] t71_ rfl rfl t2_ ?_
           with_reducible refine (slices_Clone_int64_int64.calls _ _ l2 t353 _ ?side1 ?side2 A18.out).mono ?_
           (case side1 => repeat (first | exact (Kd.C_below HR2.out t7_) | (with_reducible refine Kd.C_alloc ?_ _) | (with_reducible refine Kd.C_drewN ?_ _) | (with_reducible refine Kd.C_drew ?_)))
           (case side2 => exact HC2.out)
           rintro e w24 ⟨v354, rfl, ho0, hb⟩
           refine ⟨_, rfl, ?_⟩
           have n0_ := Aside0.mk (Kd.R_elder' (q2_ HO_10.out) (Kd.R_base ho0) hb)
           have n1_ := Aside0.mk (Kd.R_lower (Kd.R_new' ho0 (Kd.R_lt (q2_ HO_10.out))) (below_size t7_))
           have n2_ := Aside0.mk (blk_below (g := gb347) (o := .cells #[.slice A0_0 l0_0.length c0_0, .slice A0_1 l0_1.length c0_1] 32 (0, 0)) (q1_ BK347.out) hb)
           have n3_ := Aside0.mk (below_step t7_ hb)
           clear HO_10
           clear BK347
           clear HB
           have HO_10 := n0_
           have HO355 := n1_
           have BK347 := n2_
           have HB := n3_
           clear n0_ n1_ n2_ n3_
           (try clear hb)
           (try clear hb2)
           (try clear hk)
           (try clear hi)
           (try clear ho0)
           refine hK.out _ _ ⟨(blk_cell BK347.out 0).trans rfl, (blk_cell BK347.out 1).trans rfl⟩ (fun hHeld => ?_)
           clear hK K
           refine norm_ (a' := ?_) ?_ ?_
           rotate_left
           ·show Act.put _ (some 38) _ = _
            simp only [Act.put, List.setIfInBounds_toArray, List.set_cons_zero, List.set_cons_succ, i64_w, i32_w]
            rfl
           refine one_ (i := 10) (N := some 40) (tb 17 18431) rfl rfl (one_of HT_.out t14_) t31_ (fun K hK => ?_)
           refine Kd.R_lit_step (Kd.int .i64) _ 2 ?hg (N := 40) ?hd (xs := ([x27_1] : List Int)) (inner := [.int .i64 x27_1]) (ok := fun _ => True) (okp := fun _ => True) ?hr ?hp (fun _ hk => hk) trivial (Below.refl _ _) (Nat.le_refl _) t44_ ?_; (case hd => rfl); (case hg => rfl); (case hr => first | (go_simp; done) | (go_simp; rfl)); (case hp => exact (Reps.one (show Kd.M (Kd.int .i64) _ _ _ x27_1 [.int .i64 x27_1] from rfl) (Reps.none _ _)))
           intro v357 w25 ho26 hb hg_ hnew_
           clear hg_ hnew_
           (first | rw [← Ny356.out] at ho26 | (simp only [Int.reduceToNat] at ho26; rw [← Ny356.out] at ho26))
           have n0_ := Aside0.mk (Kd.R_elder' (q2_ HO_10.out) (Kd.R_base ho26) hb)
           have n1_ := Aside0.mk (Kd.R_elder' (q2_ HO355.out) (Kd.R_base ho26) hb)
           have n2_ := Aside0.mk (Kd.R_lower (Kd.R_new' (Kd.R_new' ho26 (Kd.R_lt (q2_ HO_10.out))) (Kd.R_lt (q2_ HO355.out))) (below_size t7_))
           have n3_ := Aside0.mk (blk_below (g := gb347) (o := .cells #[.slice A0_0 l0_0.length c0_0, .slice A0_1 l0_1.length c0_1] 32 (0, 0)) (q1_ BK347.out) hb)
           have n4_ := Aside0.mk (below_step t7_ hb)
           clear HO_10
           clear HO355
           clear BK347
           clear HB
           have HO_10 := n0_
           have HO355 := n1_
           have HO358 := n2_
           have BK347 := n3_
           have HB := n4_
           clear n0_ n1_ n2_ n3_ n4_
           clear hb ho26
           refine hK.out _ _ ⟨(blk_cell BK347.out 0).trans rfl, (blk_cell BK347.out 1).trans rfl⟩ (fun hHeld => ?_)
           clear hK K
           refine norm_ (a' := ?_) ?_ ?_
           rotate_left
           ·show Act.put _ (some 40) _ = _
            simp only [Act.put, List.setIfInBounds_toArray, List.set_cons_zero, List.set_cons_succ, i64_w, i32_w]
            rfl
           exact norm_ t73_ (hCont (v354, v357) _ ⟨hHeld, t51_, t50_, (by (with_reducible repeat (first | apply Kd.R_alloc | apply Kd.R_drewN | apply Kd.R_drew)); exact Kd.R_mono HO_10.out (fun _ hk => ⟨hk.1.2, hk.2⟩)), (q1_ BK347.out), t7_⟩)
          ·skip
           refine Kd.R_lit_step (Kd.int .i64) _ 2 ?hg (N := 40) ?hd (xs := ([x27_1] : List Int)) (inner := [.int .i64 x27_1]) (ok := fun _ => True) (okp := fun _ => True) ?hr ?hp (fun _ hk => hk) trivial (Below.refl _ _) (Nat.le_refl _) t44_ ?_; (case hd => rfl); (case hg => rfl); (case hr => first | (go_simp; done) | (go_simp; rfl)); (case hp => exact (Reps.one (show Kd.M (Kd.int .i64) _ _ _ x27_1 [.int .i64 x27_1] from rfl) (Reps.none _ _)))
           intro v357 w24 ho25 hb hg_ hnew_
           clear hg_ hnew_
           (first | rw [← Ny356.out] at ho25 | (simp only [Int.reduceToNat] at ho25; rw [← Ny356.out] at ho25))
           have n0_ := Aside0.mk (Kd.R_elder' (q2_ HO_10.out) (Kd.R_base ho25) hb)
           have n1_ := Aside0.mk (Kd.R_lower (Kd.R_new' ho25 (Kd.R_lt (q2_ HO_10.out))) (below_size t7_))
           have n2_ := Aside0.mk (blk_below (g := gb347) (o := .cells #[.slice A0_0 l0_0.length c0_0, .slice A0_1 l0_1.length c0_1] 32 (0, 0)) (q1_ BK347.out) hb)
           have n3_ := Aside0.mk (below_step t7_ hb)
           clear HO_10
           clear BK347
           clear HB
           have HO_10 := n0_
           have HO358 := n1_
           have BK347 := n2_
           have HB := n3_
           clear n0_ n1_ n2_ n3_
           clear hb ho25
           refine hK.out _ _ ⟨(blk_cell BK347.out 0).trans rfl, (blk_cell BK347.out 1).trans rfl⟩ (fun hHeld => ?_)
           clear hK K
           refine norm_ (a' := ?_) ?_ ?_
           rotate_left
           ·show Act.put _ (some 40) _ = _
            simp only [Act.put, List.setIfInBounds_toArray, List.set_cons_zero, List.set_cons_succ, i64_w, i32_w]
            rfl
           refine one_ (i := 8) (N := some 38) (tb 17 18431) rfl rfl (one_of HT_.out t14_) t31_ (fun K hK => ?_)
           refine goes_ Try.func75 t14_ rfl #[.slice A2 l2.length c2] t71_ rfl rfl t2_ ?_
           with_reducible refine (slices_Clone_int64_int64.calls _ _ l2 t353 _ ?side1 ?side2 A18.out).mono ?_
           (case side1 => repeat (first | exact (Kd.C_below HR2.out HB.out) | (with_reducible refine Kd.C_alloc ?_ _) | (with_reducible refine Kd.C_drewN ?_ _) | (with_reducible refine Kd.C_drew ?_)))
           (case side2 => exact HC2.out)
           rintro e w26 ⟨v354, rfl, ho0, hb⟩
           refine ⟨_, rfl, ?_⟩
           have n0_ := Aside0.mk (Kd.R_elder' (q2_ HO_10.out) (Kd.R_base ho0) hb)
           have n1_ := Aside0.mk (Kd.R_elder' (q2_ HO358.out) (Kd.R_base ho0) hb)
           have n2_ := Aside0.mk (Kd.R_lower (Kd.R_new' (Kd.R_new' ho0 (Kd.R_lt (q2_ HO_10.out))) (Kd.R_lt (q2_ HO358.out))) (below_size t7_))
           have n3_ := Aside0.mk (blk_below (g := gb347) (o := .cells #[.slice A0_0 l0_0.length c0_0, .slice A0_1 l0_1.length c0_1] 32 (0, 0)) (q1_ BK347.out) hb)
           have n4_ := Aside0.mk (below_step t7_ hb)
           clear HO_10
           clear HO358
           clear BK347
           clear HB
           have HO_10 := n0_
           have HO358 := n1_
           have HO355 := n2_
           have BK347 := n3_
           have HB := n4_
           clear n0_ n1_ n2_ n3_ n4_
           (try clear hb)
           (try clear hb2)
           (try clear hk)
           (try clear hi)
           (try clear ho0)
           refine hK.out _ _ ⟨(blk_cell BK347.out 0).trans rfl, (blk_cell BK347.out 1).trans rfl⟩ (fun hHeld => ?_)
           clear hK K
           refine norm_ (a' := ?_) ?_ ?_
           rotate_left
           ·show Act.put _ (some 38) _ = _
            simp only [Act.put, List.setIfInBounds_toArray, List.set_cons_zero, List.set_cons_succ, i64_w, i32_w]
            rfl
           exact norm_ t73_ (hCont (v354, v357) _ ⟨hHeld, t51_, t50_, (by (with_reducible repeat (first | apply Kd.R_alloc | apply Kd.R_drewN | apply Kd.R_drew)); exact Kd.R_mono HO_10.out (fun _ hk => ⟨hk.2, hk.1.2⟩)), (q1_ BK347.out), t7_⟩)
         rintro ⟨v354, v357⟩ w27 ⟨hS_, h0_, h1_, h2_, h3_, h4_⟩
         have n0_ : Aside0 (Kd.R (Kd.int .i64) 2 w27 w.heap.size (fun k_ => some k_ ≠ (v357 : Value).ownBlock ∧ some k_ ≠ (u10 : Value).ownBlock) v354 t353) := ⟨h0_⟩
         have n1_ : Aside0 (Kd.R (Kd.int .i64) 2 w27 w.heap.size (fun k_ => some k_ ≠ (v354 : Value).ownBlock ∧ some k_ ≠ (u10 : Value).ownBlock) v357 y356) := ⟨h1_⟩
         have n2_ : Aside0 (Kd.R (Kd.int .i64) 2 w27 w.heap.size (fun k_ => some k_ ≠ (v354 : Value).ownBlock ∧ some k_ ≠ (v357 : Value).ownBlock) u10 x10_1) := ⟨h2_⟩
         have n3_ : Aside0 (w27.heap[gb347]? = some (.cells #[.slice A0_0 l0_0.length c0_0, .slice A0_1 l0_1.length c0_1] 32 (0, 0))) := ⟨h3_⟩
         have n4_ : Aside0 (Below w.heap.size w w27) := ⟨h4_⟩
         clear HO_10
         clear BK347
         clear HB
         clear h0_ h1_ h2_ h3_ h4_
         have HO355 := n0_
         have HO358 := n1_
         have HO_10 := n2_
         have BK347 := n3_
         have HB := n4_
         clear n0_ n1_ n2_ n3_ n4_
         have hHeld : w27.cell? ⟨gb347, 0, none⟩ = some (.slice A0_0 l0_0.length c0_0) ∧ w27.cell? ⟨gb347, 1, none⟩ = some (.slice A0_1 l0_1.length c0_1) := hS_
         obtain ⟨Ao29, co29, eo29⟩ := Kd.R_slice HO358.out
         (first | subst eo29 | (injection eo29 with f1_ f2_ f3_; have f4_ := f1_.symm; have f5_ := f3_.symm; clear f1_ f2_ f3_; subst f4_; subst f5_))
         refine norm_ (a' := ?_) ?_ ?_
         rotate_left
         ·simp only [putAll, Act.put, List.setIfInBounds_toArray, List.set_cons_zero, List.set_cons_succ]
          rfl
         refine one_ (i := 11) (N := some 41) (tb 17 20479) rfl rfl (one_of HT_.out t14_) t31_ (fun K hK => ?_)
         refine Kd.R_append_rows_step (Kd.int .i64) (w0 := w) w.heap.size t71_ (.tmp 38) (.tmp 40) 22 2 (.int .i64 0) 8 rfl Try.underlying22 info2 rfl t31_ t28_ v354 t353 y356 _ _ _ (fun k_ => some k_ ≠ (u10 : Value).ownBlock ∧ some k_ ≠ (.slice Ao29 y356.length co29 : Value).ownBlock) (fun _ => False) rfl rfl ?aO ?aR (fun _ _ h => h) (fun _ h => h.elim) ?aF ?aB ?aS ?aL ?_
         (case aR => repeat (first | exact (Kd.R_reads' HO358.out).2.2 | (with_reducible refine Kd.C_alloc ?_ _) | (with_reducible refine Kd.C_drewN ?_ _) | (with_reducible refine Kd.C_drew ?_)))
         (case aB => exact t7_)
         (case aF => exact (fun k_ hk => ⟨Kd.fresh' (Kd.R_lt (q2_ HO_10.out)) k_ hk, Kd.fresh' (Kd.R_lt (q2_ HO358.out)) k_ hk⟩))
         (case aO => exact (by (with_reducible repeat (first | apply Kd.R_alloc | apply Kd.R_drewN | apply Kd.R_drew)); exact Kd.R_mono HO355.out (fun _ hk => ⟨hk.2, hk.1⟩)))
         (case aS => exact (below_size t7_))
         (case aL => have := LMc19.out; omega)
         intro v360 w28 ho hb hg hat
         rw [← Ny359.out] at ho
         have n0_ := Aside0.mk (Kd.R_after (ok := (fun k_ => some k_ ≠ (.slice Ao29 y356.length co29 : Value).ownBlock)) (by (with_reducible repeat (first | apply Kd.R_alloc | apply Kd.R_drewN | apply Kd.R_drew)); exact Kd.R_mono HO_10.out (fun _ hk => ⟨hk.2, hk.1⟩)) hg hat)
         have n1_ := Aside0.mk (blk_grown (g := gb347) (o := .cells #[.slice A0_0 l0_0.length c0_0, .slice A0_1 l0_1.length c0_1] 32 (0, 0)) (q1_ BK347.out) hg (Kd.R_ne HO355.out BK347.out t31_))
         have n2_ := Aside0.mk (Kd.R_after (ok := (fun k_ => some k_ ≠ (u10 : Value).ownBlock)) (by (with_reducible repeat (first | apply Kd.R_alloc | apply Kd.R_drewN | apply Kd.R_drew)); exact Kd.R_mono HO358.out (fun _ hk => ⟨hk.2, hk.1⟩)) hg hat)
         have n3_ := Aside0.mk (hb)
         have n4_ := Aside0.mk (ho)
         clear HO_10
         clear BK347
         clear HO358
         clear HB
         clear HO355
         have HO_10 := n0_
         have BK347 := n1_
         have HO358 := n2_
         have HB := n3_
         have HO361 := n4_
         clear n0_ n1_ n2_ n3_ n4_
         clear ho hb hg hat
         obtain ⟨Ao30, co30, eo30⟩ := Kd.R_slice HO361.out
         (first | subst eo30 | (injection eo30 with f1_ f2_ f3_; have f4_ := f1_.symm; have f5_ := f3_.symm; clear f1_ f2_ f3_; subst f4_; subst f5_))
         refine hK.out _ _ ⟨(blk_cell BK347.out 0).trans rfl, (blk_cell BK347.out 1).trans rfl⟩ (fun hHeld => ?_)
         clear hK K
         refine norm_ (a' := ?_) ?_ ?_
         rotate_left
         ·show Act.put _ (some 41) _ = _
          simp only [Act.put, List.setIfInBounds_toArray, List.set_cons_zero, List.set_cons_succ, i64_w, i32_w]
          rfl
         refine one_ (i := 12) (N := some 42) (tb 17 24575) rfl rfl (one_of HT_.out t14_) t31_ (fun K hK => ?_)
         refine goes_ Try.func67 t14_ rfl #[.agg #[.slice A0_0 l0_0.length c0_0, .slice A0_1 l0_1.length c0_1], .slice A1 l1.length c1, .slice Ao30 y359.length co30] t71_ rfl rfl t2_ ?_
         with_reducible refine (impl_Network_served.calls k1 _ _ l0_0 _ _ l0_1 _ _ l1 _ _ y359 t362 _ ?side1 ?side2 ?side3 ?side4 ?side5 ?side6 ?side7 ?side8 A20.out).mono ?_
         (case side1 => repeat (first | exact (Kd.C_below HR0_0.out HB.out) | (with_reducible refine Kd.C_alloc ?_ _) | (with_reducible refine Kd.C_drewN ?_ _) | (with_reducible refine Kd.C_drew ?_)))
         (case side2 => exact HC0_0.out)
         (case side3 => repeat (first | exact (Kd.C_below HR0_1.out HB.out) | (with_reducible refine Kd.C_alloc ?_ _) | (with_reducible refine Kd.C_drewN ?_ _) | (with_reducible refine Kd.C_drew ?_)))
         (case side4 => exact HC0_1.out)
         (case side5 => repeat (first | exact (Kd.C_below HR1.out HB.out) | (with_reducible refine Kd.C_alloc ?_ _) | (with_reducible refine Kd.C_drewN ?_ _) | (with_reducible refine Kd.C_drew ?_)))
         (case side6 => exact HC1.out)
         (case side7 => repeat (first | exact (Kd.R_reads' HO361.out).2.2 | (with_reducible refine Kd.C_alloc ?_ _) | (with_reducible refine Kd.C_drewN ?_ _) | (with_reducible refine Kd.C_drew ?_)))
         (case side8 => exact (Kd.R_reads' HO361.out).2.1)
         rintro e w31 ⟨v363, rfl, ho0, hb⟩
         refine ⟨_, rfl, ?_⟩
         have n0_ := Aside0.mk (Kd.R_elder' (q2_ HO_10.out) (Kd.R_base ho0) hb)
         have n1_ := Aside0.mk (Kd.R_elder' (q2_ HO358.out) (Kd.R_base ho0) hb)
         have n2_ := Aside0.mk (Kd.R_elder' (q2_ HO361.out) (Kd.R_base ho0) hb)
         have n3_ := Aside0.mk (Kd.R_lower (Kd.R_new' (Kd.R_new' (Kd.R_new' ho0 (Kd.R_lt (q2_ HO_10.out))) (Kd.R_lt (q2_ HO358.out))) (Kd.R_lt (q2_ HO361.out))) (below_size t7_))
         have n4_ := Aside0.mk (blk_below (g := gb347) (o := .cells #[.slice A0_0 l0_0.length c0_0, .slice A0_1 l0_1.length c0_1] 32 (0, 0)) (q1_ BK347.out) hb)
         have n5_ := Aside0.mk (below_step t7_ hb)
         clear HO_10
         clear HO358
         clear HO361
         clear BK347
         clear HB
         have HO_10 := n0_
         have HO358 := n1_
         have HO361 := n2_
         have HO364 := n3_
         have BK347 := n4_
         have HB := n5_
         clear n0_ n1_ n2_ n3_ n4_ n5_
         (try clear hb)
         (try clear hb2)
         (try clear hk)
         (try clear hi)
         (try clear ho0)
         obtain ⟨Ao32, co32, eo32⟩ := Kd.R_slice HO364.out
         (first | subst eo32 | (injection eo32 with f1_ f2_ f3_; have f4_ := f1_.symm; have f5_ := f3_.symm; clear f1_ f2_ f3_; subst f4_; subst f5_))
         refine hK.out _ _ ⟨(blk_cell BK347.out 0).trans rfl, (blk_cell BK347.out 1).trans rfl⟩ (fun hHeld => ?_)
         clear hK K
         refine norm_ (a' := ?_) ?_ ?_
         rotate_left
         ·show Act.put _ (some 42) _ = _
          simp only [Act.put, List.setIfInBounds_toArray, List.set_cons_zero, List.set_cons_succ, i64_w, i32_w]
          rfl
         refine px 13 (some 43) (tf 15 17) HT_ ?_
         refine px 15 (some 45) (tf 16 17) HT_ ?_
         refine px 16 (some 46) (tf 17 17) HT_ ?_
         refine done_ (done_of HT_.out t14_) ?_
         try go_wp2_with (first | ((with_reducible refine gate_dst (N := 49) rfl ?_); (try (refine gate_guard t71_ ?_; dsimp only)); refine Kd.R_lit (Kd.int .i64) _ 2 ?hg (N := 49) ?hd (xs := ([x27_1] : List Int)) (inner := [.int .i64 x27_1]) (ok := fun _ => True) (okp := fun _ => True) ?hr ?hp (fun _ hk => hk) trivial (Below.refl _ _) (Nat.le_refl _) t44_ ?_; (case hd => rfl); (case hg => rfl); (case hr => first | (go_simp; done) | (go_simp; rfl)); (case hp => exact (Reps.one (show Kd.M (Kd.int .i64) _ _ _ x27_1 [.int .i64 x27_1] from rfl) (Reps.none _ _))); intro v366 w33 ho34 hb hg_ hnew_; clear hg_ hnew_; (first | rw [← Ny365.out] at ho34 | (simp only [Int.reduceToNat] at ho34; rw [← Ny365.out] at ho34)); have n0_ := Aside0.mk (Kd.R_elder' (q2_ HO_10.out) (Kd.R_base ho34) hb); have n1_ := Aside0.mk (Kd.R_elder' (q2_ HO358.out) (Kd.R_base ho34) hb); have n2_ := Aside0.mk (Kd.R_elder' (q2_ HO361.out) (Kd.R_base ho34) hb); have n3_ := Aside0.mk (Kd.R_elder' (q2_ HO364.out) (Kd.R_base ho34) hb); have n4_ := Aside0.mk (Kd.R_lower (Kd.R_new' (Kd.R_new' (Kd.R_new' (Kd.R_new' ho34 (Kd.R_lt (q2_ HO_10.out))) (Kd.R_lt (q2_ HO358.out))) (Kd.R_lt (q2_ HO361.out))) (Kd.R_lt (q2_ HO364.out))) (below_size t7_)); have n5_ := Aside0.mk (blk_below (g := gb347) (o := .cells #[.slice A0_0 l0_0.length c0_0, .slice A0_1 l0_1.length c0_1] 32 (0, 0)) (q1_ BK347.out) hb); have n6_ := Aside0.mk (below_step t7_ hb); clear HO_10; clear HO358; clear HO361; clear HO364; clear BK347; clear HB; have HO_10 := n0_; have HO358 := n1_; have HO361 := n2_; have HO364 := n3_; have HO367 := n4_; have BK347 := n5_; have HB := n6_; clear n0_ n1_ n2_ n3_ n4_ n5_ n6_; clear hb ho34; obtain ⟨Ao36, co36, eo36⟩ := Kd.R_slice HO367.out; subst eo36) | ((with_reducible refine gate_builtin (b := .append) (xs := #[.tmp 47, .tmp 49]) rfl ?_); (try (refine gate_guard t71_ ?_; dsimp only)); at_builtin; refine Kd.R_append_rows (Kd.int .i64) (w0 := w) w.heap.size rfl (.tmp 47) (.tmp 49) 22 2 (.int .i64 0) 8 rfl Try.underlying22 info2 rfl t31_ t28_ u10 x10_1 y365 _ _ _ (fun k_ => some k_ ≠ (.slice Ao29 y356.length co29 : Value).ownBlock ∧ some k_ ≠ (.slice Ao30 y359.length co30 : Value).ownBlock ∧ some k_ ≠ (.slice Ao32 t362.length co32 : Value).ownBlock ∧ some k_ ≠ (.slice Ao36 y365.length co36 : Value).ownBlock) (fun _ => False) rfl rfl ?aO ?aR (fun _ _ h => h) (fun _ h => h.elim) ?aF ?aB ?aS ?aL ?_; (case aR => repeat (first | exact (Kd.R_reads' HO367.out).2.2 | (with_reducible refine Kd.C_alloc ?_ _) | (with_reducible refine Kd.C_drewN ?_ _) | (with_reducible refine Kd.C_drew ?_))); (case aB => exact t7_); (case aF => exact (fun k_ hk => ⟨Kd.fresh' (Kd.R_lt (q2_ HO358.out)) k_ hk, Kd.fresh' (Kd.R_lt (q2_ HO361.out)) k_ hk, Kd.fresh' (Kd.R_lt (q2_ HO364.out)) k_ hk, Kd.fresh' (Kd.R_lt (q2_ HO367.out)) k_ hk⟩)); (case aO => exact (by (with_reducible repeat (first | apply Kd.R_alloc | apply Kd.R_drewN | apply Kd.R_drew)); exact Kd.R_mono HO_10.out (fun _ hk => ⟨hk.1.1.1, ⟨hk.1.1.2, ⟨hk.1.2, hk.2⟩⟩⟩))); (case aS => exact (below_size t7_)); (case aL => have := LMc22.out; omega); intro v369 w35 ho hb hg hat; rw [← Ny368.out] at ho; have n0_ := Aside0.mk (blk_grown (g := gb347) (o := .cells #[.slice A0_0 l0_0.length c0_0, .slice A0_1 l0_1.length c0_1] 32 (0, 0)) (q1_ BK347.out) hg (Kd.R_ne HO_10.out BK347.out t31_)); have n1_ := Aside0.mk (Kd.R_after (ok := (fun k_ => some k_ ≠ (.slice Ao30 y359.length co30 : Value).ownBlock ∧ some k_ ≠ (.slice Ao32 t362.length co32 : Value).ownBlock ∧ some k_ ≠ (.slice Ao36 y365.length co36 : Value).ownBlock)) (by (with_reducible repeat (first | apply Kd.R_alloc | apply Kd.R_drewN | apply Kd.R_drew)); exact Kd.R_mono HO358.out (fun _ hk => ⟨⟨hk.1.1.2, ⟨hk.1.2, hk.2⟩⟩, hk.1.1.1⟩)) hg hat); have n2_ := Aside0.mk (Kd.R_after (ok := (fun k_ => some k_ ≠ (.slice Ao29 y356.length co29 : Value).ownBlock ∧ some k_ ≠ (.slice Ao32 t362.length co32 : Value).ownBlock ∧ some k_ ≠ (.slice Ao36 y365.length co36 : Value).ownBlock)) (by (with_reducible repeat (first | apply Kd.R_alloc | apply Kd.R_drewN | apply Kd.R_drew)); exact Kd.R_mono HO361.out (fun _ hk => ⟨⟨hk.1.1.2, ⟨hk.1.2, hk.2⟩⟩, hk.1.1.1⟩)) hg hat); have n3_ := Aside0.mk (Kd.R_after (ok := (fun k_ => some k_ ≠ (.slice Ao29 y356.length co29 : Value).ownBlock ∧ some k_ ≠ (.slice Ao30 y359.length co30 : Value).ownBlock ∧ some k_ ≠ (.slice Ao36 y365.length co36 : Value).ownBlock)) (by (with_reducible repeat (first | apply Kd.R_alloc | apply Kd.R_drewN | apply Kd.R_drew)); exact Kd.R_mono HO364.out (fun _ hk => ⟨⟨hk.1.1.2, ⟨hk.1.2, hk.2⟩⟩, hk.1.1.1.2⟩)) hg hat); have n4_ := Aside0.mk (Kd.R_after (ok := (fun k_ => some k_ ≠ (.slice Ao29 y356.length co29 : Value).ownBlock ∧ some k_ ≠ (.slice Ao30 y359.length co30 : Value).ownBlock ∧ some k_ ≠ (.slice Ao32 t362.length co32 : Value).ownBlock)) (by (with_reducible repeat (first | apply Kd.R_alloc | apply Kd.R_drewN | apply Kd.R_drew)); exact Kd.R_mono HO367.out (fun _ hk => ⟨⟨hk.1.1.2, ⟨hk.1.2, hk.2⟩⟩, hk.1.1.1.2⟩)) hg hat); have n5_ := Aside0.mk (hb); have n6_ := Aside0.mk (ho); clear BK347; clear HO358; clear HO361; clear HO364; clear HO367; clear HB; clear HO_10; have BK347 := n0_; have HO358 := n1_; have HO361 := n2_; have HO364 := n3_; have HO367 := n4_; have HB := n5_; have HO370 := n6_; clear n0_ n1_ n2_ n3_ n4_ n5_ n6_; clear ho hb hg hat))
         go_roundg k1
         case measure => have := HK1.out; omega
         case rel => exact ⟨(y368), (wrap64 (x27_1 + 1)), t6_, H', ⟨t41_⟩, ⟨(by (with_reducible repeat (first | apply Kd.R_alloc | apply Kd.R_drewN | apply Kd.R_drew)); exact Kd.R_mono HO370.out (fun _ hk => trivial))⟩, ⟨t55_⟩, ⟨t7_⟩⟩
        ·rw [if_neg c22] at H
         exact absurd H t44_
       ·rw [if_neg c21] at H
        have c21b0 : decide ((t362.length : Int) < (t349.length : Int)) = false := decide_eq_false c21
        have c21b1 : decide (t362.length < t349.length) = false := decide_eq_false (fun h => c21 (Int.ofNat_lt.mpr h))
        clear c21
        have H' := Aside0.mk H
        clear H
        try go_wp2
        have n0_ := Aside0.mk (Kd.R_drew HO_10.out)
        have n1_ := Aside0.mk (blk_drew BK347.out)
        have n2_ := Aside0.mk (below_drew1 HB.out)
        clear HO_10
        clear BK347
        clear HB
        have HO_10 := n0_
        have BK347 := n1_
        have HB := n2_
        clear n0_ n1_ n2_
        refine start_ (n := 17) (S := fun w' => w'.cell? ⟨gb347, 0, none⟩ = some (.slice A0_0 l0_0.length c0_0) ∧ w'.cell? ⟨gb347, 1, none⟩ = some (.slice A0_1 l0_1.length c0_1)) (ds := []) (tf 0 17) t14_ rfl rfl ⟨(blk_cell BK347.out 0).trans rfl, (blk_cell BK347.out 1).trans rfl⟩ (fun hHeld => ?_); refine with_tabW impl_CriticalPipes.tab9 impl_CriticalPipes.bits9 (fun HT_ HW_ => ?_)
        generalize wr.drew = w37 at HO_10 BK347 HB hHeld ⊢
        refine px 0 (some 30) (tf 1 17) HT_ ?_
        refine px 1 (some 31) (tf 2 17) HT_ ?_
        refine one_ (i := 2) (N := some 32) (tf 3 17) rfl rfl (one_of HT_.out t14_) t31_ (fun K hK => ?_)
        refine goes_ Try.func60 t14_ rfl #[.slice A2 l2.length c2, .int .i64 x27_1] t71_ rfl rfl t2_ ?_
        with_reducible refine (slices_Contains_int64_int64.calls k1 _ _ l2 x27_1 false _ ?side1 ?side2 A15.out).mono ?_
        (case side1 => repeat (first | exact (Kd.C_below HR2.out HB.out) | (with_reducible refine Kd.C_alloc ?_ _) | (with_reducible refine Kd.C_drewN ?_ _) | (with_reducible refine Kd.C_drew ?_)))
        (case side2 => exact HC2.out)
        rintro e w' ⟨rfl, ⟨nd, rfl⟩⟩
        refine ⟨_, rfl, ?_⟩
        refine hK.out _ _ ⟨(blk_cell BK347.out 0).trans rfl, (blk_cell BK347.out 1).trans rfl⟩ (fun hHeld => ?_)
        clear hK K
        refine norm_ (a' := ?_) ?_ ?_
        rotate_left
        ·show Act.put _ (some 32) _ = _
         simp only [Act.put, List.setIfInBounds_toArray, List.set_cons_zero, List.set_cons_succ, i64_w, i32_w]
         rfl
        refine px 3 (some 33) (tf 4 17) HT_ ?_
        refine px 4 (some 34) (tf 5 17) HT_ ?_
        refine px 6 (some 36) (tb 17 95) HT_ ?_
        refine px 7 (some 37) (tb 17 223) HT_ ?_
        refine px 9 (some 39) (tb 17 735) HT_ ?_
        refine px 14 (some 44) (tb 17 17119) HT_ ?_
        refine tx (v := ?_) 5 (some 35) (tb 17 17151) HT_ HW_ hHeld ?_ ?_
        rotate_left; (· rintro w' ⟨s0, s1⟩; go_simp; with_reducible rfl)
        refine join_ (σ := Value × Value) 5 (tb 17 18431) (fun s_ => [(38, s_.1), (40, s_.2)]) (fun s_ w' => (w'.cell? ⟨gb347, 0, none⟩ = some (.slice A0_0 l0_0.length c0_0) ∧ w'.cell? ⟨gb347, 1, none⟩ = some (.slice A0_1 l0_1.length c0_1)) ∧ (Kd.R (Kd.int .i64) 2 w' w.heap.size (fun k_ => some k_ ≠ (s_.2 : Value).ownBlock ∧ some k_ ≠ (u10 : Value).ownBlock) s_.1 t353) ∧ (Kd.R (Kd.int .i64) 2 w' w.heap.size (fun k_ => some k_ ≠ (s_.1 : Value).ownBlock ∧ some k_ ≠ (u10 : Value).ownBlock) s_.2 y356) ∧ (Kd.R (Kd.int .i64) 2 w' w.heap.size (fun k_ => some k_ ≠ (s_.1 : Value).ownBlock ∧ some k_ ≠ (s_.2 : Value).ownBlock) u10 x10_1) ∧ (w'.heap[gb347]? = some (.cells #[.slice A0_0 l0_0.length c0_0, .slice A0_1 l0_1.length c0_1] 32 (0, 0))) ∧ (Below w.heap.size w w')) ?_ ?_
        rotate_left
        ·intro hCont
         refine two_ (i := 8) (j := 10) (Ni := some 38) (Nj := some 40) (tb 17 17407) (tb 17 18175) rfl rfl rfl rfl (two_of HT_.out t14_) t31_ t31_ (fun K hK => ?_) (fun K hK => ?_)
         ·skip
          refine goes_ Try.func75 t14_ rfl #[.slice A2 l2.length c2] t71_ rfl rfl t2_ ?_
          with_reducible refine (slices_Clone_int64_int64.calls _ _ l2 t353 _ ?side1 ?side2 A18.out).mono ?_
          (case side1 => repeat (first | exact (Kd.C_below HR2.out t7_) | (with_reducible refine Kd.C_alloc ?_ _) | (with_reducible refine Kd.C_drewN ?_ _) | (with_reducible refine Kd.C_drew ?_)))
          (case side2 => exact HC2.out)
          rintro e w38 ⟨v354, rfl, ho0, hb⟩
          refine ⟨_, rfl, ?_⟩
          have n0_ := Aside0.mk (Kd.R_elder' (q2_ HO_10.out) (Kd.R_base ho0) hb)
          have n1_ := Aside0.mk (Kd.R_lower (Kd.R_new' ho0 (Kd.R_lt (q2_ HO_10.out))) (below_size t7_))
          have n2_ := Aside0.mk (blk_below (g := gb347) (o := .cells #[.slice A0_0 l0_0.length c0_0, .slice A0_1 l0_1.length c0_1] 32 (0, 0)) (q1_ BK347.out) hb)
          have n3_ := Aside0.mk (below_step t7_ hb)
          clear HO_10
          clear BK347
          clear HB
          have HO_10 := n0_
          have HO355 := n1_
          have BK347 := n2_
          have HB := n3_
          clear n0_ n1_ n2_ n3_
          (try clear hb)
          (try clear hb2)
          (try clear hk)
          (try clear hi)
          (try clear ho0)
          refine hK.out _ _ ⟨(blk_cell BK347.out 0).trans rfl, (blk_cell BK347.out 1).trans rfl⟩ (fun hHeld => ?_)
          clear hK K
          refine norm_ (a' := ?_) ?_ ?_
          rotate_left
          ·show Act.put _ (some 38) _ = _
           simp only [Act.put, List.setIfInBounds_toArray, List.set_cons_zero, List.set_cons_succ, i64_w, i32_w]
           rfl
          refine one_ (i := 10) (N := some 40) (tb 17 18431) rfl rfl (one_of HT_.out t14_) t31_ (fun K hK => ?_)
          refine Kd.R_lit_step (Kd.int .i64) _ 2 ?hg (N := 40) ?hd (xs := ([x27_1] : List Int)) (inner := [.int .i64 x27_1]) (ok := fun _ => True) (okp := fun _ => True) ?hr ?hp (fun _ hk => hk) trivial (Below.refl _ _) (Nat.le_refl _) t44_ ?_; (case hd => rfl); (case hg => rfl); (case hr => first | (go_simp; done) | (go_simp; rfl)); (case hp => exact (Reps.one (show Kd.M (Kd.int .i64) _ _ _ x27_1 [.int .i64 x27_1] from rfl) (Reps.none _ _)))
          intro v357 w39 ho40 hb hg_ hnew_
          clear hg_ hnew_
          (first | rw [← Ny356.out] at ho40 | (simp only [Int.reduceToNat] at ho40; rw [← Ny356.out] at ho40))
          have n0_ := Aside0.mk (Kd.R_elder' (q2_ HO_10.out) (Kd.R_base ho40) hb)
          have n1_ := Aside0.mk (Kd.R_elder' (q2_ HO355.out) (Kd.R_base ho40) hb)
          have n2_ := Aside0.mk (Kd.R_lower (Kd.R_new' (Kd.R_new' ho40 (Kd.R_lt (q2_ HO_10.out))) (Kd.R_lt (q2_ HO355.out))) (below_size t7_))
          have n3_ := Aside0.mk (blk_below (g := gb347) (o := .cells #[.slice A0_0 l0_0.length c0_0, .slice A0_1 l0_1.length c0_1] 32 (0, 0)) (q1_ BK347.out) hb)
          have n4_ := Aside0.mk (below_step t7_ hb)
          clear HO_10
          clear HO355
          clear BK347
          clear HB
          have HO_10 := n0_
          have HO355 := n1_
          have HO358 := n2_
          have BK347 := n3_
          have HB := n4_
          clear n0_ n1_ n2_ n3_ n4_
          clear hb ho40
          refine hK.out _ _ ⟨(blk_cell BK347.out 0).trans rfl, (blk_cell BK347.out 1).trans rfl⟩ (fun hHeld => ?_)
          clear hK K
          refine norm_ (a' := ?_) ?_ ?_
          rotate_left
          ·show Act.put _ (some 40) _ = _
           simp only [Act.put, List.setIfInBounds_toArray, List.set_cons_zero, List.set_cons_succ, i64_w, i32_w]
           rfl
          exact norm_ t73_ (hCont (v354, v357) _ ⟨hHeld, t51_, t50_, (by (with_reducible repeat (first | apply Kd.R_alloc | apply Kd.R_drewN | apply Kd.R_drew)); exact Kd.R_mono HO_10.out (fun _ hk => ⟨hk.1.2, hk.2⟩)), (q1_ BK347.out), t7_⟩)
         ·skip
          refine Kd.R_lit_step (Kd.int .i64) _ 2 ?hg (N := 40) ?hd (xs := ([x27_1] : List Int)) (inner := [.int .i64 x27_1]) (ok := fun _ => True) (okp := fun _ => True) ?hr ?hp (fun _ hk => hk) trivial (Below.refl _ _) (Nat.le_refl _) t44_ ?_; (case hd => rfl); (case hg => rfl); (case hr => first | (go_simp; done) | (go_simp; rfl)); (case hp => exact (Reps.one (show Kd.M (Kd.int .i64) _ _ _ x27_1 [.int .i64 x27_1] from rfl) (Reps.none _ _)))
          intro v357 w38 ho39 hb hg_ hnew_
          clear hg_ hnew_
          (first | rw [← Ny356.out] at ho39 | (simp only [Int.reduceToNat] at ho39; rw [← Ny356.out] at ho39))
          have n0_ := Aside0.mk (Kd.R_elder' (q2_ HO_10.out) (Kd.R_base ho39) hb)
          have n1_ := Aside0.mk (Kd.R_lower (Kd.R_new' ho39 (Kd.R_lt (q2_ HO_10.out))) (below_size t7_))
          have n2_ := Aside0.mk (blk_below (g := gb347) (o := .cells #[.slice A0_0 l0_0.length c0_0, .slice A0_1 l0_1.length c0_1] 32 (0, 0)) (q1_ BK347.out) hb)
          have n3_ := Aside0.mk (below_step t7_ hb)
          clear HO_10
          clear BK347
          clear HB
          have HO_10 := n0_
          have HO358 := n1_
          have BK347 := n2_
          have HB := n3_
          clear n0_ n1_ n2_ n3_
          clear hb ho39
          refine hK.out _ _ ⟨(blk_cell BK347.out 0).trans rfl, (blk_cell BK347.out 1).trans rfl⟩ (fun hHeld => ?_)
          clear hK K
          refine norm_ (a' := ?_) ?_ ?_
          rotate_left
          ·show Act.put _ (some 40) _ = _
           simp only [Act.put, List.setIfInBounds_toArray, List.set_cons_zero, List.set_cons_succ, i64_w, i32_w]
           rfl
          refine one_ (i := 8) (N := some 38) (tb 17 18431) rfl rfl (one_of HT_.out t14_) t31_ (fun K hK => ?_)
          refine goes_ Try.func75 t14_ rfl #[.slice A2 l2.length c2] t71_ rfl rfl t2_ ?_
          with_reducible refine (slices_Clone_int64_int64.calls _ _ l2 t353 _ ?side1 ?side2 A18.out).mono ?_
          (case side1 => repeat (first | exact (Kd.C_below HR2.out HB.out) | (with_reducible refine Kd.C_alloc ?_ _) | (with_reducible refine Kd.C_drewN ?_ _) | (with_reducible refine Kd.C_drew ?_)))
          (case side2 => exact HC2.out)
          rintro e w40 ⟨v354, rfl, ho0, hb⟩
          refine ⟨_, rfl, ?_⟩
          have n0_ := Aside0.mk (Kd.R_elder' (q2_ HO_10.out) (Kd.R_base ho0) hb)
          have n1_ := Aside0.mk (Kd.R_elder' (q2_ HO358.out) (Kd.R_base ho0) hb)
          have n2_ := Aside0.mk (Kd.R_lower (Kd.R_new' (Kd.R_new' ho0 (Kd.R_lt (q2_ HO_10.out))) (Kd.R_lt (q2_ HO358.out))) (below_size t7_))
          have n3_ := Aside0.mk (blk_below (g := gb347) (o := .cells #[.slice A0_0 l0_0.length c0_0, .slice A0_1 l0_1.length c0_1] 32 (0, 0)) (q1_ BK347.out) hb)
          have n4_ := Aside0.mk (below_step t7_ hb)
          clear HO_10
          clear HO358
          clear BK347
          clear HB
          have HO_10 := n0_
          have HO358 := n1_
          have HO355 := n2_
          have BK347 := n3_
          have HB := n4_
          clear n0_ n1_ n2_ n3_ n4_
          (try clear hb)
          (try clear hb2)
          (try clear hk)
          (try clear hi)
          (try clear ho0)
          refine hK.out _ _ ⟨(blk_cell BK347.out 0).trans rfl, (blk_cell BK347.out 1).trans rfl⟩ (fun hHeld => ?_)
          clear hK K
          refine norm_ (a' := ?_) ?_ ?_
          rotate_left
          ·show Act.put _ (some 38) _ = _
           simp only [Act.put, List.setIfInBounds_toArray, List.set_cons_zero, List.set_cons_succ, i64_w, i32_w]
           rfl
          exact norm_ t73_ (hCont (v354, v357) _ ⟨hHeld, t51_, t50_, (by (with_reducible repeat (first | apply Kd.R_alloc | apply Kd.R_drewN | apply Kd.R_drew)); exact Kd.R_mono HO_10.out (fun _ hk => ⟨hk.2, hk.1.2⟩)), (q1_ BK347.out), t7_⟩)
        rintro ⟨v354, v357⟩ w41 ⟨hS_, h0_, h1_, h2_, h3_, h4_⟩
        have n0_ : Aside0 (Kd.R (Kd.int .i64) 2 w41 w.heap.size (fun k_ => some k_ ≠ (v357 : Value).ownBlock ∧ some k_ ≠ (u10 : Value).ownBlock) v354 t353) := ⟨h0_⟩
        have n1_ : Aside0 (Kd.R (Kd.int .i64) 2 w41 w.heap.size (fun k_ => some k_ ≠ (v354 : Value).ownBlock ∧ some k_ ≠ (u10 : Value).ownBlock) v357 y356) := ⟨h1_⟩
        have n2_ : Aside0 (Kd.R (Kd.int .i64) 2 w41 w.heap.size (fun k_ => some k_ ≠ (v354 : Value).ownBlock ∧ some k_ ≠ (v357 : Value).ownBlock) u10 x10_1) := ⟨h2_⟩
        have n3_ : Aside0 (w41.heap[gb347]? = some (.cells #[.slice A0_0 l0_0.length c0_0, .slice A0_1 l0_1.length c0_1] 32 (0, 0))) := ⟨h3_⟩
        have n4_ : Aside0 (Below w.heap.size w w41) := ⟨h4_⟩
        clear HO_10
        clear BK347
        clear HB
        clear h0_ h1_ h2_ h3_ h4_
        have HO355 := n0_
        have HO358 := n1_
        have HO_10 := n2_
        have BK347 := n3_
        have HB := n4_
        clear n0_ n1_ n2_ n3_ n4_
        have hHeld : w41.cell? ⟨gb347, 0, none⟩ = some (.slice A0_0 l0_0.length c0_0) ∧ w41.cell? ⟨gb347, 1, none⟩ = some (.slice A0_1 l0_1.length c0_1) := hS_
        obtain ⟨Ao43, co43, eo43⟩ := Kd.R_slice HO358.out
        (first | subst eo43 | (injection eo43 with f1_ f2_ f3_; have f4_ := f1_.symm; have f5_ := f3_.symm; clear f1_ f2_ f3_; subst f4_; subst f5_))
        refine norm_ (a' := ?_) ?_ ?_
        rotate_left
        ·simp only [putAll, Act.put, List.setIfInBounds_toArray, List.set_cons_zero, List.set_cons_succ]
         rfl
        refine one_ (i := 11) (N := some 41) (tb 17 20479) rfl rfl (one_of HT_.out t14_) t31_ (fun K hK => ?_)
        refine Kd.R_append_rows_step (Kd.int .i64) (w0 := w) w.heap.size t71_ (.tmp 38) (.tmp 40) 22 2 (.int .i64 0) 8 rfl Try.underlying22 info2 rfl t31_ t28_ v354 t353 y356 _ _ _ (fun k_ => some k_ ≠ (u10 : Value).ownBlock ∧ some k_ ≠ (.slice Ao43 y356.length co43 : Value).ownBlock) (fun _ => False) rfl rfl ?aO ?aR (fun _ _ h => h) (fun _ h => h.elim) ?aF ?aB ?aS ?aL ?_
        (case aR => repeat (first | exact (Kd.R_reads' HO358.out).2.2 | (with_reducible refine Kd.C_alloc ?_ _) | (with_reducible refine Kd.C_drewN ?_ _) | (with_reducible refine Kd.C_drew ?_)))
        (case aB => exact t7_)
        (case aF => exact (fun k_ hk => ⟨Kd.fresh' (Kd.R_lt (q2_ HO_10.out)) k_ hk, Kd.fresh' (Kd.R_lt (q2_ HO358.out)) k_ hk⟩))
        (case aO => exact (by (with_reducible repeat (first | apply Kd.R_alloc | apply Kd.R_drewN | apply Kd.R_drew)); exact Kd.R_mono HO355.out (fun _ hk => ⟨hk.2, hk.1⟩)))
        (case aS => exact (below_size t7_))
        (case aL => have := LMc19.out; omega)
        intro v360 w42 ho hb hg hat
        rw [← Ny359.out] at ho
        have n0_ := Aside0.mk (Kd.R_after (ok := (fun k_ => some k_ ≠ (.slice Ao43 y356.length co43 : Value).ownBlock)) (by (with_reducible repeat (first | apply Kd.R_alloc | apply Kd.R_drewN | apply Kd.R_drew)); exact Kd.R_mono HO_10.out (fun _ hk => ⟨hk.2, hk.1⟩)) hg hat)
        have n1_ := Aside0.mk (blk_grown (g := gb347) (o := .cells #[.slice A0_0 l0_0.length c0_0, .slice A0_1 l0_1.length c0_1] 32 (0, 0)) (q1_ BK347.out) hg (Kd.R_ne HO355.out BK347.out t31_))
        have n2_ := Aside0.mk (Kd.R_after (ok := (fun k_ => some k_ ≠ (u10 : Value).ownBlock)) (by (with_reducible repeat (first | apply Kd.R_alloc | apply Kd.R_drewN | apply Kd.R_drew)); exact Kd.R_mono HO358.out (fun _ hk => ⟨hk.2, hk.1⟩)) hg hat)
        have n3_ := Aside0.mk (hb)
        have n4_ := Aside0.mk (ho)
        clear HO_10
        clear BK347
        clear HO358
        clear HB
        clear HO355
        have HO_10 := n0_
        have BK347 := n1_
        have HO358 := n2_
        have HB := n3_
        have HO361 := n4_
        clear n0_ n1_ n2_ n3_ n4_
        clear ho hb hg hat
        obtain ⟨Ao44, co44, eo44⟩ := Kd.R_slice HO361.out
        (first | subst eo44 | (injection eo44 with f1_ f2_ f3_; have f4_ := f1_.symm; have f5_ := f3_.symm; clear f1_ f2_ f3_; subst f4_; subst f5_))
        refine hK.out _ _ ⟨(blk_cell BK347.out 0).trans rfl, (blk_cell BK347.out 1).trans rfl⟩ (fun hHeld => ?_)
        clear hK K
        refine norm_ (a' := ?_) ?_ ?_
        rotate_left
        ·show Act.put _ (some 41) _ = _
         simp only [Act.put, List.setIfInBounds_toArray, List.set_cons_zero, List.set_cons_succ, i64_w, i32_w]
         rfl
        refine one_ (i := 12) (N := some 42) (tb 17 24575) rfl rfl (one_of HT_.out t14_) t31_ (fun K hK => ?_)
        refine goes_ Try.func67 t14_ rfl #[.agg #[.slice A0_0 l0_0.length c0_0, .slice A0_1 l0_1.length c0_1], .slice A1 l1.length c1, .slice Ao44 y359.length co44] t71_ rfl rfl t2_ ?_
        with_reducible refine (impl_Network_served.calls k1 _ _ l0_0 _ _ l0_1 _ _ l1 _ _ y359 t362 _ ?side1 ?side2 ?side3 ?side4 ?side5 ?side6 ?side7 ?side8 A20.out).mono ?_
        (case side1 => repeat (first | exact (Kd.C_below HR0_0.out HB.out) | (with_reducible refine Kd.C_alloc ?_ _) | (with_reducible refine Kd.C_drewN ?_ _) | (with_reducible refine Kd.C_drew ?_)))
        (case side2 => exact HC0_0.out)
        (case side3 => repeat (first | exact (Kd.C_below HR0_1.out HB.out) | (with_reducible refine Kd.C_alloc ?_ _) | (with_reducible refine Kd.C_drewN ?_ _) | (with_reducible refine Kd.C_drew ?_)))
        (case side4 => exact HC0_1.out)
        (case side5 => repeat (first | exact (Kd.C_below HR1.out HB.out) | (with_reducible refine Kd.C_alloc ?_ _) | (with_reducible refine Kd.C_drewN ?_ _) | (with_reducible refine Kd.C_drew ?_)))
        (case side6 => exact HC1.out)
        (case side7 => repeat (first | exact (Kd.R_reads' HO361.out).2.2 | (with_reducible refine Kd.C_alloc ?_ _) | (with_reducible refine Kd.C_drewN ?_ _) | (with_reducible refine Kd.C_drew ?_)))
        (case side8 => exact (Kd.R_reads' HO361.out).2.1)
        rintro e w45 ⟨v363, rfl, ho0, hb⟩
        refine ⟨_, rfl, ?_⟩
        have n0_ := Aside0.mk (Kd.R_elder' (q2_ HO_10.out) (Kd.R_base ho0) hb)
        have n1_ := Aside0.mk (Kd.R_elder' (q2_ HO358.out) (Kd.R_base ho0) hb)
        have n2_ := Aside0.mk (Kd.R_elder' (q2_ HO361.out) (Kd.R_base ho0) hb)
        have n3_ := Aside0.mk (Kd.R_lower (Kd.R_new' (Kd.R_new' (Kd.R_new' ho0 (Kd.R_lt (q2_ HO_10.out))) (Kd.R_lt (q2_ HO358.out))) (Kd.R_lt (q2_ HO361.out))) (below_size t7_))
        have n4_ := Aside0.mk (blk_below (g := gb347) (o := .cells #[.slice A0_0 l0_0.length c0_0, .slice A0_1 l0_1.length c0_1] 32 (0, 0)) (q1_ BK347.out) hb)
        have n5_ := Aside0.mk (below_step t7_ hb)
        clear HO_10
        clear HO358
        clear HO361
        clear BK347
        clear HB
        have HO_10 := n0_
        have HO358 := n1_
        have HO361 := n2_
        have HO364 := n3_
        have BK347 := n4_
        have HB := n5_
        clear n0_ n1_ n2_ n3_ n4_ n5_
        (try clear hb)
        (try clear hb2)
        (try clear hk)
        (try clear hi)
        (try clear ho0)
        obtain ⟨Ao46, co46, eo46⟩ := Kd.R_slice HO364.out
        (first | subst eo46 | (injection eo46 with f1_ f2_ f3_; have f4_ := f1_.symm; have f5_ := f3_.symm; clear f1_ f2_ f3_; subst f4_; subst f5_))
        refine hK.out _ _ ⟨(blk_cell BK347.out 0).trans rfl, (blk_cell BK347.out 1).trans rfl⟩ (fun hHeld => ?_)
        clear hK K
        refine norm_ (a' := ?_) ?_ ?_
        rotate_left
        ·show Act.put _ (some 42) _ = _
         simp only [Act.put, List.setIfInBounds_toArray, List.set_cons_zero, List.set_cons_succ, i64_w, i32_w]
         rfl
        refine px 13 (some 43) (tf 15 17) HT_ ?_
        refine px 15 (some 45) (tf 16 17) HT_ ?_
        refine px 16 (some 46) (tf 17 17) HT_ ?_
        refine done_ (done_of HT_.out t14_) ?_
        try go_wp2
        go_roundg k1
        case measure => have := HK1.out; omega
        case rel => exact ⟨(x10_1), (wrap64 (x27_1 + 1)), t6_, H', ⟨t41_⟩, ⟨(by (with_reducible repeat (first | apply Kd.R_alloc | apply Kd.R_drewN | apply Kd.R_drew)); exact Kd.R_mono HO_10.out (fun _ hk => trivial))⟩, ⟨t55_⟩, ⟨t7_⟩⟩
      ·rw [if_neg c19] at H
       exact absurd H t44_
    ·rw [if_neg c14] at H
     have c14b0 : decide (x27_1 < (l0_1.length : Int)) = false := decide_eq_false c14
     clear c14
     simp only [Option.some.injEq, Prod.mk.injEq] at H
     obtain ⟨rfl, rfl⟩ := H
     go_wp2
     go_ret2
     exact ⟨_, t26_, t66_, t7_⟩
 ·rw [if_neg c5] at H
  have c5b0 : (t348 == 0) = false := beq_eq_false_iff_ne.mpr c5
  have c5b1 : (t348 != 0) = true := bne_iff_ne.mpr c5
  simp only [Option.some.injEq, Prod.mk.injEq] at H
  obtain ⟨rfl, rfl⟩ := H
  go_enter Try.func37, Try.ntmps37
  go_wp2_with (first | ((with_reducible refine gate_dst (N := 3) rfl ?_); (try (refine gate_guard t71_ ?_; dsimp only)); refine box_event ?hg (N := 3) ?hd (cs := #[.slice A0_0 l0_0.length c0_0, .slice A0_1 l0_1.length c0_1]) (t := 32) ?hr ?_; (case hd => rfl); (case hg => rfl); (case hr => first | (go_simp; done) | (go_simp; rfl)); intro gb347 hg w47 hbox hb; have n0_ := Aside0.mk (below_step t1_ hb); have n1_ := Aside0.mk (hbox); have n2_ := Aside0.mk ((by rw [hg]; exact (below_size t1_) : w.heap.size ≤ gb347)); have n3_ := Aside0.mk ((by rw [hg]; exact (below_size t1_) : w.heap.size ≤ gb347)); clear HB; have HB := n0_; have BK347 := n1_; have GW347 := n2_; have GE347 := n3_; clear n0_ n1_ n2_ n3_; clear hb hbox hg; have hcz48_0 : w47.cell? ⟨gb347, 0, none⟩ = some (.slice A0_0 l0_0.length c0_0) := (blk_cell BK347.out 0).trans rfl; have hcz48_1 : w47.cell? ⟨gb347, 1, none⟩ = some (.slice A0_1 l0_1.length c0_1) := (blk_cell BK347.out 1).trans rfl; have hfz48_0 := blk_frozen BK347.out 0; have hfz48_1 := blk_frozen BK347.out 1) | ((with_reducible refine gate_callee (f := 58) rfl ?_); refine goesL_ (some 15) rfl rfl Try.func58 t14_ rfl #[.agg #[.slice A0_0 l0_0.length c0_0, .slice A0_1 l0_1.length c0_1], .slice A1 l1.length c1, .slice A2 l2.length c2, .slice none 0 0, .slice none 0 0] rfl t2_ ?_; (refine (impl_serviceCode.calls k _ _ l0_0 _ _ l0_1 _ _ l1 _ _ l2 _ _ ([] : List Int) _ _ ([] : List Int) t348 _ ?side1 ?side2 ?side3 ?side4 ?side5 ?side6 ?side7 ?side8 ?side9 ?side10 ?side11 ?side12 A4.out).mono ?_); (case side1 => repeat (first | exact (Kd.C_below HR0_0.out HB.out) | (with_reducible refine Kd.C_alloc ?_ _) | (with_reducible refine Kd.C_drewN ?_ _) | (with_reducible refine Kd.C_drew ?_))); (case side2 => exact HC0_0.out); (case side3 => repeat (first | exact (Kd.C_below HR0_1.out HB.out) | (with_reducible refine Kd.C_alloc ?_ _) | (with_reducible refine Kd.C_drewN ?_ _) | (with_reducible refine Kd.C_drew ?_))); (case side4 => exact HC0_1.out); (case side5 => repeat (first | exact (Kd.C_below HR1.out HB.out) | (with_reducible refine Kd.C_alloc ?_ _) | (with_reducible refine Kd.C_drewN ?_ _) | (with_reducible refine Kd.C_drew ?_))); (case side6 => exact HC1.out); (case side7 => repeat (first | exact (Kd.C_below HR2.out HB.out) | (with_reducible refine Kd.C_alloc ?_ _) | (with_reducible refine Kd.C_drewN ?_ _) | (with_reducible refine Kd.C_drew ?_))); (case side8 => exact HC2.out); (case side9 => exact Kd.C_nil _ _); (case side10 => exact Nat.le_refl _); (case side11 => exact Kd.C_nil _ _); (case side12 => exact Nat.le_refl _); rintro e w49 ⟨rfl, hb⟩; refine ⟨_, rfl, ?_⟩; have n0_ := Aside0.mk (blk_below (g := gb347) (o := .cells #[.slice A0_0 l0_0.length c0_0, .slice A0_1 l0_1.length c0_1] 32 (0, 0)) (q1_ BK347.out) hb); have n1_ := Aside0.mk (below_step t7_ hb); clear BK347; clear HB; have BK347 := n0_; have HB := n1_; clear n0_ n1_; (try clear hb); (try clear hb2); (try clear hk); (try clear hi)))
  go_ret2
  exact ⟨_, t26_, t52_, t7_⟩

end Go.Proofs.Ytjelfhmgbhidnaa.PFnExactCriticalPipes
