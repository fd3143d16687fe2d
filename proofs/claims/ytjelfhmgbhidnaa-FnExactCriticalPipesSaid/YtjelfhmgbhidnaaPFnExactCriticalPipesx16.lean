-- written by wip/xprint.py, a program of this session, for this claim; not trusted: Lean checks it.
import Derived.Test.YtjelfhmgbhidnaaPFnExactCriticalPipesx0
import Derived.Test.YtjelfhmgbhidnaaPFnExactCriticalPipesx1
import Derived.Test.YtjelfhmgbhidnaaPFnExactCriticalPipesx2
import Derived.Test.YtjelfhmgbhidnaaPFnExactCriticalPipesx9
import Derived.Test.YtjelfhmgbhidnaaPFnExactCriticalPipesx15
namespace Go.Proofs.Ytjelfhmgbhidnaa.PFnExactCriticalPipes
open Go.RowKit Go.Proofs.YtjelfhmgbhidnaaW.PrintWords Go.Proofs.YtjelfhmgbhidnaaW.PrintLast Go.Proofs.YtjelfhmgbhidnaaW.PrintMore
attribute [local go_sem] leq_less_ max2_int min2_int max_two min_two max_three min_three max_four min_four   -- for this text's walks alone
set_option linter.unusedVariables false
set_option linter.unusedSimpArgs false

/-! ### laws_FnExactCriticalPipes: function 10 -/
mutual
def laws_FnExactCriticalPipes.j0 : Nat → List Int → List Int → List Int → Int → List Int → List Int → List Int → Int → Bool → List Int → List (S99) → List Int → List (S80) → Option (Bool)
 | 0, _, _, _, _, _, _, _, _, _, _, _, _, _ => none
 | k + 1, x1, x2, x8, x9, x11, x12, x13, x14, x62, x372000, x372001, x396000, x396001 => if x62 = true then (some false) else ((laws_toNetwork.f k x372000 x372001).bind fun bt407 => ((laws_eqNetwork.f k x396000 x396001 bt407.1 bt407.2).bind fun t413 => (if t413 = true then ((laws_toInt64S.f k x1).bind fun t414 => ((laws_eqInt64S.f k x11 t414).bind fun t417 => (if t417 = true then ((laws_toInt64S.f k x2).bind fun t418 => ((laws_eqInt64S.f k x12 t418).bind fun t421 => (if t421 = true then ((laws_markNetwork.f k x396000 x396001 1).bind fun bt422 => ((laws_markInt64S.f k x11 bt422.1).bind fun bt425 => ((laws_markInt64S.f k x12 bt425.1).bind fun bt427 => (if bt427.1 < 0 then (laws_FnExactCriticalPipes.j1 k x1 x2 x8 x9 x13 true x372000 x372001) else ((laws_eqInt64S.f k x13 x8).bind fun t429 => (if t429 = true then (laws_FnExactCriticalPipes.j1 k x1 x2 x8 x9 x13 (x14 != x9) x372000 x372001) else (laws_FnExactCriticalPipes.j1 k x1 x2 x8 x9 x13 true x372000 x372001))))))) else (some false)))) else (some false)))) else (some false))))
def laws_FnExactCriticalPipes.j1 : Nat → List Int → List Int → List Int → Int → List Int → Bool → List Int → List (S99) → Option (Bool)
 | 0, _, _, _, _, _, _, _, _ => none
 | k + 1, x1, x2, x8, x9, x13, x99, x372000, x372001 => if x99 = true then (some false) else ((laws_markInt64S.f k x13 1).bind fun bt430 => ((laws_heldInt64S.f k bt430.2 1).bind fun t432 => (if t432 < 0 then (some false) else (if t432 = bt430.1 then ((laws_toNetwork.f k x372000 x372001).bind fun bt433 => ((laws_toInt64S.f k x1).bind fun t439 => ((laws_toInt64S.f k x2).bind fun t442 => ((impl_CriticalPipes.f k bt433.1 bt433.2 t439 t442).bind fun bt445 => ((laws_eqInt64S.f k bt445.1 x8).bind fun t449 => (if t449 = true then (laws_FnExactCriticalPipes.j2 k bt430.2 bt430.1 (bt445.2 != x9)) else (laws_FnExactCriticalPipes.j2 k bt430.2 bt430.1 true))))))) else (some false)))))
def laws_FnExactCriticalPipes.j2 : Nat → List Int → Int → Bool → Option (Bool)
 | 0, _, _, _ => none
 | k + 1, x13, x16, x129 => if x129 = true then (some false) else ((laws_heldInt64S.f k x13 1).bind fun t450 => (if t450 < 0 then (some false) else (if t450 = x16 then (some true) else (some false))))
end
def laws_FnExactCriticalPipes.f (k : Nat) (l0_0 : List Int) (l0_1 : List (S99)) (l1 : List Int) (l2 : List Int) : Option (Bool) := if (l1.length : Int) > 1048576 then (some true) else (if (l2.length : Int) > 1048576 then (some true) else ((laws_szNetwork.f k l0_0 l0_1 1048576).bind fun t372 => (if t372 < 0 then (some true) else ((laws_toNetwork.f k l0_0 l0_1).bind fun bt373 => ((laws_toInt64S.f k l1).bind fun t379 => ((laws_toInt64S.f k l2).bind fun t382 => ((spec_CriticalPipes.f k bt373.1 bt373.2 t379 t382).bind fun bt385 => ((laws_toNetwork.f k l0_0 l0_1).bind fun bt389 => ((laws_toInt64S.f k l1).bind fun t396 => ((laws_toInt64S.f k l2).bind fun t399 => ((impl_CriticalPipes.f k bt389.1 bt389.2 t396 t399).bind fun bt402 => ((laws_eqInt64S.f k bt402.1 bt385.1).bind fun t406 => (if t406 = true then (laws_FnExactCriticalPipes.j0 k l1 l2 bt385.1 bt385.2 t396 t399 bt402.1 bt402.2 (bt402.2 != bt385.2) l0_0 l0_1 bt389.1 bt389.2) else (laws_FnExactCriticalPipes.j0 k l1 l2 bt385.1 bt385.2 t396 t399 bt402.1 bt402.2 true l0_0 l0_1 bt389.1 bt389.2))))))))))))))
theorem laws_FnExactCriticalPipes.mono_l : ∀ k, (∀ y0 y1 y2 y3 y4 y5 y6 y7 y8 y9 y10 y11 y12, LeO (laws_FnExactCriticalPipes.j0 k y0 y1 y2 y3 y4 y5 y6 y7 y8 y9 y10 y11 y12) (laws_FnExactCriticalPipes.j0 (k + 1) y0 y1 y2 y3 y4 y5 y6 y7 y8 y9 y10 y11 y12)) ∧ (∀ y0 y1 y2 y3 y4 y5 y6 y7, LeO (laws_FnExactCriticalPipes.j1 k y0 y1 y2 y3 y4 y5 y6 y7) (laws_FnExactCriticalPipes.j1 (k + 1) y0 y1 y2 y3 y4 y5 y6 y7)) ∧ (∀ y0 y1 y2, LeO (laws_FnExactCriticalPipes.j2 k y0 y1 y2) (laws_FnExactCriticalPipes.j2 (k + 1) y0 y1 y2))
 | 0 => ⟨fun _ _ _ _ _ _ _ _ _ _ _ _ _ r h => by simp [laws_FnExactCriticalPipes.j0] at h, fun _ _ _ _ _ _ _ _ r h => by simp [laws_FnExactCriticalPipes.j1] at h, fun _ _ _ r h => by simp [laws_FnExactCriticalPipes.j2] at h⟩
 | k + 1 => by
  obtain ⟨ih0, ih1, ih2⟩ := laws_FnExactCriticalPipes.mono_l k
  refine ⟨?_, ?_, ?_⟩ <;> intros <;> first | unfold laws_FnExactCriticalPipes.j0 | unfold laws_FnExactCriticalPipes.j1 | unfold laws_FnExactCriticalPipes.j2
  all_goals
   repeat' first
   | (with_reducible exact ih0 _ _ _ _ _ _ _ _ _ _ _ _ _)
   | (with_reducible exact ih1 _ _ _ _ _ _ _ _)
   | (with_reducible exact ih2 _ _ _)
   | (with_reducible exact impl_CriticalPipes.mono _ _ _ _ _)
   | (with_reducible exact laws_eqInt64S.mono _ _ _)
   | (with_reducible exact laws_eqNetwork.mono _ _ _ _ _)
   | (with_reducible exact laws_heldInt64S.mono _ _ _)
   | (with_reducible exact laws_markInt64S.mono _ _ _)
   | (with_reducible exact laws_markNetwork.mono _ _ _ _)
   | (with_reducible exact laws_szNetwork.mono _ _ _ _)
   | (with_reducible exact laws_toInt64S.mono _ _)
   | (with_reducible exact laws_toNetwork.mono _ _ _)
   | (with_reducible exact spec_CriticalPipes.mono _ _ _ _ _)
   | (with_reducible exact LeO.refl _)
   | (with_reducible exact LeO.none _)
   | (with_reducible refine LeO.ite ?_ ?_)
   | (with_reducible refine LeO.bind ?_ (fun _ => ?_))
   | exact ih0 _ _ _ _ _ _ _ _ _ _ _ _ _
   | exact ih1 _ _ _ _ _ _ _ _
   | exact ih2 _ _ _
   | exact impl_CriticalPipes.mono _ _ _ _ _
   | exact laws_eqInt64S.mono _ _ _
   | exact laws_eqNetwork.mono _ _ _ _ _
   | exact laws_heldInt64S.mono _ _ _
   | exact laws_markInt64S.mono _ _ _
   | exact laws_markNetwork.mono _ _ _ _
   | exact laws_szNetwork.mono _ _ _ _
   | exact laws_toInt64S.mono _ _
   | exact laws_toNetwork.mono _ _ _
   | exact spec_CriticalPipes.mono _ _ _ _ _
   | exact LeO.none _
   | refine LeO.ite ?_ ?_
   | refine LeO.bind ?_ (fun _ => ?_)
theorem laws_FnExactCriticalPipes.mono : ∀ a0 a1 a2 a3 k, LeO (laws_FnExactCriticalPipes.f k a0 a1 a2 a3) (laws_FnExactCriticalPipes.f (k + 1) a0 a1 a2 a3) := by
 intro a0 a1 a2 a3 k
 obtain ⟨ih0, ih1, ih2⟩ := laws_FnExactCriticalPipes.mono_l k
 unfold laws_FnExactCriticalPipes.f
 repeat' first
   | (with_reducible exact ih0 _ _ _ _ _ _ _ _ _ _ _ _ _)
   | (with_reducible exact ih1 _ _ _ _ _ _ _ _)
   | (with_reducible exact ih2 _ _ _)
   | (with_reducible exact impl_CriticalPipes.mono _ _ _ _ _)
   | (with_reducible exact laws_eqInt64S.mono _ _ _)
   | (with_reducible exact laws_eqNetwork.mono _ _ _ _ _)
   | (with_reducible exact laws_heldInt64S.mono _ _ _)
   | (with_reducible exact laws_markInt64S.mono _ _ _)
   | (with_reducible exact laws_markNetwork.mono _ _ _ _)
   | (with_reducible exact laws_szNetwork.mono _ _ _ _)
   | (with_reducible exact laws_toInt64S.mono _ _)
   | (with_reducible exact laws_toNetwork.mono _ _ _)
   | (with_reducible exact spec_CriticalPipes.mono _ _ _ _ _)
   | (with_reducible exact LeO.refl _)
   | (with_reducible exact LeO.none _)
   | (with_reducible refine LeO.ite ?_ ?_)
   | (with_reducible refine LeO.bind ?_ (fun _ => ?_))
   | exact ih0 _ _ _ _ _ _ _ _ _ _ _ _ _
   | exact ih1 _ _ _ _ _ _ _ _
   | exact ih2 _ _ _
   | exact impl_CriticalPipes.mono _ _ _ _ _
   | exact laws_eqInt64S.mono _ _ _
   | exact laws_eqNetwork.mono _ _ _ _ _
   | exact laws_heldInt64S.mono _ _ _
   | exact laws_markInt64S.mono _ _ _
   | exact laws_markNetwork.mono _ _ _ _
   | exact laws_szNetwork.mono _ _ _ _
   | exact laws_toInt64S.mono _ _
   | exact laws_toNetwork.mono _ _ _
   | exact spec_CriticalPipes.mono _ _ _ _ _
   | exact LeO.none _
   | refine LeO.ite ?_ ?_
   | refine LeO.bind ?_ (fun _ => ?_)
set_option maxHeartbeats 8000000 in
set_option maxRecDepth 100000 in
theorem laws_FnExactCriticalPipes.calls (k : Nat) (A0_0 : Option Addr) (c0_0 : Nat) (l0_0 : List Int) (A0_1 : Option Addr) (c0_1 : Nat) (l0_1 : List (S99)) (A1 : Option Addr) (c1 : Nat) (l1 : List Int) (A2 : Option Addr) (c2 : Nat) (l2 : List Int) (r : Bool) (w : World) (hr0_0 : Kd.C (Kd.int .i64) w A0_0 l0_0.length l0_0) (hc0_0 : l0_0.length ≤ c0_0) (hr0_1 : Kd.C k99 w A0_1 l0_1.length l0_1) (hc0_1 : l0_1.length ≤ c0_1) (hr1 : Kd.C (Kd.int .i64) w A1 l1.length l1) (hc1 : l1.length ≤ c1) (hr2 : Kd.C (Kd.int .i64) w A2 l2.length l2) (hc2 : l2.length ≤ c2) (h : laws_FnExactCriticalPipes.f k l0_0 l0_1 l1 l2 = some r) :
  Calls Try.prog 10 #[.agg #[.slice A0_0 l0_0.length c0_0, .slice A0_1 l0_1.length c0_1], .slice A1 l1.length c1, .slice A2 l2.length c2] w fun e w' => e = .returned (.bool r) ∧ Below w.heap.size w w' := by
 have hu25 := Try.underlying25
 have hu32 := Try.underlying32
 have HR0_0 := Aside0.mk hr0_0
 have HC0_0 := Aside0.mk hc0_0
 clear hr0_0 hc0_0
 have HR0_1 := Aside0.mk hr0_1
 have HC0_1 := Aside0.mk hc0_1
 clear hr0_1 hc0_1
 have HR1 := Aside0.mk hr1
 have HC1 := Aside0.mk hc1
 clear hr1 hc1
 have HR2 := Aside0.mk hr2
 have HC2 := Aside0.mk hc2
 clear hr2 hc2
 have HB := Aside0.mk (Below.refl w.heap.size w)
 have H : (if (l1.length : Int) > 1048576 then (some true) else (if (l2.length : Int) > 1048576 then (some true) else ((laws_szNetwork.f k l0_0 l0_1 1048576).bind fun t372 => (if t372 < 0 then (some true) else ((laws_toNetwork.f k l0_0 l0_1).bind fun bt373 => ((laws_toInt64S.f k l1).bind fun t379 => ((laws_toInt64S.f k l2).bind fun t382 => ((spec_CriticalPipes.f k bt373.1 bt373.2 t379 t382).bind fun bt385 => ((laws_toNetwork.f k l0_0 l0_1).bind fun bt389 => ((laws_toInt64S.f k l1).bind fun t396 => ((laws_toInt64S.f k l2).bind fun t399 => ((impl_CriticalPipes.f k bt389.1 bt389.2 t396 t399).bind fun bt402 => ((laws_eqInt64S.f k bt402.1 bt385.1).bind fun t406 => (if t406 = true then (laws_FnExactCriticalPipes.j0 k l1 l2 bt385.1 bt385.2 t396 t399 bt402.1 bt402.2 (bt402.2 != bt385.2) l0_0 l0_1 bt389.1 bt389.2) else (laws_FnExactCriticalPipes.j0 k l1 l2 bt385.1 bt385.2 t396 t399 bt402.1 bt402.2 true l0_0 l0_1 bt389.1 bt389.2))))))))))))))) = some r := h
 clear h
 by_cases c4 : (l1.length : Int) > 1048576
 ·rw [if_pos c4] at H
  have c4b0 : decide (1048576 < (l1.length : Int)) = true := decide_eq_true c4
  have c4b1 : decide (1048576 < l1.length) = true := decide_eq_true t28_
  clear c4
  obtain rfl := Option.some.inj H
  go_enter Try.func10, Try.ntmps10
  go_wp2_with (first | ((with_reducible refine gate_dst (N := 3) rfl ?_); refine box_event ?hg (N := 3) ?hd (cs := #[.slice A0_0 l0_0.length c0_0, .slice A0_1 l0_1.length c0_1]) (t := 25) ?hr ?_; (case hd => rfl); (case hg => rfl); (case hr => first | (go_simp; done) | (go_simp; rfl)); intro gb371 hg w5 hbox hb; have n0_ := Aside0.mk (below_step t1_ hb); have n1_ := Aside0.mk (hbox); have n2_ := Aside0.mk ((by rw [hg]; exact (below_size t1_) : w.heap.size ≤ gb371)); have n3_ := Aside0.mk ((by rw [hg]; exact (below_size t1_) : w.heap.size ≤ gb371)); clear HB; have HB := n0_; have BK371 := n1_; have GW371 := n2_; have GE371 := n3_; clear n0_ n1_ n2_ n3_; clear hb hbox hg))
  go_ret
  exact ⟨t5_, t17_⟩
 ·rw [if_neg c4] at H
  have c4b0 : decide (1048576 < (l1.length : Int)) = false := decide_eq_false c4
  have c4b1 : decide (1048576 < l1.length) = false := decide_eq_false t28_
  clear c4
  by_cases c6 : (l2.length : Int) > 1048576
  ·rw [if_pos c6] at H
   have c6b0 : decide (1048576 < (l2.length : Int)) = true := decide_eq_true c6
   have c6b1 : decide (1048576 < l2.length) = true := decide_eq_true t28_
   clear c6
   obtain rfl := Option.some.inj H
   go_enter Try.func10, Try.ntmps10
   go_wp2_with (first | ((with_reducible refine gate_dst (N := 3) rfl ?_); refine box_event ?hg (N := 3) ?hd (cs := #[.slice A0_0 l0_0.length c0_0, .slice A0_1 l0_1.length c0_1]) (t := 25) ?hr ?_; (case hd => rfl); (case hg => rfl); (case hr => first | (go_simp; done) | (go_simp; rfl)); intro gb371 hg w7 hbox hb; have n0_ := Aside0.mk (below_step t1_ hb); have n1_ := Aside0.mk (hbox); have n2_ := Aside0.mk ((by rw [hg]; exact (below_size t1_) : w.heap.size ≤ gb371)); have n3_ := Aside0.mk ((by rw [hg]; exact (below_size t1_) : w.heap.size ≤ gb371)); clear HB; have HB := n0_; have BK371 := n1_; have GW371 := n2_; have GE371 := n3_; clear n0_ n1_ n2_ n3_; clear hb hbox hg))
   go_ret
   exact ⟨t5_, t17_⟩
  ·rw [if_neg c6] at H
   have c6b0 : decide (1048576 < (l2.length : Int)) = false := decide_eq_false c6
   have c6b1 : decide (1048576 < l2.length) = false := decide_eq_false t28_
   clear c6
   replace H := Option.bind_eq_some_iff.mp H
   obtain ⟨t372, A80, H⟩ := H
   replace H : (if t372 < 0 then (some true) else ((laws_toNetwork.f k l0_0 l0_1).bind fun bt373 => ((laws_toInt64S.f k l1).bind fun t379 => ((laws_toInt64S.f k l2).bind fun t382 => ((spec_CriticalPipes.f k bt373.1 bt373.2 t379 t382).bind fun bt385 => ((laws_toNetwork.f k l0_0 l0_1).bind fun bt389 => ((laws_toInt64S.f k l1).bind fun t396 => ((laws_toInt64S.f k l2).bind fun t399 => ((impl_CriticalPipes.f k bt389.1 bt389.2 t396 t399).bind fun bt402 => ((laws_eqInt64S.f k bt402.1 bt385.1).bind fun t406 => (if t406 = true then (laws_FnExactCriticalPipes.j0 k l1 l2 bt385.1 bt385.2 t396 t399 bt402.1 bt402.2 (bt402.2 != bt385.2) l0_0 l0_1 bt389.1 bt389.2) else (laws_FnExactCriticalPipes.j0 k l1 l2 bt385.1 bt385.2 t396 t399 bt402.1 bt402.2 true l0_0 l0_1 bt389.1 bt389.2)))))))))))) = some r := H
   have A8 := Aside0.mk A80
   clear A80
   by_cases c9 : t372 < 0
   ·rw [if_pos c9] at H
    have c9b0 : decide (t372 < 0) = true := decide_eq_true c9
    clear c9
    obtain rfl := Option.some.inj H
    go_enter Try.func10, Try.ntmps10
    go_wp2_with (first | ((with_reducible refine gate_dst (N := 3) rfl ?_); refine box_event ?hg (N := 3) ?hd (cs := #[.slice A0_0 l0_0.length c0_0, .slice A0_1 l0_1.length c0_1]) (t := 25) ?hr ?_; (case hd => rfl); (case hg => rfl); (case hr => first | (go_simp; done) | (go_simp; rfl)); intro gb371 hg w10 hbox hb; have n0_ := Aside0.mk (below_step t1_ hb); have n1_ := Aside0.mk (hbox); have n2_ := Aside0.mk ((by rw [hg]; exact (below_size t1_) : w.heap.size ≤ gb371)); have n3_ := Aside0.mk ((by rw [hg]; exact (below_size t1_) : w.heap.size ≤ gb371)); clear HB; have HB := n0_; have BK371 := n1_; have GW371 := n2_; have GE371 := n3_; clear n0_ n1_ n2_ n3_; clear hb hbox hg; have hcz11_0 : w10.cell? ⟨gb371, 0, none⟩ = some (.slice A0_0 l0_0.length c0_0) := (blk_cell BK371.out 0).trans rfl; have hcz11_1 : w10.cell? ⟨gb371, 1, none⟩ = some (.slice A0_1 l0_1.length c0_1) := (blk_cell BK371.out 1).trans rfl; have hfz11_0 := blk_frozen BK371.out 0; have hfz11_1 := blk_frozen BK371.out 1) | ((with_reducible refine gate_callee (f := 11) rfl ?_); refine goesL_ (some 28) rfl rfl Try.func11 t14_ rfl #[.agg #[.slice A0_0 l0_0.length c0_0, .slice A0_1 l0_1.length c0_1], .int .i64 1048576] rfl t2_ ?_; (with_reducible refine (laws_szNetwork.calls k _ _ l0_0 _ _ l0_1 1048576 t372 _ ?side1 ?side2 ?side3 ?side4 A8.out).mono ?_); (case side1 => repeat (first | exact (Kd.C_below HR0_0.out HB.out) | (with_reducible refine Kd.C_alloc ?_ _) | (with_reducible refine Kd.C_drewN ?_ _) | (with_reducible refine Kd.C_drew ?_))); (case side2 => exact HC0_0.out); (case side3 => repeat (first | exact (Kd.C_below HR0_1.out HB.out) | (with_reducible refine Kd.C_alloc ?_ _) | (with_reducible refine Kd.C_drewN ?_ _) | (with_reducible refine Kd.C_drew ?_))); (case side4 => exact HC0_1.out); rintro e w12 ⟨rfl, hb⟩; refine ⟨_, rfl, ?_⟩; have n0_ := Aside0.mk (blk_below (g := gb371) (o := .cells #[.slice A0_0 l0_0.length c0_0, .slice A0_1 l0_1.length c0_1] 25 (0, 0)) (q1_ BK371.out) hb); have n1_ := Aside0.mk (below_step t17_ hb); clear BK371; clear HB; have BK371 := n0_; have HB := n1_; clear n0_ n1_; (try clear hb); (try clear hb2); (try clear hk); (try clear hi)))
    go_ret
    exact ⟨t5_, t17_⟩
   ·rw [if_neg c9] at H
    have c9b0 : decide (t372 < 0) = false := decide_eq_false c9
    clear c9
    replace H := Option.bind_eq_some_iff.mp H
    obtain ⟨⟨t373, t376⟩, A130, H⟩ := H
    replace H : ((laws_toInt64S.f k l1).bind fun t379 => ((laws_toInt64S.f k l2).bind fun t382 => ((spec_CriticalPipes.f k t373 t376 t379 t382).bind fun bt385 => ((laws_toNetwork.f k l0_0 l0_1).bind fun bt389 => ((laws_toInt64S.f k l1).bind fun t396 => ((laws_toInt64S.f k l2).bind fun t399 => ((impl_CriticalPipes.f k bt389.1 bt389.2 t396 t399).bind fun bt402 => ((laws_eqInt64S.f k bt402.1 bt385.1).bind fun t406 => (if t406 = true then (laws_FnExactCriticalPipes.j0 k l1 l2 bt385.1 bt385.2 t396 t399 bt402.1 bt402.2 (bt402.2 != bt385.2) l0_0 l0_1 bt389.1 bt389.2) else (laws_FnExactCriticalPipes.j0 k l1 l2 bt385.1 bt385.2 t396 t399 bt402.1 bt402.2 true l0_0 l0_1 bt389.1 bt389.2)))))))))) = some r := H
    have A13 := Aside0.mk A130
    clear A130
    replace H := Option.bind_eq_some_iff.mp H
    obtain ⟨t379, A140, H⟩ := H
    replace H : ((laws_toInt64S.f k l2).bind fun t382 => ((spec_CriticalPipes.f k t373 t376 t379 t382).bind fun bt385 => ((laws_toNetwork.f k l0_0 l0_1).bind fun bt389 => ((laws_toInt64S.f k l1).bind fun t396 => ((laws_toInt64S.f k l2).bind fun t399 => ((impl_CriticalPipes.f k bt389.1 bt389.2 t396 t399).bind fun bt402 => ((laws_eqInt64S.f k bt402.1 bt385.1).bind fun t406 => (if t406 = true then (laws_FnExactCriticalPipes.j0 k l1 l2 bt385.1 bt385.2 t396 t399 bt402.1 bt402.2 (bt402.2 != bt385.2) l0_0 l0_1 bt389.1 bt389.2) else (laws_FnExactCriticalPipes.j0 k l1 l2 bt385.1 bt385.2 t396 t399 bt402.1 bt402.2 true l0_0 l0_1 bt389.1 bt389.2))))))))) = some r := H
    have A14 := Aside0.mk A140
    clear A140
    replace H := Option.bind_eq_some_iff.mp H
    obtain ⟨t382, A150, H⟩ := H
    replace H : ((spec_CriticalPipes.f k t373 t376 t379 t382).bind fun bt385 => ((laws_toNetwork.f k l0_0 l0_1).bind fun bt389 => ((laws_toInt64S.f k l1).bind fun t396 => ((laws_toInt64S.f k l2).bind fun t399 => ((impl_CriticalPipes.f k bt389.1 bt389.2 t396 t399).bind fun bt402 => ((laws_eqInt64S.f k bt402.1 bt385.1).bind fun t406 => (if t406 = true then (laws_FnExactCriticalPipes.j0 k l1 l2 bt385.1 bt385.2 t396 t399 bt402.1 bt402.2 (bt402.2 != bt385.2) l0_0 l0_1 bt389.1 bt389.2) else (laws_FnExactCriticalPipes.j0 k l1 l2 bt385.1 bt385.2 t396 t399 bt402.1 bt402.2 true l0_0 l0_1 bt389.1 bt389.2)))))))) = some r := H
    have A15 := Aside0.mk A150
    clear A150
    replace H := Option.bind_eq_some_iff.mp H
    obtain ⟨⟨t385, t388⟩, A160, H⟩ := H
    replace H : ((laws_toNetwork.f k l0_0 l0_1).bind fun bt389 => ((laws_toInt64S.f k l1).bind fun t396 => ((laws_toInt64S.f k l2).bind fun t399 => ((impl_CriticalPipes.f k bt389.1 bt389.2 t396 t399).bind fun bt402 => ((laws_eqInt64S.f k bt402.1 t385).bind fun t406 => (if t406 = true then (laws_FnExactCriticalPipes.j0 k l1 l2 t385 t388 t396 t399 bt402.1 bt402.2 (bt402.2 != t388) l0_0 l0_1 bt389.1 bt389.2) else (laws_FnExactCriticalPipes.j0 k l1 l2 t385 t388 t396 t399 bt402.1 bt402.2 true l0_0 l0_1 bt389.1 bt389.2))))))) = some r := H
    have A16 := Aside0.mk A160
    clear A160
    replace H := Option.bind_eq_some_iff.mp H
    obtain ⟨⟨t389, t392⟩, A170, H⟩ := H
    replace H : ((laws_toInt64S.f k l1).bind fun t396 => ((laws_toInt64S.f k l2).bind fun t399 => ((impl_CriticalPipes.f k t389 t392 t396 t399).bind fun bt402 => ((laws_eqInt64S.f k bt402.1 t385).bind fun t406 => (if t406 = true then (laws_FnExactCriticalPipes.j0 k l1 l2 t385 t388 t396 t399 bt402.1 bt402.2 (bt402.2 != t388) l0_0 l0_1 t389 t392) else (laws_FnExactCriticalPipes.j0 k l1 l2 t385 t388 t396 t399 bt402.1 bt402.2 true l0_0 l0_1 t389 t392)))))) = some r := H
    have A17 := Aside0.mk A170
    clear A170
    replace H := Option.bind_eq_some_iff.mp H
    obtain ⟨t396, A180, H⟩ := H
    replace H : ((laws_toInt64S.f k l2).bind fun t399 => ((impl_CriticalPipes.f k t389 t392 t396 t399).bind fun bt402 => ((laws_eqInt64S.f k bt402.1 t385).bind fun t406 => (if t406 = true then (laws_FnExactCriticalPipes.j0 k l1 l2 t385 t388 t396 t399 bt402.1 bt402.2 (bt402.2 != t388) l0_0 l0_1 t389 t392) else (laws_FnExactCriticalPipes.j0 k l1 l2 t385 t388 t396 t399 bt402.1 bt402.2 true l0_0 l0_1 t389 t392))))) = some r := H
    have A18 := Aside0.mk A180
    clear A180
    replace H := Option.bind_eq_some_iff.mp H
    obtain ⟨t399, A190, H⟩ := H
    replace H : ((impl_CriticalPipes.f k t389 t392 t396 t399).bind fun bt402 => ((laws_eqInt64S.f k bt402.1 t385).bind fun t406 => (if t406 = true then (laws_FnExactCriticalPipes.j0 k l1 l2 t385 t388 t396 t399 bt402.1 bt402.2 (bt402.2 != t388) l0_0 l0_1 t389 t392) else (laws_FnExactCriticalPipes.j0 k l1 l2 t385 t388 t396 t399 bt402.1 bt402.2 true l0_0 l0_1 t389 t392)))) = some r := H
    have A19 := Aside0.mk A190
    clear A190
    replace H := Option.bind_eq_some_iff.mp H
    obtain ⟨⟨t402, t405⟩, A200, H⟩ := H
    replace H : ((laws_eqInt64S.f k t402 t385).bind fun t406 => (if t406 = true then (laws_FnExactCriticalPipes.j0 k l1 l2 t385 t388 t396 t399 t402 t405 (t405 != t388) l0_0 l0_1 t389 t392) else (laws_FnExactCriticalPipes.j0 k l1 l2 t385 t388 t396 t399 t402 t405 true l0_0 l0_1 t389 t392))) = some r := H
    have A20 := Aside0.mk A200
    clear A200
    have HC21 := Aside0.mk H
    clear H
    go_enter Try.func10, Try.ntmps10
    go_upto_region 14 with (first | ((with_reducible refine gate_dst (N := 3) rfl ?_); refine box_event ?hg (N := 3) ?hd (cs := #[.slice A0_0 l0_0.length c0_0, .slice A0_1 l0_1.length c0_1]) (t := 25) ?hr ?_; (case hd => rfl); (case hg => rfl); (case hr => first | (go_simp; done) | (go_simp; rfl)); intro gb371 hg w22 hbox hb; have n0_ := Aside0.mk (below_step t1_ hb); have n1_ := Aside0.mk (hbox); have n2_ := Aside0.mk ((by rw [hg]; exact (below_size t1_) : w.heap.size ≤ gb371)); have n3_ := Aside0.mk ((by rw [hg]; exact (below_size t1_) : w.heap.size ≤ gb371)); clear HB; have HB := n0_; have BK371 := n1_; have GW371 := n2_; have GE371 := n3_; clear n0_ n1_ n2_ n3_; clear hb hbox hg; have hcz23_0 : w22.cell? ⟨gb371, 0, none⟩ = some (.slice A0_0 l0_0.length c0_0) := (blk_cell BK371.out 0).trans rfl; have hcz23_1 : w22.cell? ⟨gb371, 1, none⟩ = some (.slice A0_1 l0_1.length c0_1) := (blk_cell BK371.out 1).trans rfl; have hfz23_0 := blk_frozen BK371.out 0; have hfz23_1 := blk_frozen BK371.out 1) | ((with_reducible refine gate_callee (f := 11) rfl ?_); refine goesL_ (some 28) rfl rfl Try.func11 t14_ rfl #[.agg #[.slice A0_0 l0_0.length c0_0, .slice A0_1 l0_1.length c0_1], .int .i64 1048576] rfl t2_ ?_; (with_reducible refine (laws_szNetwork.calls k _ _ l0_0 _ _ l0_1 1048576 t372 _ ?side1 ?side2 ?side3 ?side4 A8.out).mono ?_); (case side1 => repeat (first | exact (Kd.C_below HR0_0.out HB.out) | (with_reducible refine Kd.C_alloc ?_ _) | (with_reducible refine Kd.C_drewN ?_ _) | (with_reducible refine Kd.C_drew ?_))); (case side2 => exact HC0_0.out); (case side3 => repeat (first | exact (Kd.C_below HR0_1.out HB.out) | (with_reducible refine Kd.C_alloc ?_ _) | (with_reducible refine Kd.C_drewN ?_ _) | (with_reducible refine Kd.C_drew ?_))); (case side4 => exact HC0_1.out); rintro e w24 ⟨rfl, hb⟩; refine ⟨_, rfl, ?_⟩; have n0_ := Aside0.mk (blk_below (g := gb371) (o := .cells #[.slice A0_0 l0_0.length c0_0, .slice A0_1 l0_1.length c0_1] 25 (0, 0)) (q1_ BK371.out) hb); have n1_ := Aside0.mk (below_step t17_ hb); clear BK371; clear HB; have BK371 := n0_; have HB := n1_; clear n0_ n1_; (try clear hb); (try clear hb2); (try clear hk); (try clear hi); have hcz25_0 : w24.cell? ⟨gb371, 0, none⟩ = some (.slice A0_0 l0_0.length c0_0) := (blk_cell BK371.out 0).trans rfl; have hcz25_1 : w24.cell? ⟨gb371, 1, none⟩ = some (.slice A0_1 l0_1.length c0_1) := (blk_cell BK371.out 1).trans rfl; have hfz25_0 := blk_frozen BK371.out 0; have hfz25_1 := blk_frozen BK371.out 1) | ((with_reducible refine gate_callee (f := 14) rfl ?_); refine goesL_ (some 33) rfl rfl Try.func14 t14_ rfl #[.agg #[.slice A0_0 l0_0.length c0_0, .slice A0_1 l0_1.length c0_1]] rfl t2_ ?_; (with_reducible refine (laws_toNetwork.calls k _ _ l0_0 _ _ l0_1 t373 t376 _ ?side1 ?side2 ?side3 ?side4 A13.out).mono ?_); (case side1 => repeat (first | exact (Kd.C_below HR0_0.out HB.out) | (with_reducible refine Kd.C_alloc ?_ _) | (with_reducible refine Kd.C_drewN ?_ _) | (with_reducible refine Kd.C_drew ?_))); (case side2 => exact HC0_0.out); (case side3 => repeat (first | exact (Kd.C_below HR0_1.out HB.out) | (with_reducible refine Kd.C_alloc ?_ _) | (with_reducible refine Kd.C_drewN ?_ _) | (with_reducible refine Kd.C_drew ?_))); (case side4 => exact HC0_1.out); rintro e w26 ⟨v374, v377, rfl, ho0, ho1, hb⟩; refine ⟨_, rfl, ?_⟩; have n0_ := Aside0.mk (Kd.R_lower ho0 (below_size t17_)); have n1_ := Aside0.mk (Kd.R_lower ho1 (below_size t17_)); have n2_ := Aside0.mk (blk_below (g := gb371) (o := .cells #[.slice A0_0 l0_0.length c0_0, .slice A0_1 l0_1.length c0_1] 25 (0, 0)) (q1_ BK371.out) hb); have n3_ := Aside0.mk (below_step t17_ hb); clear BK371; clear HB; have HO375 := n0_; have HO378 := n1_; have BK371 := n2_; have HB := n3_; clear n0_ n1_ n2_ n3_; (try clear hb); (try clear hb2); (try clear hk); (try clear hi); (try clear ho0); (try clear ho1)) | ((with_reducible refine gate_callee (f := 22) rfl ?_); refine goesL_ (some 35) rfl rfl Try.func22 t14_ rfl #[.slice A1 l1.length c1] rfl t2_ ?_; (with_reducible refine (laws_toInt64S.calls k _ _ l1 t379 _ ?side1 ?side2 A14.out).mono ?_); (case side1 => repeat (first | exact (Kd.C_below HR1.out HB.out) | (with_reducible refine Kd.C_alloc ?_ _) | (with_reducible refine Kd.C_drewN ?_ _) | (with_reducible refine Kd.C_drew ?_))); (case side2 => exact HC1.out); rintro e w27 ⟨v380, rfl, ho0, hb⟩; refine ⟨_, rfl, ?_⟩; have n0_ := Aside0.mk (Kd.R_elder' (q2_ HO375.out) (Kd.R_base ho0) hb); have n1_ := Aside0.mk (Kd.R_below (q2_ HO378.out) hb); have n2_ := Aside0.mk (Kd.R_lower (Kd.R_new' ho0 (Kd.R_lt (q2_ HO375.out))) (below_size t17_)); have n3_ := Aside0.mk (blk_below (g := gb371) (o := .cells #[.slice A0_0 l0_0.length c0_0, .slice A0_1 l0_1.length c0_1] 25 (0, 0)) (q1_ BK371.out) hb); have n4_ := Aside0.mk (below_step t17_ hb); clear HO375; clear HO378; clear BK371; clear HB; have HO375 := n0_; have HO378 := n1_; have HO381 := n2_; have BK371 := n3_; have HB := n4_; clear n0_ n1_ n2_ n3_ n4_; (try clear hb); (try clear hb2); (try clear hk); (try clear hi); (try clear ho0)) | ((with_reducible refine gate_callee (f := 22) rfl ?_); refine goesL_ (some 37) rfl rfl Try.func22 t14_ rfl #[.slice A2 l2.length c2] rfl t2_ ?_; (with_reducible refine (laws_toInt64S.calls k _ _ l2 t382 _ ?side1 ?side2 A15.out).mono ?_); (case side1 => repeat (first | exact (Kd.C_below HR2.out HB.out) | (with_reducible refine Kd.C_alloc ?_ _) | (with_reducible refine Kd.C_drewN ?_ _) | (with_reducible refine Kd.C_drew ?_))); (case side2 => exact HC2.out); rintro e w28 ⟨v383, rfl, ho0, hb⟩; refine ⟨_, rfl, ?_⟩; have n0_ := Aside0.mk (Kd.R_elder' (q2_ HO375.out) (Kd.R_base ho0) hb); have n1_ := Aside0.mk (Kd.R_below (q2_ HO378.out) hb); have n2_ := Aside0.mk (Kd.R_elder' (q2_ HO381.out) (Kd.R_base ho0) hb); have n3_ := Aside0.mk (Kd.R_lower (Kd.R_new' (Kd.R_new' ho0 (Kd.R_lt (q2_ HO375.out))) (Kd.R_lt (q2_ HO381.out))) (below_size t17_)); have n4_ := Aside0.mk (blk_below (g := gb371) (o := .cells #[.slice A0_0 l0_0.length c0_0, .slice A0_1 l0_1.length c0_1] 25 (0, 0)) (q1_ BK371.out) hb); have n5_ := Aside0.mk (below_step t17_ hb); clear HO375; clear HO378; clear HO381; clear BK371; clear HB; have HO375 := n0_; have HO378 := n1_; have HO381 := n2_; have HO384 := n3_; have BK371 := n4_; have HB := n5_; clear n0_ n1_ n2_ n3_ n4_ n5_; (try clear hb); (try clear hb2); (try clear hk); (try clear hi); (try clear ho0); obtain ⟨Ao29, co29, eo29⟩ := Kd.R_slice HO375.out; subst eo29; obtain ⟨Ao30, co30, eo30⟩ := Kd.R_slice HO378.out; subst eo30; obtain ⟨Ao31, co31, eo31⟩ := Kd.R_slice HO381.out; subst eo31; obtain ⟨Ao32, co32, eo32⟩ := Kd.R_slice HO384.out; subst eo32) | ((with_reducible refine gate_callee (f := 36) rfl ?_); refine goesL_ (some 38) rfl rfl Try.func36 t14_ rfl #[.agg #[.slice Ao29 t373.length co29, .slice Ao30 t376.length co30], .slice Ao31 t379.length co31, .slice Ao32 t382.length co32] rfl t2_ ?_; (with_reducible refine (spec_CriticalPipes.calls k _ _ t373 _ _ t376 _ _ t379 _ _ t382 t385 t388 _ ?side1 ?side2 ?side3 ?side4 ?side5 ?side6 ?side7 ?side8 A16.out).mono ?_); (case side1 => repeat (first | exact (Kd.R_reads' HO375.out).2.2 | (with_reducible refine Kd.C_alloc ?_ _) | (with_reducible refine Kd.C_drewN ?_ _) | (with_reducible refine Kd.C_drew ?_))); (case side2 => exact (Kd.R_reads' HO375.out).2.1); (case side3 => repeat (first | exact (Kd.R_reads' HO378.out).2.2 | (with_reducible refine Kd.C_alloc ?_ _) | (with_reducible refine Kd.C_drewN ?_ _) | (with_reducible refine Kd.C_drew ?_))); (case side4 => exact (Kd.R_reads' HO378.out).2.1); (case side5 => repeat (first | exact (Kd.R_reads' HO381.out).2.2 | (with_reducible refine Kd.C_alloc ?_ _) | (with_reducible refine Kd.C_drewN ?_ _) | (with_reducible refine Kd.C_drew ?_))); (case side6 => exact (Kd.R_reads' HO381.out).2.1); (case side7 => repeat (first | exact (Kd.R_reads' HO384.out).2.2 | (with_reducible refine Kd.C_alloc ?_ _) | (with_reducible refine Kd.C_drewN ?_ _) | (with_reducible refine Kd.C_drew ?_))); (case side8 => exact (Kd.R_reads' HO384.out).2.1); rintro e w33 ⟨v386, rfl, ho0, hb⟩; refine ⟨_, rfl, ?_⟩; have n0_ := Aside0.mk (Kd.R_elder' (q2_ HO375.out) (Kd.R_base ho0) hb); have n1_ := Aside0.mk (Kd.R_below (q2_ HO378.out) hb); have n2_ := Aside0.mk (Kd.R_elder' (q2_ HO381.out) (Kd.R_base ho0) hb); have n3_ := Aside0.mk (Kd.R_elder' (q2_ HO384.out) (Kd.R_base ho0) hb); have n4_ := Aside0.mk (Kd.R_lower (Kd.R_new' (Kd.R_new' (Kd.R_new' ho0 (Kd.R_lt (q2_ HO375.out))) (Kd.R_lt (q2_ HO381.out))) (Kd.R_lt (q2_ HO384.out))) (below_size t17_)); have n5_ := Aside0.mk (blk_below (g := gb371) (o := .cells #[.slice A0_0 l0_0.length c0_0, .slice A0_1 l0_1.length c0_1] 25 (0, 0)) (q1_ BK371.out) hb); have n6_ := Aside0.mk (below_step t17_ hb); clear HO375; clear HO378; clear HO381; clear HO384; clear BK371; clear HB; have HO375 := n0_; have HO378 := n1_; have HO381 := n2_; have HO384 := n3_; have HO387 := n4_; have BK371 := n5_; have HB := n6_; clear n0_ n1_ n2_ n3_ n4_ n5_ n6_; (try clear hb); (try clear hb2); (try clear hk); (try clear hi); (try clear ho0); have hcz34_0 : w33.cell? ⟨gb371, 0, none⟩ = some (.slice A0_0 l0_0.length c0_0) := (blk_cell BK371.out 0).trans rfl; have hcz34_1 : w33.cell? ⟨gb371, 1, none⟩ = some (.slice A0_1 l0_1.length c0_1) := (blk_cell BK371.out 1).trans rfl; have hfz34_0 := blk_frozen BK371.out 0; have hfz34_1 := blk_frozen BK371.out 1) | ((with_reducible refine gate_callee (f := 14) rfl ?_); refine goesL_ (some 42) rfl rfl Try.func14 t14_ rfl #[.agg #[.slice A0_0 l0_0.length c0_0, .slice A0_1 l0_1.length c0_1]] rfl t2_ ?_; (with_reducible refine (laws_toNetwork.calls k _ _ l0_0 _ _ l0_1 t389 t392 _ ?side1 ?side2 ?side3 ?side4 A17.out).mono ?_); (case side1 => repeat (first | exact (Kd.C_below HR0_0.out HB.out) | (with_reducible refine Kd.C_alloc ?_ _) | (with_reducible refine Kd.C_drewN ?_ _) | (with_reducible refine Kd.C_drew ?_))); (case side2 => exact HC0_0.out); (case side3 => repeat (first | exact (Kd.C_below HR0_1.out HB.out) | (with_reducible refine Kd.C_alloc ?_ _) | (with_reducible refine Kd.C_drewN ?_ _) | (with_reducible refine Kd.C_drew ?_))); (case side4 => exact HC0_1.out); rintro e w35 ⟨v390, v393, rfl, ho0, ho1, hb⟩; refine ⟨_, rfl, ?_⟩; have n0_ := Aside0.mk (Kd.R_elder' (q2_ HO375.out) (Kd.R_base ho0) hb); have n1_ := Aside0.mk (Kd.R_elder' (q2_ HO378.out) (Kd.R_base ho1) hb); have n2_ := Aside0.mk (Kd.R_elder' (q2_ HO381.out) (Kd.R_base ho0) hb); have n3_ := Aside0.mk (Kd.R_elder' (q2_ HO384.out) (Kd.R_base ho0) hb); have n4_ := Aside0.mk (Kd.R_elder' (q2_ HO387.out) (Kd.R_base ho0) hb); have n5_ := Aside0.mk (Kd.R_lower (Kd.R_new' (Kd.R_new' (Kd.R_new' (Kd.R_new' ho0 (Kd.R_lt (q2_ HO375.out))) (Kd.R_lt (q2_ HO381.out))) (Kd.R_lt (q2_ HO384.out))) (Kd.R_lt (q2_ HO387.out))) (below_size t17_)); have n6_ := Aside0.mk (Kd.R_lower (Kd.R_new' ho1 (Kd.R_lt (q2_ HO378.out))) (below_size t17_)); have n7_ := Aside0.mk (blk_below (g := gb371) (o := .cells #[.slice A0_0 l0_0.length c0_0, .slice A0_1 l0_1.length c0_1] 25 (0, 0)) (q1_ BK371.out) hb); have n8_ := Aside0.mk (below_step t17_ hb); clear HO375; clear HO378; clear HO381; clear HO384; clear HO387; clear BK371; clear HB; have HO375 := n0_; have HO378 := n1_; have HO381 := n2_; have HO384 := n3_; have HO387 := n4_; have HO391 := n5_; have HO394 := n6_; have BK371 := n7_; have HB := n8_; clear n0_ n1_ n2_ n3_ n4_ n5_ n6_ n7_ n8_; (try clear hb); (try clear hb2); (try clear hk); (try clear hi); (try clear ho0); (try clear ho1)) | ((with_reducible refine gate_dst (N := 10) rfl ?_); refine box_event ?hg (N := 10) ?hd (cs := #[.slice none 0 0, .slice none 0 0]) (t := 32) ?hr ?_; (case hd => rfl); (case hg => rfl); (case hr => first | (go_simp; done) | (go_simp; rfl)); intro gb395 hg w36 hbox hb; have n0_ := Aside0.mk (Kd.R_below (q2_ HO375.out) hb); have n1_ := Aside0.mk (Kd.R_below (q2_ HO378.out) hb); have n2_ := Aside0.mk (Kd.R_below (q2_ HO381.out) hb); have n3_ := Aside0.mk (Kd.R_below (q2_ HO384.out) hb); have n4_ := Aside0.mk (Kd.R_below (q2_ HO387.out) hb); have n5_ := Aside0.mk (Kd.R_below (q2_ HO391.out) hb); have n6_ := Aside0.mk (Kd.R_below (q2_ HO394.out) hb); have n7_ := Aside0.mk (blk_below (g := gb371) (o := .cells #[.slice A0_0 l0_0.length c0_0, .slice A0_1 l0_1.length c0_1] 25 (0, 0)) (q1_ BK371.out) hb); have n8_ := Aside0.mk (below_step t17_ hb); have n9_ := Aside0.mk (hbox); have n10_ := Aside0.mk ((by rw [hg]; exact (below_size t17_) : w.heap.size ≤ gb395)); have n11_ := Aside0.mk ((by rw [hg]; exact (below_size t17_) : w.heap.size ≤ gb395)); have n12_ := Aside0.mk ((by rw [hg]; exact Nat.ne_of_lt (blk_lt (g := gb371) (o := .cells #[.slice A0_0 l0_0.length c0_0, .slice A0_1 l0_1.length c0_1] 25 (0, 0)) (q1_ BK371.out)) : gb371 ≠ gb395)); have n13_ := Aside0.mk ((by rw [hg]; exact Nat.ne_of_gt (blk_lt (g := gb371) (o := .cells #[.slice A0_0 l0_0.length c0_0, .slice A0_1 l0_1.length c0_1] 25 (0, 0)) (q1_ BK371.out)) : gb395 ≠ gb371)); clear HO375; clear HO378; clear HO381; clear HO384; clear HO387; clear HO391; clear HO394; clear BK371; clear HB; have HO375 := n0_; have HO378 := n1_; have HO381 := n2_; have HO384 := n3_; have HO387 := n4_; have HO391 := n5_; have HO394 := n6_; have BK371 := n7_; have HB := n8_; have BK395 := n9_; have GW395 := n10_; have GE395 := n11_; have NB371_395 := n12_; have NB395_371 := n13_; clear n0_ n1_ n2_ n3_ n4_ n5_ n6_ n7_ n8_ n9_ n10_ n11_ n12_ n13_; clear hb hbox hg; obtain ⟨Ao37, co37, eo37⟩ := Kd.R_slice HO391.out; subst eo37; have hnb38 := NB395_371.out; have hnc38 := NB371_395.out; have hcz39_0 : w36.cell? ⟨gb395, 0, none⟩ = some (.slice none 0 0) := (blk_cell BK395.out 0).trans rfl; have hcz39_1 : w36.cell? ⟨gb395, 1, none⟩ = some (.slice none 0 0) := (blk_cell BK395.out 1).trans rfl; have hfz39_0 := blk_frozen BK395.out 0; have hfz39_1 := blk_frozen BK395.out 1; obtain ⟨Ao40, co40, eo40⟩ := Kd.R_slice HO394.out; subst eo40) | ((with_reducible refine gate_callee (f := 22) rfl ?_); refine goesL_ (some 44) rfl rfl Try.func22 t14_ rfl #[.slice A1 l1.length c1] rfl t2_ ?_; (with_reducible refine (laws_toInt64S.calls k _ _ l1 t396 _ ?side1 ?side2 A18.out).mono ?_); (case side1 => exact Kd.C_below HR1.out t4_); (case side2 => exact HC1.out); rintro e w41 ⟨v397, rfl, ho0, hb⟩; refine ⟨_, rfl, ?_⟩; have n0_ := Aside0.mk (Kd.R_elder' t61_ (Kd.R_base ho0) hb); have n1_ := Aside0.mk (Kd.R_below (by (with_reducible repeat (first | apply Kd.R_alloc | apply Kd.R_drewN | apply Kd.R_drew)); exact (Kd.R_mono (Kd.R_far (p := ⟨gb395, 1, none⟩) (Kd.R_far (p := ⟨gb395, 0, none⟩) (Kd.R_types HO378.out BK395.out t31_) (fun _ hk => hk.2) (.slice Ao37 t389.length co37)) (fun _ hk => hk.2) (.slice Ao40 t392.length co40)) (fun _ h_ => h_.1))) hb); have n2_ := Aside0.mk (Kd.R_elder' t60_ (Kd.R_base ho0) hb); have n3_ := Aside0.mk (Kd.R_elder' t59_ (Kd.R_base ho0) hb); have n4_ := Aside0.mk (Kd.R_elder' t58_ (Kd.R_base ho0) hb); have n5_ := Aside0.mk (Kd.R_elder' t57_ (Kd.R_base ho0) hb); have n6_ := Aside0.mk (Kd.R_below (by (with_reducible repeat (first | apply Kd.R_alloc | apply Kd.R_drewN | apply Kd.R_drew)); exact (Kd.R_mono (Kd.R_far (p := ⟨gb395, 1, none⟩) (Kd.R_far (p := ⟨gb395, 0, none⟩) (Kd.R_types HO394.out BK395.out t31_) (fun _ hk => hk.2) (.slice Ao37 t389.length co37)) (fun _ hk => hk.2) (.slice Ao40 t392.length co40)) (fun _ h_ => h_.1))) hb); have n7_ := Aside0.mk (Kd.R_lower (Kd.R_new' (Kd.R_new' (Kd.R_new' (Kd.R_new' (Kd.R_new' ho0 (Kd.R_lt t61_)) (Kd.R_lt t60_)) (Kd.R_lt t59_)) (Kd.R_lt t58_)) (Kd.R_lt t57_)) (below_size t4_)); have n8_ := Aside0.mk (blk_below (g := gb371) (o := .cells #[.slice A0_0 l0_0.length c0_0, .slice A0_1 l0_1.length c0_1] 25 (0, 0)) (by (with_reducible repeat (first | refine blk_drewN ?_ _ | refine blk_drew ?_ | refine blk_alloc ?_ _)); refine blk_far ?_ NB371_395.out _; (with_reducible repeat (first | refine blk_drewN ?_ _ | refine blk_drew ?_ | refine blk_alloc ?_ _)); refine blk_far ?_ NB371_395.out _; (with_reducible repeat (first | refine blk_drewN ?_ _ | refine blk_drew ?_ | refine blk_alloc ?_ _)); exact BK371.out) hb); have n9_ := Aside0.mk (blk_below (g := gb395) (o := .cells #[.slice Ao37 t389.length co37, .slice Ao40 t392.length co40] 32 (0, 0)) (by (with_reducible repeat (first | refine blk_drewN ?_ _ | refine blk_drew ?_ | refine blk_alloc ?_ _)); refine blk_put (cs := #[.slice Ao37 t389.length co37, .slice none 0 0]) ?_ 1 _ rfl; (with_reducible repeat (first | refine blk_drewN ?_ _ | refine blk_drew ?_ | refine blk_alloc ?_ _)); refine blk_put (cs := #[.slice none 0 0, .slice none 0 0]) ?_ 0 _ rfl; (with_reducible repeat (first | refine blk_drewN ?_ _ | refine blk_drew ?_ | refine blk_alloc ?_ _)); exact BK395.out) hb); have n10_ := Aside0.mk (below_step t4_ hb); clear HO375; clear HO378; clear HO381; clear HO384; clear HO387; clear HO391; clear HO394; clear BK371; clear BK395; clear HB; have HO375 := n0_; have HO378 := n1_; have HO381 := n2_; have HO384 := n3_; have HO387 := n4_; have HO391 := n5_; have HO394 := n6_; have HO398 := n7_; have BK371 := n8_; have BK395 := n9_; have HB := n10_; clear n0_ n1_ n2_ n3_ n4_ n5_ n6_ n7_ n8_ n9_ n10_; (try clear hb); (try clear hb2); (try clear hk); (try clear hi); (try clear ho0)) | ((with_reducible refine gate_callee (f := 22) rfl ?_); refine goesL_ (some 46) rfl rfl Try.func22 t14_ rfl #[.slice A2 l2.length c2] rfl t2_ ?_; (with_reducible refine (laws_toInt64S.calls k _ _ l2 t399 _ ?side1 ?side2 A19.out).mono ?_); (case side1 => repeat (first | exact (Kd.C_below HR2.out HB.out) | (with_reducible refine Kd.C_alloc ?_ _) | (with_reducible refine Kd.C_drewN ?_ _) | (with_reducible refine Kd.C_drew ?_))); (case side2 => exact HC2.out); rintro e w42 ⟨v400, rfl, ho0, hb⟩; refine ⟨_, rfl, ?_⟩; have n0_ := Aside0.mk (Kd.R_elder' (q2_ HO375.out) (Kd.R_base ho0) hb); have n1_ := Aside0.mk (Kd.R_below (q2_ HO378.out) hb); have n2_ := Aside0.mk (Kd.R_elder' (q2_ HO381.out) (Kd.R_base ho0) hb); have n3_ := Aside0.mk (Kd.R_elder' (q2_ HO384.out) (Kd.R_base ho0) hb); have n4_ := Aside0.mk (Kd.R_elder' (q2_ HO387.out) (Kd.R_base ho0) hb); have n5_ := Aside0.mk (Kd.R_elder' (q2_ HO391.out) (Kd.R_base ho0) hb); have n6_ := Aside0.mk (Kd.R_below (q2_ HO394.out) hb); have n7_ := Aside0.mk (Kd.R_elder' (q2_ HO398.out) (Kd.R_base ho0) hb); have n8_ := Aside0.mk (Kd.R_lower (Kd.R_new' (Kd.R_new' (Kd.R_new' (Kd.R_new' (Kd.R_new' (Kd.R_new' ho0 (Kd.R_lt (q2_ HO375.out))) (Kd.R_lt (q2_ HO381.out))) (Kd.R_lt (q2_ HO384.out))) (Kd.R_lt (q2_ HO387.out))) (Kd.R_lt (q2_ HO391.out))) (Kd.R_lt (q2_ HO398.out))) (below_size t4_)); have n9_ := Aside0.mk (blk_below (g := gb371) (o := .cells #[.slice A0_0 l0_0.length c0_0, .slice A0_1 l0_1.length c0_1] 25 (0, 0)) (q1_ BK371.out) hb); have n10_ := Aside0.mk (blk_below (g := gb395) (o := .cells #[.slice Ao37 t389.length co37, .slice Ao40 t392.length co40] 32 (0, 0)) (q1_ BK395.out) hb); have n11_ := Aside0.mk (below_step t4_ hb); clear HO375; clear HO378; clear HO381; clear HO384; clear HO387; clear HO391; clear HO394; clear HO398; clear BK371; clear BK395; clear HB; have HO375 := n0_; have HO378 := n1_; have HO381 := n2_; have HO384 := n3_; have HO387 := n4_; have HO391 := n5_; have HO394 := n6_; have HO398 := n7_; have HO401 := n8_; have BK371 := n9_; have BK395 := n10_; have HB := n11_; clear n0_ n1_ n2_ n3_ n4_ n5_ n6_ n7_ n8_ n9_ n10_ n11_; (try clear hb); (try clear hb2); (try clear hk); (try clear hi); (try clear ho0); have hcz43_0 : w42.cell? ⟨gb395, 0, none⟩ = some (.slice Ao37 t389.length co37) := (blk_cell BK395.out 0).trans rfl; have hcz43_1 : w42.cell? ⟨gb395, 1, none⟩ = some (.slice Ao40 t392.length co40) := (blk_cell BK395.out 1).trans rfl; have hfz43_0 := blk_frozen BK395.out 0; have hfz43_1 := blk_frozen BK395.out 1; obtain ⟨Ao44, co44, eo44⟩ := Kd.R_slice HO398.out; subst eo44; obtain ⟨Ao45, co45, eo45⟩ := Kd.R_slice HO401.out; subst eo45) | ((with_reducible refine gate_callee (f := 37) rfl ?_); refine goesL_ (some 51) rfl rfl Try.func37 t14_ rfl #[.agg #[.slice Ao37 t389.length co37, .slice Ao40 t392.length co40], .slice Ao44 t396.length co44, .slice Ao45 t399.length co45] rfl t2_ ?_; (with_reducible refine (impl_CriticalPipes.calls k _ _ t389 _ _ t392 _ _ t396 _ _ t399 t402 t405 _ ?side1 ?side2 ?side3 ?side4 ?side5 ?side6 ?side7 ?side8 A20.out).mono ?_); (case side1 => repeat (first | exact (Kd.R_reads' HO391.out).2.2 | (with_reducible refine Kd.C_alloc ?_ _) | (with_reducible refine Kd.C_drewN ?_ _) | (with_reducible refine Kd.C_drew ?_))); (case side2 => exact (Kd.R_reads' HO391.out).2.1); (case side3 => repeat (first | exact (Kd.R_reads' HO394.out).2.2 | (with_reducible refine Kd.C_alloc ?_ _) | (with_reducible refine Kd.C_drewN ?_ _) | (with_reducible refine Kd.C_drew ?_))); (case side4 => exact (Kd.R_reads' HO394.out).2.1); (case side5 => repeat (first | exact (Kd.R_reads' HO398.out).2.2 | (with_reducible refine Kd.C_alloc ?_ _) | (with_reducible refine Kd.C_drewN ?_ _) | (with_reducible refine Kd.C_drew ?_))); (case side6 => exact (Kd.R_reads' HO398.out).2.1); (case side7 => repeat (first | exact (Kd.R_reads' HO401.out).2.2 | (with_reducible refine Kd.C_alloc ?_ _) | (with_reducible refine Kd.C_drewN ?_ _) | (with_reducible refine Kd.C_drew ?_))); (case side8 => exact (Kd.R_reads' HO401.out).2.1); rintro e w46 ⟨v403, rfl, ho0, hb⟩; refine ⟨_, rfl, ?_⟩; have n0_ := Aside0.mk (Kd.R_elder' (q2_ HO375.out) (Kd.R_base ho0) hb); have n1_ := Aside0.mk (Kd.R_below (q2_ HO378.out) hb); have n2_ := Aside0.mk (Kd.R_elder' (q2_ HO381.out) (Kd.R_base ho0) hb); have n3_ := Aside0.mk (Kd.R_elder' (q2_ HO384.out) (Kd.R_base ho0) hb); have n4_ := Aside0.mk (Kd.R_elder' (q2_ HO387.out) (Kd.R_base ho0) hb); have n5_ := Aside0.mk (Kd.R_elder' (q2_ HO391.out) (Kd.R_base ho0) hb); have n6_ := Aside0.mk (Kd.R_below (q2_ HO394.out) hb); have n7_ := Aside0.mk (Kd.R_elder' (q2_ HO398.out) (Kd.R_base ho0) hb); have n8_ := Aside0.mk (Kd.R_elder' (q2_ HO401.out) (Kd.R_base ho0) hb); have n9_ := Aside0.mk (Kd.R_lower (Kd.R_new' (Kd.R_new' (Kd.R_new' (Kd.R_new' (Kd.R_new' (Kd.R_new' (Kd.R_new' ho0 (Kd.R_lt (q2_ HO375.out))) (Kd.R_lt (q2_ HO381.out))) (Kd.R_lt (q2_ HO384.out))) (Kd.R_lt (q2_ HO387.out))) (Kd.R_lt (q2_ HO391.out))) (Kd.R_lt (q2_ HO398.out))) (Kd.R_lt (q2_ HO401.out))) (below_size t4_)); have n10_ := Aside0.mk (blk_below (g := gb371) (o := .cells #[.slice A0_0 l0_0.length c0_0, .slice A0_1 l0_1.length c0_1] 25 (0, 0)) (q1_ BK371.out) hb); have n11_ := Aside0.mk (blk_below (g := gb395) (o := .cells #[.slice Ao37 t389.length co37, .slice Ao40 t392.length co40] 32 (0, 0)) (q1_ BK395.out) hb); have n12_ := Aside0.mk (below_step t4_ hb); clear HO375; clear HO378; clear HO381; clear HO384; clear HO387; clear HO391; clear HO394; clear HO398; clear HO401; clear BK371; clear BK395; clear HB; have HO375 := n0_; have HO378 := n1_; have HO381 := n2_; have HO384 := n3_; have HO387 := n4_; have HO391 := n5_; have HO394 := n6_; have HO398 := n7_; have HO401 := n8_; have HO404 := n9_; have BK371 := n10_; have BK395 := n11_; have HB := n12_; clear n0_ n1_ n2_ n3_ n4_ n5_ n6_ n7_ n8_ n9_ n10_ n11_ n12_; (try clear hb); (try clear hb2); (try clear hk); (try clear hi); (try clear ho0)))
    (try simp only [Act.put, List.setIfInBounds_toArray, List.set_cons_zero, List.set_cons_succ])
    go_cut [62] (fun v62 wc => ∃ (kq : Nat) (x62_20 : Bool), v62 = .bool x62_20 ∧ Aside0 (laws_FnExactCriticalPipes.j0 kq l1 l2 t385 t388 t396 t399 t402 t405 x62_20 l0_0 l0_1 t389 t392 = some r) ∧ Aside0 (kq ≤ k) ∧ Aside0 (Kd.R (Kd.int .i64) 2 wc w.heap.size (fun k_ => some k_ ≠ ((.slice Ao44 t396.length co44) : Value).ownBlock ∧ some k_ ≠ ((.slice Ao45 t399.length co45) : Value).ownBlock ∧ some k_ ≠ (v403 : Value).ownBlock ∧ some k_ ≠ ((.slice Ao37 t389.length co37) : Value).ownBlock) v386 t385) ∧ Aside0 (Kd.R (Kd.int .i64) 2 wc w.heap.size (fun k_ => some k_ ≠ (v386 : Value).ownBlock ∧ some k_ ≠ ((.slice Ao45 t399.length co45) : Value).ownBlock ∧ some k_ ≠ (v403 : Value).ownBlock ∧ some k_ ≠ ((.slice Ao37 t389.length co37) : Value).ownBlock) (.slice Ao44 t396.length co44) t396) ∧ Aside0 (Kd.R (Kd.int .i64) 2 wc w.heap.size (fun k_ => some k_ ≠ (v386 : Value).ownBlock ∧ some k_ ≠ ((.slice Ao44 t396.length co44) : Value).ownBlock ∧ some k_ ≠ (v403 : Value).ownBlock ∧ some k_ ≠ ((.slice Ao37 t389.length co37) : Value).ownBlock) (.slice Ao45 t399.length co45) t399) ∧ Aside0 (Kd.R (Kd.int .i64) 2 wc w.heap.size (fun k_ => some k_ ≠ (v386 : Value).ownBlock ∧ some k_ ≠ ((.slice Ao44 t396.length co44) : Value).ownBlock ∧ some k_ ≠ ((.slice Ao45 t399.length co45) : Value).ownBlock ∧ some k_ ≠ ((.slice Ao37 t389.length co37) : Value).ownBlock) v403 t402) ∧ Aside0 (Kd.R (Kd.int .i64) 2 wc w.heap.size (fun k_ => some k_ ≠ (v386 : Value).ownBlock ∧ some k_ ≠ ((.slice Ao44 t396.length co44) : Value).ownBlock ∧ some k_ ≠ ((.slice Ao45 t399.length co45) : Value).ownBlock ∧ some k_ ≠ (v403 : Value).ownBlock) (.slice Ao37 t389.length co37) t389) ∧ Aside0 (Kd.R k80 80 wc w.heap.size (fun _ => True) (.slice Ao40 t392.length co40) t392) ∧ Aside0 (wc.heap[gb371]? = some (.cells #[(.slice A0_0 l0_0.length c0_0), (.slice A0_1 l0_1.length c0_1)] 25 (0, 0))) ∧ Aside0 (wc.heap[gb395]? = some (.cells #[(.slice Ao37 t389.length co37), (.slice Ao40 t392.length co40)] 32 (0, 0))) ∧ Aside0 (Below w.heap.size w wc))
    case first =>
     have H := HC21.out
     clear HC21
     replace H := Option.bind_eq_some_iff.mp H
     obtain ⟨t406, A470, H⟩ := H
     replace H : (if t406 = true then (laws_FnExactCriticalPipes.j0 k l1 l2 t385 t388 t396 t399 t402 t405 (t405 != t388) l0_0 l0_1 t389 t392) else (laws_FnExactCriticalPipes.j0 k l1 l2 t385 t388 t396 t399 t402 t405 true l0_0 l0_1 t389 t392)) = some r := H
     have A47 := Aside0.mk A470
     clear A470
     by_cases c48 : t406 = true
     ·subst c48
      have H1 : (laws_FnExactCriticalPipes.j0 k l1 l2 t385 t388 t396 t399 t402 t405 (t405 != t388) l0_0 l0_1 t389 t392) = some r := by rw [if_pos rfl] at H; exact H
      clear H
      have H := H1
      clear H1
      have H' := Aside0.mk H
      clear H
      obtain ⟨Ao49, co49, eo49⟩ := Kd.R_slice HO404.out
      subst eo49
      obtain ⟨Ao50, co50, eo50⟩ := Kd.R_slice HO387.out
      subst eo50
      go_wp2_with (first | ((with_reducible refine gate_callee (f := 24) rfl ?_); refine goesL_ (some 56) rfl rfl Try.func24 t14_ rfl #[.slice Ao49 t402.length co49, .slice Ao50 t385.length co50] rfl t2_ ?_; (with_reducible refine (laws_eqInt64S.calls k _ _ t402 _ _ t385 true _ ?side1 ?side2 ?side3 ?side4 A47.out).mono ?_); (case side1 => repeat (first | exact (Kd.R_reads' HO404.out).2.2 | (with_reducible refine Kd.C_alloc ?_ _) | (with_reducible refine Kd.C_drewN ?_ _) | (with_reducible refine Kd.C_drew ?_))); (case side2 => exact (Kd.R_reads' HO404.out).2.1); (case side3 => repeat (first | exact (Kd.R_reads' HO387.out).2.2 | (with_reducible refine Kd.C_alloc ?_ _) | (with_reducible refine Kd.C_drewN ?_ _) | (with_reducible refine Kd.C_drew ?_))); (case side4 => exact (Kd.R_reads' HO387.out).2.1); rintro e w' ⟨rfl, ⟨nd, rfl⟩⟩; refine ⟨_, rfl, ?_⟩))
      go_meet
      case rel => exact ⟨_, ((t405 != t388)), t6_, H', ⟨t42_⟩, ⟨(by (with_reducible repeat (first | apply Kd.R_alloc | apply Kd.R_drewN | apply Kd.R_drew)); exact Kd.R_mono HO387.out (fun _ hk => ⟨hk.1.1.2, ⟨hk.1.2, ⟨hk.2, hk.1.1.1.2⟩⟩⟩))⟩, ⟨(by (with_reducible repeat (first | apply Kd.R_alloc | apply Kd.R_drewN | apply Kd.R_drew)); exact Kd.R_mono HO398.out (fun _ hk => ⟨hk.1.1.1.2, ⟨hk.1.2, ⟨hk.2, hk.1.1.2⟩⟩⟩))⟩, ⟨(by (with_reducible repeat (first | apply Kd.R_alloc | apply Kd.R_drewN | apply Kd.R_drew)); exact Kd.R_mono HO401.out (fun _ hk => ⟨hk.1.1.1.2, ⟨hk.1.2, ⟨hk.2, hk.1.1.2⟩⟩⟩))⟩, ⟨(by (with_reducible repeat (first | apply Kd.R_alloc | apply Kd.R_drewN | apply Kd.R_drew)); exact Kd.R_mono HO404.out (fun _ hk => ⟨hk.1.1.1.2, ⟨hk.1.2, ⟨hk.2, hk.1.1.2⟩⟩⟩))⟩, ⟨(by (with_reducible repeat (first | apply Kd.R_alloc | apply Kd.R_drewN | apply Kd.R_drew)); exact Kd.R_mono HO391.out (fun _ hk => ⟨hk.1.1.1.2, ⟨hk.1.1.2, ⟨hk.1.2, hk.2⟩⟩⟩))⟩, ⟨(by (with_reducible repeat (first | apply Kd.R_alloc | apply Kd.R_drewN | apply Kd.R_drew)); exact Kd.R_mono HO394.out (fun _ hk => trivial))⟩, ⟨t48_⟩, ⟨t47_⟩, ⟨t4_⟩⟩
     ·replace c48 := Bool.eq_false_iff.mpr c48
      subst c48
      have H1 : (laws_FnExactCriticalPipes.j0 k l1 l2 t385 t388 t396 t399 t402 t405 true l0_0 l0_1 t389 t392) = some r := by rw [if_neg (show ¬ (false = true) by decide)] at H; exact H
      clear H
      have H := H1
      clear H1
      have H' := Aside0.mk H
      clear H
      obtain ⟨Ao51, co51, eo51⟩ := Kd.R_slice HO404.out
      subst eo51
      obtain ⟨Ao52, co52, eo52⟩ := Kd.R_slice HO387.out
      subst eo52
      go_wp2_with (first | ((with_reducible refine gate_callee (f := 24) rfl ?_); refine goesL_ (some 56) rfl rfl Try.func24 t14_ rfl #[.slice Ao51 t402.length co51, .slice Ao52 t385.length co52] rfl t2_ ?_; (with_reducible refine (laws_eqInt64S.calls k _ _ t402 _ _ t385 false _ ?side1 ?side2 ?side3 ?side4 A47.out).mono ?_); (case side1 => repeat (first | exact (Kd.R_reads' HO404.out).2.2 | (with_reducible refine Kd.C_alloc ?_ _) | (with_reducible refine Kd.C_drewN ?_ _) | (with_reducible refine Kd.C_drew ?_))); (case side2 => exact (Kd.R_reads' HO404.out).2.1); (case side3 => repeat (first | exact (Kd.R_reads' HO387.out).2.2 | (with_reducible refine Kd.C_alloc ?_ _) | (with_reducible refine Kd.C_drewN ?_ _) | (with_reducible refine Kd.C_drew ?_))); (case side4 => exact (Kd.R_reads' HO387.out).2.1); rintro e w' ⟨rfl, ⟨nd, rfl⟩⟩; refine ⟨_, rfl, ?_⟩))
      go_meet
      case rel => exact ⟨_, (true), t6_, H', ⟨t42_⟩, ⟨(by (with_reducible repeat (first | apply Kd.R_alloc | apply Kd.R_drewN | apply Kd.R_drew)); exact Kd.R_mono HO387.out (fun _ hk => ⟨hk.1.1.2, ⟨hk.1.2, ⟨hk.2, hk.1.1.1.2⟩⟩⟩))⟩, ⟨(by (with_reducible repeat (first | apply Kd.R_alloc | apply Kd.R_drewN | apply Kd.R_drew)); exact Kd.R_mono HO398.out (fun _ hk => ⟨hk.1.1.1.2, ⟨hk.1.2, ⟨hk.2, hk.1.1.2⟩⟩⟩))⟩, ⟨(by (with_reducible repeat (first | apply Kd.R_alloc | apply Kd.R_drewN | apply Kd.R_drew)); exact Kd.R_mono HO401.out (fun _ hk => ⟨hk.1.1.1.2, ⟨hk.1.2, ⟨hk.2, hk.1.1.2⟩⟩⟩))⟩, ⟨(by (with_reducible repeat (first | apply Kd.R_alloc | apply Kd.R_drewN | apply Kd.R_drew)); exact Kd.R_mono HO404.out (fun _ hk => ⟨hk.1.1.1.2, ⟨hk.1.2, ⟨hk.2, hk.1.1.2⟩⟩⟩))⟩, ⟨(by (with_reducible repeat (first | apply Kd.R_alloc | apply Kd.R_drewN | apply Kd.R_drew)); exact Kd.R_mono HO391.out (fun _ hk => ⟨hk.1.1.1.2, ⟨hk.1.1.2, ⟨hk.1.2, hk.2⟩⟩⟩))⟩, ⟨(by (with_reducible repeat (first | apply Kd.R_alloc | apply Kd.R_drewN | apply Kd.R_drew)); exact Kd.R_mono HO394.out (fun _ hk => trivial))⟩, ⟨t48_⟩, ⟨t47_⟩, ⟨t4_⟩⟩
    case rest =>
     clear HC21
     try clear c1
     try clear c2
     try clear p2
     try clear c3
     try clear c4
     try clear c4b0
     try clear c4b1
     try clear c6
     try clear c6b0
     try clear c6b1
     try clear c9
     try clear c9b0
     try clear c10
     try clear c11
     try clear c14
     try clear c22
     try clear c24
     try clear c36
     try clear c37
     try clear c38
     try clear c48
     try clear hcz11_0
     try clear hcz11_1
     try clear hcz23_0
     try clear hcz23_1
     try clear hcz25_0
     try clear hcz25_1
     try clear hcz34_0
     try clear hcz34_1
     try clear hcz39_0
     try clear hcz39_1
     try clear hcz43_0
     try clear hcz43_1
     try clear hfz11_0
     try clear hfz11_1
     try clear hfz23_0
     try clear hfz23_1
     try clear hfz25_0
     try clear hfz25_1
     try clear hfz34_0
     try clear hfz34_1
     try clear hfz39_0
     try clear hfz39_1
     try clear hfz43_0
     try clear hfz43_1
     obtain ⟨kq, x62_20, rfl, HA, HJ20, HO_8, HO_11, HO_12, HO_13, HO_396000, HO_396001, BK371, BK395, HB⟩ := hcut
     cases kq with
     | zero => exact absurd HA.out (by simp [laws_FnExactCriticalPipes.j0])
     | succ kj20 =>
      have H := HA.out
      clear HA
      simp only [laws_FnExactCriticalPipes.j0] at H
      by_cases c53 : x62_20 = true
      ·subst c53
       have H1 : (some false) = some r := by rw [if_pos rfl] at H; exact H
       clear H
       have H := H1
       clear H1
       obtain rfl := Option.some.inj H
       go_wp2
       go_ret
       exact ⟨t5_, t4_⟩
      ·replace c53 := Bool.eq_false_iff.mpr c53
       subst c53
       have H1 : ((laws_toNetwork.f kj20 l0_0 l0_1).bind fun bt407 => ((laws_eqNetwork.f kj20 t389 t392 bt407.1 bt407.2).bind fun t413 => (if t413 = true then ((laws_toInt64S.f kj20 l1).bind fun t414 => ((laws_eqInt64S.f kj20 t396 t414).bind fun t417 => (if t417 = true then ((laws_toInt64S.f kj20 l2).bind fun t418 => ((laws_eqInt64S.f kj20 t399 t418).bind fun t421 => (if t421 = true then ((laws_markNetwork.f kj20 t389 t392 1).bind fun bt422 => ((laws_markInt64S.f kj20 t396 bt422.1).bind fun bt425 => ((laws_markInt64S.f kj20 t399 bt425.1).bind fun bt427 => (if bt427.1 < 0 then (laws_FnExactCriticalPipes.j1 kj20 l1 l2 t385 t388 t402 true l0_0 l0_1) else ((laws_eqInt64S.f kj20 t402 t385).bind fun t429 => (if t429 = true then (laws_FnExactCriticalPipes.j1 kj20 l1 l2 t385 t388 t402 (t405 != t388) l0_0 l0_1) else (laws_FnExactCriticalPipes.j1 kj20 l1 l2 t385 t388 t402 true l0_0 l0_1))))))) else (some false)))) else (some false)))) else (some false)))) = some r := by rw [if_neg (show ¬ (false = true) by decide)] at H; exact H
       clear H
       have H := H1
       clear H1
       replace H := Option.bind_eq_some_iff.mp H
       obtain ⟨⟨t407, t410⟩, A540, H⟩ := H
       replace H : ((laws_eqNetwork.f kj20 t389 t392 t407 t410).bind fun t413 => (if t413 = true then ((laws_toInt64S.f kj20 l1).bind fun t414 => ((laws_eqInt64S.f kj20 t396 t414).bind fun t417 => (if t417 = true then ((laws_toInt64S.f kj20 l2).bind fun t418 => ((laws_eqInt64S.f kj20 t399 t418).bind fun t421 => (if t421 = true then ((laws_markNetwork.f kj20 t389 t392 1).bind fun bt422 => ((laws_markInt64S.f kj20 t396 bt422.1).bind fun bt425 => ((laws_markInt64S.f kj20 t399 bt425.1).bind fun bt427 => (if bt427.1 < 0 then (laws_FnExactCriticalPipes.j1 kj20 l1 l2 t385 t388 t402 true l0_0 l0_1) else ((laws_eqInt64S.f kj20 t402 t385).bind fun t429 => (if t429 = true then (laws_FnExactCriticalPipes.j1 kj20 l1 l2 t385 t388 t402 (t405 != t388) l0_0 l0_1) else (laws_FnExactCriticalPipes.j1 kj20 l1 l2 t385 t388 t402 true l0_0 l0_1))))))) else (some false)))) else (some false)))) else (some false))) = some r := H
       have A54 := Aside0.mk A540
       clear A540
       replace H := Option.bind_eq_some_iff.mp H
       obtain ⟨t413, A550, H⟩ := H
       replace H : (if t413 = true then ((laws_toInt64S.f kj20 l1).bind fun t414 => ((laws_eqInt64S.f kj20 t396 t414).bind fun t417 => (if t417 = true then ((laws_toInt64S.f kj20 l2).bind fun t418 => ((laws_eqInt64S.f kj20 t399 t418).bind fun t421 => (if t421 = true then ((laws_markNetwork.f kj20 t389 t392 1).bind fun bt422 => ((laws_markInt64S.f kj20 t396 bt422.1).bind fun bt425 => ((laws_markInt64S.f kj20 t399 bt425.1).bind fun bt427 => (if bt427.1 < 0 then (laws_FnExactCriticalPipes.j1 kj20 l1 l2 t385 t388 t402 true l0_0 l0_1) else ((laws_eqInt64S.f kj20 t402 t385).bind fun t429 => (if t429 = true then (laws_FnExactCriticalPipes.j1 kj20 l1 l2 t385 t388 t402 (t405 != t388) l0_0 l0_1) else (laws_FnExactCriticalPipes.j1 kj20 l1 l2 t385 t388 t402 true l0_0 l0_1))))))) else (some false)))) else (some false)))) else (some false)) = some r := H
       have A55 := Aside0.mk A550
       clear A550
       by_cases c56 : t413 = true
       ·subst c56
        have H1 : ((laws_toInt64S.f kj20 l1).bind fun t414 => ((laws_eqInt64S.f kj20 t396 t414).bind fun t417 => (if t417 = true then ((laws_toInt64S.f kj20 l2).bind fun t418 => ((laws_eqInt64S.f kj20 t399 t418).bind fun t421 => (if t421 = true then ((laws_markNetwork.f kj20 t389 t392 1).bind fun bt422 => ((laws_markInt64S.f kj20 t396 bt422.1).bind fun bt425 => ((laws_markInt64S.f kj20 t399 bt425.1).bind fun bt427 => (if bt427.1 < 0 then (laws_FnExactCriticalPipes.j1 kj20 l1 l2 t385 t388 t402 true l0_0 l0_1) else ((laws_eqInt64S.f kj20 t402 t385).bind fun t429 => (if t429 = true then (laws_FnExactCriticalPipes.j1 kj20 l1 l2 t385 t388 t402 (t405 != t388) l0_0 l0_1) else (laws_FnExactCriticalPipes.j1 kj20 l1 l2 t385 t388 t402 true l0_0 l0_1))))))) else (some false)))) else (some false)))) = some r := by rw [if_pos rfl] at H; exact H
        clear H
        have H := H1
        clear H1
        replace H := Option.bind_eq_some_iff.mp H
        obtain ⟨t414, A570, H⟩ := H
        replace H : ((laws_eqInt64S.f kj20 t396 t414).bind fun t417 => (if t417 = true then ((laws_toInt64S.f kj20 l2).bind fun t418 => ((laws_eqInt64S.f kj20 t399 t418).bind fun t421 => (if t421 = true then ((laws_markNetwork.f kj20 t389 t392 1).bind fun bt422 => ((laws_markInt64S.f kj20 t396 bt422.1).bind fun bt425 => ((laws_markInt64S.f kj20 t399 bt425.1).bind fun bt427 => (if bt427.1 < 0 then (laws_FnExactCriticalPipes.j1 kj20 l1 l2 t385 t388 t402 true l0_0 l0_1) else ((laws_eqInt64S.f kj20 t402 t385).bind fun t429 => (if t429 = true then (laws_FnExactCriticalPipes.j1 kj20 l1 l2 t385 t388 t402 (t405 != t388) l0_0 l0_1) else (laws_FnExactCriticalPipes.j1 kj20 l1 l2 t385 t388 t402 true l0_0 l0_1))))))) else (some false)))) else (some false))) = some r := H
        have A57 := Aside0.mk A570
        clear A570
        replace H := Option.bind_eq_some_iff.mp H
        obtain ⟨t417, A580, H⟩ := H
        replace H : (if t417 = true then ((laws_toInt64S.f kj20 l2).bind fun t418 => ((laws_eqInt64S.f kj20 t399 t418).bind fun t421 => (if t421 = true then ((laws_markNetwork.f kj20 t389 t392 1).bind fun bt422 => ((laws_markInt64S.f kj20 t396 bt422.1).bind fun bt425 => ((laws_markInt64S.f kj20 t399 bt425.1).bind fun bt427 => (if bt427.1 < 0 then (laws_FnExactCriticalPipes.j1 kj20 l1 l2 t385 t388 t402 true l0_0 l0_1) else ((laws_eqInt64S.f kj20 t402 t385).bind fun t429 => (if t429 = true then (laws_FnExactCriticalPipes.j1 kj20 l1 l2 t385 t388 t402 (t405 != t388) l0_0 l0_1) else (laws_FnExactCriticalPipes.j1 kj20 l1 l2 t385 t388 t402 true l0_0 l0_1))))))) else (some false)))) else (some false)) = some r := H
        have A58 := Aside0.mk A580
        clear A580
        by_cases c59 : t417 = true
        ·subst c59
         have H1 : ((laws_toInt64S.f kj20 l2).bind fun t418 => ((laws_eqInt64S.f kj20 t399 t418).bind fun t421 => (if t421 = true then ((laws_markNetwork.f kj20 t389 t392 1).bind fun bt422 => ((laws_markInt64S.f kj20 t396 bt422.1).bind fun bt425 => ((laws_markInt64S.f kj20 t399 bt425.1).bind fun bt427 => (if bt427.1 < 0 then (laws_FnExactCriticalPipes.j1 kj20 l1 l2 t385 t388 t402 true l0_0 l0_1) else ((laws_eqInt64S.f kj20 t402 t385).bind fun t429 => (if t429 = true then (laws_FnExactCriticalPipes.j1 kj20 l1 l2 t385 t388 t402 (t405 != t388) l0_0 l0_1) else (laws_FnExactCriticalPipes.j1 kj20 l1 l2 t385 t388 t402 true l0_0 l0_1))))))) else (some false)))) = some r := by rw [if_pos rfl] at H; exact H
         clear H
         have H := H1
         clear H1
         replace H := Option.bind_eq_some_iff.mp H
         obtain ⟨t418, A600, H⟩ := H
         replace H : ((laws_eqInt64S.f kj20 t399 t418).bind fun t421 => (if t421 = true then ((laws_markNetwork.f kj20 t389 t392 1).bind fun bt422 => ((laws_markInt64S.f kj20 t396 bt422.1).bind fun bt425 => ((laws_markInt64S.f kj20 t399 bt425.1).bind fun bt427 => (if bt427.1 < 0 then (laws_FnExactCriticalPipes.j1 kj20 l1 l2 t385 t388 t402 true l0_0 l0_1) else ((laws_eqInt64S.f kj20 t402 t385).bind fun t429 => (if t429 = true then (laws_FnExactCriticalPipes.j1 kj20 l1 l2 t385 t388 t402 (t405 != t388) l0_0 l0_1) else (laws_FnExactCriticalPipes.j1 kj20 l1 l2 t385 t388 t402 true l0_0 l0_1))))))) else (some false))) = some r := H
         have A60 := Aside0.mk A600
         clear A600
         replace H := Option.bind_eq_some_iff.mp H
         obtain ⟨t421, A610, H⟩ := H
         replace H : (if t421 = true then ((laws_markNetwork.f kj20 t389 t392 1).bind fun bt422 => ((laws_markInt64S.f kj20 t396 bt422.1).bind fun bt425 => ((laws_markInt64S.f kj20 t399 bt425.1).bind fun bt427 => (if bt427.1 < 0 then (laws_FnExactCriticalPipes.j1 kj20 l1 l2 t385 t388 t402 true l0_0 l0_1) else ((laws_eqInt64S.f kj20 t402 t385).bind fun t429 => (if t429 = true then (laws_FnExactCriticalPipes.j1 kj20 l1 l2 t385 t388 t402 (t405 != t388) l0_0 l0_1) else (laws_FnExactCriticalPipes.j1 kj20 l1 l2 t385 t388 t402 true l0_0 l0_1))))))) else (some false)) = some r := H
         have A61 := Aside0.mk A610
         clear A610
         by_cases c62 : t421 = true
         ·subst c62
          have H1 : ((laws_markNetwork.f kj20 t389 t392 1).bind fun bt422 => ((laws_markInt64S.f kj20 t396 bt422.1).bind fun bt425 => ((laws_markInt64S.f kj20 t399 bt425.1).bind fun bt427 => (if bt427.1 < 0 then (laws_FnExactCriticalPipes.j1 kj20 l1 l2 t385 t388 t402 true l0_0 l0_1) else ((laws_eqInt64S.f kj20 t402 t385).bind fun t429 => (if t429 = true then (laws_FnExactCriticalPipes.j1 kj20 l1 l2 t385 t388 t402 (t405 != t388) l0_0 l0_1) else (laws_FnExactCriticalPipes.j1 kj20 l1 l2 t385 t388 t402 true l0_0 l0_1))))))) = some r := by rw [if_pos rfl] at H; exact H
          clear H
          have H := H1
          clear H1
          replace H := Option.bind_eq_some_iff.mp H
          obtain ⟨⟨t422, t423, t424⟩, A630, H⟩ := H
          replace H : ((laws_markInt64S.f kj20 t396 t422).bind fun bt425 => ((laws_markInt64S.f kj20 t399 bt425.1).bind fun bt427 => (if bt427.1 < 0 then (laws_FnExactCriticalPipes.j1 kj20 l1 l2 t385 t388 t402 true l0_0 l0_1) else ((laws_eqInt64S.f kj20 t402 t385).bind fun t429 => (if t429 = true then (laws_FnExactCriticalPipes.j1 kj20 l1 l2 t385 t388 t402 (t405 != t388) l0_0 l0_1) else (laws_FnExactCriticalPipes.j1 kj20 l1 l2 t385 t388 t402 true l0_0 l0_1)))))) = some r := H
          have A63 := Aside0.mk A630
          clear A630
          replace H := Option.bind_eq_some_iff.mp H
          obtain ⟨⟨t425, t426⟩, A640, H⟩ := H
          replace H : ((laws_markInt64S.f kj20 t399 t425).bind fun bt427 => (if bt427.1 < 0 then (laws_FnExactCriticalPipes.j1 kj20 l1 l2 t385 t388 t402 true l0_0 l0_1) else ((laws_eqInt64S.f kj20 t402 t385).bind fun t429 => (if t429 = true then (laws_FnExactCriticalPipes.j1 kj20 l1 l2 t385 t388 t402 (t405 != t388) l0_0 l0_1) else (laws_FnExactCriticalPipes.j1 kj20 l1 l2 t385 t388 t402 true l0_0 l0_1))))) = some r := H
          have A64 := Aside0.mk A640
          clear A640
          replace H := Option.bind_eq_some_iff.mp H
          obtain ⟨⟨t427, t428⟩, A650, H⟩ := H
          replace H : (if t427 < 0 then (laws_FnExactCriticalPipes.j1 kj20 l1 l2 t385 t388 t402 true l0_0 l0_1) else ((laws_eqInt64S.f kj20 t402 t385).bind fun t429 => (if t429 = true then (laws_FnExactCriticalPipes.j1 kj20 l1 l2 t385 t388 t402 (t405 != t388) l0_0 l0_1) else (laws_FnExactCriticalPipes.j1 kj20 l1 l2 t385 t388 t402 true l0_0 l0_1)))) = some r := H
          have A65 := Aside0.mk A650
          clear A650
          have HC66 := Aside0.mk H
          clear H
          try go_wp2
          have n0_ := Aside0.mk (Kd.R_drew HO_8.out)
          have n1_ := Aside0.mk (Kd.R_drew HO_11.out)
          have n2_ := Aside0.mk (Kd.R_drew HO_12.out)
          have n3_ := Aside0.mk (Kd.R_drew HO_13.out)
          have n4_ := Aside0.mk (Kd.R_drew HO_396000.out)
          have n5_ := Aside0.mk (Kd.R_drew HO_396001.out)
          have n6_ := Aside0.mk (blk_drew BK371.out)
          have n7_ := Aside0.mk (blk_drew BK395.out)
          have n8_ := Aside0.mk (below_drew1 HB.out)
          clear HO_8
          clear HO_11
          clear HO_12
          clear HO_13
          clear HO_396000
          clear HO_396001
          clear BK371
          clear BK395
          clear HB
          have HO_8 := n0_
          have HO_11 := n1_
          have HO_12 := n2_
          have HO_13 := n3_
          have HO_396000 := n4_
          have HO_396001 := n5_
          have BK371 := n6_
          have BK395 := n7_
          have HB := n8_
          clear n0_ n1_ n2_ n3_ n4_ n5_ n6_ n7_ n8_
          refine start_ (n := 5) (S := fun w' => w'.cell? ⟨gb395, 0, none⟩ = some (.slice Ao37 t389.length co37) ∧ w'.cell? ⟨gb395, 1, none⟩ = some (.slice Ao40 t392.length co40) ∧ w'.cell? ⟨gb371, 0, none⟩ = some (.slice A0_0 l0_0.length c0_0) ∧ w'.cell? ⟨gb371, 1, none⟩ = some (.slice A0_1 l0_1.length c0_1)) (ds := []) #[false, false, false, false, false] t14_ rfl rfl ⟨(blk_cell BK395.out 0).trans rfl, (blk_cell BK395.out 1).trans rfl, (blk_cell BK371.out 0).trans rfl, (blk_cell BK371.out 1).trans rfl⟩ (fun hHeld => ?_)
          generalize wc.drew = w67 at HO_8 HO_11 HO_12 HO_13 HO_396000 HO_396001 BK371 BK395 HB hHeld ⊢
          refine take_ (i := 0) (N := some 63) (v := ?_) (a' := ?_) #[true, false, false, false, false] rfl rfl t14_ (fun _ _ _ h => h) (Or.inl ⟨t71_, ?_⟩) hHeld ?_ ?_
          rotate_left
          ·rintro w' ⟨s0, s1, s2, s3⟩
           go_simp
           with_reducible rfl
          rotate_left; (· simp only [Act.put, List.setIfInBounds_toArray, List.set_cons_zero, List.set_cons_succ, i64_w, i32_w]; rfl)
          refine take_ (i := 1) (N := some 64) (v := ?_) (a' := ?_) #[true, true, false, false, false] rfl rfl t14_ (fun _ _ _ h => h) (Or.inl ⟨t71_, ?_⟩) hHeld ?_ ?_
          rotate_left
          ·rintro w' ⟨s0, s1, s2, s3⟩
           go_simp
           with_reducible rfl
          rotate_left; (· simp only [Act.put, List.setIfInBounds_toArray, List.set_cons_zero, List.set_cons_succ, i64_w, i32_w]; rfl)
          refine one_ (i := 2) (N := some 65) #[true, true, true, false, false] rfl rfl t14_ t31_ (fun K hK => ?_)
          refine goes_ Try.func14 t14_ rfl #[.agg #[.slice A0_0 l0_0.length c0_0, .slice A0_1 l0_1.length c0_1]] t71_ rfl rfl t2_ ?_
          with_reducible refine (laws_toNetwork.calls kj20 _ _ l0_0 _ _ l0_1 t407 t410 _ ?side1 ?side2 ?side3 ?side4 A54.out).mono ?_
          (case side1 => repeat (first | exact (Kd.C_below HR0_0.out HB.out) | (with_reducible refine Kd.C_alloc ?_ _) | (with_reducible refine Kd.C_drewN ?_ _) | (with_reducible refine Kd.C_drew ?_)))
          (case side2 => exact HC0_0.out)
          (case side3 => repeat (first | exact (Kd.C_below HR0_1.out HB.out) | (with_reducible refine Kd.C_alloc ?_ _) | (with_reducible refine Kd.C_drewN ?_ _) | (with_reducible refine Kd.C_drew ?_)))
          (case side4 => exact HC0_1.out)
          rintro e w68 ⟨v408, v411, rfl, ho0, ho1, hb⟩
          refine ⟨_, rfl, ?_⟩
          have n0_ := Aside0.mk (Kd.R_elder' (q2_ HO_8.out) (Kd.R_base ho0) hb)
          have n1_ := Aside0.mk (Kd.R_elder' (q2_ HO_11.out) (Kd.R_base ho0) hb)
          have n2_ := Aside0.mk (Kd.R_elder' (q2_ HO_12.out) (Kd.R_base ho0) hb)
          have n3_ := Aside0.mk (Kd.R_elder' (q2_ HO_13.out) (Kd.R_base ho0) hb)
          have n4_ := Aside0.mk (Kd.R_elder' (q2_ HO_396000.out) (Kd.R_base ho0) hb)
          have n5_ := Aside0.mk (Kd.R_elder' (q2_ HO_396001.out) (Kd.R_base ho1) hb)
          have n6_ := Aside0.mk (Kd.R_lower (Kd.R_new' (Kd.R_new' (Kd.R_new' (Kd.R_new' (Kd.R_new' ho0 (Kd.R_lt (q2_ HO_8.out))) (Kd.R_lt (q2_ HO_11.out))) (Kd.R_lt (q2_ HO_12.out))) (Kd.R_lt (q2_ HO_13.out))) (Kd.R_lt (q2_ HO_396000.out))) (below_size t4_))
          have n7_ := Aside0.mk (Kd.R_lower (Kd.R_new' ho1 (Kd.R_lt (q2_ HO_396001.out))) (below_size t4_))
          have n8_ := Aside0.mk (blk_below (g := gb371) (o := .cells #[.slice A0_0 l0_0.length c0_0, .slice A0_1 l0_1.length c0_1] 25 (0, 0)) (q1_ BK371.out) hb)
          have n9_ := Aside0.mk (blk_below (g := gb395) (o := .cells #[.slice Ao37 t389.length co37, .slice Ao40 t392.length co40] 32 (0, 0)) (q1_ BK395.out) hb)
          have n10_ := Aside0.mk (below_step t4_ hb)
          clear HO_8
          clear HO_11
          clear HO_12
          clear HO_13
          clear HO_396000
          clear HO_396001
          clear BK371
          clear BK395
          clear HB
          have HO_8 := n0_
          have HO_11 := n1_
          have HO_12 := n2_
          have HO_13 := n3_
          have HO_396000 := n4_
          have HO_396001 := n5_
          have HO409 := n6_
          have HO412 := n7_
          have BK371 := n8_
          have BK395 := n9_
          have HB := n10_
          clear n0_ n1_ n2_ n3_ n4_ n5_ n6_ n7_ n8_ n9_ n10_
          (try clear hb)
          (try clear hb2)
          (try clear hk)
          (try clear hi)
          (try clear ho0)
          (try clear ho1)
          obtain ⟨Ao69, co69, eo69⟩ := Kd.R_slice HO409.out
          (first | subst eo69 | (injection eo69 with f1_ f2_ f3_; have f4_ := f1_.symm; have f5_ := f3_.symm; clear f1_ f2_ f3_; subst f4_; subst f5_))
          obtain ⟨Ao70, co70, eo70⟩ := Kd.R_slice HO412.out
          (first | subst eo70 | (injection eo70 with f1_ f2_ f3_; have f4_ := f1_.symm; have f5_ := f3_.symm; clear f1_ f2_ f3_; subst f4_; subst f5_))
          refine hK.out _ _ ⟨(blk_cell BK395.out 0).trans rfl, (blk_cell BK395.out 1).trans rfl, (blk_cell BK371.out 0).trans rfl, (blk_cell BK371.out 1).trans rfl⟩ (fun hHeld => ?_)
          clear hK K
          refine norm_ (a' := ?_) ?_ ?_
          rotate_left
          ·show Act.put _ (some 65) _ = _
           simp only [Act.put, List.setIfInBounds_toArray, List.set_cons_zero, List.set_cons_succ, i64_w, i32_w]
           rfl
          refine one_ (i := 3) (N := some 66) #[true, true, true, true, false] rfl rfl t14_ t31_ (fun K hK => ?_)
          refine goes_ Try.func17 t14_ rfl #[.agg #[.slice Ao37 t389.length co37, .slice Ao40 t392.length co40], .agg #[.slice Ao69 t407.length co69, .slice Ao70 t410.length co70]] t71_ rfl rfl t2_ ?_
          with_reducible refine (laws_eqNetwork.calls kj20 _ _ t389 _ _ t392 _ _ t407 _ _ t410 true _ ?side1 ?side2 ?side3 ?side4 ?side5 ?side6 ?side7 ?side8 A55.out).mono ?_
          (case side1 => repeat (first | exact (Kd.R_reads' HO_396000.out).2.2 | (with_reducible refine Kd.C_alloc ?_ _) | (with_reducible refine Kd.C_drewN ?_ _) | (with_reducible refine Kd.C_drew ?_)))
          (case side2 => exact (Kd.R_reads' HO_396000.out).2.1)
          (case side3 => repeat (first | exact (Kd.R_reads' HO_396001.out).2.2 | (with_reducible refine Kd.C_alloc ?_ _) | (with_reducible refine Kd.C_drewN ?_ _) | (with_reducible refine Kd.C_drew ?_)))
          (case side4 => exact (Kd.R_reads' HO_396001.out).2.1)
          (case side5 => repeat (first | exact (Kd.R_reads' HO409.out).2.2 | (with_reducible refine Kd.C_alloc ?_ _) | (with_reducible refine Kd.C_drewN ?_ _) | (with_reducible refine Kd.C_drew ?_)))
          (case side6 => exact (Kd.R_reads' HO409.out).2.1)
          (case side7 => repeat (first | exact (Kd.R_reads' HO412.out).2.2 | (with_reducible refine Kd.C_alloc ?_ _) | (with_reducible refine Kd.C_drewN ?_ _) | (with_reducible refine Kd.C_drew ?_)))
          (case side8 => exact (Kd.R_reads' HO412.out).2.1)
          rintro e w71 ⟨rfl, hb⟩
          refine ⟨_, rfl, ?_⟩
          have n0_ := Aside0.mk (Kd.R_below (q2_ HO_8.out) hb)
          have n1_ := Aside0.mk (Kd.R_below (q2_ HO_11.out) hb)
          have n2_ := Aside0.mk (Kd.R_below (q2_ HO_12.out) hb)
          have n3_ := Aside0.mk (Kd.R_below (q2_ HO_13.out) hb)
          have n4_ := Aside0.mk (Kd.R_below (q2_ HO_396000.out) hb)
          have n5_ := Aside0.mk (Kd.R_below (q2_ HO_396001.out) hb)
          have n6_ := Aside0.mk (Kd.R_below (q2_ HO409.out) hb)
          have n7_ := Aside0.mk (Kd.R_below (q2_ HO412.out) hb)
          have n8_ := Aside0.mk (blk_below (g := gb371) (o := .cells #[.slice A0_0 l0_0.length c0_0, .slice A0_1 l0_1.length c0_1] 25 (0, 0)) (q1_ BK371.out) hb)
          have n9_ := Aside0.mk (blk_below (g := gb395) (o := .cells #[.slice Ao37 t389.length co37, .slice Ao40 t392.length co40] 32 (0, 0)) (q1_ BK395.out) hb)
          have n10_ := Aside0.mk (below_step t4_ hb)
          clear HO_8
          clear HO_11
          clear HO_12
          clear HO_13
          clear HO_396000
          clear HO_396001
          clear HO409
          clear HO412
          clear BK371
          clear BK395
          clear HB
          have HO_8 := n0_
          have HO_11 := n1_
          have HO_12 := n2_
          have HO_13 := n3_
          have HO_396000 := n4_
          have HO_396001 := n5_
          have HO409 := n6_
          have HO412 := n7_
          have BK371 := n8_
          have BK395 := n9_
          have HB := n10_
          clear n0_ n1_ n2_ n3_ n4_ n5_ n6_ n7_ n8_ n9_ n10_
          (try clear hb)
          (try clear hb2)
          (try clear hk)
          (try clear hi)
          refine hK.out _ _ ⟨(blk_cell BK395.out 0).trans rfl, (blk_cell BK395.out 1).trans rfl, (blk_cell BK371.out 0).trans rfl, (blk_cell BK371.out 1).trans rfl⟩ (fun hHeld => ?_)
          clear hK K
          refine norm_ (a' := ?_) ?_ ?_
          rotate_left
          ·show Act.put _ (some 66) _ = _
           simp only [Act.put, List.setIfInBounds_toArray, List.set_cons_zero, List.set_cons_succ, i64_w, i32_w]
           rfl
          refine pure_ (i := 4) (N := some 67) (v := ?_) (a' := ?_) #[true, true, true, true, true] rfl rfl t14_ (fun _ _ _ h => h) (Or.inl ⟨t71_, ?_⟩) ?_ ?_
          rotate_left; (· intro w'; go_simp; with_reducible rfl); rotate_left; (· simp only [Act.put, List.setIfInBounds_toArray, List.set_cons_zero, List.set_cons_succ, i64_w, i32_w]; rfl)
          refine done_ t14_ ?_
          go_upto_region 26 with (first | ((with_reducible refine gate_callee (f := 22) rfl ?_); refine goesL_ (some 70) rfl rfl Try.func22 t14_ rfl #[.slice A1 l1.length c1] rfl t2_ ?_; (with_reducible refine (laws_toInt64S.calls kj20 _ _ l1 t414 _ ?side1 ?side2 A57.out).mono ?_); (case side1 => repeat (first | exact (Kd.C_below HR1.out HB.out) | (with_reducible refine Kd.C_alloc ?_ _) | (with_reducible refine Kd.C_drewN ?_ _) | (with_reducible refine Kd.C_drew ?_))); (case side2 => exact HC1.out); rintro e w72 ⟨v415, rfl, ho0, hb⟩; refine ⟨_, rfl, ?_⟩; have n0_ := Aside0.mk (Kd.R_elder' (q2_ HO_8.out) (Kd.R_base ho0) hb); have n1_ := Aside0.mk (Kd.R_elder' (q2_ HO_11.out) (Kd.R_base ho0) hb); have n2_ := Aside0.mk (Kd.R_elder' (q2_ HO_12.out) (Kd.R_base ho0) hb); have n3_ := Aside0.mk (Kd.R_elder' (q2_ HO_13.out) (Kd.R_base ho0) hb); have n4_ := Aside0.mk (Kd.R_elder' (q2_ HO_396000.out) (Kd.R_base ho0) hb); have n5_ := Aside0.mk (Kd.R_below (q2_ HO_396001.out) hb); have n6_ := Aside0.mk (Kd.R_elder' (q2_ HO409.out) (Kd.R_base ho0) hb); have n7_ := Aside0.mk (Kd.R_below (q2_ HO412.out) hb); have n8_ := Aside0.mk (Kd.R_lower (Kd.R_new' (Kd.R_new' (Kd.R_new' (Kd.R_new' (Kd.R_new' (Kd.R_new' ho0 (Kd.R_lt (q2_ HO_8.out))) (Kd.R_lt (q2_ HO_11.out))) (Kd.R_lt (q2_ HO_12.out))) (Kd.R_lt (q2_ HO_13.out))) (Kd.R_lt (q2_ HO_396000.out))) (Kd.R_lt (q2_ HO409.out))) (below_size t4_)); have n9_ := Aside0.mk (blk_below (g := gb371) (o := .cells #[.slice A0_0 l0_0.length c0_0, .slice A0_1 l0_1.length c0_1] 25 (0, 0)) (q1_ BK371.out) hb); have n10_ := Aside0.mk (blk_below (g := gb395) (o := .cells #[.slice Ao37 t389.length co37, .slice Ao40 t392.length co40] 32 (0, 0)) (q1_ BK395.out) hb); have n11_ := Aside0.mk (below_step t4_ hb); clear HO_8; clear HO_11; clear HO_12; clear HO_13; clear HO_396000; clear HO_396001; clear HO409; clear HO412; clear BK371; clear BK395; clear HB; have HO_8 := n0_; have HO_11 := n1_; have HO_12 := n2_; have HO_13 := n3_; have HO_396000 := n4_; have HO_396001 := n5_; have HO409 := n6_; have HO412 := n7_; have HO416 := n8_; have BK371 := n9_; have BK395 := n10_; have HB := n11_; clear n0_ n1_ n2_ n3_ n4_ n5_ n6_ n7_ n8_ n9_ n10_ n11_; (try clear hb); (try clear hb2); (try clear hk); (try clear hi); (try clear ho0); obtain ⟨Ao73, co73, eo73⟩ := Kd.R_slice HO416.out; subst eo73) | ((with_reducible refine gate_callee (f := 24) rfl ?_); refine goesL_ (some 71) rfl rfl Try.func24 t14_ rfl #[.slice Ao44 t396.length co44, .slice Ao73 t414.length co73] rfl t2_ ?_; (with_reducible refine (laws_eqInt64S.calls kj20 _ _ t396 _ _ t414 true _ ?side1 ?side2 ?side3 ?side4 A58.out).mono ?_); (case side1 => repeat (first | exact (Kd.R_reads' HO_11.out).2.2 | (with_reducible refine Kd.C_alloc ?_ _) | (with_reducible refine Kd.C_drewN ?_ _) | (with_reducible refine Kd.C_drew ?_))); (case side2 => exact (Kd.R_reads' HO_11.out).2.1); (case side3 => repeat (first | exact (Kd.R_reads' HO416.out).2.2 | (with_reducible refine Kd.C_alloc ?_ _) | (with_reducible refine Kd.C_drewN ?_ _) | (with_reducible refine Kd.C_drew ?_))); (case side4 => exact (Kd.R_reads' HO416.out).2.1); rintro e w' ⟨rfl, ⟨nd, rfl⟩⟩; refine ⟨_, rfl, ?_⟩) | ((with_reducible refine gate_callee (f := 22) rfl ?_); refine goesL_ (some 75) rfl rfl Try.func22 t14_ rfl #[.slice A2 l2.length c2] rfl t2_ ?_; (with_reducible refine (laws_toInt64S.calls kj20 _ _ l2 t418 _ ?side1 ?side2 A60.out).mono ?_); (case side1 => repeat (first | exact (Kd.C_below HR2.out t4_) | (with_reducible refine Kd.C_alloc ?_ _) | (with_reducible refine Kd.C_drewN ?_ _) | (with_reducible refine Kd.C_drew ?_))); (case side2 => exact HC2.out); rintro e w74 ⟨v419, rfl, ho0, hb⟩; refine ⟨_, rfl, ?_⟩; have n0_ := Aside0.mk (Kd.R_elder' (q2_ HO_8.out) (Kd.R_base ho0) hb); have n1_ := Aside0.mk (Kd.R_elder' (q2_ HO_11.out) (Kd.R_base ho0) hb); have n2_ := Aside0.mk (Kd.R_elder' (q2_ HO_12.out) (Kd.R_base ho0) hb); have n3_ := Aside0.mk (Kd.R_elder' (q2_ HO_13.out) (Kd.R_base ho0) hb); have n4_ := Aside0.mk (Kd.R_elder' (q2_ HO_396000.out) (Kd.R_base ho0) hb); have n5_ := Aside0.mk (Kd.R_below (q2_ HO_396001.out) hb); have n6_ := Aside0.mk (Kd.R_elder' (q2_ HO409.out) (Kd.R_base ho0) hb); have n7_ := Aside0.mk (Kd.R_below (q2_ HO412.out) hb); have n8_ := Aside0.mk (Kd.R_elder' (q2_ HO416.out) (Kd.R_base ho0) hb); have n9_ := Aside0.mk (Kd.R_lower (Kd.R_new' (Kd.R_new' (Kd.R_new' (Kd.R_new' (Kd.R_new' (Kd.R_new' (Kd.R_new' ho0 (Kd.R_lt (q2_ HO_8.out))) (Kd.R_lt (q2_ HO_11.out))) (Kd.R_lt (q2_ HO_12.out))) (Kd.R_lt (q2_ HO_13.out))) (Kd.R_lt (q2_ HO_396000.out))) (Kd.R_lt (q2_ HO409.out))) (Kd.R_lt (q2_ HO416.out))) (below_size t4_)); have n10_ := Aside0.mk (blk_below (g := gb371) (o := .cells #[.slice A0_0 l0_0.length c0_0, .slice A0_1 l0_1.length c0_1] 25 (0, 0)) (q1_ BK371.out) hb); have n11_ := Aside0.mk (blk_below (g := gb395) (o := .cells #[.slice Ao37 t389.length co37, .slice Ao40 t392.length co40] 32 (0, 0)) (q1_ BK395.out) hb); have n12_ := Aside0.mk (below_step t4_ hb); clear HO_8; clear HO_11; clear HO_12; clear HO_13; clear HO_396000; clear HO_396001; clear HO409; clear HO412; clear HO416; clear BK371; clear BK395; clear HB; have HO_8 := n0_; have HO_11 := n1_; have HO_12 := n2_; have HO_13 := n3_; have HO_396000 := n4_; have HO_396001 := n5_; have HO409 := n6_; have HO412 := n7_; have HO416 := n8_; have HO420 := n9_; have BK371 := n10_; have BK395 := n11_; have HB := n12_; clear n0_ n1_ n2_ n3_ n4_ n5_ n6_ n7_ n8_ n9_ n10_ n11_ n12_; (try clear hb); (try clear hb2); (try clear hk); (try clear hi); (try clear ho0); obtain ⟨Ao75, co75, eo75⟩ := Kd.R_slice HO420.out; subst eo75) | ((with_reducible refine gate_callee (f := 24) rfl ?_); refine goesL_ (some 76) rfl rfl Try.func24 t14_ rfl #[.slice Ao45 t399.length co45, .slice Ao75 t418.length co75] rfl t2_ ?_; (with_reducible refine (laws_eqInt64S.calls kj20 _ _ t399 _ _ t418 true _ ?side1 ?side2 ?side3 ?side4 A61.out).mono ?_); (case side1 => repeat (first | exact (Kd.R_reads' HO_12.out).2.2 | (with_reducible refine Kd.C_alloc ?_ _) | (with_reducible refine Kd.C_drewN ?_ _) | (with_reducible refine Kd.C_drew ?_))); (case side2 => exact (Kd.R_reads' HO_12.out).2.1); (case side3 => repeat (first | exact (Kd.R_reads' HO420.out).2.2 | (with_reducible refine Kd.C_alloc ?_ _) | (with_reducible refine Kd.C_drewN ?_ _) | (with_reducible refine Kd.C_drew ?_))); (case side4 => exact (Kd.R_reads' HO420.out).2.1); rintro e w' ⟨rfl, ⟨nd, rfl⟩⟩; refine ⟨_, rfl, ?_⟩; have hnb76 := NB395_371.out; have hnc76 := NB371_395.out; have hcz77_0 : w74.cell? ⟨gb395, 0, none⟩ = some (.slice Ao37 t389.length co37) := (blk_cell BK395.out 0).trans rfl; have hcz77_1 : w74.cell? ⟨gb395, 1, none⟩ = some (.slice Ao40 t392.length co40) := (blk_cell BK395.out 1).trans rfl; have hfz77_0 := blk_frozen BK395.out 0; have hfz77_1 := blk_frozen BK395.out 1) | ((with_reducible refine gate_callee (f := 25) rfl ?_); refine goesL_ (some 80) rfl rfl Try.func25 t14_ rfl #[.agg #[.slice Ao37 t389.length co37, .slice Ao40 t392.length co40], .int .i64 1] rfl t2_ ?_; (with_reducible refine (laws_markNetwork.calls kj20 (fun k_ => some k_ = (.slice Ao37 t389.length co37 : Value).ownBlock) (.slice Ao37 t389.length co37) t389 (fun k_ => some k_ = (.slice Ao40 t392.length co40 : Value).ownBlock) (.slice Ao40 t392.length co40) t392 1 t422 t423 t424 w _ ?side1 ?side2 ?side3 A63.out).mono ?_); (case side1 => repeat (first | (with_reducible first | exact HB.out | apply below_alloc | apply pw_below_drewN | apply below_drew1 | refine below_set ?_ GE371.out | refine below_set ?_ GE395.out) | exact HB.out)); (case side2 => exact Kd.R_tight rfl HO_396000.out); (case side3 => exact Kd.R_tight rfl HO_396001.out); rintro e w78 ⟨rfl, hy0, hy1, hb, hkp⟩; refine ⟨_, rfl, ?_⟩; have n0_ := Aside0.mk (Kd.R_mono (ok' := fun k_ => some k_ ≠ (.slice Ao44 t396.length co44 : Value).ownBlock ∧ some k_ ≠ (.slice Ao45 t399.length co45 : Value).ownBlock ∧ some k_ ≠ (v403 : Value).ownBlock ∧ some k_ ≠ (.slice Ao37 t389.length co37 : Value).ownBlock ∧ some k_ ≠ (.slice Ao69 t407.length co69 : Value).ownBlock ∧ some k_ ≠ (.slice Ao73 t414.length co73 : Value).ownBlock ∧ some k_ ≠ (.slice Ao75 t418.length co75 : Value).ownBlock) (Kd.R_keptB ((Kd.R_apart' HO_8.out (Kd.R_typed HO_396001.out) t31_)) hkp (fun k_ hk_ hs_ => Or.elim hs_ (fun e_ => (hk_.1.1.1.1.2.2.2) e_) (fun e_ => (hk_.2) e_))) (fun k_ hk_ => ⟨hk_.1.1.1.1.1.1, hk_.1.1.1.1.1.2.1, hk_.1.1.1.1.1.2.2.1, hk_.1.1.1.1.1.2.2.2, hk_.1.1.1.1.2, hk_.1.1.1.2, hk_.1.1.2⟩)); have n1_ := Aside0.mk (Kd.R_mono (ok' := fun k_ => some k_ ≠ (v386 : Value).ownBlock ∧ some k_ ≠ (.slice Ao45 t399.length co45 : Value).ownBlock ∧ some k_ ≠ (v403 : Value).ownBlock ∧ some k_ ≠ (.slice Ao37 t389.length co37 : Value).ownBlock ∧ some k_ ≠ (.slice Ao69 t407.length co69 : Value).ownBlock ∧ some k_ ≠ (.slice Ao73 t414.length co73 : Value).ownBlock ∧ some k_ ≠ (.slice Ao75 t418.length co75 : Value).ownBlock) (Kd.R_keptB ((Kd.R_apart' HO_11.out (Kd.R_typed HO_396001.out) t31_)) hkp (fun k_ hk_ hs_ => Or.elim hs_ (fun e_ => (hk_.1.1.1.1.2.2.2) e_) (fun e_ => (hk_.2) e_))) (fun k_ hk_ => ⟨hk_.1.1.1.1.1.1, hk_.1.1.1.1.1.2.1, hk_.1.1.1.1.1.2.2.1, hk_.1.1.1.1.1.2.2.2, hk_.1.1.1.1.2, hk_.1.1.1.2, hk_.1.1.2⟩)); have n2_ := Aside0.mk (Kd.R_mono (ok' := fun k_ => some k_ ≠ (v386 : Value).ownBlock ∧ some k_ ≠ (.slice Ao44 t396.length co44 : Value).ownBlock ∧ some k_ ≠ (v403 : Value).ownBlock ∧ some k_ ≠ (.slice Ao37 t389.length co37 : Value).ownBlock ∧ some k_ ≠ (.slice Ao69 t407.length co69 : Value).ownBlock ∧ some k_ ≠ (.slice Ao73 t414.length co73 : Value).ownBlock ∧ some k_ ≠ (.slice Ao75 t418.length co75 : Value).ownBlock) (Kd.R_keptB ((Kd.R_apart' HO_12.out (Kd.R_typed HO_396001.out) t31_)) hkp (fun k_ hk_ hs_ => Or.elim hs_ (fun e_ => (hk_.1.1.1.1.2.2.2) e_) (fun e_ => (hk_.2) e_))) (fun k_ hk_ => ⟨hk_.1.1.1.1.1.1, hk_.1.1.1.1.1.2.1, hk_.1.1.1.1.1.2.2.1, hk_.1.1.1.1.1.2.2.2, hk_.1.1.1.1.2, hk_.1.1.1.2, hk_.1.1.2⟩)); have n3_ := Aside0.mk (Kd.R_mono (ok' := fun k_ => some k_ ≠ (v386 : Value).ownBlock ∧ some k_ ≠ (.slice Ao44 t396.length co44 : Value).ownBlock ∧ some k_ ≠ (.slice Ao45 t399.length co45 : Value).ownBlock ∧ some k_ ≠ (.slice Ao37 t389.length co37 : Value).ownBlock ∧ some k_ ≠ (.slice Ao69 t407.length co69 : Value).ownBlock ∧ some k_ ≠ (.slice Ao73 t414.length co73 : Value).ownBlock ∧ some k_ ≠ (.slice Ao75 t418.length co75 : Value).ownBlock) (Kd.R_keptB ((Kd.R_apart' HO_13.out (Kd.R_typed HO_396001.out) t31_)) hkp (fun k_ hk_ hs_ => Or.elim hs_ (fun e_ => (hk_.1.1.1.1.2.2.2) e_) (fun e_ => (hk_.2) e_))) (fun k_ hk_ => ⟨hk_.1.1.1.1.1.1, hk_.1.1.1.1.1.2.1, hk_.1.1.1.1.1.2.2.1, hk_.1.1.1.1.1.2.2.2, hk_.1.1.1.1.2, hk_.1.1.1.2, hk_.1.1.2⟩)); have n4_ := Aside0.mk (Kd.R_reok rfl hy0 (fun k_ e_ => HO_396000.out.1 k_ e_)); have n5_ := Aside0.mk (Kd.R_reok rfl hy1 (fun k_ e_ => HO_396001.out.1 k_ e_)); have n6_ := Aside0.mk (blk_kept (q1_ BK371.out) hkp (fun hs_ => Or.elim hs_ (fun e_ => (fun e_ => (Kd.R_ne HO_396000.out BK371.out t31_) e_) e_) (fun e_ => (fun e_ => (Kd.R_ne HO_396001.out BK371.out t31_) e_) e_))); have n7_ := Aside0.mk (blk_kept (q1_ BK395.out) hkp (fun hs_ => Or.elim hs_ (fun e_ => (fun e_ => (Kd.R_ne HO_396000.out BK395.out t31_) e_) e_) (fun e_ => (fun e_ => (Kd.R_ne HO_396001.out BK395.out t31_) e_) e_))); have n8_ := Aside0.mk (Kd.R_mono (ok' := fun k_ => some k_ ≠ (v386 : Value).ownBlock ∧ some k_ ≠ (.slice Ao44 t396.length co44 : Value).ownBlock ∧ some k_ ≠ (.slice Ao45 t399.length co45 : Value).ownBlock ∧ some k_ ≠ (v403 : Value).ownBlock ∧ some k_ ≠ (.slice Ao37 t389.length co37 : Value).ownBlock ∧ some k_ ≠ (.slice Ao73 t414.length co73 : Value).ownBlock ∧ some k_ ≠ (.slice Ao75 t418.length co75 : Value).ownBlock) (Kd.R_keptB ((Kd.R_apart' HO409.out (Kd.R_typed HO_396001.out) t31_)) hkp (fun k_ hk_ hs_ => Or.elim hs_ (fun e_ => (hk_.1.1.1.2) e_) (fun e_ => (hk_.2) e_))) (fun k_ hk_ => ⟨hk_.1.1.1.1.1.1.1.1.2, hk_.1.1.1.1.1.1.1.2, hk_.1.1.1.1.1.1.2, hk_.1.1.1.1.1.2, hk_.1.1.1.1.2, hk_.1.1.1.2, hk_.1.1.2⟩)); have n9_ := Aside0.mk (Kd.R_mono (ok' := fun k_ => some k_ ≠ (.slice Ao40 t392.length co40 : Value).ownBlock) (Kd.R_keptB ((Kd.R_apart' HO412.out (Kd.R_typed HO_396000.out) t31_)) hkp (fun k_ hk_ hs_ => Or.elim hs_ (fun e_ => (hk_.2) e_) (fun e_ => (hk_.1.2) e_))) (fun k_ hk_ => hk_.1.1.2)); have n10_ := Aside0.mk (Kd.R_mono (ok' := fun k_ => some k_ ≠ (v386 : Value).ownBlock ∧ some k_ ≠ (.slice Ao44 t396.length co44 : Value).ownBlock ∧ some k_ ≠ (.slice Ao45 t399.length co45 : Value).ownBlock ∧ some k_ ≠ (v403 : Value).ownBlock ∧ some k_ ≠ (.slice Ao37 t389.length co37 : Value).ownBlock ∧ some k_ ≠ (.slice Ao69 t407.length co69 : Value).ownBlock ∧ some k_ ≠ (.slice Ao75 t418.length co75 : Value).ownBlock) (Kd.R_keptB ((Kd.R_apart' HO416.out (Kd.R_typed HO_396001.out) t31_)) hkp (fun k_ hk_ hs_ => Or.elim hs_ (fun e_ => (hk_.1.1.1.2) e_) (fun e_ => (hk_.2) e_))) (fun k_ hk_ => ⟨hk_.1.1.1.1.1.1.1.1.2, hk_.1.1.1.1.1.1.1.2, hk_.1.1.1.1.1.1.2, hk_.1.1.1.1.1.2, hk_.1.1.1.1.2, hk_.1.1.1.2, hk_.1.1.2⟩)); have n11_ := Aside0.mk (Kd.R_mono (ok' := fun k_ => some k_ ≠ (v386 : Value).ownBlock ∧ some k_ ≠ (.slice Ao44 t396.length co44 : Value).ownBlock ∧ some k_ ≠ (.slice Ao45 t399.length co45 : Value).ownBlock ∧ some k_ ≠ (v403 : Value).ownBlock ∧ some k_ ≠ (.slice Ao37 t389.length co37 : Value).ownBlock ∧ some k_ ≠ (.slice Ao69 t407.length co69 : Value).ownBlock ∧ some k_ ≠ (.slice Ao73 t414.length co73 : Value).ownBlock) (Kd.R_keptB ((Kd.R_apart' HO420.out (Kd.R_typed HO_396001.out) t31_)) hkp (fun k_ hk_ hs_ => Or.elim hs_ (fun e_ => (hk_.1.1.1.2) e_) (fun e_ => (hk_.2) e_))) (fun k_ hk_ => ⟨hk_.1.1.1.1.1.1.1.1.2, hk_.1.1.1.1.1.1.1.2, hk_.1.1.1.1.1.1.2, hk_.1.1.1.1.1.2, hk_.1.1.1.1.2, hk_.1.1.1.2, hk_.1.1.2⟩)); have n12_ := Aside0.mk (hb); clear HO_8; clear HO_11; clear HO_12; clear HO_13; clear HO_396000; clear HO_396001; clear BK371; clear BK395; clear HO409; clear HO412; clear HO416; clear HO420; clear HB; have HO_8 := n0_; have HO_11 := n1_; have HO_12 := n2_; have HO_13 := n3_; have HO_396000 := n4_; have HO_396001 := n5_; have BK371 := n6_; have BK395 := n7_; have HO409 := n8_; have HO412 := n9_; have HO416 := n10_; have HO420 := n11_; have HB := n12_; clear n0_ n1_ n2_ n3_ n4_ n5_ n6_ n7_ n8_ n9_ n10_ n11_ n12_; (try clear hb); (try clear hkp); (try clear hy0); (try clear hy1)) | ((with_reducible refine gate_callee (f := 26) rfl ?_); refine goesL_ (some 83) rfl rfl Try.func26 t14_ rfl #[.slice Ao44 t396.length co44, .int .i64 t422] rfl t2_ ?_; (with_reducible refine (laws_markInt64S.calls kj20 (fun k_ => some k_ = (.slice Ao44 t396.length co44 : Value).ownBlock) (.slice Ao44 t396.length co44) t396 t422 t425 t426 w _ ?side1 ?side2 A64.out).mono ?_); (case side1 => repeat (first | (with_reducible first | exact HB.out | apply below_alloc | apply pw_below_drewN | apply below_drew1 | refine below_set ?_ GE371.out | refine below_set ?_ GE395.out) | exact HB.out)); (case side2 => exact Kd.R_tight rfl HO_11.out); rintro e w79 ⟨rfl, hy0, hb, hkp⟩; refine ⟨_, rfl, ?_⟩; have n0_ := Aside0.mk (Kd.R_mono (ok' := fun k_ => some k_ ≠ (.slice Ao44 t396.length co44 : Value).ownBlock ∧ some k_ ≠ (.slice Ao45 t399.length co45 : Value).ownBlock ∧ some k_ ≠ (v403 : Value).ownBlock ∧ some k_ ≠ (.slice Ao37 t389.length co37 : Value).ownBlock ∧ some k_ ≠ (.slice Ao69 t407.length co69 : Value).ownBlock ∧ some k_ ≠ (.slice Ao73 t414.length co73 : Value).ownBlock ∧ some k_ ≠ (.slice Ao75 t418.length co75 : Value).ownBlock) (Kd.R_keptB (HO_8.out) hkp (fun k_ hk_ hs_ => (hk_.1) hs_)) (fun k_ hk_ => ⟨hk_.1.1, hk_.1.2.1, hk_.1.2.2.1, hk_.1.2.2.2.1, hk_.1.2.2.2.2.1, hk_.1.2.2.2.2.2.1, hk_.1.2.2.2.2.2.2⟩)); have n1_ := Aside0.mk (Kd.R_reok rfl hy0 (fun k_ e_ => HO_11.out.1 k_ e_)); have n2_ := Aside0.mk (Kd.R_mono (ok' := fun k_ => some k_ ≠ (v386 : Value).ownBlock ∧ some k_ ≠ (.slice Ao44 t396.length co44 : Value).ownBlock ∧ some k_ ≠ (v403 : Value).ownBlock ∧ some k_ ≠ (.slice Ao37 t389.length co37 : Value).ownBlock ∧ some k_ ≠ (.slice Ao69 t407.length co69 : Value).ownBlock ∧ some k_ ≠ (.slice Ao73 t414.length co73 : Value).ownBlock ∧ some k_ ≠ (.slice Ao75 t418.length co75 : Value).ownBlock) (Kd.R_keptB (HO_12.out) hkp (fun k_ hk_ hs_ => (hk_.2.1) hs_)) (fun k_ hk_ => ⟨hk_.1.1, hk_.1.2.1, hk_.1.2.2.1, hk_.1.2.2.2.1, hk_.1.2.2.2.2.1, hk_.1.2.2.2.2.2.1, hk_.1.2.2.2.2.2.2⟩)); have n3_ := Aside0.mk (Kd.R_mono (ok' := fun k_ => some k_ ≠ (v386 : Value).ownBlock ∧ some k_ ≠ (.slice Ao44 t396.length co44 : Value).ownBlock ∧ some k_ ≠ (.slice Ao45 t399.length co45 : Value).ownBlock ∧ some k_ ≠ (.slice Ao37 t389.length co37 : Value).ownBlock ∧ some k_ ≠ (.slice Ao69 t407.length co69 : Value).ownBlock ∧ some k_ ≠ (.slice Ao73 t414.length co73 : Value).ownBlock ∧ some k_ ≠ (.slice Ao75 t418.length co75 : Value).ownBlock) (Kd.R_keptB (HO_13.out) hkp (fun k_ hk_ hs_ => (hk_.2.1) hs_)) (fun k_ hk_ => ⟨hk_.1.1, hk_.1.2.1, hk_.1.2.2.1, hk_.1.2.2.2.1, hk_.1.2.2.2.2.1, hk_.1.2.2.2.2.2.1, hk_.1.2.2.2.2.2.2⟩)); have n4_ := Aside0.mk (Kd.R_mono (ok' := fun k_ => some k_ ≠ (v386 : Value).ownBlock ∧ some k_ ≠ (.slice Ao44 t396.length co44 : Value).ownBlock ∧ some k_ ≠ (.slice Ao45 t399.length co45 : Value).ownBlock ∧ some k_ ≠ (v403 : Value).ownBlock ∧ some k_ ≠ (.slice Ao69 t407.length co69 : Value).ownBlock ∧ some k_ ≠ (.slice Ao73 t414.length co73 : Value).ownBlock ∧ some k_ ≠ (.slice Ao75 t418.length co75 : Value).ownBlock) (Kd.R_keptB (HO_396000.out) hkp (fun k_ hk_ hs_ => (hk_.1.1.1.2.1) hs_)) (fun k_ hk_ => ⟨hk_.1.1.1.1.1, hk_.1.1.1.1.2.1, hk_.1.1.1.1.2.2.1, hk_.1.1.1.1.2.2.2, hk_.1.1.1.2, hk_.1.1.2, hk_.1.2⟩)); have n5_ := Aside0.mk (Kd.R_mono (ok' := fun k_ => some k_ ≠ (.slice Ao70 t410.length co70 : Value).ownBlock) (Kd.R_keptB ((Kd.R_apart' HO_396001.out (Kd.R_typed HO_11.out) t31_)) hkp (fun k_ hk_ hs_ => (hk_.2) hs_)) (fun k_ hk_ => hk_.1.1.2)); have n6_ := Aside0.mk (blk_kept (q1_ BK371.out) hkp (fun hs_ => (fun e_ => (Kd.R_ne HO_11.out BK371.out t31_) e_) hs_)); have n7_ := Aside0.mk (blk_kept (q1_ BK395.out) hkp (fun hs_ => (fun e_ => (Kd.R_ne HO_11.out BK395.out t31_) e_) hs_)); have n8_ := Aside0.mk (Kd.R_mono (ok' := fun k_ => some k_ ≠ (v386 : Value).ownBlock ∧ some k_ ≠ (.slice Ao44 t396.length co44 : Value).ownBlock ∧ some k_ ≠ (.slice Ao45 t399.length co45 : Value).ownBlock ∧ some k_ ≠ (v403 : Value).ownBlock ∧ some k_ ≠ (.slice Ao37 t389.length co37 : Value).ownBlock ∧ some k_ ≠ (.slice Ao73 t414.length co73 : Value).ownBlock ∧ some k_ ≠ (.slice Ao75 t418.length co75 : Value).ownBlock) (Kd.R_keptB (HO409.out) hkp (fun k_ hk_ hs_ => (hk_.2.1) hs_)) (fun k_ hk_ => ⟨hk_.1.1, hk_.1.2.1, hk_.1.2.2.1, hk_.1.2.2.2.1, hk_.1.2.2.2.2.1, hk_.1.2.2.2.2.2.1, hk_.1.2.2.2.2.2.2⟩)); have n9_ := Aside0.mk (Kd.R_mono (ok' := fun k_ => some k_ ≠ (.slice Ao40 t392.length co40 : Value).ownBlock) (Kd.R_keptB ((Kd.R_apart' HO412.out (Kd.R_typed HO_11.out) t31_)) hkp (fun k_ hk_ hs_ => (hk_.2) hs_)) (fun k_ hk_ => hk_.1.1)); have n10_ := Aside0.mk (Kd.R_mono (ok' := fun k_ => some k_ ≠ (v386 : Value).ownBlock ∧ some k_ ≠ (.slice Ao44 t396.length co44 : Value).ownBlock ∧ some k_ ≠ (.slice Ao45 t399.length co45 : Value).ownBlock ∧ some k_ ≠ (v403 : Value).ownBlock ∧ some k_ ≠ (.slice Ao37 t389.length co37 : Value).ownBlock ∧ some k_ ≠ (.slice Ao69 t407.length co69 : Value).ownBlock ∧ some k_ ≠ (.slice Ao75 t418.length co75 : Value).ownBlock) (Kd.R_keptB (HO416.out) hkp (fun k_ hk_ hs_ => (hk_.2.1) hs_)) (fun k_ hk_ => ⟨hk_.1.1, hk_.1.2.1, hk_.1.2.2.1, hk_.1.2.2.2.1, hk_.1.2.2.2.2.1, hk_.1.2.2.2.2.2.1, hk_.1.2.2.2.2.2.2⟩)); have n11_ := Aside0.mk (Kd.R_mono (ok' := fun k_ => some k_ ≠ (v386 : Value).ownBlock ∧ some k_ ≠ (.slice Ao44 t396.length co44 : Value).ownBlock ∧ some k_ ≠ (.slice Ao45 t399.length co45 : Value).ownBlock ∧ some k_ ≠ (v403 : Value).ownBlock ∧ some k_ ≠ (.slice Ao37 t389.length co37 : Value).ownBlock ∧ some k_ ≠ (.slice Ao69 t407.length co69 : Value).ownBlock ∧ some k_ ≠ (.slice Ao73 t414.length co73 : Value).ownBlock) (Kd.R_keptB (HO420.out) hkp (fun k_ hk_ hs_ => (hk_.2.1) hs_)) (fun k_ hk_ => ⟨hk_.1.1, hk_.1.2.1, hk_.1.2.2.1, hk_.1.2.2.2.1, hk_.1.2.2.2.2.1, hk_.1.2.2.2.2.2.1, hk_.1.2.2.2.2.2.2⟩)); have n12_ := Aside0.mk (hb); clear HO_8; clear HO_11; clear HO_12; clear HO_13; clear HO_396000; clear HO_396001; clear BK371; clear BK395; clear HO409; clear HO412; clear HO416; clear HO420; clear HB; have HO_8 := n0_; have HO_11 := n1_; have HO_12 := n2_; have HO_13 := n3_; have HO_396000 := n4_; have HO_396001 := n5_; have BK371 := n6_; have BK395 := n7_; have HO409 := n8_; have HO412 := n9_; have HO416 := n10_; have HO420 := n11_; have HB := n12_; clear n0_ n1_ n2_ n3_ n4_ n5_ n6_ n7_ n8_ n9_ n10_ n11_ n12_; (try clear hb); (try clear hkp); (try clear hy0)) | ((with_reducible refine gate_callee (f := 26) rfl ?_); refine goesL_ (some 86) rfl rfl Try.func26 t14_ rfl #[.slice Ao45 t399.length co45, .int .i64 t425] rfl t2_ ?_; (with_reducible refine (laws_markInt64S.calls kj20 (fun k_ => some k_ = (.slice Ao45 t399.length co45 : Value).ownBlock) (.slice Ao45 t399.length co45) t399 t425 t427 t428 w _ ?side1 ?side2 A65.out).mono ?_); (case side1 => repeat (first | (with_reducible first | exact HB.out | apply below_alloc | apply pw_below_drewN | apply below_drew1 | refine below_set ?_ GE371.out | refine below_set ?_ GE395.out) | exact HB.out)); (case side2 => exact Kd.R_tight rfl HO_12.out); rintro e w80 ⟨rfl, hy0, hb, hkp⟩; refine ⟨_, rfl, ?_⟩; have n0_ := Aside0.mk (Kd.R_mono (ok' := fun k_ => some k_ ≠ (.slice Ao44 t396.length co44 : Value).ownBlock ∧ some k_ ≠ (.slice Ao45 t399.length co45 : Value).ownBlock ∧ some k_ ≠ (v403 : Value).ownBlock ∧ some k_ ≠ (.slice Ao37 t389.length co37 : Value).ownBlock ∧ some k_ ≠ (.slice Ao69 t407.length co69 : Value).ownBlock ∧ some k_ ≠ (.slice Ao73 t414.length co73 : Value).ownBlock ∧ some k_ ≠ (.slice Ao75 t418.length co75 : Value).ownBlock) (Kd.R_keptB (HO_8.out) hkp (fun k_ hk_ hs_ => (hk_.2.1) hs_)) (fun k_ hk_ => ⟨hk_.1.1, hk_.1.2.1, hk_.1.2.2.1, hk_.1.2.2.2.1, hk_.1.2.2.2.2.1, hk_.1.2.2.2.2.2.1, hk_.1.2.2.2.2.2.2⟩)); have n1_ := Aside0.mk (Kd.R_mono (ok' := fun k_ => some k_ ≠ (v386 : Value).ownBlock ∧ some k_ ≠ (.slice Ao45 t399.length co45 : Value).ownBlock ∧ some k_ ≠ (v403 : Value).ownBlock ∧ some k_ ≠ (.slice Ao37 t389.length co37 : Value).ownBlock ∧ some k_ ≠ (.slice Ao69 t407.length co69 : Value).ownBlock ∧ some k_ ≠ (.slice Ao73 t414.length co73 : Value).ownBlock ∧ some k_ ≠ (.slice Ao75 t418.length co75 : Value).ownBlock) (Kd.R_keptB (HO_11.out) hkp (fun k_ hk_ hs_ => (hk_.2.1) hs_)) (fun k_ hk_ => ⟨hk_.1.1, hk_.1.2.1, hk_.1.2.2.1, hk_.1.2.2.2.1, hk_.1.2.2.2.2.1, hk_.1.2.2.2.2.2.1, hk_.1.2.2.2.2.2.2⟩)); have n2_ := Aside0.mk (Kd.R_reok rfl hy0 (fun k_ e_ => HO_12.out.1 k_ e_)); have n3_ := Aside0.mk (Kd.R_mono (ok' := fun k_ => some k_ ≠ (v386 : Value).ownBlock ∧ some k_ ≠ (.slice Ao44 t396.length co44 : Value).ownBlock ∧ some k_ ≠ (.slice Ao45 t399.length co45 : Value).ownBlock ∧ some k_ ≠ (.slice Ao37 t389.length co37 : Value).ownBlock ∧ some k_ ≠ (.slice Ao69 t407.length co69 : Value).ownBlock ∧ some k_ ≠ (.slice Ao73 t414.length co73 : Value).ownBlock ∧ some k_ ≠ (.slice Ao75 t418.length co75 : Value).ownBlock) (Kd.R_keptB (HO_13.out) hkp (fun k_ hk_ hs_ => (hk_.2.2.1) hs_)) (fun k_ hk_ => ⟨hk_.1.1, hk_.1.2.1, hk_.1.2.2.1, hk_.1.2.2.2.1, hk_.1.2.2.2.2.1, hk_.1.2.2.2.2.2.1, hk_.1.2.2.2.2.2.2⟩)); have n4_ := Aside0.mk (Kd.R_mono (ok' := fun k_ => some k_ ≠ (v386 : Value).ownBlock ∧ some k_ ≠ (.slice Ao44 t396.length co44 : Value).ownBlock ∧ some k_ ≠ (.slice Ao45 t399.length co45 : Value).ownBlock ∧ some k_ ≠ (v403 : Value).ownBlock ∧ some k_ ≠ (.slice Ao69 t407.length co69 : Value).ownBlock ∧ some k_ ≠ (.slice Ao73 t414.length co73 : Value).ownBlock ∧ some k_ ≠ (.slice Ao75 t418.length co75 : Value).ownBlock) (Kd.R_keptB (HO_396000.out) hkp (fun k_ hk_ hs_ => (hk_.2.2.1) hs_)) (fun k_ hk_ => ⟨hk_.1.1, hk_.1.2.1, hk_.1.2.2.1, hk_.1.2.2.2.1, hk_.1.2.2.2.2.1, hk_.1.2.2.2.2.2.1, hk_.1.2.2.2.2.2.2⟩)); have n5_ := Aside0.mk (Kd.R_mono (ok' := fun k_ => some k_ ≠ (.slice Ao70 t410.length co70 : Value).ownBlock) (Kd.R_keptB ((Kd.R_apart' HO_396001.out (Kd.R_typed HO_12.out) t31_)) hkp (fun k_ hk_ hs_ => (hk_.2) hs_)) (fun k_ hk_ => hk_.1.1)); have n6_ := Aside0.mk (blk_kept (q1_ BK371.out) hkp (fun hs_ => (fun e_ => (Kd.R_ne HO_12.out BK371.out t31_) e_) hs_)); have n7_ := Aside0.mk (blk_kept (q1_ BK395.out) hkp (fun hs_ => (fun e_ => (Kd.R_ne HO_12.out BK395.out t31_) e_) hs_)); have n8_ := Aside0.mk (Kd.R_mono (ok' := fun k_ => some k_ ≠ (v386 : Value).ownBlock ∧ some k_ ≠ (.slice Ao44 t396.length co44 : Value).ownBlock ∧ some k_ ≠ (.slice Ao45 t399.length co45 : Value).ownBlock ∧ some k_ ≠ (v403 : Value).ownBlock ∧ some k_ ≠ (.slice Ao37 t389.length co37 : Value).ownBlock ∧ some k_ ≠ (.slice Ao73 t414.length co73 : Value).ownBlock ∧ some k_ ≠ (.slice Ao75 t418.length co75 : Value).ownBlock) (Kd.R_keptB (HO409.out) hkp (fun k_ hk_ hs_ => (hk_.2.2.1) hs_)) (fun k_ hk_ => ⟨hk_.1.1, hk_.1.2.1, hk_.1.2.2.1, hk_.1.2.2.2.1, hk_.1.2.2.2.2.1, hk_.1.2.2.2.2.2.1, hk_.1.2.2.2.2.2.2⟩)); have n9_ := Aside0.mk (Kd.R_mono (ok' := fun k_ => some k_ ≠ (.slice Ao40 t392.length co40 : Value).ownBlock) (Kd.R_keptB ((Kd.R_apart' HO412.out (Kd.R_typed HO_12.out) t31_)) hkp (fun k_ hk_ hs_ => (hk_.2) hs_)) (fun k_ hk_ => hk_.1.1)); have n10_ := Aside0.mk (Kd.R_mono (ok' := fun k_ => some k_ ≠ (v386 : Value).ownBlock ∧ some k_ ≠ (.slice Ao44 t396.length co44 : Value).ownBlock ∧ some k_ ≠ (.slice Ao45 t399.length co45 : Value).ownBlock ∧ some k_ ≠ (v403 : Value).ownBlock ∧ some k_ ≠ (.slice Ao37 t389.length co37 : Value).ownBlock ∧ some k_ ≠ (.slice Ao69 t407.length co69 : Value).ownBlock ∧ some k_ ≠ (.slice Ao75 t418.length co75 : Value).ownBlock) (Kd.R_keptB (HO416.out) hkp (fun k_ hk_ hs_ => (hk_.2.2.1) hs_)) (fun k_ hk_ => ⟨hk_.1.1, hk_.1.2.1, hk_.1.2.2.1, hk_.1.2.2.2.1, hk_.1.2.2.2.2.1, hk_.1.2.2.2.2.2.1, hk_.1.2.2.2.2.2.2⟩)); have n11_ := Aside0.mk (Kd.R_mono (ok' := fun k_ => some k_ ≠ (v386 : Value).ownBlock ∧ some k_ ≠ (.slice Ao44 t396.length co44 : Value).ownBlock ∧ some k_ ≠ (.slice Ao45 t399.length co45 : Value).ownBlock ∧ some k_ ≠ (v403 : Value).ownBlock ∧ some k_ ≠ (.slice Ao37 t389.length co37 : Value).ownBlock ∧ some k_ ≠ (.slice Ao69 t407.length co69 : Value).ownBlock ∧ some k_ ≠ (.slice Ao73 t414.length co73 : Value).ownBlock) (Kd.R_keptB (HO420.out) hkp (fun k_ hk_ hs_ => (hk_.2.2.1) hs_)) (fun k_ hk_ => ⟨hk_.1.1, hk_.1.2.1, hk_.1.2.2.1, hk_.1.2.2.2.1, hk_.1.2.2.2.2.1, hk_.1.2.2.2.2.2.1, hk_.1.2.2.2.2.2.2⟩)); have n12_ := Aside0.mk (hb); clear HO_8; clear HO_11; clear HO_12; clear HO_13; clear HO_396000; clear HO_396001; clear BK371; clear BK395; clear HO409; clear HO412; clear HO416; clear HO420; clear HB; have HO_8 := n0_; have HO_11 := n1_; have HO_12 := n2_; have HO_13 := n3_; have HO_396000 := n4_; have HO_396001 := n5_; have BK371 := n6_; have BK395 := n7_; have HO409 := n8_; have HO412 := n9_; have HO416 := n10_; have HO420 := n11_; have HB := n12_; clear n0_ n1_ n2_ n3_ n4_ n5_ n6_ n7_ n8_ n9_ n10_ n11_ n12_; (try clear hb); (try clear hkp); (try clear hy0)))
          (try simp only [Act.put, List.setIfInBounds_toArray, List.set_cons_zero, List.set_cons_succ])
          go_cut [99] (fun v99 wc => ∃ (kq : Nat) (x99_65 : Bool), v99 = .bool x99_65 ∧ Aside0 (laws_FnExactCriticalPipes.j1 kq l1 l2 t385 t388 t402 x99_65 l0_0 l0_1 = some r) ∧ Aside0 (kq ≤ kj20) ∧ Aside0 (Kd.R (Kd.int .i64) 2 wc w.heap.size (fun k_ => some k_ ≠ (v403 : Value).ownBlock ∧ some k_ ≠ ((.slice Ao37 t389.length co37) : Value).ownBlock) v386 t385) ∧ Aside0 (Kd.R (Kd.int .i64) 2 wc w.heap.size (fun k_ => some k_ ≠ (v386 : Value).ownBlock ∧ some k_ ≠ ((.slice Ao37 t389.length co37) : Value).ownBlock) v403 t402) ∧ Aside0 (Kd.R (Kd.int .i64) 2 wc w.heap.size (fun k_ => some k_ ≠ (v386 : Value).ownBlock ∧ some k_ ≠ (v403 : Value).ownBlock) (.slice Ao37 t389.length co37) t423) ∧ Aside0 (Kd.R k80 80 wc w.heap.size (fun _ => True) (.slice Ao40 t392.length co40) t424) ∧ Aside0 (wc.heap[gb371]? = some (.cells #[(.slice A0_0 l0_0.length c0_0), (.slice A0_1 l0_1.length c0_1)] 25 (0, 0))) ∧ Aside0 (wc.heap[gb395]? = some (.cells #[(.slice Ao37 t389.length co37), (.slice Ao40 t392.length co40)] 32 (0, 0))) ∧ Aside0 (Below w.heap.size w wc))
          case first =>
           have H := HC66.out
           clear HC66
           by_cases c81 : t427 < 0
           ·rw [if_pos c81] at H
            have c81b0 : decide (t427 < 0) = true := decide_eq_true c81
            clear c81
            (first | rw [c81b0] | (simp only [i64_w, i32_w]; rw [c81b0]) | skip)
            have H' := Aside0.mk H
            clear H
            go_wp2
            go_meet
            case rel => exact ⟨_, (true), t6_, H', ⟨(by have := HJ20.out; first | omega | exact Nat.le_refl _)⟩, ⟨t70_⟩, ⟨t72_⟩, ⟨t67_⟩, ⟨t74_⟩, ⟨t48_⟩, ⟨t47_⟩, ⟨t4_⟩⟩
           ·rw [if_neg c81] at H
            have c81b0 : decide (t427 < 0) = false := decide_eq_false c81
            clear c81
            (first | rw [c81b0] | (simp only [i64_w, i32_w]; rw [c81b0]) | skip)
            replace H := Option.bind_eq_some_iff.mp H
            obtain ⟨t429, A820, H⟩ := H
            replace H : (if t429 = true then (laws_FnExactCriticalPipes.j1 kj20 l1 l2 t385 t388 t402 (t405 != t388) l0_0 l0_1) else (laws_FnExactCriticalPipes.j1 kj20 l1 l2 t385 t388 t402 true l0_0 l0_1)) = some r := H
            have A82 := Aside0.mk A820
            clear A820
            by_cases c83 : t429 = true
            ·subst c83
             have H1 : (laws_FnExactCriticalPipes.j1 kj20 l1 l2 t385 t388 t402 (t405 != t388) l0_0 l0_1) = some r := by rw [if_pos rfl] at H; exact H
             clear H
             have H := H1
             clear H1
             have H' := Aside0.mk H
             clear H
             obtain ⟨Ao84, co84, eo84⟩ := Kd.R_slice HO_13.out
             subst eo84
             obtain ⟨Ao85, co85, eo85⟩ := Kd.R_slice HO_8.out
             subst eo85
             go_wp2_with (first | (go_at_call 24; (with_reducible refine (laws_eqInt64S.calls kj20 _ _ t402 _ _ t385 true _ ?side1 ?side2 ?side3 ?side4 A82.out).mono ?_); (case side1 => repeat (first | exact (Kd.R_reads' HO_13.out).2.2 | (with_reducible refine Kd.C_alloc ?_ _) | (with_reducible refine Kd.C_drewN ?_ _) | (with_reducible refine Kd.C_drew ?_))); (case side2 => exact (Kd.R_reads' HO_13.out).2.1); (case side3 => repeat (first | exact (Kd.R_reads' HO_8.out).2.2 | (with_reducible refine Kd.C_alloc ?_ _) | (with_reducible refine Kd.C_drewN ?_ _) | (with_reducible refine Kd.C_drew ?_))); (case side4 => exact (Kd.R_reads' HO_8.out).2.1); rintro e w' ⟨rfl, ⟨nd, rfl⟩⟩))
             go_meet
             case rel => exact ⟨_, ((t405 != t388)), t6_, H', ⟨(by have := HJ20.out; first | omega | exact Nat.le_refl _)⟩, ⟨t70_⟩, ⟨t72_⟩, ⟨t67_⟩, ⟨t74_⟩, ⟨t48_⟩, ⟨t47_⟩, ⟨t4_⟩⟩
            ·replace c83 := Bool.eq_false_iff.mpr c83
             subst c83
             have H1 : (laws_FnExactCriticalPipes.j1 kj20 l1 l2 t385 t388 t402 true l0_0 l0_1) = some r := by rw [if_neg (show ¬ (false = true) by decide)] at H; exact H
             clear H
             have H := H1
             clear H1
             have H' := Aside0.mk H
             clear H
             obtain ⟨Ao86, co86, eo86⟩ := Kd.R_slice HO_13.out
             subst eo86
             obtain ⟨Ao87, co87, eo87⟩ := Kd.R_slice HO_8.out
             subst eo87
             go_wp2_with (first | (go_at_call 24; (with_reducible refine (laws_eqInt64S.calls kj20 _ _ t402 _ _ t385 false _ ?side1 ?side2 ?side3 ?side4 A82.out).mono ?_); (case side1 => repeat (first | exact (Kd.R_reads' HO_13.out).2.2 | (with_reducible refine Kd.C_alloc ?_ _) | (with_reducible refine Kd.C_drewN ?_ _) | (with_reducible refine Kd.C_drew ?_))); (case side2 => exact (Kd.R_reads' HO_13.out).2.1); (case side3 => repeat (first | exact (Kd.R_reads' HO_8.out).2.2 | (with_reducible refine Kd.C_alloc ?_ _) | (with_reducible refine Kd.C_drewN ?_ _) | (with_reducible refine Kd.C_drew ?_))); (case side4 => exact (Kd.R_reads' HO_8.out).2.1); rintro e w' ⟨rfl, ⟨nd, rfl⟩⟩))
             go_meet
             case rel => exact ⟨_, (true), t6_, H', ⟨(by have := HJ20.out; first | omega | exact Nat.le_refl _)⟩, ⟨t70_⟩, ⟨t72_⟩, ⟨t67_⟩, ⟨t74_⟩, ⟨t48_⟩, ⟨t47_⟩, ⟨t4_⟩⟩
          case rest =>
           clear HC66
           try clear c1
           try clear c2
           try clear p2
           try clear c3
           try clear c4
           try clear c4b0
           try clear c4b1
           try clear c5
           try clear c6
           try clear c6b0
           try clear c6b1
           try clear c7
           try clear c8
           try clear c9
           try clear c9b0
           try clear c10
           try clear c11
           try clear c14
           try clear c17
           try clear c22
           try clear c24
           try clear c25
           try clear c26
           try clear c36
           try clear c37
           try clear c38
           try clear c48
           try clear c53
           try clear c56
           try clear c59
           try clear c62
           try clear c76
           try clear c81
           try clear c81b0
           try clear c83
           try clear hcz11_0
           try clear hcz11_1
           try clear hcz23_0
           try clear hcz23_1
           try clear hcz25_0
           try clear hcz25_1
           try clear hcz34_0
           try clear hcz34_1
           try clear hcz39_0
           try clear hcz39_1
           try clear hcz43_0
           try clear hcz43_1
           try clear hcz77_0
           try clear hcz77_1
           try clear hfz11_0
           try clear hfz11_1
           try clear hfz23_0
           try clear hfz23_1
           try clear hfz25_0
           try clear hfz25_1
           try clear hfz34_0
           try clear hfz34_1
           try clear hfz39_0
           try clear hfz39_1
           try clear hfz43_0
           try clear hfz43_1
           try clear hfz77_0
           try clear hfz77_1
           try clear p2
           obtain ⟨kq, x99_65, rfl, HA, HJ65, HO_8, HO_13, HO_396000, HO_396001, BK371, BK395, HB⟩ := hcut
           have hl396000_65 := (Kd.R_reads' HO_396000.out).1
           rw [hl396000_65] at HO_396000
           (try simp only [hl396000_65])
           (try simp only [hl396000_65] at BK371)
           (try simp only [hl396000_65] at BK395)
           (try simp only [hl396000_65] at HO_8)
           (try simp only [hl396000_65] at HO_13)
           (try simp only [hl396000_65] at HO_396001)
           have hl396001_65 := (Kd.R_reads' HO_396001.out).1
           rw [hl396001_65] at HO_396001
           (try simp only [hl396001_65])
           (try simp only [hl396001_65] at BK371)
           (try simp only [hl396001_65] at BK395)
           (try simp only [hl396001_65] at HO_8)
           (try simp only [hl396001_65] at HO_13)
           (try simp only [hl396001_65] at HO_396000)
           cases kq with
           | zero => exact absurd HA.out (by simp [laws_FnExactCriticalPipes.j1])
           | succ kj65 =>
            have H := HA.out
            clear HA
            simp only [laws_FnExactCriticalPipes.j1] at H
            by_cases c88 : x99_65 = true
            ·subst c88
             have H1 : (some false) = some r := by rw [if_pos rfl] at H; exact H
             clear H
             have H := H1
             clear H1
             obtain rfl := Option.some.inj H
             go_wp2
             go_ret
             exact ⟨t5_, t4_⟩
            ·replace c88 := Bool.eq_false_iff.mpr c88
             subst c88
             have H1 : ((laws_markInt64S.f kj65 t402 1).bind fun bt430 => ((laws_heldInt64S.f kj65 bt430.2 1).bind fun t432 => (if t432 < 0 then (some false) else (if t432 = bt430.1 then ((laws_toNetwork.f kj65 l0_0 l0_1).bind fun bt433 => ((laws_toInt64S.f kj65 l1).bind fun t439 => ((laws_toInt64S.f kj65 l2).bind fun t442 => ((impl_CriticalPipes.f kj65 bt433.1 bt433.2 t439 t442).bind fun bt445 => ((laws_eqInt64S.f kj65 bt445.1 t385).bind fun t449 => (if t449 = true then (laws_FnExactCriticalPipes.j2 kj65 bt430.2 bt430.1 (bt445.2 != t388)) else (laws_FnExactCriticalPipes.j2 kj65 bt430.2 bt430.1 true))))))) else (some false))))) = some r := by rw [if_neg (show ¬ (false = true) by decide)] at H; exact H
             clear H
             have H := H1
             clear H1
             replace H := Option.bind_eq_some_iff.mp H
             obtain ⟨⟨t430, t431⟩, A890, H⟩ := H
             replace H : ((laws_heldInt64S.f kj65 t431 1).bind fun t432 => (if t432 < 0 then (some false) else (if t432 = t430 then ((laws_toNetwork.f kj65 l0_0 l0_1).bind fun bt433 => ((laws_toInt64S.f kj65 l1).bind fun t439 => ((laws_toInt64S.f kj65 l2).bind fun t442 => ((impl_CriticalPipes.f kj65 bt433.1 bt433.2 t439 t442).bind fun bt445 => ((laws_eqInt64S.f kj65 bt445.1 t385).bind fun t449 => (if t449 = true then (laws_FnExactCriticalPipes.j2 kj65 t431 t430 (bt445.2 != t388)) else (laws_FnExactCriticalPipes.j2 kj65 t431 t430 true))))))) else (some false)))) = some r := H
             have A89 := Aside0.mk A890
             clear A890
             replace H := Option.bind_eq_some_iff.mp H
             obtain ⟨t432, A900, H⟩ := H
             replace H : (if t432 < 0 then (some false) else (if t432 = t430 then ((laws_toNetwork.f kj65 l0_0 l0_1).bind fun bt433 => ((laws_toInt64S.f kj65 l1).bind fun t439 => ((laws_toInt64S.f kj65 l2).bind fun t442 => ((impl_CriticalPipes.f kj65 bt433.1 bt433.2 t439 t442).bind fun bt445 => ((laws_eqInt64S.f kj65 bt445.1 t385).bind fun t449 => (if t449 = true then (laws_FnExactCriticalPipes.j2 kj65 t431 t430 (bt445.2 != t388)) else (laws_FnExactCriticalPipes.j2 kj65 t431 t430 true))))))) else (some false))) = some r := H
             have A90 := Aside0.mk A900
             clear A900
             by_cases c91 : t432 < 0
             ·rw [if_pos c91] at H
              have c91b0 : decide (t432 < 0) = true := decide_eq_true c91
              clear c91
              obtain rfl := Option.some.inj H
              obtain ⟨Ao92, co92, eo92⟩ := Kd.R_slice HO_13.out
              subst eo92
              go_wp2_with (first | ((with_reducible refine gate_callee (f := 26) rfl ?_); refine goesL_ (some 102) rfl rfl Try.func26 t14_ rfl #[.slice Ao92 t402.length co92, .int .i64 1] rfl t2_ ?_; (with_reducible refine (laws_markInt64S.calls kj65 (fun k_ => some k_ = (.slice Ao92 t402.length co92 : Value).ownBlock) (.slice Ao92 t402.length co92) t402 1 t430 t431 w _ ?side1 ?side2 A89.out).mono ?_); (case side1 => repeat (first | (with_reducible first | exact HB.out | apply below_alloc | apply pw_below_drewN | apply below_drew1 | refine below_set ?_ GE371.out | refine below_set ?_ GE395.out) | exact HB.out)); (case side2 => exact Kd.R_tight rfl HO_13.out); rintro e w93 ⟨rfl, hy0, hb, hkp⟩; refine ⟨_, rfl, ?_⟩; have n0_ := Aside0.mk (Kd.R_mono (ok' := fun k_ => some k_ ≠ (.slice Ao92 t402.length co92 : Value).ownBlock ∧ some k_ ≠ (.slice Ao37 t423.length co37 : Value).ownBlock) (Kd.R_keptB (HO_8.out) hkp (fun k_ hk_ hs_ => (hk_.1) hs_)) (fun k_ hk_ => ⟨hk_.1.1, hk_.1.2⟩)); have n1_ := Aside0.mk (Kd.R_reok rfl hy0 (fun k_ e_ => HO_13.out.1 k_ e_)); have n2_ := Aside0.mk (Kd.R_mono (ok' := fun k_ => some k_ ≠ (v386 : Value).ownBlock ∧ some k_ ≠ (.slice Ao92 t402.length co92 : Value).ownBlock) (Kd.R_keptB (HO_396000.out) hkp (fun k_ hk_ hs_ => (hk_.2) hs_)) (fun k_ hk_ => ⟨hk_.1.1, hk_.1.2⟩)); have n3_ := Aside0.mk (Kd.R_mono (ok' := fun k_ => True) (Kd.R_keptB ((Kd.R_apart' HO_396001.out (Kd.R_typed HO_13.out) t31_)) hkp (fun k_ hk_ hs_ => (hk_.2) hs_)) (fun k_ hk_ => trivial)); have n4_ := Aside0.mk (blk_kept (q1_ BK371.out) hkp (fun hs_ => (fun e_ => (Kd.R_ne HO_13.out BK371.out t31_) e_) hs_)); have n5_ := Aside0.mk (blk_kept (q1_ BK395.out) hkp (fun hs_ => (fun e_ => (Kd.R_ne HO_13.out BK395.out t31_) e_) hs_)); have n6_ := Aside0.mk (hb); clear HO_8; clear HO_13; clear HO_396000; clear HO_396001; clear BK371; clear BK395; clear HB; have HO_8 := n0_; have HO_13 := n1_; have HO_396000 := n2_; have HO_396001 := n3_; have BK371 := n4_; have BK395 := n5_; have HB := n6_; clear n0_ n1_ n2_ n3_ n4_ n5_ n6_; (try clear hb); (try clear hkp); (try clear hy0)) | ((with_reducible refine gate_callee (f := 27) rfl ?_); refine goesL_ (some 105) rfl rfl Try.func27 t14_ rfl #[.slice Ao92 t431.length co92, .int .i64 1] rfl t49_ ?_; (with_reducible refine (laws_heldInt64S.calls kj65 _ _ t431 1 t432 _ ?side1 ?side2 A90.out).mono ?_); (case side1 => repeat (first | exact (Kd.R_reads' HO_13.out).2.2 | (with_reducible refine Kd.C_alloc ?_ _) | (with_reducible refine Kd.C_drewN ?_ _) | (with_reducible refine Kd.C_drew ?_))); (case side2 => rw [show t431.length = t402.length from (Kd.R_reads' HO_13.out).1.symm]; exact (Kd.R_reads' HO_13.out).2.1); rintro e w' ⟨rfl, ⟨nd, rfl⟩⟩; refine ⟨_, rfl, ?_⟩))
              go_ret
              exact ⟨t5_, t4_⟩
             ·rw [if_neg c91] at H
              have c91b0 : decide (t432 < 0) = false := decide_eq_false c91
              clear c91
              by_cases c94 : t432 = t430
              ·rw [if_pos c94] at H
               have c94b0 : (t432 == t430) = true := beq_iff_eq.mpr c94
               have c94b1 : (t432 != t430) = false := bne_eq_false_iff_eq.mpr c94
               clear c94
               replace H := Option.bind_eq_some_iff.mp H
               obtain ⟨⟨t433, t436⟩, A950, H⟩ := H
               replace H : ((laws_toInt64S.f kj65 l1).bind fun t439 => ((laws_toInt64S.f kj65 l2).bind fun t442 => ((impl_CriticalPipes.f kj65 t433 t436 t439 t442).bind fun bt445 => ((laws_eqInt64S.f kj65 bt445.1 t385).bind fun t449 => (if t449 = true then (laws_FnExactCriticalPipes.j2 kj65 t431 t430 (bt445.2 != t388)) else (laws_FnExactCriticalPipes.j2 kj65 t431 t430 true)))))) = some r := H
               have A95 := Aside0.mk A950
               clear A950
               replace H := Option.bind_eq_some_iff.mp H
               obtain ⟨t439, A960, H⟩ := H
               replace H : ((laws_toInt64S.f kj65 l2).bind fun t442 => ((impl_CriticalPipes.f kj65 t433 t436 t439 t442).bind fun bt445 => ((laws_eqInt64S.f kj65 bt445.1 t385).bind fun t449 => (if t449 = true then (laws_FnExactCriticalPipes.j2 kj65 t431 t430 (bt445.2 != t388)) else (laws_FnExactCriticalPipes.j2 kj65 t431 t430 true))))) = some r := H
               have A96 := Aside0.mk A960
               clear A960
               replace H := Option.bind_eq_some_iff.mp H
               obtain ⟨t442, A970, H⟩ := H
               replace H : ((impl_CriticalPipes.f kj65 t433 t436 t439 t442).bind fun bt445 => ((laws_eqInt64S.f kj65 bt445.1 t385).bind fun t449 => (if t449 = true then (laws_FnExactCriticalPipes.j2 kj65 t431 t430 (bt445.2 != t388)) else (laws_FnExactCriticalPipes.j2 kj65 t431 t430 true)))) = some r := H
               have A97 := Aside0.mk A970
               clear A970
               replace H := Option.bind_eq_some_iff.mp H
               obtain ⟨⟨t445, t448⟩, A980, H⟩ := H
               replace H : ((laws_eqInt64S.f kj65 t445 t385).bind fun t449 => (if t449 = true then (laws_FnExactCriticalPipes.j2 kj65 t431 t430 (t448 != t388)) else (laws_FnExactCriticalPipes.j2 kj65 t431 t430 true))) = some r := H
               have A98 := Aside0.mk A980
               clear A980
               have HC99 := Aside0.mk H
               clear H
               obtain ⟨Ao100, co100, eo100⟩ := Kd.R_slice HO_13.out
               subst eo100
               go_upto_region 37 with (first | ((with_reducible refine gate_callee (f := 26) rfl ?_); refine goesL_ (some 102) rfl rfl Try.func26 t14_ rfl #[.slice Ao100 t402.length co100, .int .i64 1] rfl t2_ ?_; (with_reducible refine (laws_markInt64S.calls kj65 (fun k_ => some k_ = (.slice Ao100 t402.length co100 : Value).ownBlock) (.slice Ao100 t402.length co100) t402 1 t430 t431 w _ ?side1 ?side2 A89.out).mono ?_); (case side1 => repeat (first | (with_reducible first | exact HB.out | apply below_alloc | apply pw_below_drewN | apply below_drew1 | refine below_set ?_ GE371.out | refine below_set ?_ GE395.out) | exact HB.out)); (case side2 => exact Kd.R_tight rfl HO_13.out); rintro e w101 ⟨rfl, hy0, hb, hkp⟩; refine ⟨_, rfl, ?_⟩; have n0_ := Aside0.mk (Kd.R_mono (ok' := fun k_ => some k_ ≠ (.slice Ao100 t402.length co100 : Value).ownBlock ∧ some k_ ≠ (.slice Ao37 t423.length co37 : Value).ownBlock) (Kd.R_keptB (HO_8.out) hkp (fun k_ hk_ hs_ => (hk_.1) hs_)) (fun k_ hk_ => ⟨hk_.1.1, hk_.1.2⟩)); have n1_ := Aside0.mk (Kd.R_reok rfl hy0 (fun k_ e_ => HO_13.out.1 k_ e_)); have n2_ := Aside0.mk (Kd.R_mono (ok' := fun k_ => some k_ ≠ (v386 : Value).ownBlock ∧ some k_ ≠ (.slice Ao100 t402.length co100 : Value).ownBlock) (Kd.R_keptB (HO_396000.out) hkp (fun k_ hk_ hs_ => (hk_.2) hs_)) (fun k_ hk_ => ⟨hk_.1.1, hk_.1.2⟩)); have n3_ := Aside0.mk (Kd.R_mono (ok' := fun k_ => True) (Kd.R_keptB ((Kd.R_apart' HO_396001.out (Kd.R_typed HO_13.out) t31_)) hkp (fun k_ hk_ hs_ => (hk_.2) hs_)) (fun k_ hk_ => trivial)); have n4_ := Aside0.mk (blk_kept (q1_ BK371.out) hkp (fun hs_ => (fun e_ => (Kd.R_ne HO_13.out BK371.out t31_) e_) hs_)); have n5_ := Aside0.mk (blk_kept (q1_ BK395.out) hkp (fun hs_ => (fun e_ => (Kd.R_ne HO_13.out BK395.out t31_) e_) hs_)); have n6_ := Aside0.mk (hb); clear HO_8; clear HO_13; clear HO_396000; clear HO_396001; clear BK371; clear BK395; clear HB; have HO_8 := n0_; have HO_13 := n1_; have HO_396000 := n2_; have HO_396001 := n3_; have BK371 := n4_; have BK395 := n5_; have HB := n6_; clear n0_ n1_ n2_ n3_ n4_ n5_ n6_; (try clear hb); (try clear hkp); (try clear hy0)) | ((with_reducible refine gate_callee (f := 27) rfl ?_); refine goesL_ (some 105) rfl rfl Try.func27 t14_ rfl #[.slice Ao100 t431.length co100, .int .i64 1] rfl t49_ ?_; (with_reducible refine (laws_heldInt64S.calls kj65 _ _ t431 1 t432 _ ?side1 ?side2 A90.out).mono ?_); (case side1 => repeat (first | exact (Kd.R_reads' HO_13.out).2.2 | (with_reducible refine Kd.C_alloc ?_ _) | (with_reducible refine Kd.C_drewN ?_ _) | (with_reducible refine Kd.C_drew ?_))); (case side2 => rw [show t431.length = t402.length from (Kd.R_reads' HO_13.out).1.symm]; exact (Kd.R_reads' HO_13.out).2.1); rintro e w' ⟨rfl, ⟨nd, rfl⟩⟩; refine ⟨_, rfl, ?_⟩; have hnb102 := NB371_395.out; have hnc102 := NB395_371.out; have hcz103_0 : w101.cell? ⟨gb371, 0, none⟩ = some (.slice A0_0 l0_0.length c0_0) := (blk_cell BK371.out 0).trans rfl; have hcz103_1 : w101.cell? ⟨gb371, 1, none⟩ = some (.slice A0_1 l0_1.length c0_1) := (blk_cell BK371.out 1).trans rfl; have hfz103_0 := blk_frozen BK371.out 0; have hfz103_1 := blk_frozen BK371.out 1) | ((with_reducible refine gate_callee (f := 14) rfl ?_); refine goesL_ (some 113) rfl rfl Try.func14 t14_ rfl #[.agg #[.slice A0_0 l0_0.length c0_0, .slice A0_1 l0_1.length c0_1]] rfl t2_ ?_; (with_reducible refine (laws_toNetwork.calls kj65 _ _ l0_0 _ _ l0_1 t433 t436 _ ?side1 ?side2 ?side3 ?side4 A95.out).mono ?_); (case side1 => repeat (first | exact (Kd.C_below HR0_0.out t4_) | (with_reducible refine Kd.C_alloc ?_ _) | (with_reducible refine Kd.C_drewN ?_ _) | (with_reducible refine Kd.C_drew ?_))); (case side2 => exact HC0_0.out); (case side3 => repeat (first | exact (Kd.C_below HR0_1.out t4_) | (with_reducible refine Kd.C_alloc ?_ _) | (with_reducible refine Kd.C_drewN ?_ _) | (with_reducible refine Kd.C_drew ?_))); (case side4 => exact HC0_1.out); rintro e w104 ⟨v434, v437, rfl, ho0, ho1, hb⟩; refine ⟨_, rfl, ?_⟩; have n0_ := Aside0.mk (Kd.R_elder' (q2_ HO_8.out) (Kd.R_base ho0) hb); have n1_ := Aside0.mk (Kd.R_elder' (q2_ HO_13.out) (Kd.R_base ho0) hb); have n2_ := Aside0.mk (Kd.R_elder' (q2_ HO_396000.out) (Kd.R_base ho0) hb); have n3_ := Aside0.mk (Kd.R_elder' (q2_ HO_396001.out) (Kd.R_base ho1) hb); have n4_ := Aside0.mk (Kd.R_lower (Kd.R_new' (Kd.R_new' (Kd.R_new' ho0 (Kd.R_lt (q2_ HO_8.out))) (Kd.R_lt (q2_ HO_13.out))) (Kd.R_lt (q2_ HO_396000.out))) (below_size t4_)); have n5_ := Aside0.mk (Kd.R_lower (Kd.R_new' ho1 (Kd.R_lt (q2_ HO_396001.out))) (below_size t4_)); have n6_ := Aside0.mk (blk_below (g := gb371) (o := .cells #[.slice A0_0 l0_0.length c0_0, .slice A0_1 l0_1.length c0_1] 25 (0, 0)) (q1_ BK371.out) hb); have n7_ := Aside0.mk (blk_below (g := gb395) (o := .cells #[.slice Ao37 t423.length co37, .slice Ao40 t424.length co40] 32 (0, 0)) (q1_ BK395.out) hb); have n8_ := Aside0.mk (below_step t4_ hb); clear HO_8; clear HO_13; clear HO_396000; clear HO_396001; clear BK371; clear BK395; clear HB; have HO_8 := n0_; have HO_13 := n1_; have HO_396000 := n2_; have HO_396001 := n3_; have HO435 := n4_; have HO438 := n5_; have BK371 := n6_; have BK395 := n7_; have HB := n8_; clear n0_ n1_ n2_ n3_ n4_ n5_ n6_ n7_ n8_; (try clear hb); (try clear hb2); (try clear hk); (try clear hi); (try clear ho0); (try clear ho1)) | ((with_reducible refine gate_callee (f := 22) rfl ?_); refine goesL_ (some 115) rfl rfl Try.func22 t14_ rfl #[.slice A1 l1.length c1] rfl t2_ ?_; (with_reducible refine (laws_toInt64S.calls kj65 _ _ l1 t439 _ ?side1 ?side2 A96.out).mono ?_); (case side1 => repeat (first | exact (Kd.C_below HR1.out HB.out) | (with_reducible refine Kd.C_alloc ?_ _) | (with_reducible refine Kd.C_drewN ?_ _) | (with_reducible refine Kd.C_drew ?_))); (case side2 => exact HC1.out); rintro e w105 ⟨v440, rfl, ho0, hb⟩; refine ⟨_, rfl, ?_⟩; have n0_ := Aside0.mk (Kd.R_elder' (q2_ HO_8.out) (Kd.R_base ho0) hb); have n1_ := Aside0.mk (Kd.R_elder' (q2_ HO_13.out) (Kd.R_base ho0) hb); have n2_ := Aside0.mk (Kd.R_elder' (q2_ HO_396000.out) (Kd.R_base ho0) hb); have n3_ := Aside0.mk (Kd.R_below (q2_ HO_396001.out) hb); have n4_ := Aside0.mk (Kd.R_elder' (q2_ HO435.out) (Kd.R_base ho0) hb); have n5_ := Aside0.mk (Kd.R_below (q2_ HO438.out) hb); have n6_ := Aside0.mk (Kd.R_lower (Kd.R_new' (Kd.R_new' (Kd.R_new' (Kd.R_new' ho0 (Kd.R_lt (q2_ HO_8.out))) (Kd.R_lt (q2_ HO_13.out))) (Kd.R_lt (q2_ HO_396000.out))) (Kd.R_lt (q2_ HO435.out))) (below_size t4_)); have n7_ := Aside0.mk (blk_below (g := gb371) (o := .cells #[.slice A0_0 l0_0.length c0_0, .slice A0_1 l0_1.length c0_1] 25 (0, 0)) (q1_ BK371.out) hb); have n8_ := Aside0.mk (blk_below (g := gb395) (o := .cells #[.slice Ao37 t423.length co37, .slice Ao40 t424.length co40] 32 (0, 0)) (q1_ BK395.out) hb); have n9_ := Aside0.mk (below_step t4_ hb); clear HO_8; clear HO_13; clear HO_396000; clear HO_396001; clear HO435; clear HO438; clear BK371; clear BK395; clear HB; have HO_8 := n0_; have HO_13 := n1_; have HO_396000 := n2_; have HO_396001 := n3_; have HO435 := n4_; have HO438 := n5_; have HO441 := n6_; have BK371 := n7_; have BK395 := n8_; have HB := n9_; clear n0_ n1_ n2_ n3_ n4_ n5_ n6_ n7_ n8_ n9_; (try clear hb); (try clear hb2); (try clear hk); (try clear hi); (try clear ho0)) | ((with_reducible refine gate_callee (f := 22) rfl ?_); refine goesL_ (some 117) rfl rfl Try.func22 t14_ rfl #[.slice A2 l2.length c2] rfl t2_ ?_; (with_reducible refine (laws_toInt64S.calls kj65 _ _ l2 t442 _ ?side1 ?side2 A97.out).mono ?_); (case side1 => repeat (first | exact (Kd.C_below HR2.out HB.out) | (with_reducible refine Kd.C_alloc ?_ _) | (with_reducible refine Kd.C_drewN ?_ _) | (with_reducible refine Kd.C_drew ?_))); (case side2 => exact HC2.out); rintro e w106 ⟨v443, rfl, ho0, hb⟩; refine ⟨_, rfl, ?_⟩; have n0_ := Aside0.mk (Kd.R_elder' (q2_ HO_8.out) (Kd.R_base ho0) hb); have n1_ := Aside0.mk (Kd.R_elder' (q2_ HO_13.out) (Kd.R_base ho0) hb); have n2_ := Aside0.mk (Kd.R_elder' (q2_ HO_396000.out) (Kd.R_base ho0) hb); have n3_ := Aside0.mk (Kd.R_below (q2_ HO_396001.out) hb); have n4_ := Aside0.mk (Kd.R_elder' (q2_ HO435.out) (Kd.R_base ho0) hb); have n5_ := Aside0.mk (Kd.R_below (q2_ HO438.out) hb); have n6_ := Aside0.mk (Kd.R_elder' (q2_ HO441.out) (Kd.R_base ho0) hb); have n7_ := Aside0.mk (Kd.R_lower (Kd.R_new' (Kd.R_new' (Kd.R_new' (Kd.R_new' (Kd.R_new' ho0 (Kd.R_lt (q2_ HO_8.out))) (Kd.R_lt (q2_ HO_13.out))) (Kd.R_lt (q2_ HO_396000.out))) (Kd.R_lt (q2_ HO435.out))) (Kd.R_lt (q2_ HO441.out))) (below_size t4_)); have n8_ := Aside0.mk (blk_below (g := gb371) (o := .cells #[.slice A0_0 l0_0.length c0_0, .slice A0_1 l0_1.length c0_1] 25 (0, 0)) (q1_ BK371.out) hb); have n9_ := Aside0.mk (blk_below (g := gb395) (o := .cells #[.slice Ao37 t423.length co37, .slice Ao40 t424.length co40] 32 (0, 0)) (q1_ BK395.out) hb); have n10_ := Aside0.mk (below_step t4_ hb); clear HO_8; clear HO_13; clear HO_396000; clear HO_396001; clear HO435; clear HO438; clear HO441; clear BK371; clear BK395; clear HB; have HO_8 := n0_; have HO_13 := n1_; have HO_396000 := n2_; have HO_396001 := n3_; have HO435 := n4_; have HO438 := n5_; have HO441 := n6_; have HO444 := n7_; have BK371 := n8_; have BK395 := n9_; have HB := n10_; clear n0_ n1_ n2_ n3_ n4_ n5_ n6_ n7_ n8_ n9_ n10_; (try clear hb); (try clear hb2); (try clear hk); (try clear hi); (try clear ho0); obtain ⟨Ao107, co107, eo107⟩ := Kd.R_slice HO435.out; subst eo107; obtain ⟨Ao108, co108, eo108⟩ := Kd.R_slice HO438.out; subst eo108; obtain ⟨Ao109, co109, eo109⟩ := Kd.R_slice HO441.out; subst eo109; obtain ⟨Ao110, co110, eo110⟩ := Kd.R_slice HO444.out; subst eo110) | ((with_reducible refine gate_callee (f := 37) rfl ?_); refine goesL_ (some 118) rfl rfl Try.func37 t14_ rfl #[.agg #[.slice Ao107 t433.length co107, .slice Ao108 t436.length co108], .slice Ao109 t439.length co109, .slice Ao110 t442.length co110] rfl t2_ ?_; (with_reducible refine (impl_CriticalPipes.calls kj65 _ _ t433 _ _ t436 _ _ t439 _ _ t442 t445 t448 _ ?side1 ?side2 ?side3 ?side4 ?side5 ?side6 ?side7 ?side8 A98.out).mono ?_); (case side1 => repeat (first | exact (Kd.R_reads' HO435.out).2.2 | (with_reducible refine Kd.C_alloc ?_ _) | (with_reducible refine Kd.C_drewN ?_ _) | (with_reducible refine Kd.C_drew ?_))); (case side2 => exact (Kd.R_reads' HO435.out).2.1); (case side3 => repeat (first | exact (Kd.R_reads' HO438.out).2.2 | (with_reducible refine Kd.C_alloc ?_ _) | (with_reducible refine Kd.C_drewN ?_ _) | (with_reducible refine Kd.C_drew ?_))); (case side4 => exact (Kd.R_reads' HO438.out).2.1); (case side5 => repeat (first | exact (Kd.R_reads' HO441.out).2.2 | (with_reducible refine Kd.C_alloc ?_ _) | (with_reducible refine Kd.C_drewN ?_ _) | (with_reducible refine Kd.C_drew ?_))); (case side6 => exact (Kd.R_reads' HO441.out).2.1); (case side7 => repeat (first | exact (Kd.R_reads' HO444.out).2.2 | (with_reducible refine Kd.C_alloc ?_ _) | (with_reducible refine Kd.C_drewN ?_ _) | (with_reducible refine Kd.C_drew ?_))); (case side8 => exact (Kd.R_reads' HO444.out).2.1); rintro e w111 ⟨v446, rfl, ho0, hb⟩; refine ⟨_, rfl, ?_⟩; have n0_ := Aside0.mk (Kd.R_elder' (q2_ HO_8.out) (Kd.R_base ho0) hb); have n1_ := Aside0.mk (Kd.R_elder' (q2_ HO_13.out) (Kd.R_base ho0) hb); have n2_ := Aside0.mk (Kd.R_elder' (q2_ HO_396000.out) (Kd.R_base ho0) hb); have n3_ := Aside0.mk (Kd.R_below (q2_ HO_396001.out) hb); have n4_ := Aside0.mk (Kd.R_elder' (q2_ HO435.out) (Kd.R_base ho0) hb); have n5_ := Aside0.mk (Kd.R_below (q2_ HO438.out) hb); have n6_ := Aside0.mk (Kd.R_elder' (q2_ HO441.out) (Kd.R_base ho0) hb); have n7_ := Aside0.mk (Kd.R_elder' (q2_ HO444.out) (Kd.R_base ho0) hb); have n8_ := Aside0.mk (Kd.R_lower (Kd.R_new' (Kd.R_new' (Kd.R_new' (Kd.R_new' (Kd.R_new' (Kd.R_new' ho0 (Kd.R_lt (q2_ HO_8.out))) (Kd.R_lt (q2_ HO_13.out))) (Kd.R_lt (q2_ HO_396000.out))) (Kd.R_lt (q2_ HO435.out))) (Kd.R_lt (q2_ HO441.out))) (Kd.R_lt (q2_ HO444.out))) (below_size t4_)); have n9_ := Aside0.mk (blk_below (g := gb371) (o := .cells #[.slice A0_0 l0_0.length c0_0, .slice A0_1 l0_1.length c0_1] 25 (0, 0)) (q1_ BK371.out) hb); have n10_ := Aside0.mk (blk_below (g := gb395) (o := .cells #[.slice Ao37 t423.length co37, .slice Ao40 t424.length co40] 32 (0, 0)) (q1_ BK395.out) hb); have n11_ := Aside0.mk (below_step t4_ hb); clear HO_8; clear HO_13; clear HO_396000; clear HO_396001; clear HO435; clear HO438; clear HO441; clear HO444; clear BK371; clear BK395; clear HB; have HO_8 := n0_; have HO_13 := n1_; have HO_396000 := n2_; have HO_396001 := n3_; have HO435 := n4_; have HO438 := n5_; have HO441 := n6_; have HO444 := n7_; have HO447 := n8_; have BK371 := n9_; have BK395 := n10_; have HB := n11_; clear n0_ n1_ n2_ n3_ n4_ n5_ n6_ n7_ n8_ n9_ n10_ n11_; (try clear hb); (try clear hb2); (try clear hk); (try clear hi); (try clear ho0)))
               (try simp only [Act.put, List.setIfInBounds_toArray, List.set_cons_zero, List.set_cons_succ])
               go_cut [129] (fun v129 wc => ∃ (kq : Nat) (x129_98 : Bool), v129 = .bool x129_98 ∧ Aside0 (laws_FnExactCriticalPipes.j2 kq t431 t430 x129_98 = some r) ∧ Aside0 (kq ≤ kj65) ∧ Aside0 (Kd.R (Kd.int .i64) 2 wc w.heap.size (fun k_ => some k_ ≠ ((.slice Ao37 t423.length co37) : Value).ownBlock) (.slice Ao100 t402.length co100) t431) ∧ Aside0 (Kd.R (Kd.int .i64) 2 wc w.heap.size (fun k_ => some k_ ≠ ((.slice Ao100 t402.length co100) : Value).ownBlock) (.slice Ao37 t423.length co37) t423) ∧ Aside0 (Kd.R k80 80 wc w.heap.size (fun _ => True) (.slice Ao40 t424.length co40) t424) ∧ Aside0 (wc.heap[gb371]? = some (.cells #[(.slice A0_0 l0_0.length c0_0), (.slice A0_1 l0_1.length c0_1)] 25 (0, 0))) ∧ Aside0 (wc.heap[gb395]? = some (.cells #[(.slice Ao37 t423.length co37), (.slice Ao40 t424.length co40)] 32 (0, 0))) ∧ Aside0 (Below w.heap.size w wc))
               case first =>
                have H := HC99.out
                clear HC99
                replace H := Option.bind_eq_some_iff.mp H
                obtain ⟨t449, A1120, H⟩ := H
                replace H : (if t449 = true then (laws_FnExactCriticalPipes.j2 kj65 t431 t430 (t448 != t388)) else (laws_FnExactCriticalPipes.j2 kj65 t431 t430 true)) = some r := H
                have A112 := Aside0.mk A1120
                clear A1120
                by_cases c113 : t449 = true
                ·subst c113
                 have H1 : (laws_FnExactCriticalPipes.j2 kj65 t431 t430 (t448 != t388)) = some r := by rw [if_pos rfl] at H; exact H
                 clear H
                 have H := H1
                 clear H1
                 have H' := Aside0.mk H
                 clear H
                 obtain ⟨Ao114, co114, eo114⟩ := Kd.R_slice HO447.out
                 subst eo114
                 obtain ⟨Ao115, co115, eo115⟩ := Kd.R_slice HO_8.out
                 subst eo115
                 go_wp2_with (first | ((with_reducible refine gate_callee (f := 24) rfl ?_); refine goesL_ (some 123) rfl rfl Try.func24 t14_ rfl #[.slice Ao114 t445.length co114, .slice Ao115 t385.length co115] rfl t2_ ?_; (with_reducible refine (laws_eqInt64S.calls kj65 _ _ t445 _ _ t385 true _ ?side1 ?side2 ?side3 ?side4 A112.out).mono ?_); (case side1 => repeat (first | exact (Kd.R_reads' HO447.out).2.2 | (with_reducible refine Kd.C_alloc ?_ _) | (with_reducible refine Kd.C_drewN ?_ _) | (with_reducible refine Kd.C_drew ?_))); (case side2 => exact (Kd.R_reads' HO447.out).2.1); (case side3 => repeat (first | exact (Kd.R_reads' HO_8.out).2.2 | (with_reducible refine Kd.C_alloc ?_ _) | (with_reducible refine Kd.C_drewN ?_ _) | (with_reducible refine Kd.C_drew ?_))); (case side4 => exact (Kd.R_reads' HO_8.out).2.1); rintro e w' ⟨rfl, ⟨nd, rfl⟩⟩; refine ⟨_, rfl, ?_⟩))
                 go_meet
                 case rel => exact ⟨_, ((t448 != t388)), t6_, H', ⟨(by have := HJ20.out; have := HJ65.out; first | omega | exact Nat.le_refl _)⟩, ⟨t79_⟩, ⟨t78_⟩, ⟨t80_⟩, ⟨(by (try simp only [hl396000_65]); (try simp only [hl396001_65]); (with_reducible repeat (first | refine blk_drewN ?_ _ | refine blk_drew ?_ | refine blk_alloc ?_ _)); exact BK371.out)⟩, ⟨(by (try simp only [hl396000_65]); (try simp only [hl396001_65]); (with_reducible repeat (first | refine blk_drewN ?_ _ | refine blk_drew ?_ | refine blk_alloc ?_ _)); exact BK395.out)⟩, ⟨t4_⟩⟩
                ·replace c113 := Bool.eq_false_iff.mpr c113
                 subst c113
                 have H1 : (laws_FnExactCriticalPipes.j2 kj65 t431 t430 true) = some r := by rw [if_neg (show ¬ (false = true) by decide)] at H; exact H
                 clear H
                 have H := H1
                 clear H1
                 have H' := Aside0.mk H
                 clear H
                 obtain ⟨Ao116, co116, eo116⟩ := Kd.R_slice HO447.out
                 subst eo116
                 obtain ⟨Ao117, co117, eo117⟩ := Kd.R_slice HO_8.out
                 subst eo117
                 go_wp2_with (first | ((with_reducible refine gate_callee (f := 24) rfl ?_); refine goesL_ (some 123) rfl rfl Try.func24 t14_ rfl #[.slice Ao116 t445.length co116, .slice Ao117 t385.length co117] rfl t2_ ?_; (with_reducible refine (laws_eqInt64S.calls kj65 _ _ t445 _ _ t385 false _ ?side1 ?side2 ?side3 ?side4 A112.out).mono ?_); (case side1 => repeat (first | exact (Kd.R_reads' HO447.out).2.2 | (with_reducible refine Kd.C_alloc ?_ _) | (with_reducible refine Kd.C_drewN ?_ _) | (with_reducible refine Kd.C_drew ?_))); (case side2 => exact (Kd.R_reads' HO447.out).2.1); (case side3 => repeat (first | exact (Kd.R_reads' HO_8.out).2.2 | (with_reducible refine Kd.C_alloc ?_ _) | (with_reducible refine Kd.C_drewN ?_ _) | (with_reducible refine Kd.C_drew ?_))); (case side4 => exact (Kd.R_reads' HO_8.out).2.1); rintro e w' ⟨rfl, ⟨nd, rfl⟩⟩; refine ⟨_, rfl, ?_⟩))
                 go_meet
                 case rel => exact ⟨_, (true), t6_, H', ⟨(by have := HJ20.out; have := HJ65.out; first | omega | exact Nat.le_refl _)⟩, ⟨t79_⟩, ⟨t78_⟩, ⟨t80_⟩, ⟨(by (try simp only [hl396000_65]); (try simp only [hl396001_65]); (with_reducible repeat (first | refine blk_drewN ?_ _ | refine blk_drew ?_ | refine blk_alloc ?_ _)); exact BK371.out)⟩, ⟨(by (try simp only [hl396000_65]); (try simp only [hl396001_65]); (with_reducible repeat (first | refine blk_drewN ?_ _ | refine blk_drew ?_ | refine blk_alloc ?_ _)); exact BK395.out)⟩, ⟨t4_⟩⟩
               case rest =>
                clear HC99
                try clear c1
                try clear c2
                try clear p2
                try clear c3
                try clear c4
                try clear c4b0
                try clear c4b1
                try clear c5
                try clear c6
                try clear c6b0
                try clear c6b1
                try clear c7
                try clear c8
                try clear c9
                try clear c9b0
                try clear c10
                try clear c11
                try clear c14
                try clear c17
                try clear c22
                try clear c24
                try clear c25
                try clear c26
                try clear c27
                try clear c36
                try clear c37
                try clear c38
                try clear c48
                try clear c53
                try clear c56
                try clear c59
                try clear c62
                try clear c76
                try clear c81
                try clear c81b0
                try clear c83
                try clear c88
                try clear c91
                try clear c91b0
                try clear c94
                try clear c94b0
                try clear c94b1
                try clear c102
                try clear c113
                try clear hcz103_0
                try clear hcz103_1
                try clear hcz11_0
                try clear hcz11_1
                try clear hcz23_0
                try clear hcz23_1
                try clear hcz25_0
                try clear hcz25_1
                try clear hcz34_0
                try clear hcz34_1
                try clear hcz39_0
                try clear hcz39_1
                try clear hcz43_0
                try clear hcz43_1
                try clear hcz77_0
                try clear hcz77_1
                try clear hfz103_0
                try clear hfz103_1
                try clear hfz11_0
                try clear hfz11_1
                try clear hfz23_0
                try clear hfz23_1
                try clear hfz25_0
                try clear hfz25_1
                try clear hfz34_0
                try clear hfz34_1
                try clear hfz39_0
                try clear hfz39_1
                try clear hfz43_0
                try clear hfz43_1
                try clear hfz77_0
                try clear hfz77_1
                try clear p2
                obtain ⟨kq, x129_98, rfl, HA, HJ98, HO_13, HO_396000, HO_396001, BK371, BK395, HB⟩ := hcut
                have hl13_98 := (Kd.R_reads' HO_13.out).1
                rw [hl13_98] at HO_13
                (try simp only [hl13_98])
                (try simp only [hl13_98] at BK371)
                (try simp only [hl13_98] at BK395)
                (try simp only [hl13_98] at HO_396000)
                (try simp only [hl13_98] at HO_396001)
                cases kq with
                | zero => exact absurd HA.out (by simp [laws_FnExactCriticalPipes.j2])
                | succ kj98 =>
                 have H := HA.out
                 clear HA
                 simp only [laws_FnExactCriticalPipes.j2] at H
                 by_cases c118 : x129_98 = true
                 ·subst c118
                  have H1 : (some false) = some r := by rw [if_pos rfl] at H; exact H
                  clear H
                  have H := H1
                  clear H1
                  obtain rfl := Option.some.inj H
                  go_wp2
                  go_ret
                  exact ⟨t5_, t4_⟩
                 ·replace c118 := Bool.eq_false_iff.mpr c118
                  subst c118
                  have H1 : ((laws_heldInt64S.f kj98 t431 1).bind fun t450 => (if t450 < 0 then (some false) else (if t450 = t430 then (some true) else (some false)))) = some r := by rw [if_neg (show ¬ (false = true) by decide)] at H; exact H
                  clear H
                  have H := H1
                  clear H1
                  replace H := Option.bind_eq_some_iff.mp H
                  obtain ⟨t450, A1190, H⟩ := H
                  replace H : (if t450 < 0 then (some false) else (if t450 = t430 then (some true) else (some false))) = some r := H
                  have A119 := Aside0.mk A1190
                  clear A1190
                  by_cases c120 : t450 < 0
                  ·rw [if_pos c120] at H
                   have c120b0 : decide (t450 < 0) = true := decide_eq_true c120
                   clear c120
                   obtain rfl := Option.some.inj H
                   go_wp2_with (first | ((with_reducible refine gate_callee (f := 27) rfl ?_); refine goesL_ (some 132) rfl rfl Try.func27 t14_ rfl #[.slice Ao100 t431.length co100, .int .i64 1] rfl t2_ ?_; (with_reducible refine (laws_heldInt64S.calls kj98 _ _ t431 1 t450 _ ?side1 ?side2 A119.out).mono ?_); (case side1 => repeat (first | exact (Kd.R_reads' HO_13.out).2.2 | (with_reducible refine Kd.C_alloc ?_ _) | (with_reducible refine Kd.C_drewN ?_ _) | (with_reducible refine Kd.C_drew ?_))); (case side2 => exact (Kd.R_reads' HO_13.out).2.1); rintro e w' ⟨rfl, ⟨nd, rfl⟩⟩; refine ⟨_, rfl, ?_⟩))
                   go_ret
                   exact ⟨t5_, t4_⟩
                  ·rw [if_neg c120] at H
                   have c120b0 : decide (t450 < 0) = false := decide_eq_false c120
                   clear c120
                   by_cases c121 : t450 = t430
                   ·rw [if_pos c121] at H
                    have c121b0 : (t450 == t430) = true := beq_iff_eq.mpr c121
                    have c121b1 : (t450 != t430) = false := bne_eq_false_iff_eq.mpr c121
                    clear c121
                    obtain rfl := Option.some.inj H
                    go_wp2_with (first | ((with_reducible refine gate_callee (f := 27) rfl ?_); refine goesL_ (some 132) rfl rfl Try.func27 t14_ rfl #[.slice Ao100 t431.length co100, .int .i64 1] rfl t2_ ?_; (with_reducible refine (laws_heldInt64S.calls kj98 _ _ t431 1 t450 _ ?side1 ?side2 A119.out).mono ?_); (case side1 => repeat (first | exact (Kd.R_reads' HO_13.out).2.2 | (with_reducible refine Kd.C_alloc ?_ _) | (with_reducible refine Kd.C_drewN ?_ _) | (with_reducible refine Kd.C_drew ?_))); (case side2 => exact (Kd.R_reads' HO_13.out).2.1); rintro e w' ⟨rfl, ⟨nd, rfl⟩⟩; refine ⟨_, rfl, ?_⟩))
                    go_ret
                    exact ⟨t5_, t4_⟩
                   ·rw [if_neg c121] at H
                    have c121b0 : (t450 == t430) = false := beq_eq_false_iff_ne.mpr c121
                    have c121b1 : (t450 != t430) = true := bne_iff_ne.mpr c121
                    obtain rfl := Option.some.inj H
                    go_wp2_with (first | ((with_reducible refine gate_callee (f := 27) rfl ?_); refine goesL_ (some 132) rfl rfl Try.func27 t14_ rfl #[.slice Ao100 t431.length co100, .int .i64 1] rfl t2_ ?_; (with_reducible refine (laws_heldInt64S.calls kj98 _ _ t431 1 t450 _ ?side1 ?side2 A119.out).mono ?_); (case side1 => repeat (first | exact (Kd.R_reads' HO_13.out).2.2 | (with_reducible refine Kd.C_alloc ?_ _) | (with_reducible refine Kd.C_drewN ?_ _) | (with_reducible refine Kd.C_drew ?_))); (case side2 => exact (Kd.R_reads' HO_13.out).2.1); rintro e w' ⟨rfl, ⟨nd, rfl⟩⟩; refine ⟨_, rfl, ?_⟩))
                    go_ret
                    exact ⟨t5_, t4_⟩
              ·rw [if_neg c94] at H
               have c94b0 : (t432 == t430) = false := beq_eq_false_iff_ne.mpr c94
               have c94b1 : (t432 != t430) = true := bne_iff_ne.mpr c94
               obtain rfl := Option.some.inj H
               obtain ⟨Ao122, co122, eo122⟩ := Kd.R_slice HO_13.out
               subst eo122
               go_wp2_with (first | ((with_reducible refine gate_callee (f := 26) rfl ?_); refine goesL_ (some 102) rfl rfl Try.func26 t14_ rfl #[.slice Ao122 t402.length co122, .int .i64 1] rfl t2_ ?_; (with_reducible refine (laws_markInt64S.calls kj65 (fun k_ => some k_ = (.slice Ao122 t402.length co122 : Value).ownBlock) (.slice Ao122 t402.length co122) t402 1 t430 t431 w _ ?side1 ?side2 A89.out).mono ?_); (case side1 => repeat (first | (with_reducible first | exact HB.out | apply below_alloc | apply pw_below_drewN | apply below_drew1 | refine below_set ?_ GE371.out | refine below_set ?_ GE395.out) | exact HB.out)); (case side2 => exact Kd.R_tight rfl HO_13.out); rintro e w123 ⟨rfl, hy0, hb, hkp⟩; refine ⟨_, rfl, ?_⟩; have n0_ := Aside0.mk (Kd.R_mono (ok' := fun k_ => some k_ ≠ (.slice Ao122 t402.length co122 : Value).ownBlock ∧ some k_ ≠ (.slice Ao37 t423.length co37 : Value).ownBlock) (Kd.R_keptB (HO_8.out) hkp (fun k_ hk_ hs_ => (hk_.1) hs_)) (fun k_ hk_ => ⟨hk_.1.1, hk_.1.2⟩)); have n1_ := Aside0.mk (Kd.R_reok rfl hy0 (fun k_ e_ => HO_13.out.1 k_ e_)); have n2_ := Aside0.mk (Kd.R_mono (ok' := fun k_ => some k_ ≠ (v386 : Value).ownBlock ∧ some k_ ≠ (.slice Ao122 t402.length co122 : Value).ownBlock) (Kd.R_keptB (HO_396000.out) hkp (fun k_ hk_ hs_ => (hk_.2) hs_)) (fun k_ hk_ => ⟨hk_.1.1, hk_.1.2⟩)); have n3_ := Aside0.mk (Kd.R_mono (ok' := fun k_ => True) (Kd.R_keptB ((Kd.R_apart' HO_396001.out (Kd.R_typed HO_13.out) t31_)) hkp (fun k_ hk_ hs_ => (hk_.2) hs_)) (fun k_ hk_ => trivial)); have n4_ := Aside0.mk (blk_kept (q1_ BK371.out) hkp (fun hs_ => (fun e_ => (Kd.R_ne HO_13.out BK371.out t31_) e_) hs_)); have n5_ := Aside0.mk (blk_kept (q1_ BK395.out) hkp (fun hs_ => (fun e_ => (Kd.R_ne HO_13.out BK395.out t31_) e_) hs_)); have n6_ := Aside0.mk (hb); clear HO_8; clear HO_13; clear HO_396000; clear HO_396001; clear BK371; clear BK395; clear HB; have HO_8 := n0_; have HO_13 := n1_; have HO_396000 := n2_; have HO_396001 := n3_; have BK371 := n4_; have BK395 := n5_; have HB := n6_; clear n0_ n1_ n2_ n3_ n4_ n5_ n6_; (try clear hb); (try clear hkp); (try clear hy0)) | ((with_reducible refine gate_callee (f := 27) rfl ?_); refine goesL_ (some 105) rfl rfl Try.func27 t14_ rfl #[.slice Ao122 t431.length co122, .int .i64 1] rfl t49_ ?_; (with_reducible refine (laws_heldInt64S.calls kj65 _ _ t431 1 t432 _ ?side1 ?side2 A90.out).mono ?_); (case side1 => repeat (first | exact (Kd.R_reads' HO_13.out).2.2 | (with_reducible refine Kd.C_alloc ?_ _) | (with_reducible refine Kd.C_drewN ?_ _) | (with_reducible refine Kd.C_drew ?_))); (case side2 => rw [show t431.length = t402.length from (Kd.R_reads' HO_13.out).1.symm]; exact (Kd.R_reads' HO_13.out).2.1); rintro e w' ⟨rfl, ⟨nd, rfl⟩⟩; refine ⟨_, rfl, ?_⟩))
               go_ret
               exact ⟨t5_, t4_⟩
         ·replace c62 := Bool.eq_false_iff.mpr c62
          subst c62
          have H1 : (some false) = some r := by rw [if_neg (show ¬ (false = true) by decide)] at H; exact H
          clear H
          have H := H1
          clear H1
          obtain rfl := Option.some.inj H
          try go_wp2
          have n0_ := Aside0.mk (Kd.R_drew HO_8.out)
          have n1_ := Aside0.mk (Kd.R_drew HO_11.out)
          have n2_ := Aside0.mk (Kd.R_drew HO_12.out)
          have n3_ := Aside0.mk (Kd.R_drew HO_13.out)
          have n4_ := Aside0.mk (Kd.R_drew HO_396000.out)
          have n5_ := Aside0.mk (Kd.R_drew HO_396001.out)
          have n6_ := Aside0.mk (blk_drew BK371.out)
          have n7_ := Aside0.mk (blk_drew BK395.out)
          have n8_ := Aside0.mk (below_drew1 HB.out)
          clear HO_8
          clear HO_11
          clear HO_12
          clear HO_13
          clear HO_396000
          clear HO_396001
          clear BK371
          clear BK395
          clear HB
          have HO_8 := n0_
          have HO_11 := n1_
          have HO_12 := n2_
          have HO_13 := n3_
          have HO_396000 := n4_
          have HO_396001 := n5_
          have BK371 := n6_
          have BK395 := n7_
          have HB := n8_
          clear n0_ n1_ n2_ n3_ n4_ n5_ n6_ n7_ n8_
          refine start_ (n := 5) (S := fun w' => w'.cell? ⟨gb395, 0, none⟩ = some (.slice Ao37 t389.length co37) ∧ w'.cell? ⟨gb395, 1, none⟩ = some (.slice Ao40 t392.length co40) ∧ w'.cell? ⟨gb371, 0, none⟩ = some (.slice A0_0 l0_0.length c0_0) ∧ w'.cell? ⟨gb371, 1, none⟩ = some (.slice A0_1 l0_1.length c0_1)) (ds := []) #[false, false, false, false, false] t14_ rfl rfl ⟨(blk_cell BK395.out 0).trans rfl, (blk_cell BK395.out 1).trans rfl, (blk_cell BK371.out 0).trans rfl, (blk_cell BK371.out 1).trans rfl⟩ (fun hHeld => ?_)
          generalize wc.drew = w124 at HO_8 HO_11 HO_12 HO_13 HO_396000 HO_396001 BK371 BK395 HB hHeld ⊢
          refine take_ (i := 0) (N := some 63) (v := ?_) (a' := ?_) #[true, false, false, false, false] rfl rfl t14_ (fun _ _ _ h => h) (Or.inl ⟨t71_, ?_⟩) hHeld ?_ ?_
          rotate_left
          ·rintro w' ⟨s0, s1, s2, s3⟩
           go_simp
           with_reducible rfl
          rotate_left; (· simp only [Act.put, List.setIfInBounds_toArray, List.set_cons_zero, List.set_cons_succ, i64_w, i32_w]; rfl)
          refine take_ (i := 1) (N := some 64) (v := ?_) (a' := ?_) #[true, true, false, false, false] rfl rfl t14_ (fun _ _ _ h => h) (Or.inl ⟨t71_, ?_⟩) hHeld ?_ ?_
          rotate_left
          ·rintro w' ⟨s0, s1, s2, s3⟩
           go_simp
           with_reducible rfl
          rotate_left; (· simp only [Act.put, List.setIfInBounds_toArray, List.set_cons_zero, List.set_cons_succ, i64_w, i32_w]; rfl)
          refine one_ (i := 2) (N := some 65) #[true, true, true, false, false] rfl rfl t14_ t31_ (fun K hK => ?_)
          refine goes_ Try.func14 t14_ rfl #[.agg #[.slice A0_0 l0_0.length c0_0, .slice A0_1 l0_1.length c0_1]] t71_ rfl rfl t2_ ?_
          with_reducible refine (laws_toNetwork.calls kj20 _ _ l0_0 _ _ l0_1 t407 t410 _ ?side1 ?side2 ?side3 ?side4 A54.out).mono ?_
          (case side1 => repeat (first | exact (Kd.C_below HR0_0.out HB.out) | (with_reducible refine Kd.C_alloc ?_ _) | (with_reducible refine Kd.C_drewN ?_ _) | (with_reducible refine Kd.C_drew ?_)))
          (case side2 => exact HC0_0.out)
          (case side3 => repeat (first | exact (Kd.C_below HR0_1.out HB.out) | (with_reducible refine Kd.C_alloc ?_ _) | (with_reducible refine Kd.C_drewN ?_ _) | (with_reducible refine Kd.C_drew ?_)))
          (case side4 => exact HC0_1.out)
          rintro e w125 ⟨v408, v411, rfl, ho0, ho1, hb⟩
          refine ⟨_, rfl, ?_⟩
          have n0_ := Aside0.mk (Kd.R_elder' (q2_ HO_8.out) (Kd.R_base ho0) hb)
          have n1_ := Aside0.mk (Kd.R_elder' (q2_ HO_11.out) (Kd.R_base ho0) hb)
          have n2_ := Aside0.mk (Kd.R_elder' (q2_ HO_12.out) (Kd.R_base ho0) hb)
          have n3_ := Aside0.mk (Kd.R_elder' (q2_ HO_13.out) (Kd.R_base ho0) hb)
          have n4_ := Aside0.mk (Kd.R_elder' (q2_ HO_396000.out) (Kd.R_base ho0) hb)
          have n5_ := Aside0.mk (Kd.R_elder' (q2_ HO_396001.out) (Kd.R_base ho1) hb)
          have n6_ := Aside0.mk (Kd.R_lower (Kd.R_new' (Kd.R_new' (Kd.R_new' (Kd.R_new' (Kd.R_new' ho0 (Kd.R_lt (q2_ HO_8.out))) (Kd.R_lt (q2_ HO_11.out))) (Kd.R_lt (q2_ HO_12.out))) (Kd.R_lt (q2_ HO_13.out))) (Kd.R_lt (q2_ HO_396000.out))) (below_size t4_))
          have n7_ := Aside0.mk (Kd.R_lower (Kd.R_new' ho1 (Kd.R_lt (q2_ HO_396001.out))) (below_size t4_))
          have n8_ := Aside0.mk (blk_below (g := gb371) (o := .cells #[.slice A0_0 l0_0.length c0_0, .slice A0_1 l0_1.length c0_1] 25 (0, 0)) (q1_ BK371.out) hb)
          have n9_ := Aside0.mk (blk_below (g := gb395) (o := .cells #[.slice Ao37 t389.length co37, .slice Ao40 t392.length co40] 32 (0, 0)) (q1_ BK395.out) hb)
          have n10_ := Aside0.mk (below_step t4_ hb)
          clear HO_8
          clear HO_11
          clear HO_12
          clear HO_13
          clear HO_396000
          clear HO_396001
          clear BK371
          clear BK395
          clear HB
          have HO_8 := n0_
          have HO_11 := n1_
          have HO_12 := n2_
          have HO_13 := n3_
          have HO_396000 := n4_
          have HO_396001 := n5_
          have HO409 := n6_
          have HO412 := n7_
          have BK371 := n8_
          have BK395 := n9_
          have HB := n10_
          clear n0_ n1_ n2_ n3_ n4_ n5_ n6_ n7_ n8_ n9_ n10_
          (try clear hb)
          (try clear hb2)
          (try clear hk)
          (try clear hi)
          (try clear ho0)
          (try clear ho1)
          obtain ⟨Ao126, co126, eo126⟩ := Kd.R_slice HO409.out
          (first | subst eo126 | (injection eo126 with f1_ f2_ f3_; have f4_ := f1_.symm; have f5_ := f3_.symm; clear f1_ f2_ f3_; subst f4_; subst f5_))
          obtain ⟨Ao127, co127, eo127⟩ := Kd.R_slice HO412.out
          (first | subst eo127 | (injection eo127 with f1_ f2_ f3_; have f4_ := f1_.symm; have f5_ := f3_.symm; clear f1_ f2_ f3_; subst f4_; subst f5_))
          refine hK.out _ _ ⟨(blk_cell BK395.out 0).trans rfl, (blk_cell BK395.out 1).trans rfl, (blk_cell BK371.out 0).trans rfl, (blk_cell BK371.out 1).trans rfl⟩ (fun hHeld => ?_)
          clear hK K
          refine norm_ (a' := ?_) ?_ ?_
          rotate_left
          ·show Act.put _ (some 65) _ = _
           simp only [Act.put, List.setIfInBounds_toArray, List.set_cons_zero, List.set_cons_succ, i64_w, i32_w]
           rfl
          refine one_ (i := 3) (N := some 66) #[true, true, true, true, false] rfl rfl t14_ t31_ (fun K hK => ?_)
          refine goes_ Try.func17 t14_ rfl #[.agg #[.slice Ao37 t389.length co37, .slice Ao40 t392.length co40], .agg #[.slice Ao126 t407.length co126, .slice Ao127 t410.length co127]] t71_ rfl rfl t2_ ?_
          with_reducible refine (laws_eqNetwork.calls kj20 _ _ t389 _ _ t392 _ _ t407 _ _ t410 true _ ?side1 ?side2 ?side3 ?side4 ?side5 ?side6 ?side7 ?side8 A55.out).mono ?_
          (case side1 => repeat (first | exact (Kd.R_reads' HO_396000.out).2.2 | (with_reducible refine Kd.C_alloc ?_ _) | (with_reducible refine Kd.C_drewN ?_ _) | (with_reducible refine Kd.C_drew ?_)))
          (case side2 => exact (Kd.R_reads' HO_396000.out).2.1)
          (case side3 => repeat (first | exact (Kd.R_reads' HO_396001.out).2.2 | (with_reducible refine Kd.C_alloc ?_ _) | (with_reducible refine Kd.C_drewN ?_ _) | (with_reducible refine Kd.C_drew ?_)))
          (case side4 => exact (Kd.R_reads' HO_396001.out).2.1)
          (case side5 => repeat (first | exact (Kd.R_reads' HO409.out).2.2 | (with_reducible refine Kd.C_alloc ?_ _) | (with_reducible refine Kd.C_drewN ?_ _) | (with_reducible refine Kd.C_drew ?_)))
          (case side6 => exact (Kd.R_reads' HO409.out).2.1)
          (case side7 => repeat (first | exact (Kd.R_reads' HO412.out).2.2 | (with_reducible refine Kd.C_alloc ?_ _) | (with_reducible refine Kd.C_drewN ?_ _) | (with_reducible refine Kd.C_drew ?_)))
          (case side8 => exact (Kd.R_reads' HO412.out).2.1)
          rintro e w128 ⟨rfl, hb⟩
          refine ⟨_, rfl, ?_⟩
          have n0_ := Aside0.mk (Kd.R_below (q2_ HO_8.out) hb)
          have n1_ := Aside0.mk (Kd.R_below (q2_ HO_11.out) hb)
          have n2_ := Aside0.mk (Kd.R_below (q2_ HO_12.out) hb)
          have n3_ := Aside0.mk (Kd.R_below (q2_ HO_13.out) hb)
          have n4_ := Aside0.mk (Kd.R_below (q2_ HO_396000.out) hb)
          have n5_ := Aside0.mk (Kd.R_below (q2_ HO_396001.out) hb)
          have n6_ := Aside0.mk (Kd.R_below (q2_ HO409.out) hb)
          have n7_ := Aside0.mk (Kd.R_below (q2_ HO412.out) hb)
          have n8_ := Aside0.mk (blk_below (g := gb371) (o := .cells #[.slice A0_0 l0_0.length c0_0, .slice A0_1 l0_1.length c0_1] 25 (0, 0)) (q1_ BK371.out) hb)
          have n9_ := Aside0.mk (blk_below (g := gb395) (o := .cells #[.slice Ao37 t389.length co37, .slice Ao40 t392.length co40] 32 (0, 0)) (q1_ BK395.out) hb)
          have n10_ := Aside0.mk (below_step t4_ hb)
          clear HO_8
          clear HO_11
          clear HO_12
          clear HO_13
          clear HO_396000
          clear HO_396001
          clear HO409
          clear HO412
          clear BK371
          clear BK395
          clear HB
          have HO_8 := n0_
          have HO_11 := n1_
          have HO_12 := n2_
          have HO_13 := n3_
          have HO_396000 := n4_
          have HO_396001 := n5_
          have HO409 := n6_
          have HO412 := n7_
          have BK371 := n8_
          have BK395 := n9_
          have HB := n10_
          clear n0_ n1_ n2_ n3_ n4_ n5_ n6_ n7_ n8_ n9_ n10_
          (try clear hb)
          (try clear hb2)
          (try clear hk)
          (try clear hi)
          refine hK.out _ _ ⟨(blk_cell BK395.out 0).trans rfl, (blk_cell BK395.out 1).trans rfl, (blk_cell BK371.out 0).trans rfl, (blk_cell BK371.out 1).trans rfl⟩ (fun hHeld => ?_)
          clear hK K
          refine norm_ (a' := ?_) ?_ ?_
          rotate_left
          ·show Act.put _ (some 66) _ = _
           simp only [Act.put, List.setIfInBounds_toArray, List.set_cons_zero, List.set_cons_succ, i64_w, i32_w]
           rfl
          refine pure_ (i := 4) (N := some 67) (v := ?_) (a' := ?_) #[true, true, true, true, true] rfl rfl t14_ (fun _ _ _ h => h) (Or.inl ⟨t71_, ?_⟩) ?_ ?_
          rotate_left; (· intro w'; go_simp; with_reducible rfl); rotate_left; (· simp only [Act.put, List.setIfInBounds_toArray, List.set_cons_zero, List.set_cons_succ, i64_w, i32_w]; rfl)
          refine done_ t14_ ?_
          try go_wp2_with (first | ((with_reducible refine gate_callee (f := 22) rfl ?_); refine goesL_ (some 70) rfl rfl Try.func22 t14_ rfl #[.slice A1 l1.length c1] rfl t2_ ?_; (with_reducible refine (laws_toInt64S.calls kj20 _ _ l1 t414 _ ?side1 ?side2 A57.out).mono ?_); (case side1 => repeat (first | exact (Kd.C_below HR1.out HB.out) | (with_reducible refine Kd.C_alloc ?_ _) | (with_reducible refine Kd.C_drewN ?_ _) | (with_reducible refine Kd.C_drew ?_))); (case side2 => exact HC1.out); rintro e w129 ⟨v415, rfl, ho0, hb⟩; refine ⟨_, rfl, ?_⟩; have n0_ := Aside0.mk (Kd.R_elder' (q2_ HO_8.out) (Kd.R_base ho0) hb); have n1_ := Aside0.mk (Kd.R_elder' (q2_ HO_11.out) (Kd.R_base ho0) hb); have n2_ := Aside0.mk (Kd.R_elder' (q2_ HO_12.out) (Kd.R_base ho0) hb); have n3_ := Aside0.mk (Kd.R_elder' (q2_ HO_13.out) (Kd.R_base ho0) hb); have n4_ := Aside0.mk (Kd.R_elder' (q2_ HO_396000.out) (Kd.R_base ho0) hb); have n5_ := Aside0.mk (Kd.R_below (q2_ HO_396001.out) hb); have n6_ := Aside0.mk (Kd.R_elder' (q2_ HO409.out) (Kd.R_base ho0) hb); have n7_ := Aside0.mk (Kd.R_below (q2_ HO412.out) hb); have n8_ := Aside0.mk (Kd.R_lower (Kd.R_new' (Kd.R_new' (Kd.R_new' (Kd.R_new' (Kd.R_new' (Kd.R_new' ho0 (Kd.R_lt (q2_ HO_8.out))) (Kd.R_lt (q2_ HO_11.out))) (Kd.R_lt (q2_ HO_12.out))) (Kd.R_lt (q2_ HO_13.out))) (Kd.R_lt (q2_ HO_396000.out))) (Kd.R_lt (q2_ HO409.out))) (below_size t4_)); have n9_ := Aside0.mk (blk_below (g := gb371) (o := .cells #[.slice A0_0 l0_0.length c0_0, .slice A0_1 l0_1.length c0_1] 25 (0, 0)) (q1_ BK371.out) hb); have n10_ := Aside0.mk (blk_below (g := gb395) (o := .cells #[.slice Ao37 t389.length co37, .slice Ao40 t392.length co40] 32 (0, 0)) (q1_ BK395.out) hb); have n11_ := Aside0.mk (below_step t4_ hb); clear HO_8; clear HO_11; clear HO_12; clear HO_13; clear HO_396000; clear HO_396001; clear HO409; clear HO412; clear BK371; clear BK395; clear HB; have HO_8 := n0_; have HO_11 := n1_; have HO_12 := n2_; have HO_13 := n3_; have HO_396000 := n4_; have HO_396001 := n5_; have HO409 := n6_; have HO412 := n7_; have HO416 := n8_; have BK371 := n9_; have BK395 := n10_; have HB := n11_; clear n0_ n1_ n2_ n3_ n4_ n5_ n6_ n7_ n8_ n9_ n10_ n11_; (try clear hb); (try clear hb2); (try clear hk); (try clear hi); (try clear ho0); obtain ⟨Ao130, co130, eo130⟩ := Kd.R_slice HO416.out; subst eo130) | ((with_reducible refine gate_callee (f := 24) rfl ?_); refine goesL_ (some 71) rfl rfl Try.func24 t14_ rfl #[.slice Ao44 t396.length co44, .slice Ao130 t414.length co130] rfl t2_ ?_; (with_reducible refine (laws_eqInt64S.calls kj20 _ _ t396 _ _ t414 true _ ?side1 ?side2 ?side3 ?side4 A58.out).mono ?_); (case side1 => repeat (first | exact (Kd.R_reads' HO_11.out).2.2 | (with_reducible refine Kd.C_alloc ?_ _) | (with_reducible refine Kd.C_drewN ?_ _) | (with_reducible refine Kd.C_drew ?_))); (case side2 => exact (Kd.R_reads' HO_11.out).2.1); (case side3 => repeat (first | exact (Kd.R_reads' HO416.out).2.2 | (with_reducible refine Kd.C_alloc ?_ _) | (with_reducible refine Kd.C_drewN ?_ _) | (with_reducible refine Kd.C_drew ?_))); (case side4 => exact (Kd.R_reads' HO416.out).2.1); rintro e w' ⟨rfl, ⟨nd, rfl⟩⟩; refine ⟨_, rfl, ?_⟩) | ((with_reducible refine gate_callee (f := 22) rfl ?_); refine goesL_ (some 75) rfl rfl Try.func22 t14_ rfl #[.slice A2 l2.length c2] rfl t2_ ?_; (with_reducible refine (laws_toInt64S.calls kj20 _ _ l2 t418 _ ?side1 ?side2 A60.out).mono ?_); (case side1 => repeat (first | exact (Kd.C_below HR2.out t4_) | (with_reducible refine Kd.C_alloc ?_ _) | (with_reducible refine Kd.C_drewN ?_ _) | (with_reducible refine Kd.C_drew ?_))); (case side2 => exact HC2.out); rintro e w131 ⟨v419, rfl, ho0, hb⟩; refine ⟨_, rfl, ?_⟩; have n0_ := Aside0.mk (Kd.R_elder' (q2_ HO_8.out) (Kd.R_base ho0) hb); have n1_ := Aside0.mk (Kd.R_elder' (q2_ HO_11.out) (Kd.R_base ho0) hb); have n2_ := Aside0.mk (Kd.R_elder' (q2_ HO_12.out) (Kd.R_base ho0) hb); have n3_ := Aside0.mk (Kd.R_elder' (q2_ HO_13.out) (Kd.R_base ho0) hb); have n4_ := Aside0.mk (Kd.R_elder' (q2_ HO_396000.out) (Kd.R_base ho0) hb); have n5_ := Aside0.mk (Kd.R_below (q2_ HO_396001.out) hb); have n6_ := Aside0.mk (Kd.R_elder' (q2_ HO409.out) (Kd.R_base ho0) hb); have n7_ := Aside0.mk (Kd.R_below (q2_ HO412.out) hb); have n8_ := Aside0.mk (Kd.R_elder' (q2_ HO416.out) (Kd.R_base ho0) hb); have n9_ := Aside0.mk (Kd.R_lower (Kd.R_new' (Kd.R_new' (Kd.R_new' (Kd.R_new' (Kd.R_new' (Kd.R_new' (Kd.R_new' ho0 (Kd.R_lt (q2_ HO_8.out))) (Kd.R_lt (q2_ HO_11.out))) (Kd.R_lt (q2_ HO_12.out))) (Kd.R_lt (q2_ HO_13.out))) (Kd.R_lt (q2_ HO_396000.out))) (Kd.R_lt (q2_ HO409.out))) (Kd.R_lt (q2_ HO416.out))) (below_size t4_)); have n10_ := Aside0.mk (blk_below (g := gb371) (o := .cells #[.slice A0_0 l0_0.length c0_0, .slice A0_1 l0_1.length c0_1] 25 (0, 0)) (q1_ BK371.out) hb); have n11_ := Aside0.mk (blk_below (g := gb395) (o := .cells #[.slice Ao37 t389.length co37, .slice Ao40 t392.length co40] 32 (0, 0)) (q1_ BK395.out) hb); have n12_ := Aside0.mk (below_step t4_ hb); clear HO_8; clear HO_11; clear HO_12; clear HO_13; clear HO_396000; clear HO_396001; clear HO409; clear HO412; clear HO416; clear BK371; clear BK395; clear HB; have HO_8 := n0_; have HO_11 := n1_; have HO_12 := n2_; have HO_13 := n3_; have HO_396000 := n4_; have HO_396001 := n5_; have HO409 := n6_; have HO412 := n7_; have HO416 := n8_; have HO420 := n9_; have BK371 := n10_; have BK395 := n11_; have HB := n12_; clear n0_ n1_ n2_ n3_ n4_ n5_ n6_ n7_ n8_ n9_ n10_ n11_ n12_; (try clear hb); (try clear hb2); (try clear hk); (try clear hi); (try clear ho0); obtain ⟨Ao132, co132, eo132⟩ := Kd.R_slice HO420.out; subst eo132) | ((with_reducible refine gate_callee (f := 24) rfl ?_); refine goesL_ (some 76) rfl rfl Try.func24 t14_ rfl #[.slice Ao45 t399.length co45, .slice Ao132 t418.length co132] rfl t2_ ?_; (with_reducible refine (laws_eqInt64S.calls kj20 _ _ t399 _ _ t418 false _ ?side1 ?side2 ?side3 ?side4 A61.out).mono ?_); (case side1 => repeat (first | exact (Kd.R_reads' HO_12.out).2.2 | (with_reducible refine Kd.C_alloc ?_ _) | (with_reducible refine Kd.C_drewN ?_ _) | (with_reducible refine Kd.C_drew ?_))); (case side2 => exact (Kd.R_reads' HO_12.out).2.1); (case side3 => repeat (first | exact (Kd.R_reads' HO420.out).2.2 | (with_reducible refine Kd.C_alloc ?_ _) | (with_reducible refine Kd.C_drewN ?_ _) | (with_reducible refine Kd.C_drew ?_))); (case side4 => exact (Kd.R_reads' HO420.out).2.1); rintro e w' ⟨rfl, ⟨nd, rfl⟩⟩; refine ⟨_, rfl, ?_⟩))
          go_ret
          exact ⟨t5_, t4_⟩
        ·replace c59 := Bool.eq_false_iff.mpr c59
         subst c59
         have H1 : (some false) = some r := by rw [if_neg (show ¬ (false = true) by decide)] at H; exact H
         clear H
         have H := H1
         clear H1
         obtain rfl := Option.some.inj H
         try go_wp2
         have n0_ := Aside0.mk (Kd.R_drew HO_8.out)
         have n1_ := Aside0.mk (Kd.R_drew HO_11.out)
         have n2_ := Aside0.mk (Kd.R_drew HO_12.out)
         have n3_ := Aside0.mk (Kd.R_drew HO_13.out)
         have n4_ := Aside0.mk (Kd.R_drew HO_396000.out)
         have n5_ := Aside0.mk (Kd.R_drew HO_396001.out)
         have n6_ := Aside0.mk (blk_drew BK371.out)
         have n7_ := Aside0.mk (blk_drew BK395.out)
         have n8_ := Aside0.mk (below_drew1 HB.out)
         clear HO_8
         clear HO_11
         clear HO_12
         clear HO_13
         clear HO_396000
         clear HO_396001
         clear BK371
         clear BK395
         clear HB
         have HO_8 := n0_
         have HO_11 := n1_
         have HO_12 := n2_
         have HO_13 := n3_
         have HO_396000 := n4_
         have HO_396001 := n5_
         have BK371 := n6_
         have BK395 := n7_
         have HB := n8_
         clear n0_ n1_ n2_ n3_ n4_ n5_ n6_ n7_ n8_
         refine start_ (n := 5) (S := fun w' => w'.cell? ⟨gb395, 0, none⟩ = some (.slice Ao37 t389.length co37) ∧ w'.cell? ⟨gb395, 1, none⟩ = some (.slice Ao40 t392.length co40) ∧ w'.cell? ⟨gb371, 0, none⟩ = some (.slice A0_0 l0_0.length c0_0) ∧ w'.cell? ⟨gb371, 1, none⟩ = some (.slice A0_1 l0_1.length c0_1)) (ds := []) #[false, false, false, false, false] t14_ rfl rfl ⟨(blk_cell BK395.out 0).trans rfl, (blk_cell BK395.out 1).trans rfl, (blk_cell BK371.out 0).trans rfl, (blk_cell BK371.out 1).trans rfl⟩ (fun hHeld => ?_)
         generalize wc.drew = w133 at HO_8 HO_11 HO_12 HO_13 HO_396000 HO_396001 BK371 BK395 HB hHeld ⊢
         refine take_ (i := 0) (N := some 63) (v := ?_) (a' := ?_) #[true, false, false, false, false] rfl rfl t14_ (fun _ _ _ h => h) (Or.inl ⟨t71_, ?_⟩) hHeld ?_ ?_
         rotate_left
         ·rintro w' ⟨s0, s1, s2, s3⟩
          go_simp
          with_reducible rfl
         rotate_left; (· simp only [Act.put, List.setIfInBounds_toArray, List.set_cons_zero, List.set_cons_succ, i64_w, i32_w]; rfl)
         refine take_ (i := 1) (N := some 64) (v := ?_) (a' := ?_) #[true, true, false, false, false] rfl rfl t14_ (fun _ _ _ h => h) (Or.inl ⟨t71_, ?_⟩) hHeld ?_ ?_
         rotate_left
         ·rintro w' ⟨s0, s1, s2, s3⟩
          go_simp
          with_reducible rfl
         rotate_left; (· simp only [Act.put, List.setIfInBounds_toArray, List.set_cons_zero, List.set_cons_succ, i64_w, i32_w]; rfl)
         refine one_ (i := 2) (N := some 65) #[true, true, true, false, false] rfl rfl t14_ t31_ (fun K hK => ?_)
         refine goes_ Try.func14 t14_ rfl #[.agg #[.slice A0_0 l0_0.length c0_0, .slice A0_1 l0_1.length c0_1]] t71_ rfl rfl t2_ ?_
         with_reducible refine (laws_toNetwork.calls kj20 _ _ l0_0 _ _ l0_1 t407 t410 _ ?side1 ?side2 ?side3 ?side4 A54.out).mono ?_
         (case side1 => repeat (first | exact (Kd.C_below HR0_0.out HB.out) | (with_reducible refine Kd.C_alloc ?_ _) | (with_reducible refine Kd.C_drewN ?_ _) | (with_reducible refine Kd.C_drew ?_)))
         (case side2 => exact HC0_0.out)
         (case side3 => repeat (first | exact (Kd.C_below HR0_1.out HB.out) | (with_reducible refine Kd.C_alloc ?_ _) | (with_reducible refine Kd.C_drewN ?_ _) | (with_reducible refine Kd.C_drew ?_)))
         (case side4 => exact HC0_1.out)
         rintro e w134 ⟨v408, v411, rfl, ho0, ho1, hb⟩
         refine ⟨_, rfl, ?_⟩
         have n0_ := Aside0.mk (Kd.R_elder' (q2_ HO_8.out) (Kd.R_base ho0) hb)
         have n1_ := Aside0.mk (Kd.R_elder' (q2_ HO_11.out) (Kd.R_base ho0) hb)
         have n2_ := Aside0.mk (Kd.R_elder' (q2_ HO_12.out) (Kd.R_base ho0) hb)
         have n3_ := Aside0.mk (Kd.R_elder' (q2_ HO_13.out) (Kd.R_base ho0) hb)
         have n4_ := Aside0.mk (Kd.R_elder' (q2_ HO_396000.out) (Kd.R_base ho0) hb)
         have n5_ := Aside0.mk (Kd.R_elder' (q2_ HO_396001.out) (Kd.R_base ho1) hb)
         have n6_ := Aside0.mk (Kd.R_lower (Kd.R_new' (Kd.R_new' (Kd.R_new' (Kd.R_new' (Kd.R_new' ho0 (Kd.R_lt (q2_ HO_8.out))) (Kd.R_lt (q2_ HO_11.out))) (Kd.R_lt (q2_ HO_12.out))) (Kd.R_lt (q2_ HO_13.out))) (Kd.R_lt (q2_ HO_396000.out))) (below_size t4_))
         have n7_ := Aside0.mk (Kd.R_lower (Kd.R_new' ho1 (Kd.R_lt (q2_ HO_396001.out))) (below_size t4_))
         have n8_ := Aside0.mk (blk_below (g := gb371) (o := .cells #[.slice A0_0 l0_0.length c0_0, .slice A0_1 l0_1.length c0_1] 25 (0, 0)) (q1_ BK371.out) hb)
         have n9_ := Aside0.mk (blk_below (g := gb395) (o := .cells #[.slice Ao37 t389.length co37, .slice Ao40 t392.length co40] 32 (0, 0)) (q1_ BK395.out) hb)
         have n10_ := Aside0.mk (below_step t4_ hb)
         clear HO_8
         clear HO_11
         clear HO_12
         clear HO_13
         clear HO_396000
         clear HO_396001
         clear BK371
         clear BK395
         clear HB
         have HO_8 := n0_
         have HO_11 := n1_
         have HO_12 := n2_
         have HO_13 := n3_
         have HO_396000 := n4_
         have HO_396001 := n5_
         have HO409 := n6_
         have HO412 := n7_
         have BK371 := n8_
         have BK395 := n9_
         have HB := n10_
         clear n0_ n1_ n2_ n3_ n4_ n5_ n6_ n7_ n8_ n9_ n10_
         (try clear hb)
         (try clear hb2)
         (try clear hk)
         (try clear hi)
         (try clear ho0)
         (try clear ho1)
         obtain ⟨Ao135, co135, eo135⟩ := Kd.R_slice HO409.out
         (first | subst eo135 | (injection eo135 with f1_ f2_ f3_; have f4_ := f1_.symm; have f5_ := f3_.symm; clear f1_ f2_ f3_; subst f4_; subst f5_))
         obtain ⟨Ao136, co136, eo136⟩ := Kd.R_slice HO412.out
         (first | subst eo136 | (injection eo136 with f1_ f2_ f3_; have f4_ := f1_.symm; have f5_ := f3_.symm; clear f1_ f2_ f3_; subst f4_; subst f5_))
         refine hK.out _ _ ⟨(blk_cell BK395.out 0).trans rfl, (blk_cell BK395.out 1).trans rfl, (blk_cell BK371.out 0).trans rfl, (blk_cell BK371.out 1).trans rfl⟩ (fun hHeld => ?_)
         clear hK K
         refine norm_ (a' := ?_) ?_ ?_
         rotate_left
         ·show Act.put _ (some 65) _ = _
          simp only [Act.put, List.setIfInBounds_toArray, List.set_cons_zero, List.set_cons_succ, i64_w, i32_w]
          rfl
         refine one_ (i := 3) (N := some 66) #[true, true, true, true, false] rfl rfl t14_ t31_ (fun K hK => ?_)
         refine goes_ Try.func17 t14_ rfl #[.agg #[.slice Ao37 t389.length co37, .slice Ao40 t392.length co40], .agg #[.slice Ao135 t407.length co135, .slice Ao136 t410.length co136]] t71_ rfl rfl t2_ ?_
         with_reducible refine (laws_eqNetwork.calls kj20 _ _ t389 _ _ t392 _ _ t407 _ _ t410 true _ ?side1 ?side2 ?side3 ?side4 ?side5 ?side6 ?side7 ?side8 A55.out).mono ?_
         (case side1 => repeat (first | exact (Kd.R_reads' HO_396000.out).2.2 | (with_reducible refine Kd.C_alloc ?_ _) | (with_reducible refine Kd.C_drewN ?_ _) | (with_reducible refine Kd.C_drew ?_)))
         (case side2 => exact (Kd.R_reads' HO_396000.out).2.1)
         (case side3 => repeat (first | exact (Kd.R_reads' HO_396001.out).2.2 | (with_reducible refine Kd.C_alloc ?_ _) | (with_reducible refine Kd.C_drewN ?_ _) | (with_reducible refine Kd.C_drew ?_)))
         (case side4 => exact (Kd.R_reads' HO_396001.out).2.1)
         (case side5 => repeat (first | exact (Kd.R_reads' HO409.out).2.2 | (with_reducible refine Kd.C_alloc ?_ _) | (with_reducible refine Kd.C_drewN ?_ _) | (with_reducible refine Kd.C_drew ?_)))
         (case side6 => exact (Kd.R_reads' HO409.out).2.1)
         (case side7 => repeat (first | exact (Kd.R_reads' HO412.out).2.2 | (with_reducible refine Kd.C_alloc ?_ _) | (with_reducible refine Kd.C_drewN ?_ _) | (with_reducible refine Kd.C_drew ?_)))
         (case side8 => exact (Kd.R_reads' HO412.out).2.1)
         rintro e w137 ⟨rfl, hb⟩
         refine ⟨_, rfl, ?_⟩
         have n0_ := Aside0.mk (Kd.R_below (q2_ HO_8.out) hb)
         have n1_ := Aside0.mk (Kd.R_below (q2_ HO_11.out) hb)
         have n2_ := Aside0.mk (Kd.R_below (q2_ HO_12.out) hb)
         have n3_ := Aside0.mk (Kd.R_below (q2_ HO_13.out) hb)
         have n4_ := Aside0.mk (Kd.R_below (q2_ HO_396000.out) hb)
         have n5_ := Aside0.mk (Kd.R_below (q2_ HO_396001.out) hb)
         have n6_ := Aside0.mk (Kd.R_below (q2_ HO409.out) hb)
         have n7_ := Aside0.mk (Kd.R_below (q2_ HO412.out) hb)
         have n8_ := Aside0.mk (blk_below (g := gb371) (o := .cells #[.slice A0_0 l0_0.length c0_0, .slice A0_1 l0_1.length c0_1] 25 (0, 0)) (q1_ BK371.out) hb)
         have n9_ := Aside0.mk (blk_below (g := gb395) (o := .cells #[.slice Ao37 t389.length co37, .slice Ao40 t392.length co40] 32 (0, 0)) (q1_ BK395.out) hb)
         have n10_ := Aside0.mk (below_step t4_ hb)
         clear HO_8
         clear HO_11
         clear HO_12
         clear HO_13
         clear HO_396000
         clear HO_396001
         clear HO409
         clear HO412
         clear BK371
         clear BK395
         clear HB
         have HO_8 := n0_
         have HO_11 := n1_
         have HO_12 := n2_
         have HO_13 := n3_
         have HO_396000 := n4_
         have HO_396001 := n5_
         have HO409 := n6_
         have HO412 := n7_
         have BK371 := n8_
         have BK395 := n9_
         have HB := n10_
         clear n0_ n1_ n2_ n3_ n4_ n5_ n6_ n7_ n8_ n9_ n10_
         (try clear hb)
         (try clear hb2)
         (try clear hk)
         (try clear hi)
         refine hK.out _ _ ⟨(blk_cell BK395.out 0).trans rfl, (blk_cell BK395.out 1).trans rfl, (blk_cell BK371.out 0).trans rfl, (blk_cell BK371.out 1).trans rfl⟩ (fun hHeld => ?_)
         clear hK K
         refine norm_ (a' := ?_) ?_ ?_
         rotate_left
         ·show Act.put _ (some 66) _ = _
          simp only [Act.put, List.setIfInBounds_toArray, List.set_cons_zero, List.set_cons_succ, i64_w, i32_w]
          rfl
         refine pure_ (i := 4) (N := some 67) (v := ?_) (a' := ?_) #[true, true, true, true, true] rfl rfl t14_ (fun _ _ _ h => h) (Or.inl ⟨t71_, ?_⟩) ?_ ?_
         rotate_left; (· intro w'; go_simp; with_reducible rfl); rotate_left; (· simp only [Act.put, List.setIfInBounds_toArray, List.set_cons_zero, List.set_cons_succ, i64_w, i32_w]; rfl)
         refine done_ t14_ ?_
         try go_wp2_with (first | ((with_reducible refine gate_callee (f := 22) rfl ?_); refine goesL_ (some 70) rfl rfl Try.func22 t14_ rfl #[.slice A1 l1.length c1] rfl t2_ ?_; (with_reducible refine (laws_toInt64S.calls kj20 _ _ l1 t414 _ ?side1 ?side2 A57.out).mono ?_); (case side1 => repeat (first | exact (Kd.C_below HR1.out HB.out) | (with_reducible refine Kd.C_alloc ?_ _) | (with_reducible refine Kd.C_drewN ?_ _) | (with_reducible refine Kd.C_drew ?_))); (case side2 => exact HC1.out); rintro e w138 ⟨v415, rfl, ho0, hb⟩; refine ⟨_, rfl, ?_⟩; have n0_ := Aside0.mk (Kd.R_elder' (q2_ HO_8.out) (Kd.R_base ho0) hb); have n1_ := Aside0.mk (Kd.R_elder' (q2_ HO_11.out) (Kd.R_base ho0) hb); have n2_ := Aside0.mk (Kd.R_elder' (q2_ HO_12.out) (Kd.R_base ho0) hb); have n3_ := Aside0.mk (Kd.R_elder' (q2_ HO_13.out) (Kd.R_base ho0) hb); have n4_ := Aside0.mk (Kd.R_elder' (q2_ HO_396000.out) (Kd.R_base ho0) hb); have n5_ := Aside0.mk (Kd.R_below (q2_ HO_396001.out) hb); have n6_ := Aside0.mk (Kd.R_elder' (q2_ HO409.out) (Kd.R_base ho0) hb); have n7_ := Aside0.mk (Kd.R_below (q2_ HO412.out) hb); have n8_ := Aside0.mk (Kd.R_lower (Kd.R_new' (Kd.R_new' (Kd.R_new' (Kd.R_new' (Kd.R_new' (Kd.R_new' ho0 (Kd.R_lt (q2_ HO_8.out))) (Kd.R_lt (q2_ HO_11.out))) (Kd.R_lt (q2_ HO_12.out))) (Kd.R_lt (q2_ HO_13.out))) (Kd.R_lt (q2_ HO_396000.out))) (Kd.R_lt (q2_ HO409.out))) (below_size t4_)); have n9_ := Aside0.mk (blk_below (g := gb371) (o := .cells #[.slice A0_0 l0_0.length c0_0, .slice A0_1 l0_1.length c0_1] 25 (0, 0)) (q1_ BK371.out) hb); have n10_ := Aside0.mk (blk_below (g := gb395) (o := .cells #[.slice Ao37 t389.length co37, .slice Ao40 t392.length co40] 32 (0, 0)) (q1_ BK395.out) hb); have n11_ := Aside0.mk (below_step t4_ hb); clear HO_8; clear HO_11; clear HO_12; clear HO_13; clear HO_396000; clear HO_396001; clear HO409; clear HO412; clear BK371; clear BK395; clear HB; have HO_8 := n0_; have HO_11 := n1_; have HO_12 := n2_; have HO_13 := n3_; have HO_396000 := n4_; have HO_396001 := n5_; have HO409 := n6_; have HO412 := n7_; have HO416 := n8_; have BK371 := n9_; have BK395 := n10_; have HB := n11_; clear n0_ n1_ n2_ n3_ n4_ n5_ n6_ n7_ n8_ n9_ n10_ n11_; (try clear hb); (try clear hb2); (try clear hk); (try clear hi); (try clear ho0); obtain ⟨Ao139, co139, eo139⟩ := Kd.R_slice HO416.out; subst eo139) | ((with_reducible refine gate_callee (f := 24) rfl ?_); refine goesL_ (some 71) rfl rfl Try.func24 t14_ rfl #[.slice Ao44 t396.length co44, .slice Ao139 t414.length co139] rfl t2_ ?_; (with_reducible refine (laws_eqInt64S.calls kj20 _ _ t396 _ _ t414 false _ ?side1 ?side2 ?side3 ?side4 A58.out).mono ?_); (case side1 => repeat (first | exact (Kd.R_reads' HO_11.out).2.2 | (with_reducible refine Kd.C_alloc ?_ _) | (with_reducible refine Kd.C_drewN ?_ _) | (with_reducible refine Kd.C_drew ?_))); (case side2 => exact (Kd.R_reads' HO_11.out).2.1); (case side3 => repeat (first | exact (Kd.R_reads' HO416.out).2.2 | (with_reducible refine Kd.C_alloc ?_ _) | (with_reducible refine Kd.C_drewN ?_ _) | (with_reducible refine Kd.C_drew ?_))); (case side4 => exact (Kd.R_reads' HO416.out).2.1); rintro e w' ⟨rfl, ⟨nd, rfl⟩⟩; refine ⟨_, rfl, ?_⟩))
         go_ret
         exact ⟨t5_, t4_⟩
       ·replace c56 := Bool.eq_false_iff.mpr c56
        subst c56
        have H1 : (some false) = some r := by rw [if_neg (show ¬ (false = true) by decide)] at H; exact H
        clear H
        have H := H1
        clear H1
        obtain rfl := Option.some.inj H
        try go_wp2
        have n0_ := Aside0.mk (Kd.R_drew HO_8.out)
        have n1_ := Aside0.mk (Kd.R_drew HO_11.out)
        have n2_ := Aside0.mk (Kd.R_drew HO_12.out)
        have n3_ := Aside0.mk (Kd.R_drew HO_13.out)
        have n4_ := Aside0.mk (Kd.R_drew HO_396000.out)
        have n5_ := Aside0.mk (Kd.R_drew HO_396001.out)
        have n6_ := Aside0.mk (blk_drew BK371.out)
        have n7_ := Aside0.mk (blk_drew BK395.out)
        have n8_ := Aside0.mk (below_drew1 HB.out)
        clear HO_8
        clear HO_11
        clear HO_12
        clear HO_13
        clear HO_396000
        clear HO_396001
        clear BK371
        clear BK395
        clear HB
        have HO_8 := n0_
        have HO_11 := n1_
        have HO_12 := n2_
        have HO_13 := n3_
        have HO_396000 := n4_
        have HO_396001 := n5_
        have BK371 := n6_
        have BK395 := n7_
        have HB := n8_
        clear n0_ n1_ n2_ n3_ n4_ n5_ n6_ n7_ n8_
        refine start_ (n := 5) (S := fun w' => w'.cell? ⟨gb395, 0, none⟩ = some (.slice Ao37 t389.length co37) ∧ w'.cell? ⟨gb395, 1, none⟩ = some (.slice Ao40 t392.length co40) ∧ w'.cell? ⟨gb371, 0, none⟩ = some (.slice A0_0 l0_0.length c0_0) ∧ w'.cell? ⟨gb371, 1, none⟩ = some (.slice A0_1 l0_1.length c0_1)) (ds := []) #[false, false, false, false, false] t14_ rfl rfl ⟨(blk_cell BK395.out 0).trans rfl, (blk_cell BK395.out 1).trans rfl, (blk_cell BK371.out 0).trans rfl, (blk_cell BK371.out 1).trans rfl⟩ (fun hHeld => ?_)
        generalize wc.drew = w140 at HO_8 HO_11 HO_12 HO_13 HO_396000 HO_396001 BK371 BK395 HB hHeld ⊢
        refine take_ (i := 0) (N := some 63) (v := ?_) (a' := ?_) #[true, false, false, false, false] rfl rfl t14_ (fun _ _ _ h => h) (Or.inl ⟨t71_, ?_⟩) hHeld ?_ ?_
        rotate_left
        ·rintro w' ⟨s0, s1, s2, s3⟩
         go_simp
         with_reducible rfl
        rotate_left; (· simp only [Act.put, List.setIfInBounds_toArray, List.set_cons_zero, List.set_cons_succ, i64_w, i32_w]; rfl)
        refine take_ (i := 1) (N := some 64) (v := ?_) (a' := ?_) #[true, true, false, false, false] rfl rfl t14_ (fun _ _ _ h => h) (Or.inl ⟨t71_, ?_⟩) hHeld ?_ ?_
        rotate_left
        ·rintro w' ⟨s0, s1, s2, s3⟩
         go_simp
         with_reducible rfl
        rotate_left; (· simp only [Act.put, List.setIfInBounds_toArray, List.set_cons_zero, List.set_cons_succ, i64_w, i32_w]; rfl)
        refine one_ (i := 2) (N := some 65) #[true, true, true, false, false] rfl rfl t14_ t31_ (fun K hK => ?_)
        refine goes_ Try.func14 t14_ rfl #[.agg #[.slice A0_0 l0_0.length c0_0, .slice A0_1 l0_1.length c0_1]] t71_ rfl rfl t2_ ?_
        with_reducible refine (laws_toNetwork.calls kj20 _ _ l0_0 _ _ l0_1 t407 t410 _ ?side1 ?side2 ?side3 ?side4 A54.out).mono ?_
        (case side1 => repeat (first | exact (Kd.C_below HR0_0.out HB.out) | (with_reducible refine Kd.C_alloc ?_ _) | (with_reducible refine Kd.C_drewN ?_ _) | (with_reducible refine Kd.C_drew ?_)))
        (case side2 => exact HC0_0.out)
        (case side3 => repeat (first | exact (Kd.C_below HR0_1.out HB.out) | (with_reducible refine Kd.C_alloc ?_ _) | (with_reducible refine Kd.C_drewN ?_ _) | (with_reducible refine Kd.C_drew ?_)))
        (case side4 => exact HC0_1.out)
        rintro e w141 ⟨v408, v411, rfl, ho0, ho1, hb⟩
        refine ⟨_, rfl, ?_⟩
        have n0_ := Aside0.mk (Kd.R_elder' (q2_ HO_8.out) (Kd.R_base ho0) hb)
        have n1_ := Aside0.mk (Kd.R_elder' (q2_ HO_11.out) (Kd.R_base ho0) hb)
        have n2_ := Aside0.mk (Kd.R_elder' (q2_ HO_12.out) (Kd.R_base ho0) hb)
        have n3_ := Aside0.mk (Kd.R_elder' (q2_ HO_13.out) (Kd.R_base ho0) hb)
        have n4_ := Aside0.mk (Kd.R_elder' (q2_ HO_396000.out) (Kd.R_base ho0) hb)
        have n5_ := Aside0.mk (Kd.R_elder' (q2_ HO_396001.out) (Kd.R_base ho1) hb)
        have n6_ := Aside0.mk (Kd.R_lower (Kd.R_new' (Kd.R_new' (Kd.R_new' (Kd.R_new' (Kd.R_new' ho0 (Kd.R_lt (q2_ HO_8.out))) (Kd.R_lt (q2_ HO_11.out))) (Kd.R_lt (q2_ HO_12.out))) (Kd.R_lt (q2_ HO_13.out))) (Kd.R_lt (q2_ HO_396000.out))) (below_size t4_))
        have n7_ := Aside0.mk (Kd.R_lower (Kd.R_new' ho1 (Kd.R_lt (q2_ HO_396001.out))) (below_size t4_))
        have n8_ := Aside0.mk (blk_below (g := gb371) (o := .cells #[.slice A0_0 l0_0.length c0_0, .slice A0_1 l0_1.length c0_1] 25 (0, 0)) (q1_ BK371.out) hb)
        have n9_ := Aside0.mk (blk_below (g := gb395) (o := .cells #[.slice Ao37 t389.length co37, .slice Ao40 t392.length co40] 32 (0, 0)) (q1_ BK395.out) hb)
        have n10_ := Aside0.mk (below_step t4_ hb)
        clear HO_8
        clear HO_11
        clear HO_12
        clear HO_13
        clear HO_396000
        clear HO_396001
        clear BK371
        clear BK395
        clear HB
        have HO_8 := n0_
        have HO_11 := n1_
        have HO_12 := n2_
        have HO_13 := n3_
        have HO_396000 := n4_
        have HO_396001 := n5_
        have HO409 := n6_
        have HO412 := n7_
        have BK371 := n8_
        have BK395 := n9_
        have HB := n10_
        clear n0_ n1_ n2_ n3_ n4_ n5_ n6_ n7_ n8_ n9_ n10_
        (try clear hb)
        (try clear hb2)
        (try clear hk)
        (try clear hi)
        (try clear ho0)
        (try clear ho1)
        obtain ⟨Ao142, co142, eo142⟩ := Kd.R_slice HO409.out
        (first | subst eo142 | (injection eo142 with f1_ f2_ f3_; have f4_ := f1_.symm; have f5_ := f3_.symm; clear f1_ f2_ f3_; subst f4_; subst f5_))
        obtain ⟨Ao143, co143, eo143⟩ := Kd.R_slice HO412.out
        (first | subst eo143 | (injection eo143 with f1_ f2_ f3_; have f4_ := f1_.symm; have f5_ := f3_.symm; clear f1_ f2_ f3_; subst f4_; subst f5_))
        refine hK.out _ _ ⟨(blk_cell BK395.out 0).trans rfl, (blk_cell BK395.out 1).trans rfl, (blk_cell BK371.out 0).trans rfl, (blk_cell BK371.out 1).trans rfl⟩ (fun hHeld => ?_)
        clear hK K
        refine norm_ (a' := ?_) ?_ ?_
        rotate_left
        ·show Act.put _ (some 65) _ = _
         simp only [Act.put, List.setIfInBounds_toArray, List.set_cons_zero, List.set_cons_succ, i64_w, i32_w]
         rfl
        refine one_ (i := 3) (N := some 66) #[true, true, true, true, false] rfl rfl t14_ t31_ (fun K hK => ?_)
        refine goes_ Try.func17 t14_ rfl #[.agg #[.slice Ao37 t389.length co37, .slice Ao40 t392.length co40], .agg #[.slice Ao142 t407.length co142, .slice Ao143 t410.length co143]] t71_ rfl rfl t2_ ?_
        with_reducible refine (laws_eqNetwork.calls kj20 _ _ t389 _ _ t392 _ _ t407 _ _ t410 false _ ?side1 ?side2 ?side3 ?side4 ?side5 ?side6 ?side7 ?side8 A55.out).mono ?_
        (case side1 => repeat (first | exact (Kd.R_reads' HO_396000.out).2.2 | (with_reducible refine Kd.C_alloc ?_ _) | (with_reducible refine Kd.C_drewN ?_ _) | (with_reducible refine Kd.C_drew ?_)))
        (case side2 => exact (Kd.R_reads' HO_396000.out).2.1)
        (case side3 => repeat (first | exact (Kd.R_reads' HO_396001.out).2.2 | (with_reducible refine Kd.C_alloc ?_ _) | (with_reducible refine Kd.C_drewN ?_ _) | (with_reducible refine Kd.C_drew ?_)))
        (case side4 => exact (Kd.R_reads' HO_396001.out).2.1)
        (case side5 => repeat (first | exact (Kd.R_reads' HO409.out).2.2 | (with_reducible refine Kd.C_alloc ?_ _) | (with_reducible refine Kd.C_drewN ?_ _) | (with_reducible refine Kd.C_drew ?_)))
        (case side6 => exact (Kd.R_reads' HO409.out).2.1)
        (case side7 => repeat (first | exact (Kd.R_reads' HO412.out).2.2 | (with_reducible refine Kd.C_alloc ?_ _) | (with_reducible refine Kd.C_drewN ?_ _) | (with_reducible refine Kd.C_drew ?_)))
        (case side8 => exact (Kd.R_reads' HO412.out).2.1)
        rintro e w144 ⟨rfl, hb⟩
        refine ⟨_, rfl, ?_⟩
        have n0_ := Aside0.mk (Kd.R_below (q2_ HO_8.out) hb)
        have n1_ := Aside0.mk (Kd.R_below (q2_ HO_11.out) hb)
        have n2_ := Aside0.mk (Kd.R_below (q2_ HO_12.out) hb)
        have n3_ := Aside0.mk (Kd.R_below (q2_ HO_13.out) hb)
        have n4_ := Aside0.mk (Kd.R_below (q2_ HO_396000.out) hb)
        have n5_ := Aside0.mk (Kd.R_below (q2_ HO_396001.out) hb)
        have n6_ := Aside0.mk (Kd.R_below (q2_ HO409.out) hb)
        have n7_ := Aside0.mk (Kd.R_below (q2_ HO412.out) hb)
        have n8_ := Aside0.mk (blk_below (g := gb371) (o := .cells #[.slice A0_0 l0_0.length c0_0, .slice A0_1 l0_1.length c0_1] 25 (0, 0)) (q1_ BK371.out) hb)
        have n9_ := Aside0.mk (blk_below (g := gb395) (o := .cells #[.slice Ao37 t389.length co37, .slice Ao40 t392.length co40] 32 (0, 0)) (q1_ BK395.out) hb)
        have n10_ := Aside0.mk (below_step t4_ hb)
        clear HO_8
        clear HO_11
        clear HO_12
        clear HO_13
        clear HO_396000
        clear HO_396001
        clear HO409
        clear HO412
        clear BK371
        clear BK395
        clear HB
        have HO_8 := n0_
        have HO_11 := n1_
        have HO_12 := n2_
        have HO_13 := n3_
        have HO_396000 := n4_
        have HO_396001 := n5_
        have HO409 := n6_
        have HO412 := n7_
        have BK371 := n8_
        have BK395 := n9_
        have HB := n10_
        clear n0_ n1_ n2_ n3_ n4_ n5_ n6_ n7_ n8_ n9_ n10_
        (try clear hb)
        (try clear hb2)
        (try clear hk)
        (try clear hi)
        refine hK.out _ _ ⟨(blk_cell BK395.out 0).trans rfl, (blk_cell BK395.out 1).trans rfl, (blk_cell BK371.out 0).trans rfl, (blk_cell BK371.out 1).trans rfl⟩ (fun hHeld => ?_)
        clear hK K
        refine norm_ (a' := ?_) ?_ ?_
        rotate_left
        ·show Act.put _ (some 66) _ = _
         simp only [Act.put, List.setIfInBounds_toArray, List.set_cons_zero, List.set_cons_succ, i64_w, i32_w]
         rfl
        refine pure_ (i := 4) (N := some 67) (v := ?_) (a' := ?_) #[true, true, true, true, true] rfl rfl t14_ (fun _ _ _ h => h) (Or.inl ⟨t71_, ?_⟩) ?_ ?_
        rotate_left; (· intro w'; go_simp; with_reducible rfl); rotate_left; (· simp only [Act.put, List.setIfInBounds_toArray, List.set_cons_zero, List.set_cons_succ, i64_w, i32_w]; rfl)
        refine done_ t14_ ?_
        try go_wp2
        go_ret
        exact ⟨t5_, t4_⟩

/-- What is known of values that were read. -/
def wfIi64 (x : Int) : Prop := (Lit.int .i64 x).wf = true
def wfLIi64 (x : List Int) : Prop := x.length ≤ 9223372036854775807 ∧ ∀ x_ ∈ x, wfIi64 x_
def wfZ (x : ByteArray) : Prop := x.size ≤ maxLen
def wfT99 (x : S99) : Prop := x.f0.size ≤ maxLen ∧ (Lit.int .i64 x.f1).wf = true ∧ (Lit.int .i64 x.f2).wf = true ∧ (Lit.int .i64 x.f3).wf = true ∧ (Lit.int .i64 x.f4).wf = true ∧ (Lit.int .i64 x.f5).wf = true
def wfLT99 (x : List (S99)) : Prop := x.length ≤ 9223372036854775807 ∧ ∀ x_ ∈ x, wfT99 x_
def wfT25 (x : S25) : Prop := wfLIi64 x.f0 ∧ wfLT99 x.f1

/-- THE ONE PURE STATEMENT of laws_FnExactCriticalPipes. -/
def laws_FnExactCriticalPipes.Pure : Prop := ∀ (x0 : S25) (x1 : List Int) (x2 : List Int), wfT25 x0 → wfLIi64 x1 → wfLIi64 x2 → ∃ k, laws_FnExactCriticalPipes.f k x0.f0 x0.f1 x1 x2 = some true
theorem laws_FnExactCriticalPipes.walk0 : True := trivial
theorem laws_FnExactCriticalPipes.walk : True := trivial

end Go.Proofs.Ytjelfhmgbhidnaa.PFnExactCriticalPipes
