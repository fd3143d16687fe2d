-- written by wip/xprint.py, a program of this session, for this claim; not trusted: Lean checks it.
import Derived.Test.YtjelfhmgbhidnaaPFnExactUnservedLoadx0
import Derived.Test.YtjelfhmgbhidnaaPFnExactUnservedLoadx1
import Derived.Test.YtjelfhmgbhidnaaPFnExactUnservedLoadx2
import Derived.Test.YtjelfhmgbhidnaaPFnExactUnservedLoadx8
import Derived.Test.YtjelfhmgbhidnaaPFnExactUnservedLoadx13
namespace Go.Proofs.Ytjelfhmgbhidnaa.PFnExactUnservedLoad
open Go.RowKit Go.Proofs.YtjelfhmgbhidnaaW.PrintWords Go.Proofs.YtjelfhmgbhidnaaW.PrintLast Go.Proofs.YtjelfhmgbhidnaaW.PrintMore
attribute [local go_sem] leq_less_ max2_int min2_int max_two min_two max_three min_three max_four min_four   -- for this text's walks alone
set_option linter.unusedVariables false
set_option linter.unusedSimpArgs false

/-! ### laws_FnExactUnservedLoad: function 6 -/
def laws_FnExactUnservedLoad.j0 : Nat → List Int → List Int → List Int → List Int → List Int → List Int → Bool → List Int → List (S99) → List Int → List (S80) → Option (Bool)
 | 0, _, _, _, _, _, _, _, _, _, _, _ => none
 | k + 1, x1, x2, x3, x13, x14, x15, x67, x296000, x296001, x321000, x321001 => if x67 = true then (some false) else ((laws_toNetwork.f k x296000 x296001).bind fun bt332 => ((laws_eqNetwork.f k x321000 x321001 bt332.1 bt332.2).bind fun t338 => (if t338 = true then ((laws_toInt64S.f k x1).bind fun t339 => ((laws_eqInt64S.f k x13 t339).bind fun t342 => (if t342 = true then ((laws_toInt64S.f k x2).bind fun t343 => ((laws_eqInt64S.f k x14 t343).bind fun t346 => (if t346 = true then ((laws_toInt64S.f k x3).bind fun t347 => ((laws_eqInt64S.f k x15 t347).bind fun t350 => (if t350 = true then (some true) else (some false)))) else (some false)))) else (some false)))) else (some false))))
def laws_FnExactUnservedLoad.f (k : Nat) (l0_0 : List Int) (l0_1 : List (S99)) (l1 : List Int) (l2 : List Int) (l3 : List Int) : Option (Bool) := if (l1.length : Int) > 1048576 then (some true) else (if (l2.length : Int) > 1048576 then (some true) else (if (l3.length : Int) > 1048576 then (some true) else ((laws_szNetwork.f k l0_0 l0_1 1048576).bind fun t296 => (if t296 < 0 then (some true) else ((laws_toNetwork.f k l0_0 l0_1).bind fun bt297 => ((laws_toInt64S.f k l1).bind fun t303 => ((laws_toInt64S.f k l2).bind fun t306 => ((laws_toInt64S.f k l3).bind fun t309 => ((spec_UnservedLoad.f k bt297.1 bt297.2 t303 t306 t309).bind fun bt312 => ((laws_toNetwork.f k l0_0 l0_1).bind fun bt314 => ((laws_toInt64S.f k l1).bind fun t321 => ((laws_toInt64S.f k l2).bind fun t324 => ((laws_toInt64S.f k l3).bind fun t327 => ((impl_UnservedLoad.f k bt314.1 bt314.2 t321 t324 t327).bind fun bt330 => (if bt330.1 = bt312.1 then (laws_FnExactUnservedLoad.j0 k l1 l2 l3 t321 t324 t327 (bt330.2 != bt312.2) l0_0 l0_1 bt314.1 bt314.2) else (laws_FnExactUnservedLoad.j0 k l1 l2 l3 t321 t324 t327 true l0_0 l0_1 bt314.1 bt314.2))))))))))))))))
theorem laws_FnExactUnservedLoad.mono_l : ∀ k, (∀ y0 y1 y2 y3 y4 y5 y6 y7 y8 y9 y10, LeO (laws_FnExactUnservedLoad.j0 k y0 y1 y2 y3 y4 y5 y6 y7 y8 y9 y10) (laws_FnExactUnservedLoad.j0 (k + 1) y0 y1 y2 y3 y4 y5 y6 y7 y8 y9 y10))
 | 0 => fun _ _ _ _ _ _ _ _ _ _ _ r h => by simp [laws_FnExactUnservedLoad.j0] at h
 | k + 1 => by
  have ih0 := laws_FnExactUnservedLoad.mono_l k
  ·intro y0 y1 y2 y3 y4 y5 y6 y7 y8 y9 y10
   unfold laws_FnExactUnservedLoad.j0
   repeat' first
   | (with_reducible exact ih0 _ _ _ _ _ _ _ _ _ _ _)
   | (with_reducible exact impl_UnservedLoad.mono _ _ _ _ _ _)
   | (with_reducible exact laws_eqInt64S.mono _ _ _)
   | (with_reducible exact laws_eqNetwork.mono _ _ _ _ _)
   | (with_reducible exact laws_szNetwork.mono _ _ _ _)
   | (with_reducible exact laws_toInt64S.mono _ _)
   | (with_reducible exact laws_toNetwork.mono _ _ _)
   | (with_reducible exact spec_UnservedLoad.mono _ _ _ _ _ _)
   | (with_reducible exact LeO.refl _)
   | (with_reducible exact LeO.none _)
   | (with_reducible refine LeO.ite ?_ ?_)
   | (with_reducible refine LeO.bind ?_ (fun _ => ?_))
   | exact ih0 _ _ _ _ _ _ _ _ _ _ _
   | exact impl_UnservedLoad.mono _ _ _ _ _ _
   | exact laws_eqInt64S.mono _ _ _
   | exact laws_eqNetwork.mono _ _ _ _ _
   | exact laws_szNetwork.mono _ _ _ _
   | exact laws_toInt64S.mono _ _
   | exact laws_toNetwork.mono _ _ _
   | exact spec_UnservedLoad.mono _ _ _ _ _ _
   | exact LeO.none _
   | refine LeO.ite ?_ ?_
   | refine LeO.bind ?_ (fun _ => ?_)
theorem laws_FnExactUnservedLoad.mono : ∀ a0 a1 a2 a3 a4 k, LeO (laws_FnExactUnservedLoad.f k a0 a1 a2 a3 a4) (laws_FnExactUnservedLoad.f (k + 1) a0 a1 a2 a3 a4) := by
 intro a0 a1 a2 a3 a4 k
 have ih0 := laws_FnExactUnservedLoad.mono_l k
 unfold laws_FnExactUnservedLoad.f
 repeat' first
   | (with_reducible exact ih0 _ _ _ _ _ _ _ _ _ _ _)
   | (with_reducible exact impl_UnservedLoad.mono _ _ _ _ _ _)
   | (with_reducible exact laws_eqInt64S.mono _ _ _)
   | (with_reducible exact laws_eqNetwork.mono _ _ _ _ _)
   | (with_reducible exact laws_szNetwork.mono _ _ _ _)
   | (with_reducible exact laws_toInt64S.mono _ _)
   | (with_reducible exact laws_toNetwork.mono _ _ _)
   | (with_reducible exact spec_UnservedLoad.mono _ _ _ _ _ _)
   | (with_reducible exact LeO.refl _)
   | (with_reducible exact LeO.none _)
   | (with_reducible refine LeO.ite ?_ ?_)
   | (with_reducible refine LeO.bind ?_ (fun _ => ?_))
   | exact ih0 _ _ _ _ _ _ _ _ _ _ _
   | exact impl_UnservedLoad.mono _ _ _ _ _ _
   | exact laws_eqInt64S.mono _ _ _
   | exact laws_eqNetwork.mono _ _ _ _ _
   | exact laws_szNetwork.mono _ _ _ _
   | exact laws_toInt64S.mono _ _
   | exact laws_toNetwork.mono _ _ _
   | exact spec_UnservedLoad.mono _ _ _ _ _ _
   | exact LeO.none _
   | refine LeO.ite ?_ ?_
   | refine LeO.bind ?_ (fun _ => ?_)
set_option maxHeartbeats 8000000 in
set_option maxRecDepth 100000 in
theorem laws_FnExactUnservedLoad.calls (k : Nat) (A0_0 : Option Addr) (c0_0 : Nat) (l0_0 : List Int) (A0_1 : Option Addr) (c0_1 : Nat) (l0_1 : List (S99)) (A1 : Option Addr) (c1 : Nat) (l1 : List Int) (A2 : Option Addr) (c2 : Nat) (l2 : List Int) (A3 : Option Addr) (c3 : Nat) (l3 : List Int) (r : Bool) (w : World) (hr0_0 : Kd.C (Kd.int .i64) w A0_0 l0_0.length l0_0) (hc0_0 : l0_0.length ≤ c0_0) (hr0_1 : Kd.C k99 w A0_1 l0_1.length l0_1) (hc0_1 : l0_1.length ≤ c0_1) (hr1 : Kd.C (Kd.int .i64) w A1 l1.length l1) (hc1 : l1.length ≤ c1) (hr2 : Kd.C (Kd.int .i64) w A2 l2.length l2) (hc2 : l2.length ≤ c2) (hr3 : Kd.C (Kd.int .i64) w A3 l3.length l3) (hc3 : l3.length ≤ c3) (h : laws_FnExactUnservedLoad.f k l0_0 l0_1 l1 l2 l3 = some r) :
  Calls Try.prog 6 #[.agg #[.slice A0_0 l0_0.length c0_0, .slice A0_1 l0_1.length c0_1], .slice A1 l1.length c1, .slice A2 l2.length c2, .slice A3 l3.length c3] w fun e w' => e = .returned (.bool r) ∧ Below w.heap.size w w' := by
 have hu25 := Try.underlying25
 have hu32 := Try.underlying32
 have HR0_0 := Aside0.mk hr0_0
 have HC0_0 := Aside0.mk hc0_0
 clear hr0_0 hc0_0
 have HR0_1 := Aside0.mk hr0_1
 have HC0_1 := Aside0.mk hc0_1
 clear hr0_1 hc0_1
 have HR1 := Aside0.mk hr1
 have HC1 := Aside0.mk hc1
 clear hr1 hc1
 have HR2 := Aside0.mk hr2
 have HC2 := Aside0.mk hc2
 clear hr2 hc2
 have HR3 := Aside0.mk hr3
 have HC3 := Aside0.mk hc3
 clear hr3 hc3
 have HB := Aside0.mk (Below.refl w.heap.size w)
 have H : (if (l1.length : Int) > 1048576 then (some true) else (if (l2.length : Int) > 1048576 then (some true) else (if (l3.length : Int) > 1048576 then (some true) else ((laws_szNetwork.f k l0_0 l0_1 1048576).bind fun t296 => (if t296 < 0 then (some true) else ((laws_toNetwork.f k l0_0 l0_1).bind fun bt297 => ((laws_toInt64S.f k l1).bind fun t303 => ((laws_toInt64S.f k l2).bind fun t306 => ((laws_toInt64S.f k l3).bind fun t309 => ((spec_UnservedLoad.f k bt297.1 bt297.2 t303 t306 t309).bind fun bt312 => ((laws_toNetwork.f k l0_0 l0_1).bind fun bt314 => ((laws_toInt64S.f k l1).bind fun t321 => ((laws_toInt64S.f k l2).bind fun t324 => ((laws_toInt64S.f k l3).bind fun t327 => ((impl_UnservedLoad.f k bt314.1 bt314.2 t321 t324 t327).bind fun bt330 => (if bt330.1 = bt312.1 then (laws_FnExactUnservedLoad.j0 k l1 l2 l3 t321 t324 t327 (bt330.2 != bt312.2) l0_0 l0_1 bt314.1 bt314.2) else (laws_FnExactUnservedLoad.j0 k l1 l2 l3 t321 t324 t327 true l0_0 l0_1 bt314.1 bt314.2))))))))))))))))) = some r := h
 clear h
 by_cases c5 : (l1.length : Int) > 1048576
 ·rw [if_pos c5] at H
  have c5b0 : decide (1048576 < (l1.length : Int)) = true := decide_eq_true c5
  have c5b1 : decide (1048576 < l1.length) = true := decide_eq_true t11_
  clear c5
  obtain rfl := Option.some.inj H
  go_enter Try.func6, Try.ntmps6
  go_wp2_with (first | ((with_reducible refine gate_dst (N := 4) rfl ?_); refine box_event ?hg (N := 4) ?hd (cs := #[.slice A0_0 l0_0.length c0_0, .slice A0_1 l0_1.length c0_1]) (t := 25) ?hr ?_; (case hd => rfl); (case hg => rfl); (case hr => first | (go_simp; done) | (go_simp; rfl)); intro gb295 hg w6 hbox hb; have n0_ := Aside0.mk (below_step t1_ hb); have n1_ := Aside0.mk (hbox); have n2_ := Aside0.mk ((by rw [hg]; exact (below_size t1_) : w.heap.size ≤ gb295)); have n3_ := Aside0.mk ((by rw [hg]; exact (below_size t1_) : w.heap.size ≤ gb295)); clear HB; have HB := n0_; have BK295 := n1_; have GW295 := n2_; have GE295 := n3_; clear n0_ n1_ n2_ n3_; clear hb hbox hg))
  go_ret
  exact ⟨by first | rfl | (rw [Int.tdiv_eq_ediv_of_nonneg t11_]; rfl) | (simp [errW_none, errW_some] <;> rfl) | (simp [*, errW_none, errW_some] <;> rfl), by repeat (first | (with_reducible first | exact HB.out | apply below_alloc | apply pw_below_drewN | apply below_drew1 | refine below_set ?_ GE295.out) | exact HB.out)⟩
 ·rw [if_neg c5] at H
  have c5b0 : decide (1048576 < (l1.length : Int)) = false := decide_eq_false c5
  have c5b1 : decide (1048576 < l1.length) = false := decide_eq_false t11_
  clear c5
  by_cases c7 : (l2.length : Int) > 1048576
  ·rw [if_pos c7] at H
   have c7b0 : decide (1048576 < (l2.length : Int)) = true := decide_eq_true c7
   have c7b1 : decide (1048576 < l2.length) = true := decide_eq_true t11_
   clear c7
   obtain rfl := Option.some.inj H
   go_enter Try.func6, Try.ntmps6
   go_wp2_with (first | ((with_reducible refine gate_dst (N := 4) rfl ?_); refine box_event ?hg (N := 4) ?hd (cs := #[.slice A0_0 l0_0.length c0_0, .slice A0_1 l0_1.length c0_1]) (t := 25) ?hr ?_; (case hd => rfl); (case hg => rfl); (case hr => first | (go_simp; done) | (go_simp; rfl)); intro gb295 hg w8 hbox hb; have n0_ := Aside0.mk (below_step t1_ hb); have n1_ := Aside0.mk (hbox); have n2_ := Aside0.mk ((by rw [hg]; exact (below_size t1_) : w.heap.size ≤ gb295)); have n3_ := Aside0.mk ((by rw [hg]; exact (below_size t1_) : w.heap.size ≤ gb295)); clear HB; have HB := n0_; have BK295 := n1_; have GW295 := n2_; have GE295 := n3_; clear n0_ n1_ n2_ n3_; clear hb hbox hg))
   go_ret
   exact ⟨by first | rfl | (rw [Int.tdiv_eq_ediv_of_nonneg t11_]; rfl) | (simp [errW_none, errW_some] <;> rfl) | (simp [*, errW_none, errW_some] <;> rfl), by repeat (first | (with_reducible first | exact HB.out | apply below_alloc | apply pw_below_drewN | apply below_drew1 | refine below_set ?_ GE295.out) | exact HB.out)⟩
  ·rw [if_neg c7] at H
   have c7b0 : decide (1048576 < (l2.length : Int)) = false := decide_eq_false c7
   have c7b1 : decide (1048576 < l2.length) = false := decide_eq_false t11_
   clear c7
   by_cases c9 : (l3.length : Int) > 1048576
   ·rw [if_pos c9] at H
    have c9b0 : decide (1048576 < (l3.length : Int)) = true := decide_eq_true c9
    have c9b1 : decide (1048576 < l3.length) = true := decide_eq_true t11_
    clear c9
    obtain rfl := Option.some.inj H
    go_enter Try.func6, Try.ntmps6
    go_wp2_with (first | ((with_reducible refine gate_dst (N := 4) rfl ?_); refine box_event ?hg (N := 4) ?hd (cs := #[.slice A0_0 l0_0.length c0_0, .slice A0_1 l0_1.length c0_1]) (t := 25) ?hr ?_; (case hd => rfl); (case hg => rfl); (case hr => first | (go_simp; done) | (go_simp; rfl)); intro gb295 hg w10 hbox hb; have n0_ := Aside0.mk (below_step t1_ hb); have n1_ := Aside0.mk (hbox); have n2_ := Aside0.mk ((by rw [hg]; exact (below_size t1_) : w.heap.size ≤ gb295)); have n3_ := Aside0.mk ((by rw [hg]; exact (below_size t1_) : w.heap.size ≤ gb295)); clear HB; have HB := n0_; have BK295 := n1_; have GW295 := n2_; have GE295 := n3_; clear n0_ n1_ n2_ n3_; clear hb hbox hg))
    go_ret
    exact ⟨by first | rfl | (rw [Int.tdiv_eq_ediv_of_nonneg t11_]; rfl) | (simp [errW_none, errW_some] <;> rfl) | (simp [*, errW_none, errW_some] <;> rfl), by repeat (first | (with_reducible first | exact HB.out | apply below_alloc | apply pw_below_drewN | apply below_drew1 | refine below_set ?_ GE295.out) | exact HB.out)⟩
   ·rw [if_neg c9] at H
    have c9b0 : decide (1048576 < (l3.length : Int)) = false := decide_eq_false c9
    have c9b1 : decide (1048576 < l3.length) = false := decide_eq_false t11_
    clear c9
    replace H := Option.bind_eq_some_iff.mp H
    obtain ⟨t296, A110, H⟩ := H
    replace H : (if t296 < 0 then (some true) else ((laws_toNetwork.f k l0_0 l0_1).bind fun bt297 => ((laws_toInt64S.f k l1).bind fun t303 => ((laws_toInt64S.f k l2).bind fun t306 => ((laws_toInt64S.f k l3).bind fun t309 => ((spec_UnservedLoad.f k bt297.1 bt297.2 t303 t306 t309).bind fun bt312 => ((laws_toNetwork.f k l0_0 l0_1).bind fun bt314 => ((laws_toInt64S.f k l1).bind fun t321 => ((laws_toInt64S.f k l2).bind fun t324 => ((laws_toInt64S.f k l3).bind fun t327 => ((impl_UnservedLoad.f k bt314.1 bt314.2 t321 t324 t327).bind fun bt330 => (if bt330.1 = bt312.1 then (laws_FnExactUnservedLoad.j0 k l1 l2 l3 t321 t324 t327 (bt330.2 != bt312.2) l0_0 l0_1 bt314.1 bt314.2) else (laws_FnExactUnservedLoad.j0 k l1 l2 l3 t321 t324 t327 true l0_0 l0_1 bt314.1 bt314.2))))))))))))) = some r := H
    have A11 := Aside0.mk A110
    clear A110
    by_cases c12 : t296 < 0
    ·rw [if_pos c12] at H
     have c12b0 : decide (t296 < 0) = true := decide_eq_true c12
     clear c12
     obtain rfl := Option.some.inj H
     go_enter Try.func6, Try.ntmps6
     go_wp2_with (first | ((with_reducible refine gate_dst (N := 4) rfl ?_); refine box_event ?hg (N := 4) ?hd (cs := #[.slice A0_0 l0_0.length c0_0, .slice A0_1 l0_1.length c0_1]) (t := 25) ?hr ?_; (case hd => rfl); (case hg => rfl); (case hr => first | (go_simp; done) | (go_simp; rfl)); intro gb295 hg w13 hbox hb; have n0_ := Aside0.mk (below_step t1_ hb); have n1_ := Aside0.mk (hbox); have n2_ := Aside0.mk ((by rw [hg]; exact (below_size t1_) : w.heap.size ≤ gb295)); have n3_ := Aside0.mk ((by rw [hg]; exact (below_size t1_) : w.heap.size ≤ gb295)); clear HB; have HB := n0_; have BK295 := n1_; have GW295 := n2_; have GE295 := n3_; clear n0_ n1_ n2_ n3_; clear hb hbox hg; have hcz14_0 : w13.cell? ⟨gb295, 0, none⟩ = some (.slice A0_0 l0_0.length c0_0) := (blk_cell BK295.out 0).trans rfl; have hcz14_1 : w13.cell? ⟨gb295, 1, none⟩ = some (.slice A0_1 l0_1.length c0_1) := (blk_cell BK295.out 1).trans rfl; have hfz14_0 := blk_frozen BK295.out 0; have hfz14_1 := blk_frozen BK295.out 1) | ((with_reducible refine gate_callee (f := 11) rfl ?_); refine goesL_ (some 29) rfl rfl Try.func11 t6_ rfl #[.agg #[.slice A0_0 l0_0.length c0_0, .slice A0_1 l0_1.length c0_1], .int .i64 1048576] rfl t2_ ?_; (with_reducible refine (laws_szNetwork.calls k _ _ l0_0 _ _ l0_1 1048576 t296 _ ?side1 ?side2 ?side3 ?side4 A11.out).mono ?_); (case side1 => repeat (first | exact (Kd.C_below HR0_0.out HB.out) | (with_reducible refine Kd.C_alloc ?_ _) | (with_reducible refine Kd.C_drewN ?_ _) | (with_reducible refine Kd.C_drew ?_))); (case side2 => exact HC0_0.out); (case side3 => repeat (first | exact (Kd.C_below HR0_1.out HB.out) | (with_reducible refine Kd.C_alloc ?_ _) | (with_reducible refine Kd.C_drewN ?_ _) | (with_reducible refine Kd.C_drew ?_))); (case side4 => exact HC0_1.out); rintro e w15 ⟨rfl, hb⟩; refine ⟨_, rfl, ?_⟩; have n0_ := Aside0.mk (blk_below (g := gb295) (o := .cells #[.slice A0_0 l0_0.length c0_0, .slice A0_1 l0_1.length c0_1] 25 (0, 0)) (q1_ BK295.out) hb); have n1_ := Aside0.mk (below_step t8_ hb); clear BK295; clear HB; have BK295 := n0_; have HB := n1_; clear n0_ n1_; (try clear hb); (try clear hb2); (try clear hk); (try clear hi)))
     go_ret
     exact ⟨by first | rfl | (rw [Int.tdiv_eq_ediv_of_nonneg t11_]; rfl) | (simp [errW_none, errW_some] <;> rfl) | (simp [*, errW_none, errW_some] <;> rfl), by repeat (first | (with_reducible first | exact HB.out | apply below_alloc | apply pw_below_drewN | apply below_drew1 | refine below_set ?_ GE295.out) | exact HB.out)⟩
    ·rw [if_neg c12] at H
     have c12b0 : decide (t296 < 0) = false := decide_eq_false c12
     clear c12
     replace H := Option.bind_eq_some_iff.mp H
     obtain ⟨⟨t297, t300⟩, A160, H⟩ := H
     replace H : ((laws_toInt64S.f k l1).bind fun t303 => ((laws_toInt64S.f k l2).bind fun t306 => ((laws_toInt64S.f k l3).bind fun t309 => ((spec_UnservedLoad.f k t297 t300 t303 t306 t309).bind fun bt312 => ((laws_toNetwork.f k l0_0 l0_1).bind fun bt314 => ((laws_toInt64S.f k l1).bind fun t321 => ((laws_toInt64S.f k l2).bind fun t324 => ((laws_toInt64S.f k l3).bind fun t327 => ((impl_UnservedLoad.f k bt314.1 bt314.2 t321 t324 t327).bind fun bt330 => (if bt330.1 = bt312.1 then (laws_FnExactUnservedLoad.j0 k l1 l2 l3 t321 t324 t327 (bt330.2 != bt312.2) l0_0 l0_1 bt314.1 bt314.2) else (laws_FnExactUnservedLoad.j0 k l1 l2 l3 t321 t324 t327 true l0_0 l0_1 bt314.1 bt314.2))))))))))) = some r := H
     have A16 := Aside0.mk A160
     clear A160
     replace H := Option.bind_eq_some_iff.mp H
     obtain ⟨t303, A170, H⟩ := H
     replace H : ((laws_toInt64S.f k l2).bind fun t306 => ((laws_toInt64S.f k l3).bind fun t309 => ((spec_UnservedLoad.f k t297 t300 t303 t306 t309).bind fun bt312 => ((laws_toNetwork.f k l0_0 l0_1).bind fun bt314 => ((laws_toInt64S.f k l1).bind fun t321 => ((laws_toInt64S.f k l2).bind fun t324 => ((laws_toInt64S.f k l3).bind fun t327 => ((impl_UnservedLoad.f k bt314.1 bt314.2 t321 t324 t327).bind fun bt330 => (if bt330.1 = bt312.1 then (laws_FnExactUnservedLoad.j0 k l1 l2 l3 t321 t324 t327 (bt330.2 != bt312.2) l0_0 l0_1 bt314.1 bt314.2) else (laws_FnExactUnservedLoad.j0 k l1 l2 l3 t321 t324 t327 true l0_0 l0_1 bt314.1 bt314.2)))))))))) = some r := H
     have A17 := Aside0.mk A170
     clear A170
     replace H := Option.bind_eq_some_iff.mp H
     obtain ⟨t306, A180, H⟩ := H
     replace H : ((laws_toInt64S.f k l3).bind fun t309 => ((spec_UnservedLoad.f k t297 t300 t303 t306 t309).bind fun bt312 => ((laws_toNetwork.f k l0_0 l0_1).bind fun bt314 => ((laws_toInt64S.f k l1).bind fun t321 => ((laws_toInt64S.f k l2).bind fun t324 => ((laws_toInt64S.f k l3).bind fun t327 => ((impl_UnservedLoad.f k bt314.1 bt314.2 t321 t324 t327).bind fun bt330 => (if bt330.1 = bt312.1 then (laws_FnExactUnservedLoad.j0 k l1 l2 l3 t321 t324 t327 (bt330.2 != bt312.2) l0_0 l0_1 bt314.1 bt314.2) else (laws_FnExactUnservedLoad.j0 k l1 l2 l3 t321 t324 t327 true l0_0 l0_1 bt314.1 bt314.2))))))))) = some r := H
     have A18 := Aside0.mk A180
     clear A180
     replace H := Option.bind_eq_some_iff.mp H
     obtain ⟨t309, A190, H⟩ := H
     replace H : ((spec_UnservedLoad.f k t297 t300 t303 t306 t309).bind fun bt312 => ((laws_toNetwork.f k l0_0 l0_1).bind fun bt314 => ((laws_toInt64S.f k l1).bind fun t321 => ((laws_toInt64S.f k l2).bind fun t324 => ((laws_toInt64S.f k l3).bind fun t327 => ((impl_UnservedLoad.f k bt314.1 bt314.2 t321 t324 t327).bind fun bt330 => (if bt330.1 = bt312.1 then (laws_FnExactUnservedLoad.j0 k l1 l2 l3 t321 t324 t327 (bt330.2 != bt312.2) l0_0 l0_1 bt314.1 bt314.2) else (laws_FnExactUnservedLoad.j0 k l1 l2 l3 t321 t324 t327 true l0_0 l0_1 bt314.1 bt314.2)))))))) = some r := H
     have A19 := Aside0.mk A190
     clear A190
     replace H := Option.bind_eq_some_iff.mp H
     obtain ⟨⟨t312, t313⟩, A200, H⟩ := H
     replace H : ((laws_toNetwork.f k l0_0 l0_1).bind fun bt314 => ((laws_toInt64S.f k l1).bind fun t321 => ((laws_toInt64S.f k l2).bind fun t324 => ((laws_toInt64S.f k l3).bind fun t327 => ((impl_UnservedLoad.f k bt314.1 bt314.2 t321 t324 t327).bind fun bt330 => (if bt330.1 = t312 then (laws_FnExactUnservedLoad.j0 k l1 l2 l3 t321 t324 t327 (bt330.2 != t313) l0_0 l0_1 bt314.1 bt314.2) else (laws_FnExactUnservedLoad.j0 k l1 l2 l3 t321 t324 t327 true l0_0 l0_1 bt314.1 bt314.2))))))) = some r := H
     have A20 := Aside0.mk A200
     clear A200
     replace H := Option.bind_eq_some_iff.mp H
     obtain ⟨⟨t314, t317⟩, A210, H⟩ := H
     replace H : ((laws_toInt64S.f k l1).bind fun t321 => ((laws_toInt64S.f k l2).bind fun t324 => ((laws_toInt64S.f k l3).bind fun t327 => ((impl_UnservedLoad.f k t314 t317 t321 t324 t327).bind fun bt330 => (if bt330.1 = t312 then (laws_FnExactUnservedLoad.j0 k l1 l2 l3 t321 t324 t327 (bt330.2 != t313) l0_0 l0_1 t314 t317) else (laws_FnExactUnservedLoad.j0 k l1 l2 l3 t321 t324 t327 true l0_0 l0_1 t314 t317)))))) = some r := H
     have A21 := Aside0.mk A210
     clear A210
     replace H := Option.bind_eq_some_iff.mp H
     obtain ⟨t321, A220, H⟩ := H
     replace H : ((laws_toInt64S.f k l2).bind fun t324 => ((laws_toInt64S.f k l3).bind fun t327 => ((impl_UnservedLoad.f k t314 t317 t321 t324 t327).bind fun bt330 => (if bt330.1 = t312 then (laws_FnExactUnservedLoad.j0 k l1 l2 l3 t321 t324 t327 (bt330.2 != t313) l0_0 l0_1 t314 t317) else (laws_FnExactUnservedLoad.j0 k l1 l2 l3 t321 t324 t327 true l0_0 l0_1 t314 t317))))) = some r := H
     have A22 := Aside0.mk A220
     clear A220
     replace H := Option.bind_eq_some_iff.mp H
     obtain ⟨t324, A230, H⟩ := H
     replace H : ((laws_toInt64S.f k l3).bind fun t327 => ((impl_UnservedLoad.f k t314 t317 t321 t324 t327).bind fun bt330 => (if bt330.1 = t312 then (laws_FnExactUnservedLoad.j0 k l1 l2 l3 t321 t324 t327 (bt330.2 != t313) l0_0 l0_1 t314 t317) else (laws_FnExactUnservedLoad.j0 k l1 l2 l3 t321 t324 t327 true l0_0 l0_1 t314 t317)))) = some r := H
     have A23 := Aside0.mk A230
     clear A230
     replace H := Option.bind_eq_some_iff.mp H
     obtain ⟨t327, A240, H⟩ := H
     replace H : ((impl_UnservedLoad.f k t314 t317 t321 t324 t327).bind fun bt330 => (if bt330.1 = t312 then (laws_FnExactUnservedLoad.j0 k l1 l2 l3 t321 t324 t327 (bt330.2 != t313) l0_0 l0_1 t314 t317) else (laws_FnExactUnservedLoad.j0 k l1 l2 l3 t321 t324 t327 true l0_0 l0_1 t314 t317))) = some r := H
     have A24 := Aside0.mk A240
     clear A240
     replace H := Option.bind_eq_some_iff.mp H
     obtain ⟨⟨t330, t331⟩, A250, H⟩ := H
     replace H : (if t330 = t312 then (laws_FnExactUnservedLoad.j0 k l1 l2 l3 t321 t324 t327 (t331 != t313) l0_0 l0_1 t314 t317) else (laws_FnExactUnservedLoad.j0 k l1 l2 l3 t321 t324 t327 true l0_0 l0_1 t314 t317)) = some r := H
     have A25 := Aside0.mk A250
     clear A250
     have HC26 := Aside0.mk H
     clear H
     go_enter Try.func6, Try.ntmps6
     go_upto_region 17 with (first | ((with_reducible refine gate_dst (N := 4) rfl ?_); refine box_event ?hg (N := 4) ?hd (cs := #[.slice A0_0 l0_0.length c0_0, .slice A0_1 l0_1.length c0_1]) (t := 25) ?hr ?_; (case hd => rfl); (case hg => rfl); (case hr => first | (go_simp; done) | (go_simp; rfl)); intro gb295 hg w27 hbox hb; have n0_ := Aside0.mk (below_step t1_ hb); have n1_ := Aside0.mk (hbox); have n2_ := Aside0.mk ((by rw [hg]; exact (below_size t1_) : w.heap.size ≤ gb295)); have n3_ := Aside0.mk ((by rw [hg]; exact (below_size t1_) : w.heap.size ≤ gb295)); clear HB; have HB := n0_; have BK295 := n1_; have GW295 := n2_; have GE295 := n3_; clear n0_ n1_ n2_ n3_; clear hb hbox hg; have hcz28_0 : w27.cell? ⟨gb295, 0, none⟩ = some (.slice A0_0 l0_0.length c0_0) := (blk_cell BK295.out 0).trans rfl; have hcz28_1 : w27.cell? ⟨gb295, 1, none⟩ = some (.slice A0_1 l0_1.length c0_1) := (blk_cell BK295.out 1).trans rfl; have hfz28_0 := blk_frozen BK295.out 0; have hfz28_1 := blk_frozen BK295.out 1) | ((with_reducible refine gate_callee (f := 11) rfl ?_); refine goesL_ (some 29) rfl rfl Try.func11 t6_ rfl #[.agg #[.slice A0_0 l0_0.length c0_0, .slice A0_1 l0_1.length c0_1], .int .i64 1048576] rfl t2_ ?_; (with_reducible refine (laws_szNetwork.calls k _ _ l0_0 _ _ l0_1 1048576 t296 _ ?side1 ?side2 ?side3 ?side4 A11.out).mono ?_); (case side1 => repeat (first | exact (Kd.C_below HR0_0.out HB.out) | (with_reducible refine Kd.C_alloc ?_ _) | (with_reducible refine Kd.C_drewN ?_ _) | (with_reducible refine Kd.C_drew ?_))); (case side2 => exact HC0_0.out); (case side3 => repeat (first | exact (Kd.C_below HR0_1.out HB.out) | (with_reducible refine Kd.C_alloc ?_ _) | (with_reducible refine Kd.C_drewN ?_ _) | (with_reducible refine Kd.C_drew ?_))); (case side4 => exact HC0_1.out); rintro e w29 ⟨rfl, hb⟩; refine ⟨_, rfl, ?_⟩; have n0_ := Aside0.mk (blk_below (g := gb295) (o := .cells #[.slice A0_0 l0_0.length c0_0, .slice A0_1 l0_1.length c0_1] 25 (0, 0)) (q1_ BK295.out) hb); have n1_ := Aside0.mk (below_step t8_ hb); clear BK295; clear HB; have BK295 := n0_; have HB := n1_; clear n0_ n1_; (try clear hb); (try clear hb2); (try clear hk); (try clear hi); have hcz30_0 : w29.cell? ⟨gb295, 0, none⟩ = some (.slice A0_0 l0_0.length c0_0) := (blk_cell BK295.out 0).trans rfl; have hcz30_1 : w29.cell? ⟨gb295, 1, none⟩ = some (.slice A0_1 l0_1.length c0_1) := (blk_cell BK295.out 1).trans rfl; have hfz30_0 := blk_frozen BK295.out 0; have hfz30_1 := blk_frozen BK295.out 1) | ((with_reducible refine gate_callee (f := 14) rfl ?_); refine goesL_ (some 34) rfl rfl Try.func14 t6_ rfl #[.agg #[.slice A0_0 l0_0.length c0_0, .slice A0_1 l0_1.length c0_1]] rfl t2_ ?_; (with_reducible refine (laws_toNetwork.calls k _ _ l0_0 _ _ l0_1 t297 t300 _ ?side1 ?side2 ?side3 ?side4 A16.out).mono ?_); (case side1 => repeat (first | exact (Kd.C_below HR0_0.out HB.out) | (with_reducible refine Kd.C_alloc ?_ _) | (with_reducible refine Kd.C_drewN ?_ _) | (with_reducible refine Kd.C_drew ?_))); (case side2 => exact HC0_0.out); (case side3 => repeat (first | exact (Kd.C_below HR0_1.out HB.out) | (with_reducible refine Kd.C_alloc ?_ _) | (with_reducible refine Kd.C_drewN ?_ _) | (with_reducible refine Kd.C_drew ?_))); (case side4 => exact HC0_1.out); rintro e w31 ⟨v298, v301, rfl, ho0, ho1, hb⟩; refine ⟨_, rfl, ?_⟩; have n0_ := Aside0.mk (Kd.R_lower ho0 (below_size t8_)); have n1_ := Aside0.mk (Kd.R_lower ho1 (below_size t8_)); have n2_ := Aside0.mk (blk_below (g := gb295) (o := .cells #[.slice A0_0 l0_0.length c0_0, .slice A0_1 l0_1.length c0_1] 25 (0, 0)) (q1_ BK295.out) hb); have n3_ := Aside0.mk (below_step t8_ hb); clear BK295; clear HB; have HO299 := n0_; have HO302 := n1_; have BK295 := n2_; have HB := n3_; clear n0_ n1_ n2_ n3_; (try clear hb); (try clear hb2); (try clear hk); (try clear hi); (try clear ho0); (try clear ho1)) | ((with_reducible refine gate_callee (f := 22) rfl ?_); refine goesL_ (some 36) rfl rfl Try.func22 t6_ rfl #[.slice A1 l1.length c1] rfl t2_ ?_; (with_reducible refine (laws_toInt64S.calls k _ _ l1 t303 _ ?side1 ?side2 A17.out).mono ?_); (case side1 => repeat (first | exact (Kd.C_below HR1.out HB.out) | (with_reducible refine Kd.C_alloc ?_ _) | (with_reducible refine Kd.C_drewN ?_ _) | (with_reducible refine Kd.C_drew ?_))); (case side2 => exact HC1.out); rintro e w32 ⟨v304, rfl, ho0, hb⟩; refine ⟨_, rfl, ?_⟩; have n0_ := Aside0.mk (Kd.R_elder' (q2_ HO299.out) (Kd.R_base ho0) hb); have n1_ := Aside0.mk (Kd.R_below (q2_ HO302.out) hb); have n2_ := Aside0.mk (Kd.R_lower (Kd.R_new' ho0 (Kd.R_lt (q2_ HO299.out))) (below_size t8_)); have n3_ := Aside0.mk (blk_below (g := gb295) (o := .cells #[.slice A0_0 l0_0.length c0_0, .slice A0_1 l0_1.length c0_1] 25 (0, 0)) (q1_ BK295.out) hb); have n4_ := Aside0.mk (below_step t8_ hb); clear HO299; clear HO302; clear BK295; clear HB; have HO299 := n0_; have HO302 := n1_; have HO305 := n2_; have BK295 := n3_; have HB := n4_; clear n0_ n1_ n2_ n3_ n4_; (try clear hb); (try clear hb2); (try clear hk); (try clear hi); (try clear ho0)) | ((with_reducible refine gate_callee (f := 22) rfl ?_); refine goesL_ (some 38) rfl rfl Try.func22 t6_ rfl #[.slice A2 l2.length c2] rfl t2_ ?_; (with_reducible refine (laws_toInt64S.calls k _ _ l2 t306 _ ?side1 ?side2 A18.out).mono ?_); (case side1 => repeat (first | exact (Kd.C_below HR2.out HB.out) | (with_reducible refine Kd.C_alloc ?_ _) | (with_reducible refine Kd.C_drewN ?_ _) | (with_reducible refine Kd.C_drew ?_))); (case side2 => exact HC2.out); rintro e w33 ⟨v307, rfl, ho0, hb⟩; refine ⟨_, rfl, ?_⟩; have n0_ := Aside0.mk (Kd.R_elder' (q2_ HO299.out) (Kd.R_base ho0) hb); have n1_ := Aside0.mk (Kd.R_below (q2_ HO302.out) hb); have n2_ := Aside0.mk (Kd.R_elder' (q2_ HO305.out) (Kd.R_base ho0) hb); have n3_ := Aside0.mk (Kd.R_lower (Kd.R_new' (Kd.R_new' ho0 (Kd.R_lt (q2_ HO299.out))) (Kd.R_lt (q2_ HO305.out))) (below_size t8_)); have n4_ := Aside0.mk (blk_below (g := gb295) (o := .cells #[.slice A0_0 l0_0.length c0_0, .slice A0_1 l0_1.length c0_1] 25 (0, 0)) (q1_ BK295.out) hb); have n5_ := Aside0.mk (below_step t8_ hb); clear HO299; clear HO302; clear HO305; clear BK295; clear HB; have HO299 := n0_; have HO302 := n1_; have HO305 := n2_; have HO308 := n3_; have BK295 := n4_; have HB := n5_; clear n0_ n1_ n2_ n3_ n4_ n5_; (try clear hb); (try clear hb2); (try clear hk); (try clear hi); (try clear ho0)) | ((with_reducible refine gate_callee (f := 22) rfl ?_); refine goesL_ (some 40) rfl rfl Try.func22 t6_ rfl #[.slice A3 l3.length c3] rfl t2_ ?_; (with_reducible refine (laws_toInt64S.calls k _ _ l3 t309 _ ?side1 ?side2 A19.out).mono ?_); (case side1 => repeat (first | exact (Kd.C_below HR3.out HB.out) | (with_reducible refine Kd.C_alloc ?_ _) | (with_reducible refine Kd.C_drewN ?_ _) | (with_reducible refine Kd.C_drew ?_))); (case side2 => exact HC3.out); rintro e w34 ⟨v310, rfl, ho0, hb⟩; refine ⟨_, rfl, ?_⟩; have n0_ := Aside0.mk (Kd.R_elder' (q2_ HO299.out) (Kd.R_base ho0) hb); have n1_ := Aside0.mk (Kd.R_below (q2_ HO302.out) hb); have n2_ := Aside0.mk (Kd.R_elder' (q2_ HO305.out) (Kd.R_base ho0) hb); have n3_ := Aside0.mk (Kd.R_elder' (q2_ HO308.out) (Kd.R_base ho0) hb); have n4_ := Aside0.mk (Kd.R_lower (Kd.R_new' (Kd.R_new' (Kd.R_new' ho0 (Kd.R_lt (q2_ HO299.out))) (Kd.R_lt (q2_ HO305.out))) (Kd.R_lt (q2_ HO308.out))) (below_size t8_)); have n5_ := Aside0.mk (blk_below (g := gb295) (o := .cells #[.slice A0_0 l0_0.length c0_0, .slice A0_1 l0_1.length c0_1] 25 (0, 0)) (q1_ BK295.out) hb); have n6_ := Aside0.mk (below_step t8_ hb); clear HO299; clear HO302; clear HO305; clear HO308; clear BK295; clear HB; have HO299 := n0_; have HO302 := n1_; have HO305 := n2_; have HO308 := n3_; have HO311 := n4_; have BK295 := n5_; have HB := n6_; clear n0_ n1_ n2_ n3_ n4_ n5_ n6_; (try clear hb); (try clear hb2); (try clear hk); (try clear hi); (try clear ho0); obtain ⟨Ao35, co35, eo35⟩ := Kd.R_slice HO299.out; subst eo35; obtain ⟨Ao36, co36, eo36⟩ := Kd.R_slice HO302.out; subst eo36; obtain ⟨Ao37, co37, eo37⟩ := Kd.R_slice HO305.out; subst eo37; obtain ⟨Ao38, co38, eo38⟩ := Kd.R_slice HO308.out; subst eo38; obtain ⟨Ao39, co39, eo39⟩ := Kd.R_slice HO311.out; subst eo39) | ((with_reducible refine gate_callee (f := 28) rfl ?_); refine goesL_ (some 41) rfl rfl Try.func28 t6_ rfl #[.agg #[.slice Ao35 t297.length co35, .slice Ao36 t300.length co36], .slice Ao37 t303.length co37, .slice Ao38 t306.length co38, .slice Ao39 t309.length co39] rfl t2_ ?_; (with_reducible refine (spec_UnservedLoad.calls k _ _ t297 _ _ t300 _ _ t303 _ _ t306 _ _ t309 t312 t313 _ ?side1 ?side2 ?side3 ?side4 ?side5 ?side6 ?side7 ?side8 ?side9 ?side10 A20.out).mono ?_); (case side1 => repeat (first | exact (Kd.R_reads' HO299.out).2.2 | (with_reducible refine Kd.C_alloc ?_ _) | (with_reducible refine Kd.C_drewN ?_ _) | (with_reducible refine Kd.C_drew ?_))); (case side2 => exact (Kd.R_reads' HO299.out).2.1); (case side3 => repeat (first | exact (Kd.R_reads' HO302.out).2.2 | (with_reducible refine Kd.C_alloc ?_ _) | (with_reducible refine Kd.C_drewN ?_ _) | (with_reducible refine Kd.C_drew ?_))); (case side4 => exact (Kd.R_reads' HO302.out).2.1); (case side5 => repeat (first | exact (Kd.R_reads' HO305.out).2.2 | (with_reducible refine Kd.C_alloc ?_ _) | (with_reducible refine Kd.C_drewN ?_ _) | (with_reducible refine Kd.C_drew ?_))); (case side6 => exact (Kd.R_reads' HO305.out).2.1); (case side7 => repeat (first | exact (Kd.R_reads' HO308.out).2.2 | (with_reducible refine Kd.C_alloc ?_ _) | (with_reducible refine Kd.C_drewN ?_ _) | (with_reducible refine Kd.C_drew ?_))); (case side8 => exact (Kd.R_reads' HO308.out).2.1); (case side9 => repeat (first | exact (Kd.R_reads' HO311.out).2.2 | (with_reducible refine Kd.C_alloc ?_ _) | (with_reducible refine Kd.C_drewN ?_ _) | (with_reducible refine Kd.C_drew ?_))); (case side10 => exact (Kd.R_reads' HO311.out).2.1); rintro e w40 ⟨rfl, hb⟩; refine ⟨_, rfl, ?_⟩; have n0_ := Aside0.mk (Kd.R_below (q2_ HO299.out) hb); have n1_ := Aside0.mk (Kd.R_below (q2_ HO302.out) hb); have n2_ := Aside0.mk (Kd.R_below (q2_ HO305.out) hb); have n3_ := Aside0.mk (Kd.R_below (q2_ HO308.out) hb); have n4_ := Aside0.mk (Kd.R_below (q2_ HO311.out) hb); have n5_ := Aside0.mk (blk_below (g := gb295) (o := .cells #[.slice A0_0 l0_0.length c0_0, .slice A0_1 l0_1.length c0_1] 25 (0, 0)) (q1_ BK295.out) hb); have n6_ := Aside0.mk (below_step t8_ hb); clear HO299; clear HO302; clear HO305; clear HO308; clear HO311; clear BK295; clear HB; have HO299 := n0_; have HO302 := n1_; have HO305 := n2_; have HO308 := n3_; have HO311 := n4_; have BK295 := n5_; have HB := n6_; clear n0_ n1_ n2_ n3_ n4_ n5_ n6_; (try clear hb); (try clear hb2); (try clear hk); (try clear hi); have hcz41_0 : w40.cell? ⟨gb295, 0, none⟩ = some (.slice A0_0 l0_0.length c0_0) := (blk_cell BK295.out 0).trans rfl; have hcz41_1 : w40.cell? ⟨gb295, 1, none⟩ = some (.slice A0_1 l0_1.length c0_1) := (blk_cell BK295.out 1).trans rfl; have hfz41_0 := blk_frozen BK295.out 0; have hfz41_1 := blk_frozen BK295.out 1) | ((with_reducible refine gate_callee (f := 14) rfl ?_); refine goesL_ (some 45) rfl rfl Try.func14 t6_ rfl #[.agg #[.slice A0_0 l0_0.length c0_0, .slice A0_1 l0_1.length c0_1]] rfl t2_ ?_; (with_reducible refine (laws_toNetwork.calls k _ _ l0_0 _ _ l0_1 t314 t317 _ ?side1 ?side2 ?side3 ?side4 A21.out).mono ?_); (case side1 => repeat (first | exact (Kd.C_below HR0_0.out HB.out) | (with_reducible refine Kd.C_alloc ?_ _) | (with_reducible refine Kd.C_drewN ?_ _) | (with_reducible refine Kd.C_drew ?_))); (case side2 => exact HC0_0.out); (case side3 => repeat (first | exact (Kd.C_below HR0_1.out HB.out) | (with_reducible refine Kd.C_alloc ?_ _) | (with_reducible refine Kd.C_drewN ?_ _) | (with_reducible refine Kd.C_drew ?_))); (case side4 => exact HC0_1.out); rintro e w42 ⟨v315, v318, rfl, ho0, ho1, hb⟩; refine ⟨_, rfl, ?_⟩; have n0_ := Aside0.mk (Kd.R_elder' (q2_ HO299.out) (Kd.R_base ho0) hb); have n1_ := Aside0.mk (Kd.R_elder' (q2_ HO302.out) (Kd.R_base ho1) hb); have n2_ := Aside0.mk (Kd.R_elder' (q2_ HO305.out) (Kd.R_base ho0) hb); have n3_ := Aside0.mk (Kd.R_elder' (q2_ HO308.out) (Kd.R_base ho0) hb); have n4_ := Aside0.mk (Kd.R_elder' (q2_ HO311.out) (Kd.R_base ho0) hb); have n5_ := Aside0.mk (Kd.R_lower (Kd.R_new' (Kd.R_new' (Kd.R_new' (Kd.R_new' ho0 (Kd.R_lt (q2_ HO299.out))) (Kd.R_lt (q2_ HO305.out))) (Kd.R_lt (q2_ HO308.out))) (Kd.R_lt (q2_ HO311.out))) (below_size t8_)); have n6_ := Aside0.mk (Kd.R_lower (Kd.R_new' ho1 (Kd.R_lt (q2_ HO302.out))) (below_size t8_)); have n7_ := Aside0.mk (blk_below (g := gb295) (o := .cells #[.slice A0_0 l0_0.length c0_0, .slice A0_1 l0_1.length c0_1] 25 (0, 0)) (q1_ BK295.out) hb); have n8_ := Aside0.mk (below_step t8_ hb); clear HO299; clear HO302; clear HO305; clear HO308; clear HO311; clear BK295; clear HB; have HO299 := n0_; have HO302 := n1_; have HO305 := n2_; have HO308 := n3_; have HO311 := n4_; have HO316 := n5_; have HO319 := n6_; have BK295 := n7_; have HB := n8_; clear n0_ n1_ n2_ n3_ n4_ n5_ n6_ n7_ n8_; (try clear hb); (try clear hb2); (try clear hk); (try clear hi); (try clear ho0); (try clear ho1)) | ((with_reducible refine gate_dst (N := 12) rfl ?_); refine box_event ?hg (N := 12) ?hd (cs := #[.slice none 0 0, .slice none 0 0]) (t := 32) ?hr ?_; (case hd => rfl); (case hg => rfl); (case hr => first | (go_simp; done) | (go_simp; rfl)); intro gb320 hg w43 hbox hb; have n0_ := Aside0.mk (Kd.R_below (q2_ HO299.out) hb); have n1_ := Aside0.mk (Kd.R_below (q2_ HO302.out) hb); have n2_ := Aside0.mk (Kd.R_below (q2_ HO305.out) hb); have n3_ := Aside0.mk (Kd.R_below (q2_ HO308.out) hb); have n4_ := Aside0.mk (Kd.R_below (q2_ HO311.out) hb); have n5_ := Aside0.mk (Kd.R_below (q2_ HO316.out) hb); have n6_ := Aside0.mk (Kd.R_below (q2_ HO319.out) hb); have n7_ := Aside0.mk (blk_below (g := gb295) (o := .cells #[.slice A0_0 l0_0.length c0_0, .slice A0_1 l0_1.length c0_1] 25 (0, 0)) (q1_ BK295.out) hb); have n8_ := Aside0.mk (below_step t8_ hb); have n9_ := Aside0.mk (hbox); have n10_ := Aside0.mk ((by rw [hg]; exact (below_size t8_) : w.heap.size ≤ gb320)); have n11_ := Aside0.mk ((by rw [hg]; exact (below_size t8_) : w.heap.size ≤ gb320)); have n12_ := Aside0.mk ((by rw [hg]; exact Nat.ne_of_lt (blk_lt (g := gb295) (o := .cells #[.slice A0_0 l0_0.length c0_0, .slice A0_1 l0_1.length c0_1] 25 (0, 0)) (q1_ BK295.out)) : gb295 ≠ gb320)); have n13_ := Aside0.mk ((by rw [hg]; exact Nat.ne_of_gt (blk_lt (g := gb295) (o := .cells #[.slice A0_0 l0_0.length c0_0, .slice A0_1 l0_1.length c0_1] 25 (0, 0)) (q1_ BK295.out)) : gb320 ≠ gb295)); clear HO299; clear HO302; clear HO305; clear HO308; clear HO311; clear HO316; clear HO319; clear BK295; clear HB; have HO299 := n0_; have HO302 := n1_; have HO305 := n2_; have HO308 := n3_; have HO311 := n4_; have HO316 := n5_; have HO319 := n6_; have BK295 := n7_; have HB := n8_; have BK320 := n9_; have GW320 := n10_; have GE320 := n11_; have NB295_320 := n12_; have NB320_295 := n13_; clear n0_ n1_ n2_ n3_ n4_ n5_ n6_ n7_ n8_ n9_ n10_ n11_ n12_ n13_; clear hb hbox hg; obtain ⟨Ao44, co44, eo44⟩ := Kd.R_slice HO316.out; subst eo44; have hnb45 := NB320_295.out; have hnc45 := NB295_320.out; have hcz46_0 : w43.cell? ⟨gb320, 0, none⟩ = some (.slice none 0 0) := (blk_cell BK320.out 0).trans rfl; have hcz46_1 : w43.cell? ⟨gb320, 1, none⟩ = some (.slice none 0 0) := (blk_cell BK320.out 1).trans rfl; have hfz46_0 := blk_frozen BK320.out 0; have hfz46_1 := blk_frozen BK320.out 1; obtain ⟨Ao47, co47, eo47⟩ := Kd.R_slice HO319.out; subst eo47) | ((with_reducible refine gate_callee (f := 22) rfl ?_); refine goesL_ (some 47) rfl rfl Try.func22 t6_ rfl #[.slice A1 l1.length c1] rfl t2_ ?_; (with_reducible refine (laws_toInt64S.calls k _ _ l1 t321 _ ?side1 ?side2 A22.out).mono ?_); (case side1 => exact Kd.C_below HR1.out t4_); (case side2 => exact HC1.out); rintro e w48 ⟨v322, rfl, ho0, hb⟩; refine ⟨_, rfl, ?_⟩; have n0_ := Aside0.mk (Kd.R_elder' t35_ (Kd.R_base ho0) hb); have n1_ := Aside0.mk (Kd.R_below (by (with_reducible repeat (first | apply Kd.R_alloc | apply Kd.R_drewN | apply Kd.R_drew)); exact (Kd.R_mono (Kd.R_far (p := ⟨gb320, 1, none⟩) (Kd.R_far (p := ⟨gb320, 0, none⟩) (Kd.R_types HO302.out BK320.out t24_) (fun _ hk => hk.2) (.slice Ao44 t314.length co44)) (fun _ hk => hk.2) (.slice Ao47 t317.length co47)) (fun _ h_ => h_.1))) hb); have n2_ := Aside0.mk (Kd.R_elder' t34_ (Kd.R_base ho0) hb); have n3_ := Aside0.mk (Kd.R_elder' t33_ (Kd.R_base ho0) hb); have n4_ := Aside0.mk (Kd.R_elder' t32_ (Kd.R_base ho0) hb); have n5_ := Aside0.mk (Kd.R_elder' t31_ (Kd.R_base ho0) hb); have n6_ := Aside0.mk (Kd.R_below (by (with_reducible repeat (first | apply Kd.R_alloc | apply Kd.R_drewN | apply Kd.R_drew)); exact (Kd.R_mono (Kd.R_far (p := ⟨gb320, 1, none⟩) (Kd.R_far (p := ⟨gb320, 0, none⟩) (Kd.R_types HO319.out BK320.out t24_) (fun _ hk => hk.2) (.slice Ao44 t314.length co44)) (fun _ hk => hk.2) (.slice Ao47 t317.length co47)) (fun _ h_ => h_.1))) hb); have n7_ := Aside0.mk (Kd.R_lower (Kd.R_new' (Kd.R_new' (Kd.R_new' (Kd.R_new' (Kd.R_new' ho0 (Kd.R_lt t35_)) (Kd.R_lt t34_)) (Kd.R_lt t33_)) (Kd.R_lt t32_)) (Kd.R_lt t31_)) (below_size t4_)); have n8_ := Aside0.mk (blk_below (g := gb295) (o := .cells #[.slice A0_0 l0_0.length c0_0, .slice A0_1 l0_1.length c0_1] 25 (0, 0)) (by (with_reducible repeat (first | refine blk_drewN ?_ _ | refine blk_drew ?_ | refine blk_alloc ?_ _)); refine blk_far ?_ NB295_320.out _; (with_reducible repeat (first | refine blk_drewN ?_ _ | refine blk_drew ?_ | refine blk_alloc ?_ _)); refine blk_far ?_ NB295_320.out _; (with_reducible repeat (first | refine blk_drewN ?_ _ | refine blk_drew ?_ | refine blk_alloc ?_ _)); exact BK295.out) hb); have n9_ := Aside0.mk (blk_below (g := gb320) (o := .cells #[.slice Ao44 t314.length co44, .slice Ao47 t317.length co47] 32 (0, 0)) (by (with_reducible repeat (first | refine blk_drewN ?_ _ | refine blk_drew ?_ | refine blk_alloc ?_ _)); refine blk_put (cs := #[.slice Ao44 t314.length co44, .slice none 0 0]) ?_ 1 _ rfl; (with_reducible repeat (first | refine blk_drewN ?_ _ | refine blk_drew ?_ | refine blk_alloc ?_ _)); refine blk_put (cs := #[.slice none 0 0, .slice none 0 0]) ?_ 0 _ rfl; (with_reducible repeat (first | refine blk_drewN ?_ _ | refine blk_drew ?_ | refine blk_alloc ?_ _)); exact BK320.out) hb); have n10_ := Aside0.mk (below_step t4_ hb); clear HO299; clear HO302; clear HO305; clear HO308; clear HO311; clear HO316; clear HO319; clear BK295; clear BK320; clear HB; have HO299 := n0_; have HO302 := n1_; have HO305 := n2_; have HO308 := n3_; have HO311 := n4_; have HO316 := n5_; have HO319 := n6_; have HO323 := n7_; have BK295 := n8_; have BK320 := n9_; have HB := n10_; clear n0_ n1_ n2_ n3_ n4_ n5_ n6_ n7_ n8_ n9_ n10_; (try clear hb); (try clear hb2); (try clear hk); (try clear hi); (try clear ho0)) | ((with_reducible refine gate_callee (f := 22) rfl ?_); refine goesL_ (some 49) rfl rfl Try.func22 t6_ rfl #[.slice A2 l2.length c2] rfl t2_ ?_; (with_reducible refine (laws_toInt64S.calls k _ _ l2 t324 _ ?side1 ?side2 A23.out).mono ?_); (case side1 => repeat (first | exact (Kd.C_below HR2.out HB.out) | (with_reducible refine Kd.C_alloc ?_ _) | (with_reducible refine Kd.C_drewN ?_ _) | (with_reducible refine Kd.C_drew ?_))); (case side2 => exact HC2.out); rintro e w49 ⟨v325, rfl, ho0, hb⟩; refine ⟨_, rfl, ?_⟩; have n0_ := Aside0.mk (Kd.R_elder' (q2_ HO299.out) (Kd.R_base ho0) hb); have n1_ := Aside0.mk (Kd.R_below (q2_ HO302.out) hb); have n2_ := Aside0.mk (Kd.R_elder' (q2_ HO305.out) (Kd.R_base ho0) hb); have n3_ := Aside0.mk (Kd.R_elder' (q2_ HO308.out) (Kd.R_base ho0) hb); have n4_ := Aside0.mk (Kd.R_elder' (q2_ HO311.out) (Kd.R_base ho0) hb); have n5_ := Aside0.mk (Kd.R_elder' (q2_ HO316.out) (Kd.R_base ho0) hb); have n6_ := Aside0.mk (Kd.R_below (q2_ HO319.out) hb); have n7_ := Aside0.mk (Kd.R_elder' (q2_ HO323.out) (Kd.R_base ho0) hb); have n8_ := Aside0.mk (Kd.R_lower (Kd.R_new' (Kd.R_new' (Kd.R_new' (Kd.R_new' (Kd.R_new' (Kd.R_new' ho0 (Kd.R_lt (q2_ HO299.out))) (Kd.R_lt (q2_ HO305.out))) (Kd.R_lt (q2_ HO308.out))) (Kd.R_lt (q2_ HO311.out))) (Kd.R_lt (q2_ HO316.out))) (Kd.R_lt (q2_ HO323.out))) (below_size t4_)); have n9_ := Aside0.mk (blk_below (g := gb295) (o := .cells #[.slice A0_0 l0_0.length c0_0, .slice A0_1 l0_1.length c0_1] 25 (0, 0)) (q1_ BK295.out) hb); have n10_ := Aside0.mk (blk_below (g := gb320) (o := .cells #[.slice Ao44 t314.length co44, .slice Ao47 t317.length co47] 32 (0, 0)) (q1_ BK320.out) hb); have n11_ := Aside0.mk (below_step t4_ hb); clear HO299; clear HO302; clear HO305; clear HO308; clear HO311; clear HO316; clear HO319; clear HO323; clear BK295; clear BK320; clear HB; have HO299 := n0_; have HO302 := n1_; have HO305 := n2_; have HO308 := n3_; have HO311 := n4_; have HO316 := n5_; have HO319 := n6_; have HO323 := n7_; have HO326 := n8_; have BK295 := n9_; have BK320 := n10_; have HB := n11_; clear n0_ n1_ n2_ n3_ n4_ n5_ n6_ n7_ n8_ n9_ n10_ n11_; (try clear hb); (try clear hb2); (try clear hk); (try clear hi); (try clear ho0)) | ((with_reducible refine gate_callee (f := 22) rfl ?_); refine goesL_ (some 51) rfl rfl Try.func22 t6_ rfl #[.slice A3 l3.length c3] rfl t2_ ?_; (with_reducible refine (laws_toInt64S.calls k _ _ l3 t327 _ ?side1 ?side2 A24.out).mono ?_); (case side1 => repeat (first | exact (Kd.C_below HR3.out HB.out) | (with_reducible refine Kd.C_alloc ?_ _) | (with_reducible refine Kd.C_drewN ?_ _) | (with_reducible refine Kd.C_drew ?_))); (case side2 => exact HC3.out); rintro e w50 ⟨v328, rfl, ho0, hb⟩; refine ⟨_, rfl, ?_⟩; have n0_ := Aside0.mk (Kd.R_elder' (q2_ HO299.out) (Kd.R_base ho0) hb); have n1_ := Aside0.mk (Kd.R_below (q2_ HO302.out) hb); have n2_ := Aside0.mk (Kd.R_elder' (q2_ HO305.out) (Kd.R_base ho0) hb); have n3_ := Aside0.mk (Kd.R_elder' (q2_ HO308.out) (Kd.R_base ho0) hb); have n4_ := Aside0.mk (Kd.R_elder' (q2_ HO311.out) (Kd.R_base ho0) hb); have n5_ := Aside0.mk (Kd.R_elder' (q2_ HO316.out) (Kd.R_base ho0) hb); have n6_ := Aside0.mk (Kd.R_below (q2_ HO319.out) hb); have n7_ := Aside0.mk (Kd.R_elder' (q2_ HO323.out) (Kd.R_base ho0) hb); have n8_ := Aside0.mk (Kd.R_elder' (q2_ HO326.out) (Kd.R_base ho0) hb); have n9_ := Aside0.mk (Kd.R_lower (Kd.R_new' (Kd.R_new' (Kd.R_new' (Kd.R_new' (Kd.R_new' (Kd.R_new' (Kd.R_new' ho0 (Kd.R_lt (q2_ HO299.out))) (Kd.R_lt (q2_ HO305.out))) (Kd.R_lt (q2_ HO308.out))) (Kd.R_lt (q2_ HO311.out))) (Kd.R_lt (q2_ HO316.out))) (Kd.R_lt (q2_ HO323.out))) (Kd.R_lt (q2_ HO326.out))) (below_size t4_)); have n10_ := Aside0.mk (blk_below (g := gb295) (o := .cells #[.slice A0_0 l0_0.length c0_0, .slice A0_1 l0_1.length c0_1] 25 (0, 0)) (q1_ BK295.out) hb); have n11_ := Aside0.mk (blk_below (g := gb320) (o := .cells #[.slice Ao44 t314.length co44, .slice Ao47 t317.length co47] 32 (0, 0)) (q1_ BK320.out) hb); have n12_ := Aside0.mk (below_step t4_ hb); clear HO299; clear HO302; clear HO305; clear HO308; clear HO311; clear HO316; clear HO319; clear HO323; clear HO326; clear BK295; clear BK320; clear HB; have HO299 := n0_; have HO302 := n1_; have HO305 := n2_; have HO308 := n3_; have HO311 := n4_; have HO316 := n5_; have HO319 := n6_; have HO323 := n7_; have HO326 := n8_; have HO329 := n9_; have BK295 := n10_; have BK320 := n11_; have HB := n12_; clear n0_ n1_ n2_ n3_ n4_ n5_ n6_ n7_ n8_ n9_ n10_ n11_ n12_; (try clear hb); (try clear hb2); (try clear hk); (try clear hi); (try clear ho0); have hcz51_0 : w50.cell? ⟨gb320, 0, none⟩ = some (.slice Ao44 t314.length co44) := (blk_cell BK320.out 0).trans rfl; have hcz51_1 : w50.cell? ⟨gb320, 1, none⟩ = some (.slice Ao47 t317.length co47) := (blk_cell BK320.out 1).trans rfl; have hfz51_0 := blk_frozen BK320.out 0; have hfz51_1 := blk_frozen BK320.out 1; obtain ⟨Ao52, co52, eo52⟩ := Kd.R_slice HO323.out; subst eo52; obtain ⟨Ao53, co53, eo53⟩ := Kd.R_slice HO326.out; subst eo53; obtain ⟨Ao54, co54, eo54⟩ := Kd.R_slice HO329.out; subst eo54) | ((with_reducible refine gate_callee (f := 29) rfl ?_); refine goesL_ (some 57) rfl rfl Try.func29 t6_ rfl #[.agg #[.slice Ao44 t314.length co44, .slice Ao47 t317.length co47], .slice Ao52 t321.length co52, .slice Ao53 t324.length co53, .slice Ao54 t327.length co54] rfl t2_ ?_; (with_reducible refine (impl_UnservedLoad.calls k _ _ t314 _ _ t317 _ _ t321 _ _ t324 _ _ t327 t330 t331 _ ?side1 ?side2 ?side3 ?side4 ?side5 ?side6 ?side7 ?side8 ?side9 ?side10 A25.out).mono ?_); (case side1 => repeat (first | exact (Kd.R_reads' HO316.out).2.2 | (with_reducible refine Kd.C_alloc ?_ _) | (with_reducible refine Kd.C_drewN ?_ _) | (with_reducible refine Kd.C_drew ?_))); (case side2 => exact (Kd.R_reads' HO316.out).2.1); (case side3 => repeat (first | exact (Kd.R_reads' HO319.out).2.2 | (with_reducible refine Kd.C_alloc ?_ _) | (with_reducible refine Kd.C_drewN ?_ _) | (with_reducible refine Kd.C_drew ?_))); (case side4 => exact (Kd.R_reads' HO319.out).2.1); (case side5 => repeat (first | exact (Kd.R_reads' HO323.out).2.2 | (with_reducible refine Kd.C_alloc ?_ _) | (with_reducible refine Kd.C_drewN ?_ _) | (with_reducible refine Kd.C_drew ?_))); (case side6 => exact (Kd.R_reads' HO323.out).2.1); (case side7 => repeat (first | exact (Kd.R_reads' HO326.out).2.2 | (with_reducible refine Kd.C_alloc ?_ _) | (with_reducible refine Kd.C_drewN ?_ _) | (with_reducible refine Kd.C_drew ?_))); (case side8 => exact (Kd.R_reads' HO326.out).2.1); (case side9 => repeat (first | exact (Kd.R_reads' HO329.out).2.2 | (with_reducible refine Kd.C_alloc ?_ _) | (with_reducible refine Kd.C_drewN ?_ _) | (with_reducible refine Kd.C_drew ?_))); (case side10 => exact (Kd.R_reads' HO329.out).2.1); rintro e w55 ⟨rfl, hb⟩; refine ⟨_, rfl, ?_⟩; have n0_ := Aside0.mk (Kd.R_below (q2_ HO299.out) hb); have n1_ := Aside0.mk (Kd.R_below (q2_ HO302.out) hb); have n2_ := Aside0.mk (Kd.R_below (q2_ HO305.out) hb); have n3_ := Aside0.mk (Kd.R_below (q2_ HO308.out) hb); have n4_ := Aside0.mk (Kd.R_below (q2_ HO311.out) hb); have n5_ := Aside0.mk (Kd.R_below (q2_ HO316.out) hb); have n6_ := Aside0.mk (Kd.R_below (q2_ HO319.out) hb); have n7_ := Aside0.mk (Kd.R_below (q2_ HO323.out) hb); have n8_ := Aside0.mk (Kd.R_below (q2_ HO326.out) hb); have n9_ := Aside0.mk (Kd.R_below (q2_ HO329.out) hb); have n10_ := Aside0.mk (blk_below (g := gb295) (o := .cells #[.slice A0_0 l0_0.length c0_0, .slice A0_1 l0_1.length c0_1] 25 (0, 0)) (q1_ BK295.out) hb); have n11_ := Aside0.mk (blk_below (g := gb320) (o := .cells #[.slice Ao44 t314.length co44, .slice Ao47 t317.length co47] 32 (0, 0)) (q1_ BK320.out) hb); have n12_ := Aside0.mk (below_step t4_ hb); clear HO299; clear HO302; clear HO305; clear HO308; clear HO311; clear HO316; clear HO319; clear HO323; clear HO326; clear HO329; clear BK295; clear BK320; clear HB; have HO299 := n0_; have HO302 := n1_; have HO305 := n2_; have HO308 := n3_; have HO311 := n4_; have HO316 := n5_; have HO319 := n6_; have HO323 := n7_; have HO326 := n8_; have HO329 := n9_; have BK295 := n10_; have BK320 := n11_; have HB := n12_; clear n0_ n1_ n2_ n3_ n4_ n5_ n6_ n7_ n8_ n9_ n10_ n11_ n12_; (try clear hb); (try clear hb2); (try clear hk); (try clear hi)))
     (try simp only [Act.put, List.setIfInBounds_toArray, List.set_cons_zero, List.set_cons_succ])
     go_cut [67] (fun v67 wc => ∃ (kq : Nat) (x67_25 : Bool), v67 = .bool x67_25 ∧ Aside0 (laws_FnExactUnservedLoad.j0 kq l1 l2 l3 t321 t324 t327 x67_25 l0_0 l0_1 t314 t317 = some r) ∧ Aside0 (kq ≤ k) ∧ Aside0 (Kd.R (Kd.int .i64) 2 wc w.heap.size (fun k_ => some k_ ≠ ((.slice Ao53 t324.length co53) : Value).ownBlock ∧ some k_ ≠ ((.slice Ao54 t327.length co54) : Value).ownBlock ∧ some k_ ≠ ((.slice Ao44 t314.length co44) : Value).ownBlock) (.slice Ao52 t321.length co52) t321) ∧ Aside0 (Kd.R (Kd.int .i64) 2 wc w.heap.size (fun k_ => some k_ ≠ ((.slice Ao52 t321.length co52) : Value).ownBlock ∧ some k_ ≠ ((.slice Ao54 t327.length co54) : Value).ownBlock ∧ some k_ ≠ ((.slice Ao44 t314.length co44) : Value).ownBlock) (.slice Ao53 t324.length co53) t324) ∧ Aside0 (Kd.R (Kd.int .i64) 2 wc w.heap.size (fun k_ => some k_ ≠ ((.slice Ao52 t321.length co52) : Value).ownBlock ∧ some k_ ≠ ((.slice Ao53 t324.length co53) : Value).ownBlock ∧ some k_ ≠ ((.slice Ao44 t314.length co44) : Value).ownBlock) (.slice Ao54 t327.length co54) t327) ∧ Aside0 (Kd.R (Kd.int .i64) 2 wc w.heap.size (fun k_ => some k_ ≠ ((.slice Ao52 t321.length co52) : Value).ownBlock ∧ some k_ ≠ ((.slice Ao53 t324.length co53) : Value).ownBlock ∧ some k_ ≠ ((.slice Ao54 t327.length co54) : Value).ownBlock) (.slice Ao44 t314.length co44) t314) ∧ Aside0 (Kd.R k80 80 wc w.heap.size (fun _ => True) (.slice Ao47 t317.length co47) t317) ∧ Aside0 (wc.heap[gb295]? = some (.cells #[(.slice A0_0 l0_0.length c0_0), (.slice A0_1 l0_1.length c0_1)] 25 (0, 0))) ∧ Aside0 (wc.heap[gb320]? = some (.cells #[(.slice Ao44 t314.length co44), (.slice Ao47 t317.length co47)] 32 (0, 0))) ∧ Aside0 (Below w.heap.size w wc))
     case first =>
      have H := HC26.out
      clear HC26
      by_cases c56 : t330 = t312
      ·rw [if_pos c56] at H
       have c56b0 : (t330 == t312) = true := beq_iff_eq.mpr c56
       have c56b1 : (t330 != t312) = false := bne_eq_false_iff_eq.mpr c56
       clear c56
       (first | rw [c56b0] | (simp only [i64_w, i32_w]; rw [c56b0]) | skip)
       have H' := Aside0.mk H
       clear H
       go_wp2
       go_meet
       case rel => exact ⟨_, ((t331 != t313)), t5_, H', ⟨by first | omega | exact Nat.le_refl _⟩, ⟨by (with_reducible repeat (first | apply Kd.R_alloc | apply Kd.R_drewN | apply Kd.R_drew)); exact Kd.R_mono HO323.out (fun _ hk => ⟨hk.1.2, ⟨hk.2, hk.1.1.2⟩⟩)⟩, ⟨by (with_reducible repeat (first | apply Kd.R_alloc | apply Kd.R_drewN | apply Kd.R_drew)); exact Kd.R_mono HO326.out (fun _ hk => ⟨hk.1.2, ⟨hk.2, hk.1.1.2⟩⟩)⟩, ⟨by (with_reducible repeat (first | apply Kd.R_alloc | apply Kd.R_drewN | apply Kd.R_drew)); exact Kd.R_mono HO329.out (fun _ hk => ⟨hk.1.2, ⟨hk.2, hk.1.1.2⟩⟩)⟩, ⟨by (with_reducible repeat (first | apply Kd.R_alloc | apply Kd.R_drewN | apply Kd.R_drew)); exact Kd.R_mono HO316.out (fun _ hk => ⟨hk.1.1.2, ⟨hk.1.2, hk.2⟩⟩)⟩, ⟨by (with_reducible repeat (first | apply Kd.R_alloc | apply Kd.R_drewN | apply Kd.R_drew)); exact Kd.R_mono HO319.out (fun _ hk => trivial)⟩, ⟨by (with_reducible repeat (first | refine blk_drewN ?_ _ | refine blk_drew ?_ | refine blk_alloc ?_ _)); exact BK295.out⟩, ⟨by (with_reducible repeat (first | refine blk_drewN ?_ _ | refine blk_drew ?_ | refine blk_alloc ?_ _)); exact BK320.out⟩, ⟨by repeat (first | (with_reducible first | exact HB.out | apply below_alloc | apply pw_below_drewN | apply below_drew1 | refine below_set ?_ GE295.out | refine below_set ?_ GE320.out) | exact HB.out)⟩⟩
      ·rw [if_neg c56] at H
       have c56b0 : (t330 == t312) = false := beq_eq_false_iff_ne.mpr c56
       have c56b1 : (t330 != t312) = true := bne_iff_ne.mpr c56
       (first | rw [c56b0] | (simp only [i64_w, i32_w]; rw [c56b0]) | skip)
       have H' := Aside0.mk H
       clear H
       go_wp2
       go_meet
       case rel => exact ⟨_, (true), t5_, H', ⟨by first | omega | exact Nat.le_refl _⟩, ⟨by (with_reducible repeat (first | apply Kd.R_alloc | apply Kd.R_drewN | apply Kd.R_drew)); exact Kd.R_mono HO323.out (fun _ hk => ⟨hk.1.2, ⟨hk.2, hk.1.1.2⟩⟩)⟩, ⟨by (with_reducible repeat (first | apply Kd.R_alloc | apply Kd.R_drewN | apply Kd.R_drew)); exact Kd.R_mono HO326.out (fun _ hk => ⟨hk.1.2, ⟨hk.2, hk.1.1.2⟩⟩)⟩, ⟨by (with_reducible repeat (first | apply Kd.R_alloc | apply Kd.R_drewN | apply Kd.R_drew)); exact Kd.R_mono HO329.out (fun _ hk => ⟨hk.1.2, ⟨hk.2, hk.1.1.2⟩⟩)⟩, ⟨by (with_reducible repeat (first | apply Kd.R_alloc | apply Kd.R_drewN | apply Kd.R_drew)); exact Kd.R_mono HO316.out (fun _ hk => ⟨hk.1.1.2, ⟨hk.1.2, hk.2⟩⟩)⟩, ⟨by (with_reducible repeat (first | apply Kd.R_alloc | apply Kd.R_drewN | apply Kd.R_drew)); exact Kd.R_mono HO319.out (fun _ hk => trivial)⟩, ⟨by (with_reducible repeat (first | refine blk_drewN ?_ _ | refine blk_drew ?_ | refine blk_alloc ?_ _)); exact BK295.out⟩, ⟨by (with_reducible repeat (first | refine blk_drewN ?_ _ | refine blk_drew ?_ | refine blk_alloc ?_ _)); exact BK320.out⟩, ⟨by repeat (first | (with_reducible first | exact HB.out | apply below_alloc | apply pw_below_drewN | apply below_drew1 | refine below_set ?_ GE295.out | refine below_set ?_ GE320.out) | exact HB.out)⟩⟩
     case rest =>
      clear HC26
      try clear c1
      try clear c2
      try clear p2
      try clear c3
      try clear c4
      try clear c5
      try clear c5b0
      try clear c5b1
      try clear c6
      try clear c7
      try clear c7b0
      try clear c7b1
      try clear c9
      try clear c9b0
      try clear c9b1
      try clear c11
      try clear c12
      try clear c12b0
      try clear c14
      try clear c22
      try clear c28
      try clear c29
      try clear c45
      try clear c56
      try clear c56b0
      try clear c56b1
      try clear hcz14_0
      try clear hcz14_1
      try clear hcz28_0
      try clear hcz28_1
      try clear hcz30_0
      try clear hcz30_1
      try clear hcz41_0
      try clear hcz41_1
      try clear hcz46_0
      try clear hcz46_1
      try clear hcz51_0
      try clear hcz51_1
      try clear hfz14_0
      try clear hfz14_1
      try clear hfz28_0
      try clear hfz28_1
      try clear hfz30_0
      try clear hfz30_1
      try clear hfz41_0
      try clear hfz41_1
      try clear hfz46_0
      try clear hfz46_1
      try clear hfz51_0
      try clear hfz51_1
      obtain ⟨kq, x67_25, rfl, HA, HJ25, HO_13, HO_14, HO_15, HO_321000, HO_321001, BK295, BK320, HB⟩ := hcut
      cases kq with
      | zero => exact absurd HA.out (by simp [laws_FnExactUnservedLoad.j0])
      | succ kj25 =>
       have H := HA.out
       clear HA
       simp only [laws_FnExactUnservedLoad.j0] at H
       by_cases c57 : x67_25 = true
       ·subst c57
        have H1 : (some false) = some r := by rw [if_pos rfl] at H; exact H
        clear H
        have H := H1
        clear H1
        obtain rfl := Option.some.inj H
        go_wp2
        go_ret
        exact ⟨by first | rfl | (rw [Int.tdiv_eq_ediv_of_nonneg t11_]; rfl) | (simp [errW_none, errW_some] <;> rfl) | (simp [*, errW_none, errW_some] <;> rfl), by repeat (first | (with_reducible first | exact HB.out | apply below_alloc | apply pw_below_drewN | apply below_drew1 | refine below_set ?_ GE295.out | refine below_set ?_ GE320.out) | exact HB.out)⟩
       ·replace c57 := Bool.eq_false_iff.mpr c57
        subst c57
        have H1 : ((laws_toNetwork.f kj25 l0_0 l0_1).bind fun bt332 => ((laws_eqNetwork.f kj25 t314 t317 bt332.1 bt332.2).bind fun t338 => (if t338 = true then ((laws_toInt64S.f kj25 l1).bind fun t339 => ((laws_eqInt64S.f kj25 t321 t339).bind fun t342 => (if t342 = true then ((laws_toInt64S.f kj25 l2).bind fun t343 => ((laws_eqInt64S.f kj25 t324 t343).bind fun t346 => (if t346 = true then ((laws_toInt64S.f kj25 l3).bind fun t347 => ((laws_eqInt64S.f kj25 t327 t347).bind fun t350 => (if t350 = true then (some true) else (some false)))) else (some false)))) else (some false)))) else (some false)))) = some r := by rw [if_neg (show ¬ (false = true) by decide)] at H; exact H
        clear H
        have H := H1
        clear H1
        replace H := Option.bind_eq_some_iff.mp H
        obtain ⟨⟨t332, t335⟩, A580, H⟩ := H
        replace H : ((laws_eqNetwork.f kj25 t314 t317 t332 t335).bind fun t338 => (if t338 = true then ((laws_toInt64S.f kj25 l1).bind fun t339 => ((laws_eqInt64S.f kj25 t321 t339).bind fun t342 => (if t342 = true then ((laws_toInt64S.f kj25 l2).bind fun t343 => ((laws_eqInt64S.f kj25 t324 t343).bind fun t346 => (if t346 = true then ((laws_toInt64S.f kj25 l3).bind fun t347 => ((laws_eqInt64S.f kj25 t327 t347).bind fun t350 => (if t350 = true then (some true) else (some false)))) else (some false)))) else (some false)))) else (some false))) = some r := H
        have A58 := Aside0.mk A580
        clear A580
        replace H := Option.bind_eq_some_iff.mp H
        obtain ⟨t338, A590, H⟩ := H
        replace H : (if t338 = true then ((laws_toInt64S.f kj25 l1).bind fun t339 => ((laws_eqInt64S.f kj25 t321 t339).bind fun t342 => (if t342 = true then ((laws_toInt64S.f kj25 l2).bind fun t343 => ((laws_eqInt64S.f kj25 t324 t343).bind fun t346 => (if t346 = true then ((laws_toInt64S.f kj25 l3).bind fun t347 => ((laws_eqInt64S.f kj25 t327 t347).bind fun t350 => (if t350 = true then (some true) else (some false)))) else (some false)))) else (some false)))) else (some false)) = some r := H
        have A59 := Aside0.mk A590
        clear A590
        by_cases c60 : t338 = true
        ·subst c60
         have H1 : ((laws_toInt64S.f kj25 l1).bind fun t339 => ((laws_eqInt64S.f kj25 t321 t339).bind fun t342 => (if t342 = true then ((laws_toInt64S.f kj25 l2).bind fun t343 => ((laws_eqInt64S.f kj25 t324 t343).bind fun t346 => (if t346 = true then ((laws_toInt64S.f kj25 l3).bind fun t347 => ((laws_eqInt64S.f kj25 t327 t347).bind fun t350 => (if t350 = true then (some true) else (some false)))) else (some false)))) else (some false)))) = some r := by rw [if_pos rfl] at H; exact H
         clear H
         have H := H1
         clear H1
         replace H := Option.bind_eq_some_iff.mp H
         obtain ⟨t339, A610, H⟩ := H
         replace H : ((laws_eqInt64S.f kj25 t321 t339).bind fun t342 => (if t342 = true then ((laws_toInt64S.f kj25 l2).bind fun t343 => ((laws_eqInt64S.f kj25 t324 t343).bind fun t346 => (if t346 = true then ((laws_toInt64S.f kj25 l3).bind fun t347 => ((laws_eqInt64S.f kj25 t327 t347).bind fun t350 => (if t350 = true then (some true) else (some false)))) else (some false)))) else (some false))) = some r := H
         have A61 := Aside0.mk A610
         clear A610
         replace H := Option.bind_eq_some_iff.mp H
         obtain ⟨t342, A620, H⟩ := H
         replace H : (if t342 = true then ((laws_toInt64S.f kj25 l2).bind fun t343 => ((laws_eqInt64S.f kj25 t324 t343).bind fun t346 => (if t346 = true then ((laws_toInt64S.f kj25 l3).bind fun t347 => ((laws_eqInt64S.f kj25 t327 t347).bind fun t350 => (if t350 = true then (some true) else (some false)))) else (some false)))) else (some false)) = some r := H
         have A62 := Aside0.mk A620
         clear A620
         by_cases c63 : t342 = true
         ·subst c63
          have H1 : ((laws_toInt64S.f kj25 l2).bind fun t343 => ((laws_eqInt64S.f kj25 t324 t343).bind fun t346 => (if t346 = true then ((laws_toInt64S.f kj25 l3).bind fun t347 => ((laws_eqInt64S.f kj25 t327 t347).bind fun t350 => (if t350 = true then (some true) else (some false)))) else (some false)))) = some r := by rw [if_pos rfl] at H; exact H
          clear H
          have H := H1
          clear H1
          replace H := Option.bind_eq_some_iff.mp H
          obtain ⟨t343, A640, H⟩ := H
          replace H : ((laws_eqInt64S.f kj25 t324 t343).bind fun t346 => (if t346 = true then ((laws_toInt64S.f kj25 l3).bind fun t347 => ((laws_eqInt64S.f kj25 t327 t347).bind fun t350 => (if t350 = true then (some true) else (some false)))) else (some false))) = some r := H
          have A64 := Aside0.mk A640
          clear A640
          replace H := Option.bind_eq_some_iff.mp H
          obtain ⟨t346, A650, H⟩ := H
          replace H : (if t346 = true then ((laws_toInt64S.f kj25 l3).bind fun t347 => ((laws_eqInt64S.f kj25 t327 t347).bind fun t350 => (if t350 = true then (some true) else (some false)))) else (some false)) = some r := H
          have A65 := Aside0.mk A650
          clear A650
          by_cases c66 : t346 = true
          ·subst c66
           have H1 : ((laws_toInt64S.f kj25 l3).bind fun t347 => ((laws_eqInt64S.f kj25 t327 t347).bind fun t350 => (if t350 = true then (some true) else (some false)))) = some r := by rw [if_pos rfl] at H; exact H
           clear H
           have H := H1
           clear H1
           replace H := Option.bind_eq_some_iff.mp H
           obtain ⟨t347, A670, H⟩ := H
           replace H : ((laws_eqInt64S.f kj25 t327 t347).bind fun t350 => (if t350 = true then (some true) else (some false))) = some r := H
           have A67 := Aside0.mk A670
           clear A670
           replace H := Option.bind_eq_some_iff.mp H
           obtain ⟨t350, A680, H⟩ := H
           replace H : (if t350 = true then (some true) else (some false)) = some r := H
           have A68 := Aside0.mk A680
           clear A680
           by_cases c69 : t350 = true
           ·subst c69
            have H1 : (some true) = some r := by rw [if_pos rfl] at H; exact H
            clear H
            have H := H1
            clear H1
            obtain rfl := Option.some.inj H
            try go_wp2
            have n0_ := Aside0.mk (Kd.R_drew HO_13.out)
            have n1_ := Aside0.mk (Kd.R_drew HO_14.out)
            have n2_ := Aside0.mk (Kd.R_drew HO_15.out)
            have n3_ := Aside0.mk (Kd.R_drew HO_321000.out)
            have n4_ := Aside0.mk (Kd.R_drew HO_321001.out)
            have n5_ := Aside0.mk (blk_drew BK295.out)
            have n6_ := Aside0.mk (blk_drew BK320.out)
            have n7_ := Aside0.mk (below_drew1 HB.out)
            clear HO_13
            clear HO_14
            clear HO_15
            clear HO_321000
            clear HO_321001
            clear BK295
            clear BK320
            clear HB
            have HO_13 := n0_
            have HO_14 := n1_
            have HO_15 := n2_
            have HO_321000 := n3_
            have HO_321001 := n4_
            have BK295 := n5_
            have BK320 := n6_
            have HB := n7_
            clear n0_ n1_ n2_ n3_ n4_ n5_ n6_ n7_
            refine start_ (n := 5) (S := fun w' => w'.cell? ⟨gb320, 0, none⟩ = some (.slice Ao44 t314.length co44) ∧ w'.cell? ⟨gb320, 1, none⟩ = some (.slice Ao47 t317.length co47) ∧ w'.cell? ⟨gb295, 0, none⟩ = some (.slice A0_0 l0_0.length c0_0) ∧ w'.cell? ⟨gb295, 1, none⟩ = some (.slice A0_1 l0_1.length c0_1)) (ds := []) #[false, false, false, false, false] t6_ rfl rfl ⟨(blk_cell BK320.out 0).trans rfl, (blk_cell BK320.out 1).trans rfl, (blk_cell BK295.out 0).trans rfl, (blk_cell BK295.out 1).trans rfl⟩ (fun hHeld => ?_)
            generalize wc.drew = w70 at HO_13 HO_14 HO_15 HO_321000 HO_321001 BK295 BK320 HB hHeld ⊢
            refine take_ (i := 0) (N := some 68) (v := ?_) (a' := ?_) #[true, false, false, false, false] rfl rfl t6_ (fun _ _ _ h => h) (Or.inl ⟨by rfl, ?_⟩) hHeld ?_ ?_
            rotate_left
            ·rintro w' ⟨s0, s1, s2, s3⟩
             go_simp
             with_reducible rfl
            rotate_left; (· simp only [Act.put, List.setIfInBounds_toArray, List.set_cons_zero, List.set_cons_succ, i64_w, i32_w]; rfl)
            refine take_ (i := 1) (N := some 69) (v := ?_) (a' := ?_) #[true, true, false, false, false] rfl rfl t6_ (fun _ _ _ h => h) (Or.inl ⟨by rfl, ?_⟩) hHeld ?_ ?_
            rotate_left
            ·rintro w' ⟨s0, s1, s2, s3⟩
             go_simp
             with_reducible rfl
            rotate_left; (· simp only [Act.put, List.setIfInBounds_toArray, List.set_cons_zero, List.set_cons_succ, i64_w, i32_w]; rfl)
            refine one_ (i := 2) (N := some 70) #[true, true, true, false, false] rfl rfl t6_ t24_ (fun K hK => ?_)
            refine goes_ Try.func14 t6_ rfl #[.agg #[.slice A0_0 l0_0.length c0_0, .slice A0_1 l0_1.length c0_1]] t38_ rfl rfl t2_ ?_
            with_reducible refine (laws_toNetwork.calls kj25 _ _ l0_0 _ _ l0_1 t332 t335 _ ?side1 ?side2 ?side3 ?side4 A58.out).mono ?_
            (case side1 => repeat (first | exact (Kd.C_below HR0_0.out HB.out) | (with_reducible refine Kd.C_alloc ?_ _) | (with_reducible refine Kd.C_drewN ?_ _) | (with_reducible refine Kd.C_drew ?_)))
            (case side2 => exact HC0_0.out)
            (case side3 => repeat (first | exact (Kd.C_below HR0_1.out HB.out) | (with_reducible refine Kd.C_alloc ?_ _) | (with_reducible refine Kd.C_drewN ?_ _) | (with_reducible refine Kd.C_drew ?_)))
            (case side4 => exact HC0_1.out)
            rintro e w71 ⟨v333, v336, rfl, ho0, ho1, hb⟩
            refine ⟨_, rfl, ?_⟩
            have n0_ := Aside0.mk (Kd.R_elder' (q2_ HO_13.out) (Kd.R_base ho0) hb)
            have n1_ := Aside0.mk (Kd.R_elder' (q2_ HO_14.out) (Kd.R_base ho0) hb)
            have n2_ := Aside0.mk (Kd.R_elder' (q2_ HO_15.out) (Kd.R_base ho0) hb)
            have n3_ := Aside0.mk (Kd.R_elder' (q2_ HO_321000.out) (Kd.R_base ho0) hb)
            have n4_ := Aside0.mk (Kd.R_elder' (q2_ HO_321001.out) (Kd.R_base ho1) hb)
            have n5_ := Aside0.mk (Kd.R_lower (Kd.R_new' (Kd.R_new' (Kd.R_new' (Kd.R_new' ho0 (Kd.R_lt (q2_ HO_13.out))) (Kd.R_lt (q2_ HO_14.out))) (Kd.R_lt (q2_ HO_15.out))) (Kd.R_lt (q2_ HO_321000.out))) (below_size t4_))
            have n6_ := Aside0.mk (Kd.R_lower (Kd.R_new' ho1 (Kd.R_lt (q2_ HO_321001.out))) (below_size t4_))
            have n7_ := Aside0.mk (blk_below (g := gb295) (o := .cells #[.slice A0_0 l0_0.length c0_0, .slice A0_1 l0_1.length c0_1] 25 (0, 0)) (q1_ BK295.out) hb)
            have n8_ := Aside0.mk (blk_below (g := gb320) (o := .cells #[.slice Ao44 t314.length co44, .slice Ao47 t317.length co47] 32 (0, 0)) (q1_ BK320.out) hb)
            have n9_ := Aside0.mk (below_step t4_ hb)
            clear HO_13
            clear HO_14
            clear HO_15
            clear HO_321000
            clear HO_321001
            clear BK295
            clear BK320
            clear HB
            have HO_13 := n0_
            have HO_14 := n1_
            have HO_15 := n2_
            have HO_321000 := n3_
            have HO_321001 := n4_
            have HO334 := n5_
            have HO337 := n6_
            have BK295 := n7_
            have BK320 := n8_
            have HB := n9_
            clear n0_ n1_ n2_ n3_ n4_ n5_ n6_ n7_ n8_ n9_
            (try clear hb)
            (try clear hb2)
            (try clear hk)
            (try clear hi)
            (try clear ho0)
            (try clear ho1)
            obtain ⟨Ao72, co72, eo72⟩ := Kd.R_slice HO334.out
            (first | subst eo72 | (injection eo72 with f1_ f2_ f3_; have f4_ := f1_.symm; have f5_ := f3_.symm; clear f1_ f2_ f3_; subst f4_; subst f5_))
            obtain ⟨Ao73, co73, eo73⟩ := Kd.R_slice HO337.out
            (first | subst eo73 | (injection eo73 with f1_ f2_ f3_; have f4_ := f1_.symm; have f5_ := f3_.symm; clear f1_ f2_ f3_; subst f4_; subst f5_))
            refine hK.out _ _ ⟨(blk_cell BK320.out 0).trans rfl, (blk_cell BK320.out 1).trans rfl, (blk_cell BK295.out 0).trans rfl, (blk_cell BK295.out 1).trans rfl⟩ (fun hHeld => ?_)
            clear hK K
            refine norm_ (a' := ?_) ?_ ?_
            rotate_left
            ·show Act.put _ (some 70) _ = _
             simp only [Act.put, List.setIfInBounds_toArray, List.set_cons_zero, List.set_cons_succ, i64_w, i32_w]
             rfl
            refine one_ (i := 3) (N := some 71) #[true, true, true, true, false] rfl rfl t6_ t24_ (fun K hK => ?_)
            refine goes_ Try.func17 t6_ rfl #[.agg #[.slice Ao44 t314.length co44, .slice Ao47 t317.length co47], .agg #[.slice Ao72 t332.length co72, .slice Ao73 t335.length co73]] t38_ rfl rfl t2_ ?_
            with_reducible refine (laws_eqNetwork.calls kj25 _ _ t314 _ _ t317 _ _ t332 _ _ t335 true _ ?side1 ?side2 ?side3 ?side4 ?side5 ?side6 ?side7 ?side8 A59.out).mono ?_
            (case side1 => repeat (first | exact (Kd.R_reads' HO_321000.out).2.2 | (with_reducible refine Kd.C_alloc ?_ _) | (with_reducible refine Kd.C_drewN ?_ _) | (with_reducible refine Kd.C_drew ?_)))
            (case side2 => exact (Kd.R_reads' HO_321000.out).2.1)
            (case side3 => repeat (first | exact (Kd.R_reads' HO_321001.out).2.2 | (with_reducible refine Kd.C_alloc ?_ _) | (with_reducible refine Kd.C_drewN ?_ _) | (with_reducible refine Kd.C_drew ?_)))
            (case side4 => exact (Kd.R_reads' HO_321001.out).2.1)
            (case side5 => repeat (first | exact (Kd.R_reads' HO334.out).2.2 | (with_reducible refine Kd.C_alloc ?_ _) | (with_reducible refine Kd.C_drewN ?_ _) | (with_reducible refine Kd.C_drew ?_)))
            (case side6 => exact (Kd.R_reads' HO334.out).2.1)
            (case side7 => repeat (first | exact (Kd.R_reads' HO337.out).2.2 | (with_reducible refine Kd.C_alloc ?_ _) | (with_reducible refine Kd.C_drewN ?_ _) | (with_reducible refine Kd.C_drew ?_)))
            (case side8 => exact (Kd.R_reads' HO337.out).2.1)
            rintro e w74 ⟨rfl, hb⟩
            refine ⟨_, rfl, ?_⟩
            have n0_ := Aside0.mk (Kd.R_below (q2_ HO_13.out) hb)
            have n1_ := Aside0.mk (Kd.R_below (q2_ HO_14.out) hb)
            have n2_ := Aside0.mk (Kd.R_below (q2_ HO_15.out) hb)
            have n3_ := Aside0.mk (Kd.R_below (q2_ HO_321000.out) hb)
            have n4_ := Aside0.mk (Kd.R_below (q2_ HO_321001.out) hb)
            have n5_ := Aside0.mk (Kd.R_below (q2_ HO334.out) hb)
            have n6_ := Aside0.mk (Kd.R_below (q2_ HO337.out) hb)
            have n7_ := Aside0.mk (blk_below (g := gb295) (o := .cells #[.slice A0_0 l0_0.length c0_0, .slice A0_1 l0_1.length c0_1] 25 (0, 0)) (q1_ BK295.out) hb)
            have n8_ := Aside0.mk (blk_below (g := gb320) (o := .cells #[.slice Ao44 t314.length co44, .slice Ao47 t317.length co47] 32 (0, 0)) (q1_ BK320.out) hb)
            have n9_ := Aside0.mk (below_step t4_ hb)
            clear HO_13
            clear HO_14
            clear HO_15
            clear HO_321000
            clear HO_321001
            clear HO334
            clear HO337
            clear BK295
            clear BK320
            clear HB
            have HO_13 := n0_
            have HO_14 := n1_
            have HO_15 := n2_
            have HO_321000 := n3_
            have HO_321001 := n4_
            have HO334 := n5_
            have HO337 := n6_
            have BK295 := n7_
            have BK320 := n8_
            have HB := n9_
            clear n0_ n1_ n2_ n3_ n4_ n5_ n6_ n7_ n8_ n9_
            (try clear hb)
            (try clear hb2)
            (try clear hk)
            (try clear hi)
            refine hK.out _ _ ⟨(blk_cell BK320.out 0).trans rfl, (blk_cell BK320.out 1).trans rfl, (blk_cell BK295.out 0).trans rfl, (blk_cell BK295.out 1).trans rfl⟩ (fun hHeld => ?_)
            clear hK K
            refine norm_ (a' := ?_) ?_ ?_
            rotate_left
            ·show Act.put _ (some 71) _ = _
             simp only [Act.put, List.setIfInBounds_toArray, List.set_cons_zero, List.set_cons_succ, i64_w, i32_w]
             rfl
            refine pure_ (i := 4) (N := some 72) (v := ?_) (a' := ?_) #[true, true, true, true, true] rfl rfl t6_ (fun _ _ _ h => h) (Or.inl ⟨by rfl, ?_⟩) ?_ ?_
            rotate_left; (· intro w'; go_simp; with_reducible rfl); rotate_left; (· simp only [Act.put, List.setIfInBounds_toArray, List.set_cons_zero, List.set_cons_succ, i64_w, i32_w]; rfl)
            refine done_ t6_ ?_
            try go_wp2_with (first | ((with_reducible refine gate_callee (f := 22) rfl ?_); refine goesL_ (some 75) rfl rfl Try.func22 t6_ rfl #[.slice A1 l1.length c1] rfl t2_ ?_; (with_reducible refine (laws_toInt64S.calls kj25 _ _ l1 t339 _ ?side1 ?side2 A61.out).mono ?_); (case side1 => repeat (first | exact (Kd.C_below HR1.out HB.out) | (with_reducible refine Kd.C_alloc ?_ _) | (with_reducible refine Kd.C_drewN ?_ _) | (with_reducible refine Kd.C_drew ?_))); (case side2 => exact HC1.out); rintro e w75 ⟨v340, rfl, ho0, hb⟩; refine ⟨_, rfl, ?_⟩; have n0_ := Aside0.mk (Kd.R_elder' (q2_ HO_13.out) (Kd.R_base ho0) hb); have n1_ := Aside0.mk (Kd.R_elder' (q2_ HO_14.out) (Kd.R_base ho0) hb); have n2_ := Aside0.mk (Kd.R_elder' (q2_ HO_15.out) (Kd.R_base ho0) hb); have n3_ := Aside0.mk (Kd.R_elder' (q2_ HO_321000.out) (Kd.R_base ho0) hb); have n4_ := Aside0.mk (Kd.R_below (q2_ HO_321001.out) hb); have n5_ := Aside0.mk (Kd.R_elder' (q2_ HO334.out) (Kd.R_base ho0) hb); have n6_ := Aside0.mk (Kd.R_below (q2_ HO337.out) hb); have n7_ := Aside0.mk (Kd.R_lower (Kd.R_new' (Kd.R_new' (Kd.R_new' (Kd.R_new' (Kd.R_new' ho0 (Kd.R_lt (q2_ HO_13.out))) (Kd.R_lt (q2_ HO_14.out))) (Kd.R_lt (q2_ HO_15.out))) (Kd.R_lt (q2_ HO_321000.out))) (Kd.R_lt (q2_ HO334.out))) (below_size t4_)); have n8_ := Aside0.mk (blk_below (g := gb295) (o := .cells #[.slice A0_0 l0_0.length c0_0, .slice A0_1 l0_1.length c0_1] 25 (0, 0)) (q1_ BK295.out) hb); have n9_ := Aside0.mk (blk_below (g := gb320) (o := .cells #[.slice Ao44 t314.length co44, .slice Ao47 t317.length co47] 32 (0, 0)) (q1_ BK320.out) hb); have n10_ := Aside0.mk (below_step t4_ hb); clear HO_13; clear HO_14; clear HO_15; clear HO_321000; clear HO_321001; clear HO334; clear HO337; clear BK295; clear BK320; clear HB; have HO_13 := n0_; have HO_14 := n1_; have HO_15 := n2_; have HO_321000 := n3_; have HO_321001 := n4_; have HO334 := n5_; have HO337 := n6_; have HO341 := n7_; have BK295 := n8_; have BK320 := n9_; have HB := n10_; clear n0_ n1_ n2_ n3_ n4_ n5_ n6_ n7_ n8_ n9_ n10_; (try clear hb); (try clear hb2); (try clear hk); (try clear hi); (try clear ho0); obtain ⟨Ao76, co76, eo76⟩ := Kd.R_slice HO341.out; subst eo76) | ((with_reducible refine gate_callee (f := 24) rfl ?_); refine goesL_ (some 76) rfl rfl Try.func24 t6_ rfl #[.slice Ao52 t321.length co52, .slice Ao76 t339.length co76] rfl t2_ ?_; (with_reducible refine (laws_eqInt64S.calls kj25 _ _ t321 _ _ t339 true _ ?side1 ?side2 ?side3 ?side4 A62.out).mono ?_); (case side1 => repeat (first | exact (Kd.R_reads' HO_13.out).2.2 | (with_reducible refine Kd.C_alloc ?_ _) | (with_reducible refine Kd.C_drewN ?_ _) | (with_reducible refine Kd.C_drew ?_))); (case side2 => exact (Kd.R_reads' HO_13.out).2.1); (case side3 => repeat (first | exact (Kd.R_reads' HO341.out).2.2 | (with_reducible refine Kd.C_alloc ?_ _) | (with_reducible refine Kd.C_drewN ?_ _) | (with_reducible refine Kd.C_drew ?_))); (case side4 => exact (Kd.R_reads' HO341.out).2.1); rintro e w' ⟨rfl, ⟨nd, rfl⟩⟩; refine ⟨_, rfl, ?_⟩) | ((with_reducible refine gate_callee (f := 22) rfl ?_); refine goesL_ (some 80) rfl rfl Try.func22 t6_ rfl #[.slice A2 l2.length c2] rfl t2_ ?_; (with_reducible refine (laws_toInt64S.calls kj25 _ _ l2 t343 _ ?side1 ?side2 A64.out).mono ?_); (case side1 => repeat (first | exact (Kd.C_below HR2.out t4_) | (with_reducible refine Kd.C_alloc ?_ _) | (with_reducible refine Kd.C_drewN ?_ _) | (with_reducible refine Kd.C_drew ?_))); (case side2 => exact HC2.out); rintro e w77 ⟨v344, rfl, ho0, hb⟩; refine ⟨_, rfl, ?_⟩; have n0_ := Aside0.mk (Kd.R_elder' (q2_ HO_13.out) (Kd.R_base ho0) hb); have n1_ := Aside0.mk (Kd.R_elder' (q2_ HO_14.out) (Kd.R_base ho0) hb); have n2_ := Aside0.mk (Kd.R_elder' (q2_ HO_15.out) (Kd.R_base ho0) hb); have n3_ := Aside0.mk (Kd.R_elder' (q2_ HO_321000.out) (Kd.R_base ho0) hb); have n4_ := Aside0.mk (Kd.R_below (q2_ HO_321001.out) hb); have n5_ := Aside0.mk (Kd.R_elder' (q2_ HO334.out) (Kd.R_base ho0) hb); have n6_ := Aside0.mk (Kd.R_below (q2_ HO337.out) hb); have n7_ := Aside0.mk (Kd.R_elder' (q2_ HO341.out) (Kd.R_base ho0) hb); have n8_ := Aside0.mk (Kd.R_lower (Kd.R_new' (Kd.R_new' (Kd.R_new' (Kd.R_new' (Kd.R_new' (Kd.R_new' ho0 (Kd.R_lt (q2_ HO_13.out))) (Kd.R_lt (q2_ HO_14.out))) (Kd.R_lt (q2_ HO_15.out))) (Kd.R_lt (q2_ HO_321000.out))) (Kd.R_lt (q2_ HO334.out))) (Kd.R_lt (q2_ HO341.out))) (below_size t4_)); have n9_ := Aside0.mk (blk_below (g := gb295) (o := .cells #[.slice A0_0 l0_0.length c0_0, .slice A0_1 l0_1.length c0_1] 25 (0, 0)) (q1_ BK295.out) hb); have n10_ := Aside0.mk (blk_below (g := gb320) (o := .cells #[.slice Ao44 t314.length co44, .slice Ao47 t317.length co47] 32 (0, 0)) (q1_ BK320.out) hb); have n11_ := Aside0.mk (below_step t4_ hb); clear HO_13; clear HO_14; clear HO_15; clear HO_321000; clear HO_321001; clear HO334; clear HO337; clear HO341; clear BK295; clear BK320; clear HB; have HO_13 := n0_; have HO_14 := n1_; have HO_15 := n2_; have HO_321000 := n3_; have HO_321001 := n4_; have HO334 := n5_; have HO337 := n6_; have HO341 := n7_; have HO345 := n8_; have BK295 := n9_; have BK320 := n10_; have HB := n11_; clear n0_ n1_ n2_ n3_ n4_ n5_ n6_ n7_ n8_ n9_ n10_ n11_; (try clear hb); (try clear hb2); (try clear hk); (try clear hi); (try clear ho0); obtain ⟨Ao78, co78, eo78⟩ := Kd.R_slice HO345.out; subst eo78) | ((with_reducible refine gate_callee (f := 24) rfl ?_); refine goesL_ (some 81) rfl rfl Try.func24 t6_ rfl #[.slice Ao53 t324.length co53, .slice Ao78 t343.length co78] rfl t2_ ?_; (with_reducible refine (laws_eqInt64S.calls kj25 _ _ t324 _ _ t343 true _ ?side1 ?side2 ?side3 ?side4 A65.out).mono ?_); (case side1 => repeat (first | exact (Kd.R_reads' HO_14.out).2.2 | (with_reducible refine Kd.C_alloc ?_ _) | (with_reducible refine Kd.C_drewN ?_ _) | (with_reducible refine Kd.C_drew ?_))); (case side2 => exact (Kd.R_reads' HO_14.out).2.1); (case side3 => repeat (first | exact (Kd.R_reads' HO345.out).2.2 | (with_reducible refine Kd.C_alloc ?_ _) | (with_reducible refine Kd.C_drewN ?_ _) | (with_reducible refine Kd.C_drew ?_))); (case side4 => exact (Kd.R_reads' HO345.out).2.1); rintro e w' ⟨rfl, ⟨nd, rfl⟩⟩; refine ⟨_, rfl, ?_⟩) | ((with_reducible refine gate_callee (f := 22) rfl ?_); refine goesL_ (some 85) rfl rfl Try.func22 t6_ rfl #[.slice A3 l3.length c3] rfl t2_ ?_; (with_reducible refine (laws_toInt64S.calls kj25 _ _ l3 t347 _ ?side1 ?side2 A67.out).mono ?_); (case side1 => repeat (first | exact (Kd.C_below HR3.out t4_) | (with_reducible refine Kd.C_alloc ?_ _) | (with_reducible refine Kd.C_drewN ?_ _) | (with_reducible refine Kd.C_drew ?_))); (case side2 => exact HC3.out); rintro e w79 ⟨v348, rfl, ho0, hb⟩; refine ⟨_, rfl, ?_⟩; have n0_ := Aside0.mk (Kd.R_elder' (q2_ HO_13.out) (Kd.R_base ho0) hb); have n1_ := Aside0.mk (Kd.R_elder' (q2_ HO_14.out) (Kd.R_base ho0) hb); have n2_ := Aside0.mk (Kd.R_elder' (q2_ HO_15.out) (Kd.R_base ho0) hb); have n3_ := Aside0.mk (Kd.R_elder' (q2_ HO_321000.out) (Kd.R_base ho0) hb); have n4_ := Aside0.mk (Kd.R_below (q2_ HO_321001.out) hb); have n5_ := Aside0.mk (Kd.R_elder' (q2_ HO334.out) (Kd.R_base ho0) hb); have n6_ := Aside0.mk (Kd.R_below (q2_ HO337.out) hb); have n7_ := Aside0.mk (Kd.R_elder' (q2_ HO341.out) (Kd.R_base ho0) hb); have n8_ := Aside0.mk (Kd.R_elder' (q2_ HO345.out) (Kd.R_base ho0) hb); have n9_ := Aside0.mk (Kd.R_lower (Kd.R_new' (Kd.R_new' (Kd.R_new' (Kd.R_new' (Kd.R_new' (Kd.R_new' (Kd.R_new' ho0 (Kd.R_lt (q2_ HO_13.out))) (Kd.R_lt (q2_ HO_14.out))) (Kd.R_lt (q2_ HO_15.out))) (Kd.R_lt (q2_ HO_321000.out))) (Kd.R_lt (q2_ HO334.out))) (Kd.R_lt (q2_ HO341.out))) (Kd.R_lt (q2_ HO345.out))) (below_size t4_)); have n10_ := Aside0.mk (blk_below (g := gb295) (o := .cells #[.slice A0_0 l0_0.length c0_0, .slice A0_1 l0_1.length c0_1] 25 (0, 0)) (q1_ BK295.out) hb); have n11_ := Aside0.mk (blk_below (g := gb320) (o := .cells #[.slice Ao44 t314.length co44, .slice Ao47 t317.length co47] 32 (0, 0)) (q1_ BK320.out) hb); have n12_ := Aside0.mk (below_step t4_ hb); clear HO_13; clear HO_14; clear HO_15; clear HO_321000; clear HO_321001; clear HO334; clear HO337; clear HO341; clear HO345; clear BK295; clear BK320; clear HB; have HO_13 := n0_; have HO_14 := n1_; have HO_15 := n2_; have HO_321000 := n3_; have HO_321001 := n4_; have HO334 := n5_; have HO337 := n6_; have HO341 := n7_; have HO345 := n8_; have HO349 := n9_; have BK295 := n10_; have BK320 := n11_; have HB := n12_; clear n0_ n1_ n2_ n3_ n4_ n5_ n6_ n7_ n8_ n9_ n10_ n11_ n12_; (try clear hb); (try clear hb2); (try clear hk); (try clear hi); (try clear ho0); obtain ⟨Ao80, co80, eo80⟩ := Kd.R_slice HO349.out; subst eo80) | ((with_reducible refine gate_callee (f := 24) rfl ?_); refine goesL_ (some 86) rfl rfl Try.func24 t6_ rfl #[.slice Ao54 t327.length co54, .slice Ao80 t347.length co80] rfl t2_ ?_; (with_reducible refine (laws_eqInt64S.calls kj25 _ _ t327 _ _ t347 true _ ?side1 ?side2 ?side3 ?side4 A68.out).mono ?_); (case side1 => repeat (first | exact (Kd.R_reads' HO_15.out).2.2 | (with_reducible refine Kd.C_alloc ?_ _) | (with_reducible refine Kd.C_drewN ?_ _) | (with_reducible refine Kd.C_drew ?_))); (case side2 => exact (Kd.R_reads' HO_15.out).2.1); (case side3 => repeat (first | exact (Kd.R_reads' HO349.out).2.2 | (with_reducible refine Kd.C_alloc ?_ _) | (with_reducible refine Kd.C_drewN ?_ _) | (with_reducible refine Kd.C_drew ?_))); (case side4 => exact (Kd.R_reads' HO349.out).2.1); rintro e w' ⟨rfl, ⟨nd, rfl⟩⟩; refine ⟨_, rfl, ?_⟩))
            go_ret
            exact ⟨by first | rfl | (rw [Int.tdiv_eq_ediv_of_nonneg t11_]; rfl) | (simp [errW_none, errW_some] <;> rfl) | (simp [*, errW_none, errW_some] <;> rfl), by repeat (first | (with_reducible first | exact HB.out | apply below_alloc | apply pw_below_drewN | apply below_drew1 | refine below_set ?_ GE295.out | refine below_set ?_ GE320.out) | exact HB.out)⟩
           ·replace c69 := Bool.eq_false_iff.mpr c69
            subst c69
            have H1 : (some false) = some r := by rw [if_neg (show ¬ (false = true) by decide)] at H; exact H
            clear H
            have H := H1
            clear H1
            obtain rfl := Option.some.inj H
            try go_wp2
            have n0_ := Aside0.mk (Kd.R_drew HO_13.out)
            have n1_ := Aside0.mk (Kd.R_drew HO_14.out)
            have n2_ := Aside0.mk (Kd.R_drew HO_15.out)
            have n3_ := Aside0.mk (Kd.R_drew HO_321000.out)
            have n4_ := Aside0.mk (Kd.R_drew HO_321001.out)
            have n5_ := Aside0.mk (blk_drew BK295.out)
            have n6_ := Aside0.mk (blk_drew BK320.out)
            have n7_ := Aside0.mk (below_drew1 HB.out)
            clear HO_13
            clear HO_14
            clear HO_15
            clear HO_321000
            clear HO_321001
            clear BK295
            clear BK320
            clear HB
            have HO_13 := n0_
            have HO_14 := n1_
            have HO_15 := n2_
            have HO_321000 := n3_
            have HO_321001 := n4_
            have BK295 := n5_
            have BK320 := n6_
            have HB := n7_
            clear n0_ n1_ n2_ n3_ n4_ n5_ n6_ n7_
            refine start_ (n := 5) (S := fun w' => w'.cell? ⟨gb320, 0, none⟩ = some (.slice Ao44 t314.length co44) ∧ w'.cell? ⟨gb320, 1, none⟩ = some (.slice Ao47 t317.length co47) ∧ w'.cell? ⟨gb295, 0, none⟩ = some (.slice A0_0 l0_0.length c0_0) ∧ w'.cell? ⟨gb295, 1, none⟩ = some (.slice A0_1 l0_1.length c0_1)) (ds := []) #[false, false, false, false, false] t6_ rfl rfl ⟨(blk_cell BK320.out 0).trans rfl, (blk_cell BK320.out 1).trans rfl, (blk_cell BK295.out 0).trans rfl, (blk_cell BK295.out 1).trans rfl⟩ (fun hHeld => ?_)
            generalize wc.drew = w81 at HO_13 HO_14 HO_15 HO_321000 HO_321001 BK295 BK320 HB hHeld ⊢
            refine take_ (i := 0) (N := some 68) (v := ?_) (a' := ?_) #[true, false, false, false, false] rfl rfl t6_ (fun _ _ _ h => h) (Or.inl ⟨by rfl, ?_⟩) hHeld ?_ ?_
            rotate_left
            ·rintro w' ⟨s0, s1, s2, s3⟩
             go_simp
             with_reducible rfl
            rotate_left; (· simp only [Act.put, List.setIfInBounds_toArray, List.set_cons_zero, List.set_cons_succ, i64_w, i32_w]; rfl)
            refine take_ (i := 1) (N := some 69) (v := ?_) (a' := ?_) #[true, true, false, false, false] rfl rfl t6_ (fun _ _ _ h => h) (Or.inl ⟨by rfl, ?_⟩) hHeld ?_ ?_
            rotate_left
            ·rintro w' ⟨s0, s1, s2, s3⟩
             go_simp
             with_reducible rfl
            rotate_left; (· simp only [Act.put, List.setIfInBounds_toArray, List.set_cons_zero, List.set_cons_succ, i64_w, i32_w]; rfl)
            refine one_ (i := 2) (N := some 70) #[true, true, true, false, false] rfl rfl t6_ t24_ (fun K hK => ?_)
            refine goes_ Try.func14 t6_ rfl #[.agg #[.slice A0_0 l0_0.length c0_0, .slice A0_1 l0_1.length c0_1]] t38_ rfl rfl t2_ ?_
            with_reducible refine (laws_toNetwork.calls kj25 _ _ l0_0 _ _ l0_1 t332 t335 _ ?side1 ?side2 ?side3 ?side4 A58.out).mono ?_
            (case side1 => repeat (first | exact (Kd.C_below HR0_0.out HB.out) | (with_reducible refine Kd.C_alloc ?_ _) | (with_reducible refine Kd.C_drewN ?_ _) | (with_reducible refine Kd.C_drew ?_)))
            (case side2 => exact HC0_0.out)
            (case side3 => repeat (first | exact (Kd.C_below HR0_1.out HB.out) | (with_reducible refine Kd.C_alloc ?_ _) | (with_reducible refine Kd.C_drewN ?_ _) | (with_reducible refine Kd.C_drew ?_)))
            (case side4 => exact HC0_1.out)
            rintro e w82 ⟨v333, v336, rfl, ho0, ho1, hb⟩
            refine ⟨_, rfl, ?_⟩
            have n0_ := Aside0.mk (Kd.R_elder' (q2_ HO_13.out) (Kd.R_base ho0) hb)
            have n1_ := Aside0.mk (Kd.R_elder' (q2_ HO_14.out) (Kd.R_base ho0) hb)
            have n2_ := Aside0.mk (Kd.R_elder' (q2_ HO_15.out) (Kd.R_base ho0) hb)
            have n3_ := Aside0.mk (Kd.R_elder' (q2_ HO_321000.out) (Kd.R_base ho0) hb)
            have n4_ := Aside0.mk (Kd.R_elder' (q2_ HO_321001.out) (Kd.R_base ho1) hb)
            have n5_ := Aside0.mk (Kd.R_lower (Kd.R_new' (Kd.R_new' (Kd.R_new' (Kd.R_new' ho0 (Kd.R_lt (q2_ HO_13.out))) (Kd.R_lt (q2_ HO_14.out))) (Kd.R_lt (q2_ HO_15.out))) (Kd.R_lt (q2_ HO_321000.out))) (below_size t4_))
            have n6_ := Aside0.mk (Kd.R_lower (Kd.R_new' ho1 (Kd.R_lt (q2_ HO_321001.out))) (below_size t4_))
            have n7_ := Aside0.mk (blk_below (g := gb295) (o := .cells #[.slice A0_0 l0_0.length c0_0, .slice A0_1 l0_1.length c0_1] 25 (0, 0)) (q1_ BK295.out) hb)
            have n8_ := Aside0.mk (blk_below (g := gb320) (o := .cells #[.slice Ao44 t314.length co44, .slice Ao47 t317.length co47] 32 (0, 0)) (q1_ BK320.out) hb)
            have n9_ := Aside0.mk (below_step t4_ hb)
            clear HO_13
            clear HO_14
            clear HO_15
            clear HO_321000
            clear HO_321001
            clear BK295
            clear BK320
            clear HB
            have HO_13 := n0_
            have HO_14 := n1_
            have HO_15 := n2_
            have HO_321000 := n3_
            have HO_321001 := n4_
            have HO334 := n5_
            have HO337 := n6_
            have BK295 := n7_
            have BK320 := n8_
            have HB := n9_
            clear n0_ n1_ n2_ n3_ n4_ n5_ n6_ n7_ n8_ n9_
            (try clear hb)
            (try clear hb2)
            (try clear hk)
            (try clear hi)
            (try clear ho0)
            (try clear ho1)
            obtain ⟨Ao83, co83, eo83⟩ := Kd.R_slice HO334.out
            (first | subst eo83 | (injection eo83 with f1_ f2_ f3_; have f4_ := f1_.symm; have f5_ := f3_.symm; clear f1_ f2_ f3_; subst f4_; subst f5_))
            obtain ⟨Ao84, co84, eo84⟩ := Kd.R_slice HO337.out
            (first | subst eo84 | (injection eo84 with f1_ f2_ f3_; have f4_ := f1_.symm; have f5_ := f3_.symm; clear f1_ f2_ f3_; subst f4_; subst f5_))
            refine hK.out _ _ ⟨(blk_cell BK320.out 0).trans rfl, (blk_cell BK320.out 1).trans rfl, (blk_cell BK295.out 0).trans rfl, (blk_cell BK295.out 1).trans rfl⟩ (fun hHeld => ?_)
            clear hK K
            refine norm_ (a' := ?_) ?_ ?_
            rotate_left
            ·show Act.put _ (some 70) _ = _
             simp only [Act.put, List.setIfInBounds_toArray, List.set_cons_zero, List.set_cons_succ, i64_w, i32_w]
             rfl
            refine one_ (i := 3) (N := some 71) #[true, true, true, true, false] rfl rfl t6_ t24_ (fun K hK => ?_)
            refine goes_ Try.func17 t6_ rfl #[.agg #[.slice Ao44 t314.length co44, .slice Ao47 t317.length co47], .agg #[.slice Ao83 t332.length co83, .slice Ao84 t335.length co84]] t38_ rfl rfl t2_ ?_
            with_reducible refine (laws_eqNetwork.calls kj25 _ _ t314 _ _ t317 _ _ t332 _ _ t335 true _ ?side1 ?side2 ?side3 ?side4 ?side5 ?side6 ?side7 ?side8 A59.out).mono ?_
            (case side1 => repeat (first | exact (Kd.R_reads' HO_321000.out).2.2 | (with_reducible refine Kd.C_alloc ?_ _) | (with_reducible refine Kd.C_drewN ?_ _) | (with_reducible refine Kd.C_drew ?_)))
            (case side2 => exact (Kd.R_reads' HO_321000.out).2.1)
            (case side3 => repeat (first | exact (Kd.R_reads' HO_321001.out).2.2 | (with_reducible refine Kd.C_alloc ?_ _) | (with_reducible refine Kd.C_drewN ?_ _) | (with_reducible refine Kd.C_drew ?_)))
            (case side4 => exact (Kd.R_reads' HO_321001.out).2.1)
            (case side5 => repeat (first | exact (Kd.R_reads' HO334.out).2.2 | (with_reducible refine Kd.C_alloc ?_ _) | (with_reducible refine Kd.C_drewN ?_ _) | (with_reducible refine Kd.C_drew ?_)))
            (case side6 => exact (Kd.R_reads' HO334.out).2.1)
            (case side7 => repeat (first | exact (Kd.R_reads' HO337.out).2.2 | (with_reducible refine Kd.C_alloc ?_ _) | (with_reducible refine Kd.C_drewN ?_ _) | (with_reducible refine Kd.C_drew ?_)))
            (case side8 => exact (Kd.R_reads' HO337.out).2.1)
            rintro e w85 ⟨rfl, hb⟩
            refine ⟨_, rfl, ?_⟩
            have n0_ := Aside0.mk (Kd.R_below (q2_ HO_13.out) hb)
            have n1_ := Aside0.mk (Kd.R_below (q2_ HO_14.out) hb)
            have n2_ := Aside0.mk (Kd.R_below (q2_ HO_15.out) hb)
            have n3_ := Aside0.mk (Kd.R_below (q2_ HO_321000.out) hb)
            have n4_ := Aside0.mk (Kd.R_below (q2_ HO_321001.out) hb)
            have n5_ := Aside0.mk (Kd.R_below (q2_ HO334.out) hb)
            have n6_ := Aside0.mk (Kd.R_below (q2_ HO337.out) hb)
            have n7_ := Aside0.mk (blk_below (g := gb295) (o := .cells #[.slice A0_0 l0_0.length c0_0, .slice A0_1 l0_1.length c0_1] 25 (0, 0)) (q1_ BK295.out) hb)
            have n8_ := Aside0.mk (blk_below (g := gb320) (o := .cells #[.slice Ao44 t314.length co44, .slice Ao47 t317.length co47] 32 (0, 0)) (q1_ BK320.out) hb)
            have n9_ := Aside0.mk (below_step t4_ hb)
            clear HO_13
            clear HO_14
            clear HO_15
            clear HO_321000
            clear HO_321001
            clear HO334
            clear HO337
            clear BK295
            clear BK320
            clear HB
            have HO_13 := n0_
            have HO_14 := n1_
            have HO_15 := n2_
            have HO_321000 := n3_
            have HO_321001 := n4_
            have HO334 := n5_
            have HO337 := n6_
            have BK295 := n7_
            have BK320 := n8_
            have HB := n9_
            clear n0_ n1_ n2_ n3_ n4_ n5_ n6_ n7_ n8_ n9_
            (try clear hb)
            (try clear hb2)
            (try clear hk)
            (try clear hi)
            refine hK.out _ _ ⟨(blk_cell BK320.out 0).trans rfl, (blk_cell BK320.out 1).trans rfl, (blk_cell BK295.out 0).trans rfl, (blk_cell BK295.out 1).trans rfl⟩ (fun hHeld => ?_)
            clear hK K
            refine norm_ (a' := ?_) ?_ ?_
            rotate_left
            ·show Act.put _ (some 71) _ = _
             simp only [Act.put, List.setIfInBounds_toArray, List.set_cons_zero, List.set_cons_succ, i64_w, i32_w]
             rfl
            refine pure_ (i := 4) (N := some 72) (v := ?_) (a' := ?_) #[true, true, true, true, true] rfl rfl t6_ (fun _ _ _ h => h) (Or.inl ⟨by rfl, ?_⟩) ?_ ?_
            rotate_left; (· intro w'; go_simp; with_reducible rfl); rotate_left; (· simp only [Act.put, List.setIfInBounds_toArray, List.set_cons_zero, List.set_cons_succ, i64_w, i32_w]; rfl)
            refine done_ t6_ ?_
            try go_wp2_with (first | ((with_reducible refine gate_callee (f := 22) rfl ?_); refine goesL_ (some 75) rfl rfl Try.func22 t6_ rfl #[.slice A1 l1.length c1] rfl t2_ ?_; (with_reducible refine (laws_toInt64S.calls kj25 _ _ l1 t339 _ ?side1 ?side2 A61.out).mono ?_); (case side1 => repeat (first | exact (Kd.C_below HR1.out HB.out) | (with_reducible refine Kd.C_alloc ?_ _) | (with_reducible refine Kd.C_drewN ?_ _) | (with_reducible refine Kd.C_drew ?_))); (case side2 => exact HC1.out); rintro e w86 ⟨v340, rfl, ho0, hb⟩; refine ⟨_, rfl, ?_⟩; have n0_ := Aside0.mk (Kd.R_elder' (q2_ HO_13.out) (Kd.R_base ho0) hb); have n1_ := Aside0.mk (Kd.R_elder' (q2_ HO_14.out) (Kd.R_base ho0) hb); have n2_ := Aside0.mk (Kd.R_elder' (q2_ HO_15.out) (Kd.R_base ho0) hb); have n3_ := Aside0.mk (Kd.R_elder' (q2_ HO_321000.out) (Kd.R_base ho0) hb); have n4_ := Aside0.mk (Kd.R_below (q2_ HO_321001.out) hb); have n5_ := Aside0.mk (Kd.R_elder' (q2_ HO334.out) (Kd.R_base ho0) hb); have n6_ := Aside0.mk (Kd.R_below (q2_ HO337.out) hb); have n7_ := Aside0.mk (Kd.R_lower (Kd.R_new' (Kd.R_new' (Kd.R_new' (Kd.R_new' (Kd.R_new' ho0 (Kd.R_lt (q2_ HO_13.out))) (Kd.R_lt (q2_ HO_14.out))) (Kd.R_lt (q2_ HO_15.out))) (Kd.R_lt (q2_ HO_321000.out))) (Kd.R_lt (q2_ HO334.out))) (below_size t4_)); have n8_ := Aside0.mk (blk_below (g := gb295) (o := .cells #[.slice A0_0 l0_0.length c0_0, .slice A0_1 l0_1.length c0_1] 25 (0, 0)) (q1_ BK295.out) hb); have n9_ := Aside0.mk (blk_below (g := gb320) (o := .cells #[.slice Ao44 t314.length co44, .slice Ao47 t317.length co47] 32 (0, 0)) (q1_ BK320.out) hb); have n10_ := Aside0.mk (below_step t4_ hb); clear HO_13; clear HO_14; clear HO_15; clear HO_321000; clear HO_321001; clear HO334; clear HO337; clear BK295; clear BK320; clear HB; have HO_13 := n0_; have HO_14 := n1_; have HO_15 := n2_; have HO_321000 := n3_; have HO_321001 := n4_; have HO334 := n5_; have HO337 := n6_; have HO341 := n7_; have BK295 := n8_; have BK320 := n9_; have HB := n10_; clear n0_ n1_ n2_ n3_ n4_ n5_ n6_ n7_ n8_ n9_ n10_; (try clear hb); (try clear hb2); (try clear hk); (try clear hi); (try clear ho0); obtain ⟨Ao87, co87, eo87⟩ := Kd.R_slice HO341.out; subst eo87) | ((with_reducible refine gate_callee (f := 24) rfl ?_); refine goesL_ (some 76) rfl rfl Try.func24 t6_ rfl #[.slice Ao52 t321.length co52, .slice Ao87 t339.length co87] rfl t2_ ?_; (with_reducible refine (laws_eqInt64S.calls kj25 _ _ t321 _ _ t339 true _ ?side1 ?side2 ?side3 ?side4 A62.out).mono ?_); (case side1 => repeat (first | exact (Kd.R_reads' HO_13.out).2.2 | (with_reducible refine Kd.C_alloc ?_ _) | (with_reducible refine Kd.C_drewN ?_ _) | (with_reducible refine Kd.C_drew ?_))); (case side2 => exact (Kd.R_reads' HO_13.out).2.1); (case side3 => repeat (first | exact (Kd.R_reads' HO341.out).2.2 | (with_reducible refine Kd.C_alloc ?_ _) | (with_reducible refine Kd.C_drewN ?_ _) | (with_reducible refine Kd.C_drew ?_))); (case side4 => exact (Kd.R_reads' HO341.out).2.1); rintro e w' ⟨rfl, ⟨nd, rfl⟩⟩; refine ⟨_, rfl, ?_⟩) | ((with_reducible refine gate_callee (f := 22) rfl ?_); refine goesL_ (some 80) rfl rfl Try.func22 t6_ rfl #[.slice A2 l2.length c2] rfl t2_ ?_; (with_reducible refine (laws_toInt64S.calls kj25 _ _ l2 t343 _ ?side1 ?side2 A64.out).mono ?_); (case side1 => repeat (first | exact (Kd.C_below HR2.out t4_) | (with_reducible refine Kd.C_alloc ?_ _) | (with_reducible refine Kd.C_drewN ?_ _) | (with_reducible refine Kd.C_drew ?_))); (case side2 => exact HC2.out); rintro e w88 ⟨v344, rfl, ho0, hb⟩; refine ⟨_, rfl, ?_⟩; have n0_ := Aside0.mk (Kd.R_elder' (q2_ HO_13.out) (Kd.R_base ho0) hb); have n1_ := Aside0.mk (Kd.R_elder' (q2_ HO_14.out) (Kd.R_base ho0) hb); have n2_ := Aside0.mk (Kd.R_elder' (q2_ HO_15.out) (Kd.R_base ho0) hb); have n3_ := Aside0.mk (Kd.R_elder' (q2_ HO_321000.out) (Kd.R_base ho0) hb); have n4_ := Aside0.mk (Kd.R_below (q2_ HO_321001.out) hb); have n5_ := Aside0.mk (Kd.R_elder' (q2_ HO334.out) (Kd.R_base ho0) hb); have n6_ := Aside0.mk (Kd.R_below (q2_ HO337.out) hb); have n7_ := Aside0.mk (Kd.R_elder' (q2_ HO341.out) (Kd.R_base ho0) hb); have n8_ := Aside0.mk (Kd.R_lower (Kd.R_new' (Kd.R_new' (Kd.R_new' (Kd.R_new' (Kd.R_new' (Kd.R_new' ho0 (Kd.R_lt (q2_ HO_13.out))) (Kd.R_lt (q2_ HO_14.out))) (Kd.R_lt (q2_ HO_15.out))) (Kd.R_lt (q2_ HO_321000.out))) (Kd.R_lt (q2_ HO334.out))) (Kd.R_lt (q2_ HO341.out))) (below_size t4_)); have n9_ := Aside0.mk (blk_below (g := gb295) (o := .cells #[.slice A0_0 l0_0.length c0_0, .slice A0_1 l0_1.length c0_1] 25 (0, 0)) (q1_ BK295.out) hb); have n10_ := Aside0.mk (blk_below (g := gb320) (o := .cells #[.slice Ao44 t314.length co44, .slice Ao47 t317.length co47] 32 (0, 0)) (q1_ BK320.out) hb); have n11_ := Aside0.mk (below_step t4_ hb); clear HO_13; clear HO_14; clear HO_15; clear HO_321000; clear HO_321001; clear HO334; clear HO337; clear HO341; clear BK295; clear BK320; clear HB; have HO_13 := n0_; have HO_14 := n1_; have HO_15 := n2_; have HO_321000 := n3_; have HO_321001 := n4_; have HO334 := n5_; have HO337 := n6_; have HO341 := n7_; have HO345 := n8_; have BK295 := n9_; have BK320 := n10_; have HB := n11_; clear n0_ n1_ n2_ n3_ n4_ n5_ n6_ n7_ n8_ n9_ n10_ n11_; (try clear hb); (try clear hb2); (try clear hk); (try clear hi); (try clear ho0); obtain ⟨Ao89, co89, eo89⟩ := Kd.R_slice HO345.out; subst eo89) | ((with_reducible refine gate_callee (f := 24) rfl ?_); refine goesL_ (some 81) rfl rfl Try.func24 t6_ rfl #[.slice Ao53 t324.length co53, .slice Ao89 t343.length co89] rfl t2_ ?_; (with_reducible refine (laws_eqInt64S.calls kj25 _ _ t324 _ _ t343 true _ ?side1 ?side2 ?side3 ?side4 A65.out).mono ?_); (case side1 => repeat (first | exact (Kd.R_reads' HO_14.out).2.2 | (with_reducible refine Kd.C_alloc ?_ _) | (with_reducible refine Kd.C_drewN ?_ _) | (with_reducible refine Kd.C_drew ?_))); (case side2 => exact (Kd.R_reads' HO_14.out).2.1); (case side3 => repeat (first | exact (Kd.R_reads' HO345.out).2.2 | (with_reducible refine Kd.C_alloc ?_ _) | (with_reducible refine Kd.C_drewN ?_ _) | (with_reducible refine Kd.C_drew ?_))); (case side4 => exact (Kd.R_reads' HO345.out).2.1); rintro e w' ⟨rfl, ⟨nd, rfl⟩⟩; refine ⟨_, rfl, ?_⟩) | ((with_reducible refine gate_callee (f := 22) rfl ?_); refine goesL_ (some 85) rfl rfl Try.func22 t6_ rfl #[.slice A3 l3.length c3] rfl t2_ ?_; (with_reducible refine (laws_toInt64S.calls kj25 _ _ l3 t347 _ ?side1 ?side2 A67.out).mono ?_); (case side1 => repeat (first | exact (Kd.C_below HR3.out t4_) | (with_reducible refine Kd.C_alloc ?_ _) | (with_reducible refine Kd.C_drewN ?_ _) | (with_reducible refine Kd.C_drew ?_))); (case side2 => exact HC3.out); rintro e w90 ⟨v348, rfl, ho0, hb⟩; refine ⟨_, rfl, ?_⟩; have n0_ := Aside0.mk (Kd.R_elder' (q2_ HO_13.out) (Kd.R_base ho0) hb); have n1_ := Aside0.mk (Kd.R_elder' (q2_ HO_14.out) (Kd.R_base ho0) hb); have n2_ := Aside0.mk (Kd.R_elder' (q2_ HO_15.out) (Kd.R_base ho0) hb); have n3_ := Aside0.mk (Kd.R_elder' (q2_ HO_321000.out) (Kd.R_base ho0) hb); have n4_ := Aside0.mk (Kd.R_below (q2_ HO_321001.out) hb); have n5_ := Aside0.mk (Kd.R_elder' (q2_ HO334.out) (Kd.R_base ho0) hb); have n6_ := Aside0.mk (Kd.R_below (q2_ HO337.out) hb); have n7_ := Aside0.mk (Kd.R_elder' (q2_ HO341.out) (Kd.R_base ho0) hb); have n8_ := Aside0.mk (Kd.R_elder' (q2_ HO345.out) (Kd.R_base ho0) hb); have n9_ := Aside0.mk (Kd.R_lower (Kd.R_new' (Kd.R_new' (Kd.R_new' (Kd.R_new' (Kd.R_new' (Kd.R_new' (Kd.R_new' ho0 (Kd.R_lt (q2_ HO_13.out))) (Kd.R_lt (q2_ HO_14.out))) (Kd.R_lt (q2_ HO_15.out))) (Kd.R_lt (q2_ HO_321000.out))) (Kd.R_lt (q2_ HO334.out))) (Kd.R_lt (q2_ HO341.out))) (Kd.R_lt (q2_ HO345.out))) (below_size t4_)); have n10_ := Aside0.mk (blk_below (g := gb295) (o := .cells #[.slice A0_0 l0_0.length c0_0, .slice A0_1 l0_1.length c0_1] 25 (0, 0)) (q1_ BK295.out) hb); have n11_ := Aside0.mk (blk_below (g := gb320) (o := .cells #[.slice Ao44 t314.length co44, .slice Ao47 t317.length co47] 32 (0, 0)) (q1_ BK320.out) hb); have n12_ := Aside0.mk (below_step t4_ hb); clear HO_13; clear HO_14; clear HO_15; clear HO_321000; clear HO_321001; clear HO334; clear HO337; clear HO341; clear HO345; clear BK295; clear BK320; clear HB; have HO_13 := n0_; have HO_14 := n1_; have HO_15 := n2_; have HO_321000 := n3_; have HO_321001 := n4_; have HO334 := n5_; have HO337 := n6_; have HO341 := n7_; have HO345 := n8_; have HO349 := n9_; have BK295 := n10_; have BK320 := n11_; have HB := n12_; clear n0_ n1_ n2_ n3_ n4_ n5_ n6_ n7_ n8_ n9_ n10_ n11_ n12_; (try clear hb); (try clear hb2); (try clear hk); (try clear hi); (try clear ho0); obtain ⟨Ao91, co91, eo91⟩ := Kd.R_slice HO349.out; subst eo91) | ((with_reducible refine gate_callee (f := 24) rfl ?_); refine goesL_ (some 86) rfl rfl Try.func24 t6_ rfl #[.slice Ao54 t327.length co54, .slice Ao91 t347.length co91] rfl t2_ ?_; (with_reducible refine (laws_eqInt64S.calls kj25 _ _ t327 _ _ t347 false _ ?side1 ?side2 ?side3 ?side4 A68.out).mono ?_); (case side1 => repeat (first | exact (Kd.R_reads' HO_15.out).2.2 | (with_reducible refine Kd.C_alloc ?_ _) | (with_reducible refine Kd.C_drewN ?_ _) | (with_reducible refine Kd.C_drew ?_))); (case side2 => exact (Kd.R_reads' HO_15.out).2.1); (case side3 => repeat (first | exact (Kd.R_reads' HO349.out).2.2 | (with_reducible refine Kd.C_alloc ?_ _) | (with_reducible refine Kd.C_drewN ?_ _) | (with_reducible refine Kd.C_drew ?_))); (case side4 => exact (Kd.R_reads' HO349.out).2.1); rintro e w' ⟨rfl, ⟨nd, rfl⟩⟩; refine ⟨_, rfl, ?_⟩))
            go_ret
            exact ⟨by first | rfl | (rw [Int.tdiv_eq_ediv_of_nonneg t11_]; rfl) | (simp [errW_none, errW_some] <;> rfl) | (simp [*, errW_none, errW_some] <;> rfl), by repeat (first | (with_reducible first | exact HB.out | apply below_alloc | apply pw_below_drewN | apply below_drew1 | refine below_set ?_ GE295.out | refine below_set ?_ GE320.out) | exact HB.out)⟩
          ·replace c66 := Bool.eq_false_iff.mpr c66
           subst c66
           have H1 : (some false) = some r := by rw [if_neg (show ¬ (false = true) by decide)] at H; exact H
           clear H
           have H := H1
           clear H1
           obtain rfl := Option.some.inj H
           try go_wp2
           have n0_ := Aside0.mk (Kd.R_drew HO_13.out)
           have n1_ := Aside0.mk (Kd.R_drew HO_14.out)
           have n2_ := Aside0.mk (Kd.R_drew HO_15.out)
           have n3_ := Aside0.mk (Kd.R_drew HO_321000.out)
           have n4_ := Aside0.mk (Kd.R_drew HO_321001.out)
           have n5_ := Aside0.mk (blk_drew BK295.out)
           have n6_ := Aside0.mk (blk_drew BK320.out)
           have n7_ := Aside0.mk (below_drew1 HB.out)
           clear HO_13
           clear HO_14
           clear HO_15
           clear HO_321000
           clear HO_321001
           clear BK295
           clear BK320
           clear HB
           have HO_13 := n0_
           have HO_14 := n1_
           have HO_15 := n2_
           have HO_321000 := n3_
           have HO_321001 := n4_
           have BK295 := n5_
           have BK320 := n6_
           have HB := n7_
           clear n0_ n1_ n2_ n3_ n4_ n5_ n6_ n7_
           refine start_ (n := 5) (S := fun w' => w'.cell? ⟨gb320, 0, none⟩ = some (.slice Ao44 t314.length co44) ∧ w'.cell? ⟨gb320, 1, none⟩ = some (.slice Ao47 t317.length co47) ∧ w'.cell? ⟨gb295, 0, none⟩ = some (.slice A0_0 l0_0.length c0_0) ∧ w'.cell? ⟨gb295, 1, none⟩ = some (.slice A0_1 l0_1.length c0_1)) (ds := []) #[false, false, false, false, false] t6_ rfl rfl ⟨(blk_cell BK320.out 0).trans rfl, (blk_cell BK320.out 1).trans rfl, (blk_cell BK295.out 0).trans rfl, (blk_cell BK295.out 1).trans rfl⟩ (fun hHeld => ?_)
           generalize wc.drew = w92 at HO_13 HO_14 HO_15 HO_321000 HO_321001 BK295 BK320 HB hHeld ⊢
           refine take_ (i := 0) (N := some 68) (v := ?_) (a' := ?_) #[true, false, false, false, false] rfl rfl t6_ (fun _ _ _ h => h) (Or.inl ⟨by rfl, ?_⟩) hHeld ?_ ?_
           rotate_left
           ·rintro w' ⟨s0, s1, s2, s3⟩
            go_simp
            with_reducible rfl
           rotate_left; (· simp only [Act.put, List.setIfInBounds_toArray, List.set_cons_zero, List.set_cons_succ, i64_w, i32_w]; rfl)
           refine take_ (i := 1) (N := some 69) (v := ?_) (a' := ?_) #[true, true, false, false, false] rfl rfl t6_ (fun _ _ _ h => h) (Or.inl ⟨by rfl, ?_⟩) hHeld ?_ ?_
           rotate_left
           ·rintro w' ⟨s0, s1, s2, s3⟩
            go_simp
            with_reducible rfl
           rotate_left; (· simp only [Act.put, List.setIfInBounds_toArray, List.set_cons_zero, List.set_cons_succ, i64_w, i32_w]; rfl)
           refine one_ (i := 2) (N := some 70) #[true, true, true, false, false] rfl rfl t6_ t24_ (fun K hK => ?_)
           refine goes_ Try.func14 t6_ rfl #[.agg #[.slice A0_0 l0_0.length c0_0, .slice A0_1 l0_1.length c0_1]] t38_ rfl rfl t2_ ?_
           with_reducible refine (laws_toNetwork.calls kj25 _ _ l0_0 _ _ l0_1 t332 t335 _ ?side1 ?side2 ?side3 ?side4 A58.out).mono ?_
           (case side1 => repeat (first | exact (Kd.C_below HR0_0.out HB.out) | (with_reducible refine Kd.C_alloc ?_ _) | (with_reducible refine Kd.C_drewN ?_ _) | (with_reducible refine Kd.C_drew ?_)))
           (case side2 => exact HC0_0.out)
           (case side3 => repeat (first | exact (Kd.C_below HR0_1.out HB.out) | (with_reducible refine Kd.C_alloc ?_ _) | (with_reducible refine Kd.C_drewN ?_ _) | (with_reducible refine Kd.C_drew ?_)))
           (case side4 => exact HC0_1.out)
           rintro e w93 ⟨v333, v336, rfl, ho0, ho1, hb⟩
           refine ⟨_, rfl, ?_⟩
           have n0_ := Aside0.mk (Kd.R_elder' (q2_ HO_13.out) (Kd.R_base ho0) hb)
           have n1_ := Aside0.mk (Kd.R_elder' (q2_ HO_14.out) (Kd.R_base ho0) hb)
           have n2_ := Aside0.mk (Kd.R_elder' (q2_ HO_15.out) (Kd.R_base ho0) hb)
           have n3_ := Aside0.mk (Kd.R_elder' (q2_ HO_321000.out) (Kd.R_base ho0) hb)
           have n4_ := Aside0.mk (Kd.R_elder' (q2_ HO_321001.out) (Kd.R_base ho1) hb)
           have n5_ := Aside0.mk (Kd.R_lower (Kd.R_new' (Kd.R_new' (Kd.R_new' (Kd.R_new' ho0 (Kd.R_lt (q2_ HO_13.out))) (Kd.R_lt (q2_ HO_14.out))) (Kd.R_lt (q2_ HO_15.out))) (Kd.R_lt (q2_ HO_321000.out))) (below_size t4_))
           have n6_ := Aside0.mk (Kd.R_lower (Kd.R_new' ho1 (Kd.R_lt (q2_ HO_321001.out))) (below_size t4_))
           have n7_ := Aside0.mk (blk_below (g := gb295) (o := .cells #[.slice A0_0 l0_0.length c0_0, .slice A0_1 l0_1.length c0_1] 25 (0, 0)) (q1_ BK295.out) hb)
           have n8_ := Aside0.mk (blk_below (g := gb320) (o := .cells #[.slice Ao44 t314.length co44, .slice Ao47 t317.length co47] 32 (0, 0)) (q1_ BK320.out) hb)
           have n9_ := Aside0.mk (below_step t4_ hb)
           clear HO_13
           clear HO_14
           clear HO_15
           clear HO_321000
           clear HO_321001
           clear BK295
           clear BK320
           clear HB
           have HO_13 := n0_
           have HO_14 := n1_
           have HO_15 := n2_
           have HO_321000 := n3_
           have HO_321001 := n4_
           have HO334 := n5_
           have HO337 := n6_
           have BK295 := n7_
           have BK320 := n8_
           have HB := n9_
           clear n0_ n1_ n2_ n3_ n4_ n5_ n6_ n7_ n8_ n9_
           (try clear hb)
           (try clear hb2)
           (try clear hk)
           (try clear hi)
           (try clear ho0)
           (try clear ho1)
           obtain ⟨Ao94, co94, eo94⟩ := Kd.R_slice HO334.out
           (first | subst eo94 | (injection eo94 with f1_ f2_ f3_; have f4_ := f1_.symm; have f5_ := f3_.symm; clear f1_ f2_ f3_; subst f4_; subst f5_))
           obtain ⟨Ao95, co95, eo95⟩ := Kd.R_slice HO337.out
           (first | subst eo95 | (injection eo95 with f1_ f2_ f3_; have f4_ := f1_.symm; have f5_ := f3_.symm; clear f1_ f2_ f3_; subst f4_; subst f5_))
           refine hK.out _ _ ⟨(blk_cell BK320.out 0).trans rfl, (blk_cell BK320.out 1).trans rfl, (blk_cell BK295.out 0).trans rfl, (blk_cell BK295.out 1).trans rfl⟩ (fun hHeld => ?_)
           clear hK K
           refine norm_ (a' := ?_) ?_ ?_
           rotate_left
           ·show Act.put _ (some 70) _ = _
            simp only [Act.put, List.setIfInBounds_toArray, List.set_cons_zero, List.set_cons_succ, i64_w, i32_w]
            rfl
           refine one_ (i := 3) (N := some 71) #[true, true, true, true, false] rfl rfl t6_ t24_ (fun K hK => ?_)
           refine goes_ Try.func17 t6_ rfl #[.agg #[.slice Ao44 t314.length co44, .slice Ao47 t317.length co47], .agg #[.slice Ao94 t332.length co94, .slice Ao95 t335.length co95]] t38_ rfl rfl t2_ ?_
           with_reducible refine (laws_eqNetwork.calls kj25 _ _ t314 _ _ t317 _ _ t332 _ _ t335 true _ ?side1 ?side2 ?side3 ?side4 ?side5 ?side6 ?side7 ?side8 A59.out).mono ?_
           (case side1 => repeat (first | exact (Kd.R_reads' HO_321000.out).2.2 | (with_reducible refine Kd.C_alloc ?_ _) | (with_reducible refine Kd.C_drewN ?_ _) | (with_reducible refine Kd.C_drew ?_)))
           (case side2 => exact (Kd.R_reads' HO_321000.out).2.1)
           (case side3 => repeat (first | exact (Kd.R_reads' HO_321001.out).2.2 | (with_reducible refine Kd.C_alloc ?_ _) | (with_reducible refine Kd.C_drewN ?_ _) | (with_reducible refine Kd.C_drew ?_)))
           (case side4 => exact (Kd.R_reads' HO_321001.out).2.1)
           (case side5 => repeat (first | exact (Kd.R_reads' HO334.out).2.2 | (with_reducible refine Kd.C_alloc ?_ _) | (with_reducible refine Kd.C_drewN ?_ _) | (with_reducible refine Kd.C_drew ?_)))
           (case side6 => exact (Kd.R_reads' HO334.out).2.1)
           (case side7 => repeat (first | exact (Kd.R_reads' HO337.out).2.2 | (with_reducible refine Kd.C_alloc ?_ _) | (with_reducible refine Kd.C_drewN ?_ _) | (with_reducible refine Kd.C_drew ?_)))
           (case side8 => exact (Kd.R_reads' HO337.out).2.1)
           rintro e w96 ⟨rfl, hb⟩
           refine ⟨_, rfl, ?_⟩
           have n0_ := Aside0.mk (Kd.R_below (q2_ HO_13.out) hb)
           have n1_ := Aside0.mk (Kd.R_below (q2_ HO_14.out) hb)
           have n2_ := Aside0.mk (Kd.R_below (q2_ HO_15.out) hb)
           have n3_ := Aside0.mk (Kd.R_below (q2_ HO_321000.out) hb)
           have n4_ := Aside0.mk (Kd.R_below (q2_ HO_321001.out) hb)
           have n5_ := Aside0.mk (Kd.R_below (q2_ HO334.out) hb)
           have n6_ := Aside0.mk (Kd.R_below (q2_ HO337.out) hb)
           have n7_ := Aside0.mk (blk_below (g := gb295) (o := .cells #[.slice A0_0 l0_0.length c0_0, .slice A0_1 l0_1.length c0_1] 25 (0, 0)) (q1_ BK295.out) hb)
           have n8_ := Aside0.mk (blk_below (g := gb320) (o := .cells #[.slice Ao44 t314.length co44, .slice Ao47 t317.length co47] 32 (0, 0)) (q1_ BK320.out) hb)
           have n9_ := Aside0.mk (below_step t4_ hb)
           clear HO_13
           clear HO_14
           clear HO_15
           clear HO_321000
           clear HO_321001
           clear HO334
           clear HO337
           clear BK295
           clear BK320
           clear HB
           have HO_13 := n0_
           have HO_14 := n1_
           have HO_15 := n2_
           have HO_321000 := n3_
           have HO_321001 := n4_
           have HO334 := n5_
           have HO337 := n6_
           have BK295 := n7_
           have BK320 := n8_
           have HB := n9_
           clear n0_ n1_ n2_ n3_ n4_ n5_ n6_ n7_ n8_ n9_
           (try clear hb)
           (try clear hb2)
           (try clear hk)
           (try clear hi)
           refine hK.out _ _ ⟨(blk_cell BK320.out 0).trans rfl, (blk_cell BK320.out 1).trans rfl, (blk_cell BK295.out 0).trans rfl, (blk_cell BK295.out 1).trans rfl⟩ (fun hHeld => ?_)
           clear hK K
           refine norm_ (a' := ?_) ?_ ?_
           rotate_left
           ·show Act.put _ (some 71) _ = _
            simp only [Act.put, List.setIfInBounds_toArray, List.set_cons_zero, List.set_cons_succ, i64_w, i32_w]
            rfl
           refine pure_ (i := 4) (N := some 72) (v := ?_) (a' := ?_) #[true, true, true, true, true] rfl rfl t6_ (fun _ _ _ h => h) (Or.inl ⟨by rfl, ?_⟩) ?_ ?_
           rotate_left; (· intro w'; go_simp; with_reducible rfl); rotate_left; (· simp only [Act.put, List.setIfInBounds_toArray, List.set_cons_zero, List.set_cons_succ, i64_w, i32_w]; rfl)
           refine done_ t6_ ?_
           try go_wp2_with (first | ((with_reducible refine gate_callee (f := 22) rfl ?_); refine goesL_ (some 75) rfl rfl Try.func22 t6_ rfl #[.slice A1 l1.length c1] rfl t2_ ?_; (with_reducible refine (laws_toInt64S.calls kj25 _ _ l1 t339 _ ?side1 ?side2 A61.out).mono ?_); (case side1 => repeat (first | exact (Kd.C_below HR1.out HB.out) | (with_reducible refine Kd.C_alloc ?_ _) | (with_reducible refine Kd.C_drewN ?_ _) | (with_reducible refine Kd.C_drew ?_))); (case side2 => exact HC1.out); rintro e w97 ⟨v340, rfl, ho0, hb⟩; refine ⟨_, rfl, ?_⟩; have n0_ := Aside0.mk (Kd.R_elder' (q2_ HO_13.out) (Kd.R_base ho0) hb); have n1_ := Aside0.mk (Kd.R_elder' (q2_ HO_14.out) (Kd.R_base ho0) hb); have n2_ := Aside0.mk (Kd.R_elder' (q2_ HO_15.out) (Kd.R_base ho0) hb); have n3_ := Aside0.mk (Kd.R_elder' (q2_ HO_321000.out) (Kd.R_base ho0) hb); have n4_ := Aside0.mk (Kd.R_below (q2_ HO_321001.out) hb); have n5_ := Aside0.mk (Kd.R_elder' (q2_ HO334.out) (Kd.R_base ho0) hb); have n6_ := Aside0.mk (Kd.R_below (q2_ HO337.out) hb); have n7_ := Aside0.mk (Kd.R_lower (Kd.R_new' (Kd.R_new' (Kd.R_new' (Kd.R_new' (Kd.R_new' ho0 (Kd.R_lt (q2_ HO_13.out))) (Kd.R_lt (q2_ HO_14.out))) (Kd.R_lt (q2_ HO_15.out))) (Kd.R_lt (q2_ HO_321000.out))) (Kd.R_lt (q2_ HO334.out))) (below_size t4_)); have n8_ := Aside0.mk (blk_below (g := gb295) (o := .cells #[.slice A0_0 l0_0.length c0_0, .slice A0_1 l0_1.length c0_1] 25 (0, 0)) (q1_ BK295.out) hb); have n9_ := Aside0.mk (blk_below (g := gb320) (o := .cells #[.slice Ao44 t314.length co44, .slice Ao47 t317.length co47] 32 (0, 0)) (q1_ BK320.out) hb); have n10_ := Aside0.mk (below_step t4_ hb); clear HO_13; clear HO_14; clear HO_15; clear HO_321000; clear HO_321001; clear HO334; clear HO337; clear BK295; clear BK320; clear HB; have HO_13 := n0_; have HO_14 := n1_; have HO_15 := n2_; have HO_321000 := n3_; have HO_321001 := n4_; have HO334 := n5_; have HO337 := n6_; have HO341 := n7_; have BK295 := n8_; have BK320 := n9_; have HB := n10_; clear n0_ n1_ n2_ n3_ n4_ n5_ n6_ n7_ n8_ n9_ n10_; (try clear hb); (try clear hb2); (try clear hk); (try clear hi); (try clear ho0); obtain ⟨Ao98, co98, eo98⟩ := Kd.R_slice HO341.out; subst eo98) | ((with_reducible refine gate_callee (f := 24) rfl ?_); refine goesL_ (some 76) rfl rfl Try.func24 t6_ rfl #[.slice Ao52 t321.length co52, .slice Ao98 t339.length co98] rfl t2_ ?_; (with_reducible refine (laws_eqInt64S.calls kj25 _ _ t321 _ _ t339 true _ ?side1 ?side2 ?side3 ?side4 A62.out).mono ?_); (case side1 => repeat (first | exact (Kd.R_reads' HO_13.out).2.2 | (with_reducible refine Kd.C_alloc ?_ _) | (with_reducible refine Kd.C_drewN ?_ _) | (with_reducible refine Kd.C_drew ?_))); (case side2 => exact (Kd.R_reads' HO_13.out).2.1); (case side3 => repeat (first | exact (Kd.R_reads' HO341.out).2.2 | (with_reducible refine Kd.C_alloc ?_ _) | (with_reducible refine Kd.C_drewN ?_ _) | (with_reducible refine Kd.C_drew ?_))); (case side4 => exact (Kd.R_reads' HO341.out).2.1); rintro e w' ⟨rfl, ⟨nd, rfl⟩⟩; refine ⟨_, rfl, ?_⟩) | ((with_reducible refine gate_callee (f := 22) rfl ?_); refine goesL_ (some 80) rfl rfl Try.func22 t6_ rfl #[.slice A2 l2.length c2] rfl t2_ ?_; (with_reducible refine (laws_toInt64S.calls kj25 _ _ l2 t343 _ ?side1 ?side2 A64.out).mono ?_); (case side1 => repeat (first | exact (Kd.C_below HR2.out t4_) | (with_reducible refine Kd.C_alloc ?_ _) | (with_reducible refine Kd.C_drewN ?_ _) | (with_reducible refine Kd.C_drew ?_))); (case side2 => exact HC2.out); rintro e w99 ⟨v344, rfl, ho0, hb⟩; refine ⟨_, rfl, ?_⟩; have n0_ := Aside0.mk (Kd.R_elder' (q2_ HO_13.out) (Kd.R_base ho0) hb); have n1_ := Aside0.mk (Kd.R_elder' (q2_ HO_14.out) (Kd.R_base ho0) hb); have n2_ := Aside0.mk (Kd.R_elder' (q2_ HO_15.out) (Kd.R_base ho0) hb); have n3_ := Aside0.mk (Kd.R_elder' (q2_ HO_321000.out) (Kd.R_base ho0) hb); have n4_ := Aside0.mk (Kd.R_below (q2_ HO_321001.out) hb); have n5_ := Aside0.mk (Kd.R_elder' (q2_ HO334.out) (Kd.R_base ho0) hb); have n6_ := Aside0.mk (Kd.R_below (q2_ HO337.out) hb); have n7_ := Aside0.mk (Kd.R_elder' (q2_ HO341.out) (Kd.R_base ho0) hb); have n8_ := Aside0.mk (Kd.R_lower (Kd.R_new' (Kd.R_new' (Kd.R_new' (Kd.R_new' (Kd.R_new' (Kd.R_new' ho0 (Kd.R_lt (q2_ HO_13.out))) (Kd.R_lt (q2_ HO_14.out))) (Kd.R_lt (q2_ HO_15.out))) (Kd.R_lt (q2_ HO_321000.out))) (Kd.R_lt (q2_ HO334.out))) (Kd.R_lt (q2_ HO341.out))) (below_size t4_)); have n9_ := Aside0.mk (blk_below (g := gb295) (o := .cells #[.slice A0_0 l0_0.length c0_0, .slice A0_1 l0_1.length c0_1] 25 (0, 0)) (q1_ BK295.out) hb); have n10_ := Aside0.mk (blk_below (g := gb320) (o := .cells #[.slice Ao44 t314.length co44, .slice Ao47 t317.length co47] 32 (0, 0)) (q1_ BK320.out) hb); have n11_ := Aside0.mk (below_step t4_ hb); clear HO_13; clear HO_14; clear HO_15; clear HO_321000; clear HO_321001; clear HO334; clear HO337; clear HO341; clear BK295; clear BK320; clear HB; have HO_13 := n0_; have HO_14 := n1_; have HO_15 := n2_; have HO_321000 := n3_; have HO_321001 := n4_; have HO334 := n5_; have HO337 := n6_; have HO341 := n7_; have HO345 := n8_; have BK295 := n9_; have BK320 := n10_; have HB := n11_; clear n0_ n1_ n2_ n3_ n4_ n5_ n6_ n7_ n8_ n9_ n10_ n11_; (try clear hb); (try clear hb2); (try clear hk); (try clear hi); (try clear ho0); obtain ⟨Ao100, co100, eo100⟩ := Kd.R_slice HO345.out; subst eo100) | ((with_reducible refine gate_callee (f := 24) rfl ?_); refine goesL_ (some 81) rfl rfl Try.func24 t6_ rfl #[.slice Ao53 t324.length co53, .slice Ao100 t343.length co100] rfl t2_ ?_; (with_reducible refine (laws_eqInt64S.calls kj25 _ _ t324 _ _ t343 false _ ?side1 ?side2 ?side3 ?side4 A65.out).mono ?_); (case side1 => repeat (first | exact (Kd.R_reads' HO_14.out).2.2 | (with_reducible refine Kd.C_alloc ?_ _) | (with_reducible refine Kd.C_drewN ?_ _) | (with_reducible refine Kd.C_drew ?_))); (case side2 => exact (Kd.R_reads' HO_14.out).2.1); (case side3 => repeat (first | exact (Kd.R_reads' HO345.out).2.2 | (with_reducible refine Kd.C_alloc ?_ _) | (with_reducible refine Kd.C_drewN ?_ _) | (with_reducible refine Kd.C_drew ?_))); (case side4 => exact (Kd.R_reads' HO345.out).2.1); rintro e w' ⟨rfl, ⟨nd, rfl⟩⟩; refine ⟨_, rfl, ?_⟩))
           go_ret
           exact ⟨by first | rfl | (rw [Int.tdiv_eq_ediv_of_nonneg t11_]; rfl) | (simp [errW_none, errW_some] <;> rfl) | (simp [*, errW_none, errW_some] <;> rfl), by repeat (first | (with_reducible first | exact HB.out | apply below_alloc | apply pw_below_drewN | apply below_drew1 | refine below_set ?_ GE295.out | refine below_set ?_ GE320.out) | exact HB.out)⟩
         ·replace c63 := Bool.eq_false_iff.mpr c63
          subst c63
          have H1 : (some false) = some r := by rw [if_neg (show ¬ (false = true) by decide)] at H; exact H
          clear H
          have H := H1
          clear H1
          obtain rfl := Option.some.inj H
          try go_wp2
          have n0_ := Aside0.mk (Kd.R_drew HO_13.out)
          have n1_ := Aside0.mk (Kd.R_drew HO_14.out)
          have n2_ := Aside0.mk (Kd.R_drew HO_15.out)
          have n3_ := Aside0.mk (Kd.R_drew HO_321000.out)
          have n4_ := Aside0.mk (Kd.R_drew HO_321001.out)
          have n5_ := Aside0.mk (blk_drew BK295.out)
          have n6_ := Aside0.mk (blk_drew BK320.out)
          have n7_ := Aside0.mk (below_drew1 HB.out)
          clear HO_13
          clear HO_14
          clear HO_15
          clear HO_321000
          clear HO_321001
          clear BK295
          clear BK320
          clear HB
          have HO_13 := n0_
          have HO_14 := n1_
          have HO_15 := n2_
          have HO_321000 := n3_
          have HO_321001 := n4_
          have BK295 := n5_
          have BK320 := n6_
          have HB := n7_
          clear n0_ n1_ n2_ n3_ n4_ n5_ n6_ n7_
          refine start_ (n := 5) (S := fun w' => w'.cell? ⟨gb320, 0, none⟩ = some (.slice Ao44 t314.length co44) ∧ w'.cell? ⟨gb320, 1, none⟩ = some (.slice Ao47 t317.length co47) ∧ w'.cell? ⟨gb295, 0, none⟩ = some (.slice A0_0 l0_0.length c0_0) ∧ w'.cell? ⟨gb295, 1, none⟩ = some (.slice A0_1 l0_1.length c0_1)) (ds := []) #[false, false, false, false, false] t6_ rfl rfl ⟨(blk_cell BK320.out 0).trans rfl, (blk_cell BK320.out 1).trans rfl, (blk_cell BK295.out 0).trans rfl, (blk_cell BK295.out 1).trans rfl⟩ (fun hHeld => ?_)
          generalize wc.drew = w101 at HO_13 HO_14 HO_15 HO_321000 HO_321001 BK295 BK320 HB hHeld ⊢
          refine take_ (i := 0) (N := some 68) (v := ?_) (a' := ?_) #[true, false, false, false, false] rfl rfl t6_ (fun _ _ _ h => h) (Or.inl ⟨by rfl, ?_⟩) hHeld ?_ ?_
          rotate_left
          ·rintro w' ⟨s0, s1, s2, s3⟩
           go_simp
           with_reducible rfl
          rotate_left; (· simp only [Act.put, List.setIfInBounds_toArray, List.set_cons_zero, List.set_cons_succ, i64_w, i32_w]; rfl)
          refine take_ (i := 1) (N := some 69) (v := ?_) (a' := ?_) #[true, true, false, false, false] rfl rfl t6_ (fun _ _ _ h => h) (Or.inl ⟨by rfl, ?_⟩) hHeld ?_ ?_
          rotate_left
          ·rintro w' ⟨s0, s1, s2, s3⟩
           go_simp
           with_reducible rfl
          rotate_left; (· simp only [Act.put, List.setIfInBounds_toArray, List.set_cons_zero, List.set_cons_succ, i64_w, i32_w]; rfl)
          refine one_ (i := 2) (N := some 70) #[true, true, true, false, false] rfl rfl t6_ t24_ (fun K hK => ?_)
          refine goes_ Try.func14 t6_ rfl #[.agg #[.slice A0_0 l0_0.length c0_0, .slice A0_1 l0_1.length c0_1]] t38_ rfl rfl t2_ ?_
          with_reducible refine (laws_toNetwork.calls kj25 _ _ l0_0 _ _ l0_1 t332 t335 _ ?side1 ?side2 ?side3 ?side4 A58.out).mono ?_
          (case side1 => repeat (first | exact (Kd.C_below HR0_0.out HB.out) | (with_reducible refine Kd.C_alloc ?_ _) | (with_reducible refine Kd.C_drewN ?_ _) | (with_reducible refine Kd.C_drew ?_)))
          (case side2 => exact HC0_0.out)
          (case side3 => repeat (first | exact (Kd.C_below HR0_1.out HB.out) | (with_reducible refine Kd.C_alloc ?_ _) | (with_reducible refine Kd.C_drewN ?_ _) | (with_reducible refine Kd.C_drew ?_)))
          (case side4 => exact HC0_1.out)
          rintro e w102 ⟨v333, v336, rfl, ho0, ho1, hb⟩
          refine ⟨_, rfl, ?_⟩
          have n0_ := Aside0.mk (Kd.R_elder' (q2_ HO_13.out) (Kd.R_base ho0) hb)
          have n1_ := Aside0.mk (Kd.R_elder' (q2_ HO_14.out) (Kd.R_base ho0) hb)
          have n2_ := Aside0.mk (Kd.R_elder' (q2_ HO_15.out) (Kd.R_base ho0) hb)
          have n3_ := Aside0.mk (Kd.R_elder' (q2_ HO_321000.out) (Kd.R_base ho0) hb)
          have n4_ := Aside0.mk (Kd.R_elder' (q2_ HO_321001.out) (Kd.R_base ho1) hb)
          have n5_ := Aside0.mk (Kd.R_lower (Kd.R_new' (Kd.R_new' (Kd.R_new' (Kd.R_new' ho0 (Kd.R_lt (q2_ HO_13.out))) (Kd.R_lt (q2_ HO_14.out))) (Kd.R_lt (q2_ HO_15.out))) (Kd.R_lt (q2_ HO_321000.out))) (below_size t4_))
          have n6_ := Aside0.mk (Kd.R_lower (Kd.R_new' ho1 (Kd.R_lt (q2_ HO_321001.out))) (below_size t4_))
          have n7_ := Aside0.mk (blk_below (g := gb295) (o := .cells #[.slice A0_0 l0_0.length c0_0, .slice A0_1 l0_1.length c0_1] 25 (0, 0)) (q1_ BK295.out) hb)
          have n8_ := Aside0.mk (blk_below (g := gb320) (o := .cells #[.slice Ao44 t314.length co44, .slice Ao47 t317.length co47] 32 (0, 0)) (q1_ BK320.out) hb)
          have n9_ := Aside0.mk (below_step t4_ hb)
          clear HO_13
          clear HO_14
          clear HO_15
          clear HO_321000
          clear HO_321001
          clear BK295
          clear BK320
          clear HB
          have HO_13 := n0_
          have HO_14 := n1_
          have HO_15 := n2_
          have HO_321000 := n3_
          have HO_321001 := n4_
          have HO334 := n5_
          have HO337 := n6_
          have BK295 := n7_
          have BK320 := n8_
          have HB := n9_
          clear n0_ n1_ n2_ n3_ n4_ n5_ n6_ n7_ n8_ n9_
          (try clear hb)
          (try clear hb2)
          (try clear hk)
          (try clear hi)
          (try clear ho0)
          (try clear ho1)
          obtain ⟨Ao103, co103, eo103⟩ := Kd.R_slice HO334.out
          (first | subst eo103 | (injection eo103 with f1_ f2_ f3_; have f4_ := f1_.symm; have f5_ := f3_.symm; clear f1_ f2_ f3_; subst f4_; subst f5_))
          obtain ⟨Ao104, co104, eo104⟩ := Kd.R_slice HO337.out
          (first | subst eo104 | (injection eo104 with f1_ f2_ f3_; have f4_ := f1_.symm; have f5_ := f3_.symm; clear f1_ f2_ f3_; subst f4_; subst f5_))
          refine hK.out _ _ ⟨(blk_cell BK320.out 0).trans rfl, (blk_cell BK320.out 1).trans rfl, (blk_cell BK295.out 0).trans rfl, (blk_cell BK295.out 1).trans rfl⟩ (fun hHeld => ?_)
          clear hK K
          refine norm_ (a' := ?_) ?_ ?_
          rotate_left
          ·show Act.put _ (some 70) _ = _
           simp only [Act.put, List.setIfInBounds_toArray, List.set_cons_zero, List.set_cons_succ, i64_w, i32_w]
           rfl
          refine one_ (i := 3) (N := some 71) #[true, true, true, true, false] rfl rfl t6_ t24_ (fun K hK => ?_)
          refine goes_ Try.func17 t6_ rfl #[.agg #[.slice Ao44 t314.length co44, .slice Ao47 t317.length co47], .agg #[.slice Ao103 t332.length co103, .slice Ao104 t335.length co104]] t38_ rfl rfl t2_ ?_
          with_reducible refine (laws_eqNetwork.calls kj25 _ _ t314 _ _ t317 _ _ t332 _ _ t335 true _ ?side1 ?side2 ?side3 ?side4 ?side5 ?side6 ?side7 ?side8 A59.out).mono ?_
          (case side1 => repeat (first | exact (Kd.R_reads' HO_321000.out).2.2 | (with_reducible refine Kd.C_alloc ?_ _) | (with_reducible refine Kd.C_drewN ?_ _) | (with_reducible refine Kd.C_drew ?_)))
          (case side2 => exact (Kd.R_reads' HO_321000.out).2.1)
          (case side3 => repeat (first | exact (Kd.R_reads' HO_321001.out).2.2 | (with_reducible refine Kd.C_alloc ?_ _) | (with_reducible refine Kd.C_drewN ?_ _) | (with_reducible refine Kd.C_drew ?_)))
          (case side4 => exact (Kd.R_reads' HO_321001.out).2.1)
          (case side5 => repeat (first | exact (Kd.R_reads' HO334.out).2.2 | (with_reducible refine Kd.C_alloc ?_ _) | (with_reducible refine Kd.C_drewN ?_ _) | (with_reducible refine Kd.C_drew ?_)))
          (case side6 => exact (Kd.R_reads' HO334.out).2.1)
          (case side7 => repeat (first | exact (Kd.R_reads' HO337.out).2.2 | (with_reducible refine Kd.C_alloc ?_ _) | (with_reducible refine Kd.C_drewN ?_ _) | (with_reducible refine Kd.C_drew ?_)))
          (case side8 => exact (Kd.R_reads' HO337.out).2.1)
          rintro e w105 ⟨rfl, hb⟩
          refine ⟨_, rfl, ?_⟩
          have n0_ := Aside0.mk (Kd.R_below (q2_ HO_13.out) hb)
          have n1_ := Aside0.mk (Kd.R_below (q2_ HO_14.out) hb)
          have n2_ := Aside0.mk (Kd.R_below (q2_ HO_15.out) hb)
          have n3_ := Aside0.mk (Kd.R_below (q2_ HO_321000.out) hb)
          have n4_ := Aside0.mk (Kd.R_below (q2_ HO_321001.out) hb)
          have n5_ := Aside0.mk (Kd.R_below (q2_ HO334.out) hb)
          have n6_ := Aside0.mk (Kd.R_below (q2_ HO337.out) hb)
          have n7_ := Aside0.mk (blk_below (g := gb295) (o := .cells #[.slice A0_0 l0_0.length c0_0, .slice A0_1 l0_1.length c0_1] 25 (0, 0)) (q1_ BK295.out) hb)
          have n8_ := Aside0.mk (blk_below (g := gb320) (o := .cells #[.slice Ao44 t314.length co44, .slice Ao47 t317.length co47] 32 (0, 0)) (q1_ BK320.out) hb)
          have n9_ := Aside0.mk (below_step t4_ hb)
          clear HO_13
          clear HO_14
          clear HO_15
          clear HO_321000
          clear HO_321001
          clear HO334
          clear HO337
          clear BK295
          clear BK320
          clear HB
          have HO_13 := n0_
          have HO_14 := n1_
          have HO_15 := n2_
          have HO_321000 := n3_
          have HO_321001 := n4_
          have HO334 := n5_
          have HO337 := n6_
          have BK295 := n7_
          have BK320 := n8_
          have HB := n9_
          clear n0_ n1_ n2_ n3_ n4_ n5_ n6_ n7_ n8_ n9_
          (try clear hb)
          (try clear hb2)
          (try clear hk)
          (try clear hi)
          refine hK.out _ _ ⟨(blk_cell BK320.out 0).trans rfl, (blk_cell BK320.out 1).trans rfl, (blk_cell BK295.out 0).trans rfl, (blk_cell BK295.out 1).trans rfl⟩ (fun hHeld => ?_)
          clear hK K
          refine norm_ (a' := ?_) ?_ ?_
          rotate_left
          ·show Act.put _ (some 71) _ = _
           simp only [Act.put, List.setIfInBounds_toArray, List.set_cons_zero, List.set_cons_succ, i64_w, i32_w]
           rfl
          refine pure_ (i := 4) (N := some 72) (v := ?_) (a' := ?_) #[true, true, true, true, true] rfl rfl t6_ (fun _ _ _ h => h) (Or.inl ⟨by rfl, ?_⟩) ?_ ?_
          rotate_left; (· intro w'; go_simp; with_reducible rfl); rotate_left; (· simp only [Act.put, List.setIfInBounds_toArray, List.set_cons_zero, List.set_cons_succ, i64_w, i32_w]; rfl)
          refine done_ t6_ ?_
          try go_wp2_with (first | ((with_reducible refine gate_callee (f := 22) rfl ?_); refine goesL_ (some 75) rfl rfl Try.func22 t6_ rfl #[.slice A1 l1.length c1] rfl t2_ ?_; (with_reducible refine (laws_toInt64S.calls kj25 _ _ l1 t339 _ ?side1 ?side2 A61.out).mono ?_); (case side1 => repeat (first | exact (Kd.C_below HR1.out HB.out) | (with_reducible refine Kd.C_alloc ?_ _) | (with_reducible refine Kd.C_drewN ?_ _) | (with_reducible refine Kd.C_drew ?_))); (case side2 => exact HC1.out); rintro e w106 ⟨v340, rfl, ho0, hb⟩; refine ⟨_, rfl, ?_⟩; have n0_ := Aside0.mk (Kd.R_elder' (q2_ HO_13.out) (Kd.R_base ho0) hb); have n1_ := Aside0.mk (Kd.R_elder' (q2_ HO_14.out) (Kd.R_base ho0) hb); have n2_ := Aside0.mk (Kd.R_elder' (q2_ HO_15.out) (Kd.R_base ho0) hb); have n3_ := Aside0.mk (Kd.R_elder' (q2_ HO_321000.out) (Kd.R_base ho0) hb); have n4_ := Aside0.mk (Kd.R_below (q2_ HO_321001.out) hb); have n5_ := Aside0.mk (Kd.R_elder' (q2_ HO334.out) (Kd.R_base ho0) hb); have n6_ := Aside0.mk (Kd.R_below (q2_ HO337.out) hb); have n7_ := Aside0.mk (Kd.R_lower (Kd.R_new' (Kd.R_new' (Kd.R_new' (Kd.R_new' (Kd.R_new' ho0 (Kd.R_lt (q2_ HO_13.out))) (Kd.R_lt (q2_ HO_14.out))) (Kd.R_lt (q2_ HO_15.out))) (Kd.R_lt (q2_ HO_321000.out))) (Kd.R_lt (q2_ HO334.out))) (below_size t4_)); have n8_ := Aside0.mk (blk_below (g := gb295) (o := .cells #[.slice A0_0 l0_0.length c0_0, .slice A0_1 l0_1.length c0_1] 25 (0, 0)) (q1_ BK295.out) hb); have n9_ := Aside0.mk (blk_below (g := gb320) (o := .cells #[.slice Ao44 t314.length co44, .slice Ao47 t317.length co47] 32 (0, 0)) (q1_ BK320.out) hb); have n10_ := Aside0.mk (below_step t4_ hb); clear HO_13; clear HO_14; clear HO_15; clear HO_321000; clear HO_321001; clear HO334; clear HO337; clear BK295; clear BK320; clear HB; have HO_13 := n0_; have HO_14 := n1_; have HO_15 := n2_; have HO_321000 := n3_; have HO_321001 := n4_; have HO334 := n5_; have HO337 := n6_; have HO341 := n7_; have BK295 := n8_; have BK320 := n9_; have HB := n10_; clear n0_ n1_ n2_ n3_ n4_ n5_ n6_ n7_ n8_ n9_ n10_; (try clear hb); (try clear hb2); (try clear hk); (try clear hi); (try clear ho0); obtain ⟨Ao107, co107, eo107⟩ := Kd.R_slice HO341.out; subst eo107) | ((with_reducible refine gate_callee (f := 24) rfl ?_); refine goesL_ (some 76) rfl rfl Try.func24 t6_ rfl #[.slice Ao52 t321.length co52, .slice Ao107 t339.length co107] rfl t2_ ?_; (with_reducible refine (laws_eqInt64S.calls kj25 _ _ t321 _ _ t339 false _ ?side1 ?side2 ?side3 ?side4 A62.out).mono ?_); (case side1 => repeat (first | exact (Kd.R_reads' HO_13.out).2.2 | (with_reducible refine Kd.C_alloc ?_ _) | (with_reducible refine Kd.C_drewN ?_ _) | (with_reducible refine Kd.C_drew ?_))); (case side2 => exact (Kd.R_reads' HO_13.out).2.1); (case side3 => repeat (first | exact (Kd.R_reads' HO341.out).2.2 | (with_reducible refine Kd.C_alloc ?_ _) | (with_reducible refine Kd.C_drewN ?_ _) | (with_reducible refine Kd.C_drew ?_))); (case side4 => exact (Kd.R_reads' HO341.out).2.1); rintro e w' ⟨rfl, ⟨nd, rfl⟩⟩; refine ⟨_, rfl, ?_⟩))
          go_ret
          exact ⟨by first | rfl | (rw [Int.tdiv_eq_ediv_of_nonneg t11_]; rfl) | (simp [errW_none, errW_some] <;> rfl) | (simp [*, errW_none, errW_some] <;> rfl), by repeat (first | (with_reducible first | exact HB.out | apply below_alloc | apply pw_below_drewN | apply below_drew1 | refine below_set ?_ GE295.out | refine below_set ?_ GE320.out) | exact HB.out)⟩
        ·replace c60 := Bool.eq_false_iff.mpr c60
         subst c60
         have H1 : (some false) = some r := by rw [if_neg (show ¬ (false = true) by decide)] at H; exact H
         clear H
         have H := H1
         clear H1
         obtain rfl := Option.some.inj H
         try go_wp2
         have n0_ := Aside0.mk (Kd.R_drew HO_13.out)
         have n1_ := Aside0.mk (Kd.R_drew HO_14.out)
         have n2_ := Aside0.mk (Kd.R_drew HO_15.out)
         have n3_ := Aside0.mk (Kd.R_drew HO_321000.out)
         have n4_ := Aside0.mk (Kd.R_drew HO_321001.out)
         have n5_ := Aside0.mk (blk_drew BK295.out)
         have n6_ := Aside0.mk (blk_drew BK320.out)
         have n7_ := Aside0.mk (below_drew1 HB.out)
         clear HO_13
         clear HO_14
         clear HO_15
         clear HO_321000
         clear HO_321001
         clear BK295
         clear BK320
         clear HB
         have HO_13 := n0_
         have HO_14 := n1_
         have HO_15 := n2_
         have HO_321000 := n3_
         have HO_321001 := n4_
         have BK295 := n5_
         have BK320 := n6_
         have HB := n7_
         clear n0_ n1_ n2_ n3_ n4_ n5_ n6_ n7_
         refine start_ (n := 5) (S := fun w' => w'.cell? ⟨gb320, 0, none⟩ = some (.slice Ao44 t314.length co44) ∧ w'.cell? ⟨gb320, 1, none⟩ = some (.slice Ao47 t317.length co47) ∧ w'.cell? ⟨gb295, 0, none⟩ = some (.slice A0_0 l0_0.length c0_0) ∧ w'.cell? ⟨gb295, 1, none⟩ = some (.slice A0_1 l0_1.length c0_1)) (ds := []) #[false, false, false, false, false] t6_ rfl rfl ⟨(blk_cell BK320.out 0).trans rfl, (blk_cell BK320.out 1).trans rfl, (blk_cell BK295.out 0).trans rfl, (blk_cell BK295.out 1).trans rfl⟩ (fun hHeld => ?_)
         generalize wc.drew = w108 at HO_13 HO_14 HO_15 HO_321000 HO_321001 BK295 BK320 HB hHeld ⊢
         refine take_ (i := 0) (N := some 68) (v := ?_) (a' := ?_) #[true, false, false, false, false] rfl rfl t6_ (fun _ _ _ h => h) (Or.inl ⟨by rfl, ?_⟩) hHeld ?_ ?_
         rotate_left
         ·rintro w' ⟨s0, s1, s2, s3⟩
          go_simp
          with_reducible rfl
         rotate_left; (· simp only [Act.put, List.setIfInBounds_toArray, List.set_cons_zero, List.set_cons_succ, i64_w, i32_w]; rfl)
         refine take_ (i := 1) (N := some 69) (v := ?_) (a' := ?_) #[true, true, false, false, false] rfl rfl t6_ (fun _ _ _ h => h) (Or.inl ⟨by rfl, ?_⟩) hHeld ?_ ?_
         rotate_left
         ·rintro w' ⟨s0, s1, s2, s3⟩
          go_simp
          with_reducible rfl
         rotate_left; (· simp only [Act.put, List.setIfInBounds_toArray, List.set_cons_zero, List.set_cons_succ, i64_w, i32_w]; rfl)
         refine one_ (i := 2) (N := some 70) #[true, true, true, false, false] rfl rfl t6_ t24_ (fun K hK => ?_)
         refine goes_ Try.func14 t6_ rfl #[.agg #[.slice A0_0 l0_0.length c0_0, .slice A0_1 l0_1.length c0_1]] t38_ rfl rfl t2_ ?_
         with_reducible refine (laws_toNetwork.calls kj25 _ _ l0_0 _ _ l0_1 t332 t335 _ ?side1 ?side2 ?side3 ?side4 A58.out).mono ?_
         (case side1 => repeat (first | exact (Kd.C_below HR0_0.out HB.out) | (with_reducible refine Kd.C_alloc ?_ _) | (with_reducible refine Kd.C_drewN ?_ _) | (with_reducible refine Kd.C_drew ?_)))
         (case side2 => exact HC0_0.out)
         (case side3 => repeat (first | exact (Kd.C_below HR0_1.out HB.out) | (with_reducible refine Kd.C_alloc ?_ _) | (with_reducible refine Kd.C_drewN ?_ _) | (with_reducible refine Kd.C_drew ?_)))
         (case side4 => exact HC0_1.out)
         rintro e w109 ⟨v333, v336, rfl, ho0, ho1, hb⟩
         refine ⟨_, rfl, ?_⟩
         have n0_ := Aside0.mk (Kd.R_elder' (q2_ HO_13.out) (Kd.R_base ho0) hb)
         have n1_ := Aside0.mk (Kd.R_elder' (q2_ HO_14.out) (Kd.R_base ho0) hb)
         have n2_ := Aside0.mk (Kd.R_elder' (q2_ HO_15.out) (Kd.R_base ho0) hb)
         have n3_ := Aside0.mk (Kd.R_elder' (q2_ HO_321000.out) (Kd.R_base ho0) hb)
         have n4_ := Aside0.mk (Kd.R_elder' (q2_ HO_321001.out) (Kd.R_base ho1) hb)
         have n5_ := Aside0.mk (Kd.R_lower (Kd.R_new' (Kd.R_new' (Kd.R_new' (Kd.R_new' ho0 (Kd.R_lt (q2_ HO_13.out))) (Kd.R_lt (q2_ HO_14.out))) (Kd.R_lt (q2_ HO_15.out))) (Kd.R_lt (q2_ HO_321000.out))) (below_size t4_))
         have n6_ := Aside0.mk (Kd.R_lower (Kd.R_new' ho1 (Kd.R_lt (q2_ HO_321001.out))) (below_size t4_))
         have n7_ := Aside0.mk (blk_below (g := gb295) (o := .cells #[.slice A0_0 l0_0.length c0_0, .slice A0_1 l0_1.length c0_1] 25 (0, 0)) (q1_ BK295.out) hb)
         have n8_ := Aside0.mk (blk_below (g := gb320) (o := .cells #[.slice Ao44 t314.length co44, .slice Ao47 t317.length co47] 32 (0, 0)) (q1_ BK320.out) hb)
         have n9_ := Aside0.mk (below_step t4_ hb)
         clear HO_13
         clear HO_14
         clear HO_15
         clear HO_321000
         clear HO_321001
         clear BK295
         clear BK320
         clear HB
         have HO_13 := n0_
         have HO_14 := n1_
         have HO_15 := n2_
         have HO_321000 := n3_
         have HO_321001 := n4_
         have HO334 := n5_
         have HO337 := n6_
         have BK295 := n7_
         have BK320 := n8_
         have HB := n9_
         clear n0_ n1_ n2_ n3_ n4_ n5_ n6_ n7_ n8_ n9_
         (try clear hb)
         (try clear hb2)
         (try clear hk)
         (try clear hi)
         (try clear ho0)
         (try clear ho1)
         obtain ⟨Ao110, co110, eo110⟩ := Kd.R_slice HO334.out
         (first | subst eo110 | (injection eo110 with f1_ f2_ f3_; have f4_ := f1_.symm; have f5_ := f3_.symm; clear f1_ f2_ f3_; subst f4_; subst f5_))
         obtain ⟨Ao111, co111, eo111⟩ := Kd.R_slice HO337.out
         (first | subst eo111 | (injection eo111 with f1_ f2_ f3_; have f4_ := f1_.symm; have f5_ := f3_.symm; clear f1_ f2_ f3_; subst f4_; subst f5_))
         refine hK.out _ _ ⟨(blk_cell BK320.out 0).trans rfl, (blk_cell BK320.out 1).trans rfl, (blk_cell BK295.out 0).trans rfl, (blk_cell BK295.out 1).trans rfl⟩ (fun hHeld => ?_)
         clear hK K
         refine norm_ (a' := ?_) ?_ ?_
         rotate_left
         ·show Act.put _ (some 70) _ = _
          simp only [Act.put, List.setIfInBounds_toArray, List.set_cons_zero, List.set_cons_succ, i64_w, i32_w]
          rfl
         refine one_ (i := 3) (N := some 71) #[true, true, true, true, false] rfl rfl t6_ t24_ (fun K hK => ?_)
         refine goes_ Try.func17 t6_ rfl #[.agg #[.slice Ao44 t314.length co44, .slice Ao47 t317.length co47], .agg #[.slice Ao110 t332.length co110, .slice Ao111 t335.length co111]] t38_ rfl rfl t2_ ?_
         with_reducible refine (laws_eqNetwork.calls kj25 _ _ t314 _ _ t317 _ _ t332 _ _ t335 false _ ?side1 ?side2 ?side3 ?side4 ?side5 ?side6 ?side7 ?side8 A59.out).mono ?_
         (case side1 => repeat (first | exact (Kd.R_reads' HO_321000.out).2.2 | (with_reducible refine Kd.C_alloc ?_ _) | (with_reducible refine Kd.C_drewN ?_ _) | (with_reducible refine Kd.C_drew ?_)))
         (case side2 => exact (Kd.R_reads' HO_321000.out).2.1)
         (case side3 => repeat (first | exact (Kd.R_reads' HO_321001.out).2.2 | (with_reducible refine Kd.C_alloc ?_ _) | (with_reducible refine Kd.C_drewN ?_ _) | (with_reducible refine Kd.C_drew ?_)))
         (case side4 => exact (Kd.R_reads' HO_321001.out).2.1)
         (case side5 => repeat (first | exact (Kd.R_reads' HO334.out).2.2 | (with_reducible refine Kd.C_alloc ?_ _) | (with_reducible refine Kd.C_drewN ?_ _) | (with_reducible refine Kd.C_drew ?_)))
         (case side6 => exact (Kd.R_reads' HO334.out).2.1)
         (case side7 => repeat (first | exact (Kd.R_reads' HO337.out).2.2 | (with_reducible refine Kd.C_alloc ?_ _) | (with_reducible refine Kd.C_drewN ?_ _) | (with_reducible refine Kd.C_drew ?_)))
         (case side8 => exact (Kd.R_reads' HO337.out).2.1)
         rintro e w112 ⟨rfl, hb⟩
         refine ⟨_, rfl, ?_⟩
         have n0_ := Aside0.mk (Kd.R_below (q2_ HO_13.out) hb)
         have n1_ := Aside0.mk (Kd.R_below (q2_ HO_14.out) hb)
         have n2_ := Aside0.mk (Kd.R_below (q2_ HO_15.out) hb)
         have n3_ := Aside0.mk (Kd.R_below (q2_ HO_321000.out) hb)
         have n4_ := Aside0.mk (Kd.R_below (q2_ HO_321001.out) hb)
         have n5_ := Aside0.mk (Kd.R_below (q2_ HO334.out) hb)
         have n6_ := Aside0.mk (Kd.R_below (q2_ HO337.out) hb)
         have n7_ := Aside0.mk (blk_below (g := gb295) (o := .cells #[.slice A0_0 l0_0.length c0_0, .slice A0_1 l0_1.length c0_1] 25 (0, 0)) (q1_ BK295.out) hb)
         have n8_ := Aside0.mk (blk_below (g := gb320) (o := .cells #[.slice Ao44 t314.length co44, .slice Ao47 t317.length co47] 32 (0, 0)) (q1_ BK320.out) hb)
         have n9_ := Aside0.mk (below_step t4_ hb)
         clear HO_13
         clear HO_14
         clear HO_15
         clear HO_321000
         clear HO_321001
         clear HO334
         clear HO337
         clear BK295
         clear BK320
         clear HB
         have HO_13 := n0_
         have HO_14 := n1_
         have HO_15 := n2_
         have HO_321000 := n3_
         have HO_321001 := n4_
         have HO334 := n5_
         have HO337 := n6_
         have BK295 := n7_
         have BK320 := n8_
         have HB := n9_
         clear n0_ n1_ n2_ n3_ n4_ n5_ n6_ n7_ n8_ n9_
         (try clear hb)
         (try clear hb2)
         (try clear hk)
         (try clear hi)
         refine hK.out _ _ ⟨(blk_cell BK320.out 0).trans rfl, (blk_cell BK320.out 1).trans rfl, (blk_cell BK295.out 0).trans rfl, (blk_cell BK295.out 1).trans rfl⟩ (fun hHeld => ?_)
         clear hK K
         refine norm_ (a' := ?_) ?_ ?_
         rotate_left
         ·show Act.put _ (some 71) _ = _
          simp only [Act.put, List.setIfInBounds_toArray, List.set_cons_zero, List.set_cons_succ, i64_w, i32_w]
          rfl
         refine pure_ (i := 4) (N := some 72) (v := ?_) (a' := ?_) #[true, true, true, true, true] rfl rfl t6_ (fun _ _ _ h => h) (Or.inl ⟨by rfl, ?_⟩) ?_ ?_
         rotate_left; (· intro w'; go_simp; with_reducible rfl); rotate_left; (· simp only [Act.put, List.setIfInBounds_toArray, List.set_cons_zero, List.set_cons_succ, i64_w, i32_w]; rfl)
         refine done_ t6_ ?_
         try go_wp2
         go_ret
         exact ⟨by first | rfl | (rw [Int.tdiv_eq_ediv_of_nonneg t11_]; rfl) | (simp [errW_none, errW_some] <;> rfl) | (simp [*, errW_none, errW_some] <;> rfl), by repeat (first | (with_reducible first | exact HB.out | apply below_alloc | apply pw_below_drewN | apply below_drew1 | refine below_set ?_ GE295.out | refine below_set ?_ GE320.out) | exact HB.out)⟩

/-- What is known of values that were read. -/
def wfIi64 (x : Int) : Prop := (Lit.int .i64 x).wf = true
def wfLIi64 (x : List Int) : Prop := x.length ≤ 9223372036854775807 ∧ ∀ x_ ∈ x, wfIi64 x_
def wfZ (x : ByteArray) : Prop := x.size ≤ maxLen
def wfT99 (x : S99) : Prop := x.f0.size ≤ maxLen ∧ (Lit.int .i64 x.f1).wf = true ∧ (Lit.int .i64 x.f2).wf = true ∧ (Lit.int .i64 x.f3).wf = true ∧ (Lit.int .i64 x.f4).wf = true ∧ (Lit.int .i64 x.f5).wf = true
def wfLT99 (x : List (S99)) : Prop := x.length ≤ 9223372036854775807 ∧ ∀ x_ ∈ x, wfT99 x_
def wfT25 (x : S25) : Prop := wfLIi64 x.f0 ∧ wfLT99 x.f1

/-- THE ONE PURE STATEMENT of laws_FnExactUnservedLoad. -/
def laws_FnExactUnservedLoad.Pure : Prop := ∀ (x0 : S25) (x1 : List Int) (x2 : List Int) (x3 : List Int), wfT25 x0 → wfLIi64 x1 → wfLIi64 x2 → wfLIi64 x3 → ∃ k, laws_FnExactUnservedLoad.f k x0.f0 x0.f1 x1 x2 x3 = some true
theorem laws_FnExactUnservedLoad.walk0 : True := trivial
theorem laws_FnExactUnservedLoad.walk : True := trivial

end Go.Proofs.Ytjelfhmgbhidnaa.PFnExactUnservedLoad
