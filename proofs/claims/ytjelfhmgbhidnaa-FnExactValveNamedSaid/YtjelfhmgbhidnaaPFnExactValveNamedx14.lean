-- written by wip/xprint.py, a program of this session, for this claim; not trusted: Lean checks it.
import Derived.Test.YtjelfhmgbhidnaaPFnExactValveNamedx0
import Derived.Test.YtjelfhmgbhidnaaPFnExactValveNamedx1
import Derived.Test.YtjelfhmgbhidnaaPFnExactValveNamedx2
import Derived.Test.YtjelfhmgbhidnaaPFnExactValveNamedx3
import Derived.Test.YtjelfhmgbhidnaaPFnExactValveNamedx9
import Derived.Test.YtjelfhmgbhidnaaPFnExactValveNamedx13
namespace Go.Proofs.Ytjelfhmgbhidnaa.PFnExactValveNamed
open Go.RowKit Go.Proofs.YtjelfhmgbhidnaaW.PrintWords Go.Proofs.YtjelfhmgbhidnaaW.PrintLast Go.Proofs.YtjelfhmgbhidnaaW.PrintMore
attribute [local go_sem] leq_less_ max2_int min2_int max_two min_two max_three min_three max_four min_four   -- for this text's walks alone
set_option linter.unusedVariables false
set_option linter.unusedSimpArgs false

/-! ### laws_FnExactValveNamed: function 4 -/
def laws_FnExactValveNamed.j0 : Nat → List (S60) → List (S64) → Bool → List Int → List (S99) → List Int → List (S80) → Option (Bool)
 | 0, _, _, _, _, _, _, _ => none
 | k + 1, x1, x11, x54, x294000, x294001, x314000, x314001 => if x54 = true then (some false) else ((laws_toNetwork.f k x294000 x294001).bind fun bt319 => ((laws_eqNetwork.f k x314000 x314001 bt319.1 bt319.2).bind fun t325 => (if t325 = true then ((laws_toValveS.f k x1).bind fun t326 => ((laws_eqValveS.f k x11 t326).bind fun t329 => (if t329 = true then (some true) else (some false)))) else (some false))))
def laws_FnExactValveNamed.f (k : Nat) (l0_0 : List Int) (l0_1 : List (S99)) (l1 : List (S60)) (a2 : ByteArray) : Option (Bool) := if (a2.size : Int) > 1048576 then (some true) else ((laws_szNetwork.f k l0_0 l0_1 1048576).bind fun t294 => (if t294 < 0 then (some true) else ((laws_szValveS.f k l1 t294).bind fun t295 => (if t295 < 0 then (some true) else ((laws_toNetwork.f k l0_0 l0_1).bind fun bt296 => ((laws_toValveS.f k l1).bind fun t302 => ((spec_ValveNamed.f k bt296.1 bt296.2 t302 a2).bind fun bt305 => ((laws_toNetwork.f k l0_0 l0_1).bind fun bt307 => ((laws_toValveS.f k l1).bind fun t314 => ((impl_ValveNamed.f k bt307.1 bt307.2 t314 a2).bind fun bt317 => (if bt317.1 = bt305.1 then (laws_FnExactValveNamed.j0 k l1 t314 (bt317.2 != bt305.2) l0_0 l0_1 bt307.1 bt307.2) else (laws_FnExactValveNamed.j0 k l1 t314 true l0_0 l0_1 bt307.1 bt307.2))))))))))))
theorem laws_FnExactValveNamed.mono_l : ∀ k, (∀ y0 y1 y2 y3 y4 y5 y6, LeO (laws_FnExactValveNamed.j0 k y0 y1 y2 y3 y4 y5 y6) (laws_FnExactValveNamed.j0 (k + 1) y0 y1 y2 y3 y4 y5 y6))
 | 0 => fun _ _ _ _ _ _ _ r h => by simp [laws_FnExactValveNamed.j0] at h
 | k + 1 => by
  have ih0 := laws_FnExactValveNamed.mono_l k
  ·intro y0 y1 y2 y3 y4 y5 y6
   unfold laws_FnExactValveNamed.j0
   repeat' first
   | (with_reducible exact ih0 _ _ _ _ _ _ _)
   | (with_reducible exact impl_ValveNamed.mono _ _ _ _ _)
   | (with_reducible exact laws_eqNetwork.mono _ _ _ _ _)
   | (with_reducible exact laws_eqValveS.mono _ _ _)
   | (with_reducible exact laws_szNetwork.mono _ _ _ _)
   | (with_reducible exact laws_szValveS.mono _ _ _)
   | (with_reducible exact laws_toNetwork.mono _ _ _)
   | (with_reducible exact laws_toValveS.mono _ _)
   | (with_reducible exact spec_ValveNamed.mono _ _ _ _ _)
   | (with_reducible exact LeO.refl _)
   | (with_reducible exact LeO.none _)
   | (with_reducible refine LeO.ite ?_ ?_)
   | (with_reducible refine LeO.bind ?_ (fun _ => ?_))
   | exact ih0 _ _ _ _ _ _ _
   | exact impl_ValveNamed.mono _ _ _ _ _
   | exact laws_eqNetwork.mono _ _ _ _ _
   | exact laws_eqValveS.mono _ _ _
   | exact laws_szNetwork.mono _ _ _ _
   | exact laws_szValveS.mono _ _ _
   | exact laws_toNetwork.mono _ _ _
   | exact laws_toValveS.mono _ _
   | exact spec_ValveNamed.mono _ _ _ _ _
   | exact LeO.none _
   | refine LeO.ite ?_ ?_
   | refine LeO.bind ?_ (fun _ => ?_)
theorem laws_FnExactValveNamed.mono : ∀ a0 a1 a2 a3 k, LeO (laws_FnExactValveNamed.f k a0 a1 a2 a3) (laws_FnExactValveNamed.f (k + 1) a0 a1 a2 a3) := by
 intro a0 a1 a2 a3 k
 have ih0 := laws_FnExactValveNamed.mono_l k
 unfold laws_FnExactValveNamed.f
 repeat' first
   | (with_reducible exact ih0 _ _ _ _ _ _ _)
   | (with_reducible exact impl_ValveNamed.mono _ _ _ _ _)
   | (with_reducible exact laws_eqNetwork.mono _ _ _ _ _)
   | (with_reducible exact laws_eqValveS.mono _ _ _)
   | (with_reducible exact laws_szNetwork.mono _ _ _ _)
   | (with_reducible exact laws_szValveS.mono _ _ _)
   | (with_reducible exact laws_toNetwork.mono _ _ _)
   | (with_reducible exact laws_toValveS.mono _ _)
   | (with_reducible exact spec_ValveNamed.mono _ _ _ _ _)
   | (with_reducible exact LeO.refl _)
   | (with_reducible exact LeO.none _)
   | (with_reducible refine LeO.ite ?_ ?_)
   | (with_reducible refine LeO.bind ?_ (fun _ => ?_))
   | exact ih0 _ _ _ _ _ _ _
   | exact impl_ValveNamed.mono _ _ _ _ _
   | exact laws_eqNetwork.mono _ _ _ _ _
   | exact laws_eqValveS.mono _ _ _
   | exact laws_szNetwork.mono _ _ _ _
   | exact laws_szValveS.mono _ _ _
   | exact laws_toNetwork.mono _ _ _
   | exact laws_toValveS.mono _ _
   | exact spec_ValveNamed.mono _ _ _ _ _
   | exact LeO.none _
   | refine LeO.ite ?_ ?_
   | refine LeO.bind ?_ (fun _ => ?_)
set_option maxHeartbeats 8000000 in
set_option maxRecDepth 100000 in
theorem laws_FnExactValveNamed.calls (k : Nat) (A0_0 : Option Addr) (c0_0 : Nat) (l0_0 : List Int) (A0_1 : Option Addr) (c0_1 : Nat) (l0_1 : List (S99)) (A1 : Option Addr) (c1 : Nat) (l1 : List (S60)) (a2 : ByteArray) (r : Bool) (w : World) (hr0_0 : Kd.C (Kd.int .i64) w A0_0 l0_0.length l0_0) (hc0_0 : l0_0.length ≤ c0_0) (hr0_1 : Kd.C k99 w A0_1 l0_1.length l0_1) (hc0_1 : l0_1.length ≤ c0_1) (hr1 : Kd.C k60 w A1 l1.length l1) (hc1 : l1.length ≤ c1) (h : laws_FnExactValveNamed.f k l0_0 l0_1 l1 a2 = some r) :
  Calls Try.prog 4 #[.agg #[.slice A0_0 l0_0.length c0_0, .slice A0_1 l0_1.length c0_1], .slice A1 l1.length c1, .string a2] w fun e w' => e = .returned (.bool r) ∧ Below w.heap.size w w' := by
 have hu25 := Try.underlying25
 have hu32 := Try.underlying32
 have HR0_0 := Aside0.mk hr0_0
 have HC0_0 := Aside0.mk hc0_0
 clear hr0_0 hc0_0
 have HR0_1 := Aside0.mk hr0_1
 have HC0_1 := Aside0.mk hc0_1
 clear hr0_1 hc0_1
 have HR1 := Aside0.mk hr1
 have HC1 := Aside0.mk hc1
 clear hr1 hc1
 have HB := Aside0.mk (Below.refl w.heap.size w)
 have H : (if (a2.size : Int) > 1048576 then (some true) else ((laws_szNetwork.f k l0_0 l0_1 1048576).bind fun t294 => (if t294 < 0 then (some true) else ((laws_szValveS.f k l1 t294).bind fun t295 => (if t295 < 0 then (some true) else ((laws_toNetwork.f k l0_0 l0_1).bind fun bt296 => ((laws_toValveS.f k l1).bind fun t302 => ((spec_ValveNamed.f k bt296.1 bt296.2 t302 a2).bind fun bt305 => ((laws_toNetwork.f k l0_0 l0_1).bind fun bt307 => ((laws_toValveS.f k l1).bind fun t314 => ((impl_ValveNamed.f k bt307.1 bt307.2 t314 a2).bind fun bt317 => (if bt317.1 = bt305.1 then (laws_FnExactValveNamed.j0 k l1 t314 (bt317.2 != bt305.2) l0_0 l0_1 bt307.1 bt307.2) else (laws_FnExactValveNamed.j0 k l1 t314 true l0_0 l0_1 bt307.1 bt307.2))))))))))))) = some r := h
 clear h
 by_cases c4 : (a2.size : Int) > 1048576
 ·rw [if_pos c4] at H
  have c4b0 : decide (1048576 < (a2.size : Int)) = true := decide_eq_true c4
  have c4b1 : decide (1048576 < a2.size) = true := decide_eq_true t12_
  clear c4
  obtain rfl := Option.some.inj H
  go_enter Try.func4, Try.ntmps4
  go_wp2_with (first | ((with_reducible refine gate_dst (N := 3) rfl ?_); refine box_event ?hg (N := 3) ?hd (cs := #[.slice A0_0 l0_0.length c0_0, .slice A0_1 l0_1.length c0_1]) (t := 25) ?hr ?_; (case hd => rfl); (case hg => rfl); (case hr => first | (go_simp; done) | (go_simp; rfl)); intro gb293 hg w5 hbox hb; have n0_ := Aside0.mk (below_step t1_ hb); have n1_ := Aside0.mk (hbox); have n2_ := Aside0.mk ((by rw [hg]; exact (below_size t1_) : w.heap.size ≤ gb293)); have n3_ := Aside0.mk ((by rw [hg]; exact (below_size t1_) : w.heap.size ≤ gb293)); clear HB; have HB := n0_; have BK293 := n1_; have GW293 := n2_; have GE293 := n3_; clear n0_ n1_ n2_ n3_; clear hb hbox hg))
  go_ret
  exact ⟨by first | rfl | (rw [Int.tdiv_eq_ediv_of_nonneg t12_]; rfl) | (simp [errW_none, errW_some] <;> rfl) | (simp [*, errW_none, errW_some] <;> rfl), by repeat (first | (with_reducible first | exact HB.out | apply below_alloc | apply pw_below_drewN | apply below_drew1 | refine below_set ?_ GE293.out) | exact HB.out)⟩
 ·rw [if_neg c4] at H
  have c4b0 : decide (1048576 < (a2.size : Int)) = false := decide_eq_false c4
  have c4b1 : decide (1048576 < a2.size) = false := decide_eq_false t12_
  clear c4
  replace H := Option.bind_eq_some_iff.mp H
  obtain ⟨t294, A60, H⟩ := H
  replace H : (if t294 < 0 then (some true) else ((laws_szValveS.f k l1 t294).bind fun t295 => (if t295 < 0 then (some true) else ((laws_toNetwork.f k l0_0 l0_1).bind fun bt296 => ((laws_toValveS.f k l1).bind fun t302 => ((spec_ValveNamed.f k bt296.1 bt296.2 t302 a2).bind fun bt305 => ((laws_toNetwork.f k l0_0 l0_1).bind fun bt307 => ((laws_toValveS.f k l1).bind fun t314 => ((impl_ValveNamed.f k bt307.1 bt307.2 t314 a2).bind fun bt317 => (if bt317.1 = bt305.1 then (laws_FnExactValveNamed.j0 k l1 t314 (bt317.2 != bt305.2) l0_0 l0_1 bt307.1 bt307.2) else (laws_FnExactValveNamed.j0 k l1 t314 true l0_0 l0_1 bt307.1 bt307.2))))))))))) = some r := H
  have A6 := Aside0.mk A60
  clear A60
  by_cases c7 : t294 < 0
  ·rw [if_pos c7] at H
   have c7b0 : decide (t294 < 0) = true := decide_eq_true c7
   clear c7
   obtain rfl := Option.some.inj H
   go_enter Try.func4, Try.ntmps4
   go_wp2_with (first | ((with_reducible refine gate_dst (N := 3) rfl ?_); refine box_event ?hg (N := 3) ?hd (cs := #[.slice A0_0 l0_0.length c0_0, .slice A0_1 l0_1.length c0_1]) (t := 25) ?hr ?_; (case hd => rfl); (case hg => rfl); (case hr => first | (go_simp; done) | (go_simp; rfl)); intro gb293 hg w8 hbox hb; have n0_ := Aside0.mk (below_step t1_ hb); have n1_ := Aside0.mk (hbox); have n2_ := Aside0.mk ((by rw [hg]; exact (below_size t1_) : w.heap.size ≤ gb293)); have n3_ := Aside0.mk ((by rw [hg]; exact (below_size t1_) : w.heap.size ≤ gb293)); clear HB; have HB := n0_; have BK293 := n1_; have GW293 := n2_; have GE293 := n3_; clear n0_ n1_ n2_ n3_; clear hb hbox hg; have hcz9_0 : w8.cell? ⟨gb293, 0, none⟩ = some (.slice A0_0 l0_0.length c0_0) := (blk_cell BK293.out 0).trans rfl; have hcz9_1 : w8.cell? ⟨gb293, 1, none⟩ = some (.slice A0_1 l0_1.length c0_1) := (blk_cell BK293.out 1).trans rfl; have hfz9_0 := blk_frozen BK293.out 0; have hfz9_1 := blk_frozen BK293.out 1) | ((with_reducible refine gate_callee (f := 11) rfl ?_); refine goesL_ (some 19) rfl rfl Try.func11 t7_ rfl #[.agg #[.slice A0_0 l0_0.length c0_0, .slice A0_1 l0_1.length c0_1], .int .i64 1048576] rfl t2_ ?_; (with_reducible refine (laws_szNetwork.calls k _ _ l0_0 _ _ l0_1 1048576 t294 _ ?side1 ?side2 ?side3 ?side4 A6.out).mono ?_); (case side1 => repeat (first | exact (Kd.C_below HR0_0.out HB.out) | (with_reducible refine Kd.C_alloc ?_ _) | (with_reducible refine Kd.C_drewN ?_ _) | (with_reducible refine Kd.C_drew ?_))); (case side2 => exact HC0_0.out); (case side3 => repeat (first | exact (Kd.C_below HR0_1.out HB.out) | (with_reducible refine Kd.C_alloc ?_ _) | (with_reducible refine Kd.C_drewN ?_ _) | (with_reducible refine Kd.C_drew ?_))); (case side4 => exact HC0_1.out); rintro e w10 ⟨rfl, hb⟩; refine ⟨_, rfl, ?_⟩; have n0_ := Aside0.mk (blk_below (g := gb293) (o := .cells #[.slice A0_0 l0_0.length c0_0, .slice A0_1 l0_1.length c0_1] 25 (0, 0)) (q1_ BK293.out) hb); have n1_ := Aside0.mk (below_step t8_ hb); clear BK293; clear HB; have BK293 := n0_; have HB := n1_; clear n0_ n1_; (try clear hb); (try clear hb2); (try clear hk); (try clear hi)))
   go_ret
   exact ⟨by first | rfl | (rw [Int.tdiv_eq_ediv_of_nonneg t12_]; rfl) | (simp [errW_none, errW_some] <;> rfl) | (simp [*, errW_none, errW_some] <;> rfl), by repeat (first | (with_reducible first | exact HB.out | apply below_alloc | apply pw_below_drewN | apply below_drew1 | refine below_set ?_ GE293.out) | exact HB.out)⟩
  ·rw [if_neg c7] at H
   have c7b0 : decide (t294 < 0) = false := decide_eq_false c7
   clear c7
   replace H := Option.bind_eq_some_iff.mp H
   obtain ⟨t295, A110, H⟩ := H
   replace H : (if t295 < 0 then (some true) else ((laws_toNetwork.f k l0_0 l0_1).bind fun bt296 => ((laws_toValveS.f k l1).bind fun t302 => ((spec_ValveNamed.f k bt296.1 bt296.2 t302 a2).bind fun bt305 => ((laws_toNetwork.f k l0_0 l0_1).bind fun bt307 => ((laws_toValveS.f k l1).bind fun t314 => ((impl_ValveNamed.f k bt307.1 bt307.2 t314 a2).bind fun bt317 => (if bt317.1 = bt305.1 then (laws_FnExactValveNamed.j0 k l1 t314 (bt317.2 != bt305.2) l0_0 l0_1 bt307.1 bt307.2) else (laws_FnExactValveNamed.j0 k l1 t314 true l0_0 l0_1 bt307.1 bt307.2))))))))) = some r := H
   have A11 := Aside0.mk A110
   clear A110
   by_cases c12 : t295 < 0
   ·rw [if_pos c12] at H
    have c12b0 : decide (t295 < 0) = true := decide_eq_true c12
    clear c12
    obtain rfl := Option.some.inj H
    go_enter Try.func4, Try.ntmps4
    go_wp2_with (first | ((with_reducible refine gate_dst (N := 3) rfl ?_); refine box_event ?hg (N := 3) ?hd (cs := #[.slice A0_0 l0_0.length c0_0, .slice A0_1 l0_1.length c0_1]) (t := 25) ?hr ?_; (case hd => rfl); (case hg => rfl); (case hr => first | (go_simp; done) | (go_simp; rfl)); intro gb293 hg w13 hbox hb; have n0_ := Aside0.mk (below_step t1_ hb); have n1_ := Aside0.mk (hbox); have n2_ := Aside0.mk ((by rw [hg]; exact (below_size t1_) : w.heap.size ≤ gb293)); have n3_ := Aside0.mk ((by rw [hg]; exact (below_size t1_) : w.heap.size ≤ gb293)); clear HB; have HB := n0_; have BK293 := n1_; have GW293 := n2_; have GE293 := n3_; clear n0_ n1_ n2_ n3_; clear hb hbox hg; have hcz14_0 : w13.cell? ⟨gb293, 0, none⟩ = some (.slice A0_0 l0_0.length c0_0) := (blk_cell BK293.out 0).trans rfl; have hcz14_1 : w13.cell? ⟨gb293, 1, none⟩ = some (.slice A0_1 l0_1.length c0_1) := (blk_cell BK293.out 1).trans rfl; have hfz14_0 := blk_frozen BK293.out 0; have hfz14_1 := blk_frozen BK293.out 1) | ((with_reducible refine gate_callee (f := 11) rfl ?_); refine goesL_ (some 19) rfl rfl Try.func11 t7_ rfl #[.agg #[.slice A0_0 l0_0.length c0_0, .slice A0_1 l0_1.length c0_1], .int .i64 1048576] rfl t2_ ?_; (with_reducible refine (laws_szNetwork.calls k _ _ l0_0 _ _ l0_1 1048576 t294 _ ?side1 ?side2 ?side3 ?side4 A6.out).mono ?_); (case side1 => repeat (first | exact (Kd.C_below HR0_0.out HB.out) | (with_reducible refine Kd.C_alloc ?_ _) | (with_reducible refine Kd.C_drewN ?_ _) | (with_reducible refine Kd.C_drew ?_))); (case side2 => exact HC0_0.out); (case side3 => repeat (first | exact (Kd.C_below HR0_1.out HB.out) | (with_reducible refine Kd.C_alloc ?_ _) | (with_reducible refine Kd.C_drewN ?_ _) | (with_reducible refine Kd.C_drew ?_))); (case side4 => exact HC0_1.out); rintro e w15 ⟨rfl, hb⟩; refine ⟨_, rfl, ?_⟩; have n0_ := Aside0.mk (blk_below (g := gb293) (o := .cells #[.slice A0_0 l0_0.length c0_0, .slice A0_1 l0_1.length c0_1] 25 (0, 0)) (q1_ BK293.out) hb); have n1_ := Aside0.mk (below_step t8_ hb); clear BK293; clear HB; have BK293 := n0_; have HB := n1_; clear n0_ n1_; (try clear hb); (try clear hb2); (try clear hk); (try clear hi)) | ((with_reducible refine gate_callee (f := 12) rfl ?_); refine goesL_ (some 24) rfl rfl Try.func12 t7_ rfl #[.slice A1 l1.length c1, .int .i64 t294] rfl t2_ ?_; (with_reducible refine (laws_szValveS.calls k _ _ l1 t294 t295 _ ?side1 ?side2 A11.out).mono ?_); (case side1 => repeat (first | exact (Kd.C_below HR1.out HB.out) | (with_reducible refine Kd.C_alloc ?_ _) | (with_reducible refine Kd.C_drewN ?_ _) | (with_reducible refine Kd.C_drew ?_))); (case side2 => exact HC1.out); rintro e w16 ⟨rfl, hb⟩; refine ⟨_, rfl, ?_⟩; have n0_ := Aside0.mk (blk_below (g := gb293) (o := .cells #[.slice A0_0 l0_0.length c0_0, .slice A0_1 l0_1.length c0_1] 25 (0, 0)) (q1_ BK293.out) hb); have n1_ := Aside0.mk (below_step t8_ hb); clear BK293; clear HB; have BK293 := n0_; have HB := n1_; clear n0_ n1_; (try clear hb); (try clear hb2); (try clear hk); (try clear hi)))
    go_ret
    exact ⟨by first | rfl | (rw [Int.tdiv_eq_ediv_of_nonneg t12_]; rfl) | (simp [errW_none, errW_some] <;> rfl) | (simp [*, errW_none, errW_some] <;> rfl), by repeat (first | (with_reducible first | exact HB.out | apply below_alloc | apply pw_below_drewN | apply below_drew1 | refine below_set ?_ GE293.out) | exact HB.out)⟩
   ·rw [if_neg c12] at H
    have c12b0 : decide (t295 < 0) = false := decide_eq_false c12
    clear c12
    replace H := Option.bind_eq_some_iff.mp H
    obtain ⟨⟨t296, t299⟩, A170, H⟩ := H
    replace H : ((laws_toValveS.f k l1).bind fun t302 => ((spec_ValveNamed.f k t296 t299 t302 a2).bind fun bt305 => ((laws_toNetwork.f k l0_0 l0_1).bind fun bt307 => ((laws_toValveS.f k l1).bind fun t314 => ((impl_ValveNamed.f k bt307.1 bt307.2 t314 a2).bind fun bt317 => (if bt317.1 = bt305.1 then (laws_FnExactValveNamed.j0 k l1 t314 (bt317.2 != bt305.2) l0_0 l0_1 bt307.1 bt307.2) else (laws_FnExactValveNamed.j0 k l1 t314 true l0_0 l0_1 bt307.1 bt307.2))))))) = some r := H
    have A17 := Aside0.mk A170
    clear A170
    replace H := Option.bind_eq_some_iff.mp H
    obtain ⟨t302, A180, H⟩ := H
    replace H : ((spec_ValveNamed.f k t296 t299 t302 a2).bind fun bt305 => ((laws_toNetwork.f k l0_0 l0_1).bind fun bt307 => ((laws_toValveS.f k l1).bind fun t314 => ((impl_ValveNamed.f k bt307.1 bt307.2 t314 a2).bind fun bt317 => (if bt317.1 = bt305.1 then (laws_FnExactValveNamed.j0 k l1 t314 (bt317.2 != bt305.2) l0_0 l0_1 bt307.1 bt307.2) else (laws_FnExactValveNamed.j0 k l1 t314 true l0_0 l0_1 bt307.1 bt307.2)))))) = some r := H
    have A18 := Aside0.mk A180
    clear A180
    replace H := Option.bind_eq_some_iff.mp H
    obtain ⟨⟨t305, t306⟩, A190, H⟩ := H
    replace H : ((laws_toNetwork.f k l0_0 l0_1).bind fun bt307 => ((laws_toValveS.f k l1).bind fun t314 => ((impl_ValveNamed.f k bt307.1 bt307.2 t314 a2).bind fun bt317 => (if bt317.1 = t305 then (laws_FnExactValveNamed.j0 k l1 t314 (bt317.2 != t306) l0_0 l0_1 bt307.1 bt307.2) else (laws_FnExactValveNamed.j0 k l1 t314 true l0_0 l0_1 bt307.1 bt307.2))))) = some r := H
    have A19 := Aside0.mk A190
    clear A190
    replace H := Option.bind_eq_some_iff.mp H
    obtain ⟨⟨t307, t310⟩, A200, H⟩ := H
    replace H : ((laws_toValveS.f k l1).bind fun t314 => ((impl_ValveNamed.f k t307 t310 t314 a2).bind fun bt317 => (if bt317.1 = t305 then (laws_FnExactValveNamed.j0 k l1 t314 (bt317.2 != t306) l0_0 l0_1 t307 t310) else (laws_FnExactValveNamed.j0 k l1 t314 true l0_0 l0_1 t307 t310)))) = some r := H
    have A20 := Aside0.mk A200
    clear A200
    replace H := Option.bind_eq_some_iff.mp H
    obtain ⟨t314, A210, H⟩ := H
    replace H : ((impl_ValveNamed.f k t307 t310 t314 a2).bind fun bt317 => (if bt317.1 = t305 then (laws_FnExactValveNamed.j0 k l1 t314 (bt317.2 != t306) l0_0 l0_1 t307 t310) else (laws_FnExactValveNamed.j0 k l1 t314 true l0_0 l0_1 t307 t310))) = some r := H
    have A21 := Aside0.mk A210
    clear A210
    replace H := Option.bind_eq_some_iff.mp H
    obtain ⟨⟨t317, t318⟩, A220, H⟩ := H
    replace H : (if t317 = t305 then (laws_FnExactValveNamed.j0 k l1 t314 (t318 != t306) l0_0 l0_1 t307 t310) else (laws_FnExactValveNamed.j0 k l1 t314 true l0_0 l0_1 t307 t310)) = some r := H
    have A22 := Aside0.mk A220
    clear A220
    have HC23 := Aside0.mk H
    clear H
    go_enter Try.func4, Try.ntmps4
    go_upto_region 14 with (first | ((with_reducible refine gate_dst (N := 3) rfl ?_); refine box_event ?hg (N := 3) ?hd (cs := #[.slice A0_0 l0_0.length c0_0, .slice A0_1 l0_1.length c0_1]) (t := 25) ?hr ?_; (case hd => rfl); (case hg => rfl); (case hr => first | (go_simp; done) | (go_simp; rfl)); intro gb293 hg w24 hbox hb; have n0_ := Aside0.mk (below_step t1_ hb); have n1_ := Aside0.mk (hbox); have n2_ := Aside0.mk ((by rw [hg]; exact (below_size t1_) : w.heap.size ≤ gb293)); have n3_ := Aside0.mk ((by rw [hg]; exact (below_size t1_) : w.heap.size ≤ gb293)); clear HB; have HB := n0_; have BK293 := n1_; have GW293 := n2_; have GE293 := n3_; clear n0_ n1_ n2_ n3_; clear hb hbox hg; have hcz25_0 : w24.cell? ⟨gb293, 0, none⟩ = some (.slice A0_0 l0_0.length c0_0) := (blk_cell BK293.out 0).trans rfl; have hcz25_1 : w24.cell? ⟨gb293, 1, none⟩ = some (.slice A0_1 l0_1.length c0_1) := (blk_cell BK293.out 1).trans rfl; have hfz25_0 := blk_frozen BK293.out 0; have hfz25_1 := blk_frozen BK293.out 1) | ((with_reducible refine gate_callee (f := 11) rfl ?_); refine goesL_ (some 19) rfl rfl Try.func11 t7_ rfl #[.agg #[.slice A0_0 l0_0.length c0_0, .slice A0_1 l0_1.length c0_1], .int .i64 1048576] rfl t2_ ?_; (with_reducible refine (laws_szNetwork.calls k _ _ l0_0 _ _ l0_1 1048576 t294 _ ?side1 ?side2 ?side3 ?side4 A6.out).mono ?_); (case side1 => repeat (first | exact (Kd.C_below HR0_0.out HB.out) | (with_reducible refine Kd.C_alloc ?_ _) | (with_reducible refine Kd.C_drewN ?_ _) | (with_reducible refine Kd.C_drew ?_))); (case side2 => exact HC0_0.out); (case side3 => repeat (first | exact (Kd.C_below HR0_1.out HB.out) | (with_reducible refine Kd.C_alloc ?_ _) | (with_reducible refine Kd.C_drewN ?_ _) | (with_reducible refine Kd.C_drew ?_))); (case side4 => exact HC0_1.out); rintro e w26 ⟨rfl, hb⟩; refine ⟨_, rfl, ?_⟩; have n0_ := Aside0.mk (blk_below (g := gb293) (o := .cells #[.slice A0_0 l0_0.length c0_0, .slice A0_1 l0_1.length c0_1] 25 (0, 0)) (q1_ BK293.out) hb); have n1_ := Aside0.mk (below_step t8_ hb); clear BK293; clear HB; have BK293 := n0_; have HB := n1_; clear n0_ n1_; (try clear hb); (try clear hb2); (try clear hk); (try clear hi)) | ((with_reducible refine gate_callee (f := 12) rfl ?_); refine goesL_ (some 24) rfl rfl Try.func12 t7_ rfl #[.slice A1 l1.length c1, .int .i64 t294] rfl t2_ ?_; (with_reducible refine (laws_szValveS.calls k _ _ l1 t294 t295 _ ?side1 ?side2 A11.out).mono ?_); (case side1 => repeat (first | exact (Kd.C_below HR1.out HB.out) | (with_reducible refine Kd.C_alloc ?_ _) | (with_reducible refine Kd.C_drewN ?_ _) | (with_reducible refine Kd.C_drew ?_))); (case side2 => exact HC1.out); rintro e w27 ⟨rfl, hb⟩; refine ⟨_, rfl, ?_⟩; have n0_ := Aside0.mk (blk_below (g := gb293) (o := .cells #[.slice A0_0 l0_0.length c0_0, .slice A0_1 l0_1.length c0_1] 25 (0, 0)) (q1_ BK293.out) hb); have n1_ := Aside0.mk (below_step t8_ hb); clear BK293; clear HB; have BK293 := n0_; have HB := n1_; clear n0_ n1_; (try clear hb); (try clear hb2); (try clear hk); (try clear hi); have hcz28_0 : w27.cell? ⟨gb293, 0, none⟩ = some (.slice A0_0 l0_0.length c0_0) := (blk_cell BK293.out 0).trans rfl; have hcz28_1 : w27.cell? ⟨gb293, 1, none⟩ = some (.slice A0_1 l0_1.length c0_1) := (blk_cell BK293.out 1).trans rfl; have hfz28_0 := blk_frozen BK293.out 0; have hfz28_1 := blk_frozen BK293.out 1) | ((with_reducible refine gate_callee (f := 14) rfl ?_); refine goesL_ (some 29) rfl rfl Try.func14 t7_ rfl #[.agg #[.slice A0_0 l0_0.length c0_0, .slice A0_1 l0_1.length c0_1]] rfl t2_ ?_; (with_reducible refine (laws_toNetwork.calls k _ _ l0_0 _ _ l0_1 t296 t299 _ ?side1 ?side2 ?side3 ?side4 A17.out).mono ?_); (case side1 => repeat (first | exact (Kd.C_below HR0_0.out HB.out) | (with_reducible refine Kd.C_alloc ?_ _) | (with_reducible refine Kd.C_drewN ?_ _) | (with_reducible refine Kd.C_drew ?_))); (case side2 => exact HC0_0.out); (case side3 => repeat (first | exact (Kd.C_below HR0_1.out HB.out) | (with_reducible refine Kd.C_alloc ?_ _) | (with_reducible refine Kd.C_drewN ?_ _) | (with_reducible refine Kd.C_drew ?_))); (case side4 => exact HC0_1.out); rintro e w29 ⟨v297, v300, rfl, ho0, ho1, hb⟩; refine ⟨_, rfl, ?_⟩; have n0_ := Aside0.mk (Kd.R_lower ho0 (below_size t8_)); have n1_ := Aside0.mk (Kd.R_lower ho1 (below_size t8_)); have n2_ := Aside0.mk (blk_below (g := gb293) (o := .cells #[.slice A0_0 l0_0.length c0_0, .slice A0_1 l0_1.length c0_1] 25 (0, 0)) (q1_ BK293.out) hb); have n3_ := Aside0.mk (below_step t8_ hb); clear BK293; clear HB; have HO298 := n0_; have HO301 := n1_; have BK293 := n2_; have HB := n3_; clear n0_ n1_ n2_ n3_; (try clear hb); (try clear hb2); (try clear hk); (try clear hi); (try clear ho0); (try clear ho1)) | ((with_reducible refine gate_callee (f := 15) rfl ?_); refine goesL_ (some 31) rfl rfl Try.func15 t7_ rfl #[.slice A1 l1.length c1] rfl t2_ ?_; (with_reducible refine (laws_toValveS.calls k _ _ l1 t302 _ ?side1 ?side2 A18.out).mono ?_); (case side1 => repeat (first | exact (Kd.C_below HR1.out HB.out) | (with_reducible refine Kd.C_alloc ?_ _) | (with_reducible refine Kd.C_drewN ?_ _) | (with_reducible refine Kd.C_drew ?_))); (case side2 => exact HC1.out); rintro e w30 ⟨v303, rfl, ho0, hb⟩; refine ⟨_, rfl, ?_⟩; have n0_ := Aside0.mk (Kd.R_below (q2_ HO298.out) hb); have n1_ := Aside0.mk (Kd.R_below (q2_ HO301.out) hb); have n2_ := Aside0.mk (Kd.R_lower ho0 (below_size t8_)); have n3_ := Aside0.mk (blk_below (g := gb293) (o := .cells #[.slice A0_0 l0_0.length c0_0, .slice A0_1 l0_1.length c0_1] 25 (0, 0)) (q1_ BK293.out) hb); have n4_ := Aside0.mk (below_step t8_ hb); clear HO298; clear HO301; clear BK293; clear HB; have HO298 := n0_; have HO301 := n1_; have HO304 := n2_; have BK293 := n3_; have HB := n4_; clear n0_ n1_ n2_ n3_ n4_; (try clear hb); (try clear hb2); (try clear hk); (try clear hi); (try clear ho0); obtain ⟨Ao31, co31, eo31⟩ := Kd.R_slice HO298.out; subst eo31; obtain ⟨Ao32, co32, eo32⟩ := Kd.R_slice HO301.out; subst eo32; obtain ⟨Ao33, co33, eo33⟩ := Kd.R_slice HO304.out; subst eo33) | ((with_reducible refine gate_callee (f := 19) rfl ?_); refine goesL_ (some 33) rfl rfl Try.func19 t7_ rfl #[.agg #[.slice Ao31 t296.length co31, .slice Ao32 t299.length co32], .slice Ao33 t302.length co33, .string a2] rfl t2_ ?_; (with_reducible refine (spec_ValveNamed.calls k _ _ t296 _ _ t299 _ _ t302 a2 t305 t306 _ ?side1 ?side2 ?side3 ?side4 ?side5 ?side6 A19.out).mono ?_); (case side1 => repeat (first | exact (Kd.R_reads' HO298.out).2.2 | (with_reducible refine Kd.C_alloc ?_ _) | (with_reducible refine Kd.C_drewN ?_ _) | (with_reducible refine Kd.C_drew ?_))); (case side2 => exact (Kd.R_reads' HO298.out).2.1); (case side3 => repeat (first | exact (Kd.R_reads' HO301.out).2.2 | (with_reducible refine Kd.C_alloc ?_ _) | (with_reducible refine Kd.C_drewN ?_ _) | (with_reducible refine Kd.C_drew ?_))); (case side4 => exact (Kd.R_reads' HO301.out).2.1); (case side5 => repeat (first | exact (Kd.R_reads' HO304.out).2.2 | (with_reducible refine Kd.C_alloc ?_ _) | (with_reducible refine Kd.C_drewN ?_ _) | (with_reducible refine Kd.C_drew ?_))); (case side6 => exact (Kd.R_reads' HO304.out).2.1); rintro e w34 ⟨rfl, hb⟩; refine ⟨_, rfl, ?_⟩; have n0_ := Aside0.mk (Kd.R_below (q2_ HO298.out) hb); have n1_ := Aside0.mk (Kd.R_below (q2_ HO301.out) hb); have n2_ := Aside0.mk (Kd.R_below (q2_ HO304.out) hb); have n3_ := Aside0.mk (blk_below (g := gb293) (o := .cells #[.slice A0_0 l0_0.length c0_0, .slice A0_1 l0_1.length c0_1] 25 (0, 0)) (q1_ BK293.out) hb); have n4_ := Aside0.mk (below_step t8_ hb); clear HO298; clear HO301; clear HO304; clear BK293; clear HB; have HO298 := n0_; have HO301 := n1_; have HO304 := n2_; have BK293 := n3_; have HB := n4_; clear n0_ n1_ n2_ n3_ n4_; (try clear hb); (try clear hb2); (try clear hk); (try clear hi); have hcz35_0 : w34.cell? ⟨gb293, 0, none⟩ = some (.slice A0_0 l0_0.length c0_0) := (blk_cell BK293.out 0).trans rfl; have hcz35_1 : w34.cell? ⟨gb293, 1, none⟩ = some (.slice A0_1 l0_1.length c0_1) := (blk_cell BK293.out 1).trans rfl; have hfz35_0 := blk_frozen BK293.out 0; have hfz35_1 := blk_frozen BK293.out 1) | ((with_reducible refine gate_callee (f := 14) rfl ?_); refine goesL_ (some 37) rfl rfl Try.func14 t7_ rfl #[.agg #[.slice A0_0 l0_0.length c0_0, .slice A0_1 l0_1.length c0_1]] rfl t2_ ?_; (with_reducible refine (laws_toNetwork.calls k _ _ l0_0 _ _ l0_1 t307 t310 _ ?side1 ?side2 ?side3 ?side4 A20.out).mono ?_); (case side1 => repeat (first | exact (Kd.C_below HR0_0.out HB.out) | (with_reducible refine Kd.C_alloc ?_ _) | (with_reducible refine Kd.C_drewN ?_ _) | (with_reducible refine Kd.C_drew ?_))); (case side2 => exact HC0_0.out); (case side3 => repeat (first | exact (Kd.C_below HR0_1.out HB.out) | (with_reducible refine Kd.C_alloc ?_ _) | (with_reducible refine Kd.C_drewN ?_ _) | (with_reducible refine Kd.C_drew ?_))); (case side4 => exact HC0_1.out); rintro e w36 ⟨v308, v311, rfl, ho0, ho1, hb⟩; refine ⟨_, rfl, ?_⟩; have n0_ := Aside0.mk (Kd.R_elder' (q2_ HO298.out) (Kd.R_base ho0) hb); have n1_ := Aside0.mk (Kd.R_elder' (q2_ HO301.out) (Kd.R_base ho1) hb); have n2_ := Aside0.mk (Kd.R_below (q2_ HO304.out) hb); have n3_ := Aside0.mk (Kd.R_lower (Kd.R_new' ho0 (Kd.R_lt (q2_ HO298.out))) (below_size t8_)); have n4_ := Aside0.mk (Kd.R_lower (Kd.R_new' ho1 (Kd.R_lt (q2_ HO301.out))) (below_size t8_)); have n5_ := Aside0.mk (blk_below (g := gb293) (o := .cells #[.slice A0_0 l0_0.length c0_0, .slice A0_1 l0_1.length c0_1] 25 (0, 0)) (q1_ BK293.out) hb); have n6_ := Aside0.mk (below_step t8_ hb); clear HO298; clear HO301; clear HO304; clear BK293; clear HB; have HO298 := n0_; have HO301 := n1_; have HO304 := n2_; have HO309 := n3_; have HO312 := n4_; have BK293 := n5_; have HB := n6_; clear n0_ n1_ n2_ n3_ n4_ n5_ n6_; (try clear hb); (try clear hb2); (try clear hk); (try clear hi); (try clear ho0); (try clear ho1)) | ((with_reducible refine gate_dst (N := 10) rfl ?_); refine box_event ?hg (N := 10) ?hd (cs := #[.slice none 0 0, .slice none 0 0]) (t := 32) ?hr ?_; (case hd => rfl); (case hg => rfl); (case hr => first | (go_simp; done) | (go_simp; rfl)); intro gb313 hg w37 hbox hb; have n0_ := Aside0.mk (Kd.R_below (q2_ HO298.out) hb); have n1_ := Aside0.mk (Kd.R_below (q2_ HO301.out) hb); have n2_ := Aside0.mk (Kd.R_below (q2_ HO304.out) hb); have n3_ := Aside0.mk (Kd.R_below (q2_ HO309.out) hb); have n4_ := Aside0.mk (Kd.R_below (q2_ HO312.out) hb); have n5_ := Aside0.mk (blk_below (g := gb293) (o := .cells #[.slice A0_0 l0_0.length c0_0, .slice A0_1 l0_1.length c0_1] 25 (0, 0)) (q1_ BK293.out) hb); have n6_ := Aside0.mk (below_step t8_ hb); have n7_ := Aside0.mk (hbox); have n8_ := Aside0.mk ((by rw [hg]; exact (below_size t8_) : w.heap.size ≤ gb313)); have n9_ := Aside0.mk ((by rw [hg]; exact (below_size t8_) : w.heap.size ≤ gb313)); have n10_ := Aside0.mk ((by rw [hg]; exact Nat.ne_of_lt (blk_lt (g := gb293) (o := .cells #[.slice A0_0 l0_0.length c0_0, .slice A0_1 l0_1.length c0_1] 25 (0, 0)) (q1_ BK293.out)) : gb293 ≠ gb313)); have n11_ := Aside0.mk ((by rw [hg]; exact Nat.ne_of_gt (blk_lt (g := gb293) (o := .cells #[.slice A0_0 l0_0.length c0_0, .slice A0_1 l0_1.length c0_1] 25 (0, 0)) (q1_ BK293.out)) : gb313 ≠ gb293)); clear HO298; clear HO301; clear HO304; clear HO309; clear HO312; clear BK293; clear HB; have HO298 := n0_; have HO301 := n1_; have HO304 := n2_; have HO309 := n3_; have HO312 := n4_; have BK293 := n5_; have HB := n6_; have BK313 := n7_; have GW313 := n8_; have GE313 := n9_; have NB293_313 := n10_; have NB313_293 := n11_; clear n0_ n1_ n2_ n3_ n4_ n5_ n6_ n7_ n8_ n9_ n10_ n11_; clear hb hbox hg; obtain ⟨Ao38, co38, eo38⟩ := Kd.R_slice HO309.out; subst eo38; have hnb39 := NB313_293.out; have hnc39 := NB293_313.out; have hcz40_0 : w37.cell? ⟨gb313, 0, none⟩ = some (.slice none 0 0) := (blk_cell BK313.out 0).trans rfl; have hcz40_1 : w37.cell? ⟨gb313, 1, none⟩ = some (.slice none 0 0) := (blk_cell BK313.out 1).trans rfl; have hfz40_0 := blk_frozen BK313.out 0; have hfz40_1 := blk_frozen BK313.out 1; obtain ⟨Ao41, co41, eo41⟩ := Kd.R_slice HO312.out; subst eo41) | ((with_reducible refine gate_callee (f := 15) rfl ?_); refine goesL_ (some 39) rfl rfl Try.func15 t7_ rfl #[.slice A1 l1.length c1] rfl t2_ ?_; (with_reducible refine (laws_toValveS.calls k _ _ l1 t314 _ ?side1 ?side2 A21.out).mono ?_); (case side1 => exact Kd.C_below HR1.out t4_); (case side2 => exact HC1.out); rintro e w42 ⟨v315, rfl, ho0, hb⟩; refine ⟨_, rfl, ?_⟩; have n0_ := Aside0.mk (Kd.R_below (by (with_reducible repeat (first | apply Kd.R_alloc | apply Kd.R_drewN | apply Kd.R_drew)); exact (Kd.R_mono (Kd.R_far (p := ⟨gb313, 1, none⟩) (Kd.R_far (p := ⟨gb313, 0, none⟩) (Kd.R_types HO298.out BK313.out t22_) (fun _ hk => hk.2) (.slice Ao38 t307.length co38)) (fun _ hk => hk.2) (.slice Ao41 t310.length co41)) (fun _ h_ => h_.1))) hb); have n1_ := Aside0.mk (Kd.R_below (by (with_reducible repeat (first | apply Kd.R_alloc | apply Kd.R_drewN | apply Kd.R_drew)); exact (Kd.R_mono (Kd.R_far (p := ⟨gb313, 1, none⟩) (Kd.R_far (p := ⟨gb313, 0, none⟩) (Kd.R_types HO301.out BK313.out t22_) (fun _ hk => hk.2) (.slice Ao38 t307.length co38)) (fun _ hk => hk.2) (.slice Ao41 t310.length co41)) (fun _ h_ => h_.1))) hb); have n2_ := Aside0.mk (Kd.R_elder' t29_ (Kd.R_base ho0) hb); have n3_ := Aside0.mk (Kd.R_below (by (with_reducible repeat (first | apply Kd.R_alloc | apply Kd.R_drewN | apply Kd.R_drew)); exact (Kd.R_mono (Kd.R_far (p := ⟨gb313, 1, none⟩) (Kd.R_far (p := ⟨gb313, 0, none⟩) (Kd.R_types HO309.out BK313.out t22_) (fun _ hk => hk.2) (.slice Ao38 t307.length co38)) (fun _ hk => hk.2) (.slice Ao41 t310.length co41)) (fun _ h_ => h_.1))) hb); have n4_ := Aside0.mk (Kd.R_below (by (with_reducible repeat (first | apply Kd.R_alloc | apply Kd.R_drewN | apply Kd.R_drew)); exact (Kd.R_mono (Kd.R_far (p := ⟨gb313, 1, none⟩) (Kd.R_far (p := ⟨gb313, 0, none⟩) (Kd.R_types HO312.out BK313.out t22_) (fun _ hk => hk.2) (.slice Ao38 t307.length co38)) (fun _ hk => hk.2) (.slice Ao41 t310.length co41)) (fun _ h_ => h_.1))) hb); have n5_ := Aside0.mk (Kd.R_lower (Kd.R_new' ho0 (Kd.R_lt t29_)) (below_size t4_)); have n6_ := Aside0.mk (blk_below (g := gb293) (o := .cells #[.slice A0_0 l0_0.length c0_0, .slice A0_1 l0_1.length c0_1] 25 (0, 0)) (by (with_reducible repeat (first | refine blk_drewN ?_ _ | refine blk_drew ?_ | refine blk_alloc ?_ _)); refine blk_far ?_ NB293_313.out _; (with_reducible repeat (first | refine blk_drewN ?_ _ | refine blk_drew ?_ | refine blk_alloc ?_ _)); refine blk_far ?_ NB293_313.out _; (with_reducible repeat (first | refine blk_drewN ?_ _ | refine blk_drew ?_ | refine blk_alloc ?_ _)); exact BK293.out) hb); have n7_ := Aside0.mk (blk_below (g := gb313) (o := .cells #[.slice Ao38 t307.length co38, .slice Ao41 t310.length co41] 32 (0, 0)) (by (with_reducible repeat (first | refine blk_drewN ?_ _ | refine blk_drew ?_ | refine blk_alloc ?_ _)); refine blk_put (cs := #[.slice Ao38 t307.length co38, .slice none 0 0]) ?_ 1 _ rfl; (with_reducible repeat (first | refine blk_drewN ?_ _ | refine blk_drew ?_ | refine blk_alloc ?_ _)); refine blk_put (cs := #[.slice none 0 0, .slice none 0 0]) ?_ 0 _ rfl; (with_reducible repeat (first | refine blk_drewN ?_ _ | refine blk_drew ?_ | refine blk_alloc ?_ _)); exact BK313.out) hb); have n8_ := Aside0.mk (below_step t4_ hb); clear HO298; clear HO301; clear HO304; clear HO309; clear HO312; clear BK293; clear BK313; clear HB; have HO298 := n0_; have HO301 := n1_; have HO304 := n2_; have HO309 := n3_; have HO312 := n4_; have HO316 := n5_; have BK293 := n6_; have BK313 := n7_; have HB := n8_; clear n0_ n1_ n2_ n3_ n4_ n5_ n6_ n7_ n8_; (try clear hb); (try clear hb2); (try clear hk); (try clear hi); (try clear ho0); have hcz43_0 : w42.cell? ⟨gb313, 0, none⟩ = some (.slice Ao38 t307.length co38) := (blk_cell BK313.out 0).trans rfl; have hcz43_1 : w42.cell? ⟨gb313, 1, none⟩ = some (.slice Ao41 t310.length co41) := (blk_cell BK313.out 1).trans rfl; have hfz43_0 := blk_frozen BK313.out 0; have hfz43_1 := blk_frozen BK313.out 1; obtain ⟨Ao44, co44, eo44⟩ := Kd.R_slice HO316.out; subst eo44) | ((with_reducible refine gate_callee (f := 20) rfl ?_); refine goesL_ (some 44) rfl rfl Try.func20 t7_ rfl #[.agg #[.slice Ao38 t307.length co38, .slice Ao41 t310.length co41], .slice Ao44 t314.length co44, .string a2] rfl t2_ ?_; (with_reducible refine (impl_ValveNamed.calls k _ _ t307 _ _ t310 _ _ t314 a2 t317 t318 _ ?side1 ?side2 ?side3 ?side4 ?side5 ?side6 A22.out).mono ?_); (case side1 => repeat (first | exact (Kd.R_reads' HO309.out).2.2 | (with_reducible refine Kd.C_alloc ?_ _) | (with_reducible refine Kd.C_drewN ?_ _) | (with_reducible refine Kd.C_drew ?_))); (case side2 => exact (Kd.R_reads' HO309.out).2.1); (case side3 => repeat (first | exact (Kd.R_reads' HO312.out).2.2 | (with_reducible refine Kd.C_alloc ?_ _) | (with_reducible refine Kd.C_drewN ?_ _) | (with_reducible refine Kd.C_drew ?_))); (case side4 => exact (Kd.R_reads' HO312.out).2.1); (case side5 => repeat (first | exact (Kd.R_reads' HO316.out).2.2 | (with_reducible refine Kd.C_alloc ?_ _) | (with_reducible refine Kd.C_drewN ?_ _) | (with_reducible refine Kd.C_drew ?_))); (case side6 => exact (Kd.R_reads' HO316.out).2.1); rintro e w45 ⟨rfl, hb⟩; refine ⟨_, rfl, ?_⟩; have n0_ := Aside0.mk (Kd.R_below (q2_ HO298.out) hb); have n1_ := Aside0.mk (Kd.R_below (q2_ HO301.out) hb); have n2_ := Aside0.mk (Kd.R_below (q2_ HO304.out) hb); have n3_ := Aside0.mk (Kd.R_below (q2_ HO309.out) hb); have n4_ := Aside0.mk (Kd.R_below (q2_ HO312.out) hb); have n5_ := Aside0.mk (Kd.R_below (q2_ HO316.out) hb); have n6_ := Aside0.mk (blk_below (g := gb293) (o := .cells #[.slice A0_0 l0_0.length c0_0, .slice A0_1 l0_1.length c0_1] 25 (0, 0)) (q1_ BK293.out) hb); have n7_ := Aside0.mk (blk_below (g := gb313) (o := .cells #[.slice Ao38 t307.length co38, .slice Ao41 t310.length co41] 32 (0, 0)) (q1_ BK313.out) hb); have n8_ := Aside0.mk (below_step t4_ hb); clear HO298; clear HO301; clear HO304; clear HO309; clear HO312; clear HO316; clear BK293; clear BK313; clear HB; have HO298 := n0_; have HO301 := n1_; have HO304 := n2_; have HO309 := n3_; have HO312 := n4_; have HO316 := n5_; have BK293 := n6_; have BK313 := n7_; have HB := n8_; clear n0_ n1_ n2_ n3_ n4_ n5_ n6_ n7_ n8_; (try clear hb); (try clear hb2); (try clear hk); (try clear hi)))
    (try simp only [Act.put, List.setIfInBounds_toArray, List.set_cons_zero, List.set_cons_succ])
    go_cut [54] (fun v54 wc => ∃ (kq : Nat) (x54_22 : Bool), v54 = .bool x54_22 ∧ Aside0 (laws_FnExactValveNamed.j0 kq l1 t314 x54_22 l0_0 l0_1 t307 t310 = some r) ∧ Aside0 (kq ≤ k) ∧ Aside0 (Kd.R k64 64 wc w.heap.size (fun _ => True) (.slice Ao44 t314.length co44) t314) ∧ Aside0 (Kd.R (Kd.int .i64) 2 wc w.heap.size (fun _ => True) (.slice Ao38 t307.length co38) t307) ∧ Aside0 (Kd.R k80 80 wc w.heap.size (fun _ => True) (.slice Ao41 t310.length co41) t310) ∧ Aside0 (wc.heap[gb293]? = some (.cells #[(.slice A0_0 l0_0.length c0_0), (.slice A0_1 l0_1.length c0_1)] 25 (0, 0))) ∧ Aside0 (wc.heap[gb313]? = some (.cells #[(.slice Ao38 t307.length co38), (.slice Ao41 t310.length co41)] 32 (0, 0))) ∧ Aside0 (Below w.heap.size w wc))
    case first =>
     have H := HC23.out
     clear HC23
     by_cases c46 : t317 = t305
     ·rw [if_pos c46] at H
      have c46b0 : (t317 == t305) = true := beq_iff_eq.mpr c46
      have c46b1 : (t317 != t305) = false := bne_eq_false_iff_eq.mpr c46
      clear c46
      (first | rw [c46b0] | (simp only [i64_w, i32_w]; rw [c46b0]) | skip)
      have H' := Aside0.mk H
      clear H
      go_wp2
      go_meet
      case rel => exact ⟨_, ((t318 != t306)), t5_, H', ⟨by first | omega | exact Nat.le_refl _⟩, ⟨by (with_reducible repeat (first | apply Kd.R_alloc | apply Kd.R_drewN | apply Kd.R_drew)); exact Kd.R_mono HO316.out (fun _ hk => trivial)⟩, ⟨by (with_reducible repeat (first | apply Kd.R_alloc | apply Kd.R_drewN | apply Kd.R_drew)); exact Kd.R_mono HO309.out (fun _ hk => trivial)⟩, ⟨by (with_reducible repeat (first | apply Kd.R_alloc | apply Kd.R_drewN | apply Kd.R_drew)); exact Kd.R_mono HO312.out (fun _ hk => trivial)⟩, ⟨by (with_reducible repeat (first | refine blk_drewN ?_ _ | refine blk_drew ?_ | refine blk_alloc ?_ _)); exact BK293.out⟩, ⟨by (with_reducible repeat (first | refine blk_drewN ?_ _ | refine blk_drew ?_ | refine blk_alloc ?_ _)); exact BK313.out⟩, ⟨by repeat (first | (with_reducible first | exact HB.out | apply below_alloc | apply pw_below_drewN | apply below_drew1 | refine below_set ?_ GE293.out | refine below_set ?_ GE313.out) | exact HB.out)⟩⟩
     ·rw [if_neg c46] at H
      have c46b0 : (t317 == t305) = false := beq_eq_false_iff_ne.mpr c46
      have c46b1 : (t317 != t305) = true := bne_iff_ne.mpr c46
      (first | rw [c46b0] | (simp only [i64_w, i32_w]; rw [c46b0]) | skip)
      have H' := Aside0.mk H
      clear H
      go_wp2
      go_meet
      case rel => exact ⟨_, (true), t5_, H', ⟨by first | omega | exact Nat.le_refl _⟩, ⟨by (with_reducible repeat (first | apply Kd.R_alloc | apply Kd.R_drewN | apply Kd.R_drew)); exact Kd.R_mono HO316.out (fun _ hk => trivial)⟩, ⟨by (with_reducible repeat (first | apply Kd.R_alloc | apply Kd.R_drewN | apply Kd.R_drew)); exact Kd.R_mono HO309.out (fun _ hk => trivial)⟩, ⟨by (with_reducible repeat (first | apply Kd.R_alloc | apply Kd.R_drewN | apply Kd.R_drew)); exact Kd.R_mono HO312.out (fun _ hk => trivial)⟩, ⟨by (with_reducible repeat (first | refine blk_drewN ?_ _ | refine blk_drew ?_ | refine blk_alloc ?_ _)); exact BK293.out⟩, ⟨by (with_reducible repeat (first | refine blk_drewN ?_ _ | refine blk_drew ?_ | refine blk_alloc ?_ _)); exact BK313.out⟩, ⟨by repeat (first | (with_reducible first | exact HB.out | apply below_alloc | apply pw_below_drewN | apply below_drew1 | refine below_set ?_ GE293.out | refine below_set ?_ GE313.out) | exact HB.out)⟩⟩
    case rest =>
     clear HC23
     try clear c1
     try clear c2
     try clear p2
     try clear c3
     try clear c4
     try clear c4b0
     try clear c4b1
     try clear c7
     try clear c7b0
     try clear c11
     try clear c12
     try clear c12b0
     try clear c14
     try clear c15
     try clear c19
     try clear c20
     try clear c39
     try clear c46
     try clear c46b0
     try clear c46b1
     try clear hcz14_0
     try clear hcz14_1
     try clear hcz25_0
     try clear hcz25_1
     try clear hcz28_0
     try clear hcz28_1
     try clear hcz35_0
     try clear hcz35_1
     try clear hcz40_0
     try clear hcz40_1
     try clear hcz43_0
     try clear hcz43_1
     try clear hcz9_0
     try clear hcz9_1
     try clear hfz14_0
     try clear hfz14_1
     try clear hfz25_0
     try clear hfz25_1
     try clear hfz28_0
     try clear hfz28_1
     try clear hfz35_0
     try clear hfz35_1
     try clear hfz40_0
     try clear hfz40_1
     try clear hfz43_0
     try clear hfz43_1
     try clear hfz9_0
     try clear hfz9_1
     obtain ⟨kq, x54_22, rfl, HA, HJ22, HO_11, HO_314000, HO_314001, BK293, BK313, HB⟩ := hcut
     cases kq with
     | zero => exact absurd HA.out (by simp [laws_FnExactValveNamed.j0])
     | succ kj22 =>
      have H := HA.out
      clear HA
      simp only [laws_FnExactValveNamed.j0] at H
      by_cases c47 : x54_22 = true
      ·subst c47
       have H1 : (some false) = some r := by rw [if_pos rfl] at H; exact H
       clear H
       have H := H1
       clear H1
       obtain rfl := Option.some.inj H
       go_wp2
       go_ret
       exact ⟨by first | rfl | (rw [Int.tdiv_eq_ediv_of_nonneg t12_]; rfl) | (simp [errW_none, errW_some] <;> rfl) | (simp [*, errW_none, errW_some] <;> rfl), by repeat (first | (with_reducible first | exact HB.out | apply below_alloc | apply pw_below_drewN | apply below_drew1 | refine below_set ?_ GE293.out | refine below_set ?_ GE313.out) | exact HB.out)⟩
      ·replace c47 := Bool.eq_false_iff.mpr c47
       subst c47
       have H1 : ((laws_toNetwork.f kj22 l0_0 l0_1).bind fun bt319 => ((laws_eqNetwork.f kj22 t307 t310 bt319.1 bt319.2).bind fun t325 => (if t325 = true then ((laws_toValveS.f kj22 l1).bind fun t326 => ((laws_eqValveS.f kj22 t314 t326).bind fun t329 => (if t329 = true then (some true) else (some false)))) else (some false)))) = some r := by rw [if_neg (show ¬ (false = true) by decide)] at H; exact H
       clear H
       have H := H1
       clear H1
       replace H := Option.bind_eq_some_iff.mp H
       obtain ⟨⟨t319, t322⟩, A480, H⟩ := H
       replace H : ((laws_eqNetwork.f kj22 t307 t310 t319 t322).bind fun t325 => (if t325 = true then ((laws_toValveS.f kj22 l1).bind fun t326 => ((laws_eqValveS.f kj22 t314 t326).bind fun t329 => (if t329 = true then (some true) else (some false)))) else (some false))) = some r := H
       have A48 := Aside0.mk A480
       clear A480
       replace H := Option.bind_eq_some_iff.mp H
       obtain ⟨t325, A490, H⟩ := H
       replace H : (if t325 = true then ((laws_toValveS.f kj22 l1).bind fun t326 => ((laws_eqValveS.f kj22 t314 t326).bind fun t329 => (if t329 = true then (some true) else (some false)))) else (some false)) = some r := H
       have A49 := Aside0.mk A490
       clear A490
       by_cases c50 : t325 = true
       ·subst c50
        have H1 : ((laws_toValveS.f kj22 l1).bind fun t326 => ((laws_eqValveS.f kj22 t314 t326).bind fun t329 => (if t329 = true then (some true) else (some false)))) = some r := by rw [if_pos rfl] at H; exact H
        clear H
        have H := H1
        clear H1
        replace H := Option.bind_eq_some_iff.mp H
        obtain ⟨t326, A510, H⟩ := H
        replace H : ((laws_eqValveS.f kj22 t314 t326).bind fun t329 => (if t329 = true then (some true) else (some false))) = some r := H
        have A51 := Aside0.mk A510
        clear A510
        replace H := Option.bind_eq_some_iff.mp H
        obtain ⟨t329, A520, H⟩ := H
        replace H : (if t329 = true then (some true) else (some false)) = some r := H
        have A52 := Aside0.mk A520
        clear A520
        by_cases c53 : t329 = true
        ·subst c53
         have H1 : (some true) = some r := by rw [if_pos rfl] at H; exact H
         clear H
         have H := H1
         clear H1
         obtain rfl := Option.some.inj H
         try go_wp2
         have n0_ := Aside0.mk (Kd.R_drew HO_11.out)
         have n1_ := Aside0.mk (Kd.R_drew HO_314000.out)
         have n2_ := Aside0.mk (Kd.R_drew HO_314001.out)
         have n3_ := Aside0.mk (blk_drew BK293.out)
         have n4_ := Aside0.mk (blk_drew BK313.out)
         have n5_ := Aside0.mk (below_drew1 HB.out)
         clear HO_11
         clear HO_314000
         clear HO_314001
         clear BK293
         clear BK313
         clear HB
         have HO_11 := n0_
         have HO_314000 := n1_
         have HO_314001 := n2_
         have BK293 := n3_
         have BK313 := n4_
         have HB := n5_
         clear n0_ n1_ n2_ n3_ n4_ n5_
         refine start_ (n := 5) (S := fun w' => w'.cell? ⟨gb313, 0, none⟩ = some (.slice Ao38 t307.length co38) ∧ w'.cell? ⟨gb313, 1, none⟩ = some (.slice Ao41 t310.length co41) ∧ w'.cell? ⟨gb293, 0, none⟩ = some (.slice A0_0 l0_0.length c0_0) ∧ w'.cell? ⟨gb293, 1, none⟩ = some (.slice A0_1 l0_1.length c0_1)) (ds := []) #[false, false, false, false, false] t7_ rfl rfl ⟨(blk_cell BK313.out 0).trans rfl, (blk_cell BK313.out 1).trans rfl, (blk_cell BK293.out 0).trans rfl, (blk_cell BK293.out 1).trans rfl⟩ (fun hHeld => ?_)
         generalize wc.drew = w54 at HO_11 HO_314000 HO_314001 BK293 BK313 HB hHeld ⊢
         refine take_ (i := 0) (N := some 55) (v := ?_) (a' := ?_) #[true, false, false, false, false] rfl rfl t7_ (fun _ _ _ h => h) (Or.inl ⟨by rfl, ?_⟩) hHeld ?_ ?_
         rotate_left
         ·rintro w' ⟨s0, s1, s2, s3⟩
          go_simp
          with_reducible rfl
         rotate_left; (· simp only [Act.put, List.setIfInBounds_toArray, List.set_cons_zero, List.set_cons_succ, i64_w, i32_w]; rfl)
         refine take_ (i := 1) (N := some 56) (v := ?_) (a' := ?_) #[true, true, false, false, false] rfl rfl t7_ (fun _ _ _ h => h) (Or.inl ⟨by rfl, ?_⟩) hHeld ?_ ?_
         rotate_left
         ·rintro w' ⟨s0, s1, s2, s3⟩
          go_simp
          with_reducible rfl
         rotate_left; (· simp only [Act.put, List.setIfInBounds_toArray, List.set_cons_zero, List.set_cons_succ, i64_w, i32_w]; rfl)
         refine one_ (i := 2) (N := some 57) #[true, true, true, false, false] rfl rfl t7_ t22_ (fun K hK => ?_)
         refine goes_ Try.func14 t7_ rfl #[.agg #[.slice A0_0 l0_0.length c0_0, .slice A0_1 l0_1.length c0_1]] t35_ rfl rfl t2_ ?_
         with_reducible refine (laws_toNetwork.calls kj22 _ _ l0_0 _ _ l0_1 t319 t322 _ ?side1 ?side2 ?side3 ?side4 A48.out).mono ?_
         (case side1 => repeat (first | exact (Kd.C_below HR0_0.out HB.out) | (with_reducible refine Kd.C_alloc ?_ _) | (with_reducible refine Kd.C_drewN ?_ _) | (with_reducible refine Kd.C_drew ?_)))
         (case side2 => exact HC0_0.out)
         (case side3 => repeat (first | exact (Kd.C_below HR0_1.out HB.out) | (with_reducible refine Kd.C_alloc ?_ _) | (with_reducible refine Kd.C_drewN ?_ _) | (with_reducible refine Kd.C_drew ?_)))
         (case side4 => exact HC0_1.out)
         rintro e w55 ⟨v320, v323, rfl, ho0, ho1, hb⟩
         refine ⟨_, rfl, ?_⟩
         have n0_ := Aside0.mk (Kd.R_below (q2_ HO_11.out) hb)
         have n1_ := Aside0.mk (Kd.R_elder' (q2_ HO_314000.out) (Kd.R_base ho0) hb)
         have n2_ := Aside0.mk (Kd.R_elder' (q2_ HO_314001.out) (Kd.R_base ho1) hb)
         have n3_ := Aside0.mk (Kd.R_lower (Kd.R_new' ho0 (Kd.R_lt (q2_ HO_314000.out))) (below_size t4_))
         have n4_ := Aside0.mk (Kd.R_lower (Kd.R_new' ho1 (Kd.R_lt (q2_ HO_314001.out))) (below_size t4_))
         have n5_ := Aside0.mk (blk_below (g := gb293) (o := .cells #[.slice A0_0 l0_0.length c0_0, .slice A0_1 l0_1.length c0_1] 25 (0, 0)) (q1_ BK293.out) hb)
         have n6_ := Aside0.mk (blk_below (g := gb313) (o := .cells #[.slice Ao38 t307.length co38, .slice Ao41 t310.length co41] 32 (0, 0)) (q1_ BK313.out) hb)
         have n7_ := Aside0.mk (below_step t4_ hb)
         clear HO_11
         clear HO_314000
         clear HO_314001
         clear BK293
         clear BK313
         clear HB
         have HO_11 := n0_
         have HO_314000 := n1_
         have HO_314001 := n2_
         have HO321 := n3_
         have HO324 := n4_
         have BK293 := n5_
         have BK313 := n6_
         have HB := n7_
         clear n0_ n1_ n2_ n3_ n4_ n5_ n6_ n7_
         (try clear hb)
         (try clear hb2)
         (try clear hk)
         (try clear hi)
         (try clear ho0)
         (try clear ho1)
         obtain ⟨Ao56, co56, eo56⟩ := Kd.R_slice HO321.out
         (first | subst eo56 | (injection eo56 with f1_ f2_ f3_; have f4_ := f1_.symm; have f5_ := f3_.symm; clear f1_ f2_ f3_; subst f4_; subst f5_))
         obtain ⟨Ao57, co57, eo57⟩ := Kd.R_slice HO324.out
         (first | subst eo57 | (injection eo57 with f1_ f2_ f3_; have f4_ := f1_.symm; have f5_ := f3_.symm; clear f1_ f2_ f3_; subst f4_; subst f5_))
         refine hK.out _ _ ⟨(blk_cell BK313.out 0).trans rfl, (blk_cell BK313.out 1).trans rfl, (blk_cell BK293.out 0).trans rfl, (blk_cell BK293.out 1).trans rfl⟩ (fun hHeld => ?_)
         clear hK K
         refine norm_ (a' := ?_) ?_ ?_
         rotate_left
         ·show Act.put _ (some 57) _ = _
          simp only [Act.put, List.setIfInBounds_toArray, List.set_cons_zero, List.set_cons_succ, i64_w, i32_w]
          rfl
         refine one_ (i := 3) (N := some 58) #[true, true, true, true, false] rfl rfl t7_ t22_ (fun K hK => ?_)
         refine goes_ Try.func17 t7_ rfl #[.agg #[.slice Ao38 t307.length co38, .slice Ao41 t310.length co41], .agg #[.slice Ao56 t319.length co56, .slice Ao57 t322.length co57]] t35_ rfl rfl t2_ ?_
         with_reducible refine (laws_eqNetwork.calls kj22 _ _ t307 _ _ t310 _ _ t319 _ _ t322 true _ ?side1 ?side2 ?side3 ?side4 ?side5 ?side6 ?side7 ?side8 A49.out).mono ?_
         (case side1 => repeat (first | exact (Kd.R_reads' HO_314000.out).2.2 | (with_reducible refine Kd.C_alloc ?_ _) | (with_reducible refine Kd.C_drewN ?_ _) | (with_reducible refine Kd.C_drew ?_)))
         (case side2 => exact (Kd.R_reads' HO_314000.out).2.1)
         (case side3 => repeat (first | exact (Kd.R_reads' HO_314001.out).2.2 | (with_reducible refine Kd.C_alloc ?_ _) | (with_reducible refine Kd.C_drewN ?_ _) | (with_reducible refine Kd.C_drew ?_)))
         (case side4 => exact (Kd.R_reads' HO_314001.out).2.1)
         (case side5 => repeat (first | exact (Kd.R_reads' HO321.out).2.2 | (with_reducible refine Kd.C_alloc ?_ _) | (with_reducible refine Kd.C_drewN ?_ _) | (with_reducible refine Kd.C_drew ?_)))
         (case side6 => exact (Kd.R_reads' HO321.out).2.1)
         (case side7 => repeat (first | exact (Kd.R_reads' HO324.out).2.2 | (with_reducible refine Kd.C_alloc ?_ _) | (with_reducible refine Kd.C_drewN ?_ _) | (with_reducible refine Kd.C_drew ?_)))
         (case side8 => exact (Kd.R_reads' HO324.out).2.1)
         rintro e w58 ⟨rfl, hb⟩
         refine ⟨_, rfl, ?_⟩
         have n0_ := Aside0.mk (Kd.R_below (q2_ HO_11.out) hb)
         have n1_ := Aside0.mk (Kd.R_below (q2_ HO_314000.out) hb)
         have n2_ := Aside0.mk (Kd.R_below (q2_ HO_314001.out) hb)
         have n3_ := Aside0.mk (Kd.R_below (q2_ HO321.out) hb)
         have n4_ := Aside0.mk (Kd.R_below (q2_ HO324.out) hb)
         have n5_ := Aside0.mk (blk_below (g := gb293) (o := .cells #[.slice A0_0 l0_0.length c0_0, .slice A0_1 l0_1.length c0_1] 25 (0, 0)) (q1_ BK293.out) hb)
         have n6_ := Aside0.mk (blk_below (g := gb313) (o := .cells #[.slice Ao38 t307.length co38, .slice Ao41 t310.length co41] 32 (0, 0)) (q1_ BK313.out) hb)
         have n7_ := Aside0.mk (below_step t4_ hb)
         clear HO_11
         clear HO_314000
         clear HO_314001
         clear HO321
         clear HO324
         clear BK293
         clear BK313
         clear HB
         have HO_11 := n0_
         have HO_314000 := n1_
         have HO_314001 := n2_
         have HO321 := n3_
         have HO324 := n4_
         have BK293 := n5_
         have BK313 := n6_
         have HB := n7_
         clear n0_ n1_ n2_ n3_ n4_ n5_ n6_ n7_
         (try clear hb)
         (try clear hb2)
         (try clear hk)
         (try clear hi)
         refine hK.out _ _ ⟨(blk_cell BK313.out 0).trans rfl, (blk_cell BK313.out 1).trans rfl, (blk_cell BK293.out 0).trans rfl, (blk_cell BK293.out 1).trans rfl⟩ (fun hHeld => ?_)
         clear hK K
         refine norm_ (a' := ?_) ?_ ?_
         rotate_left
         ·show Act.put _ (some 58) _ = _
          simp only [Act.put, List.setIfInBounds_toArray, List.set_cons_zero, List.set_cons_succ, i64_w, i32_w]
          rfl
         refine pure_ (i := 4) (N := some 59) (v := ?_) (a' := ?_) #[true, true, true, true, true] rfl rfl t7_ (fun _ _ _ h => h) (Or.inl ⟨by rfl, ?_⟩) ?_ ?_
         rotate_left; (· intro w'; go_simp; with_reducible rfl); rotate_left; (· simp only [Act.put, List.setIfInBounds_toArray, List.set_cons_zero, List.set_cons_succ, i64_w, i32_w]; rfl)
         refine done_ t7_ ?_
         try go_wp2_with (first | ((with_reducible refine gate_callee (f := 15) rfl ?_); refine goesL_ (some 62) rfl rfl Try.func15 t7_ rfl #[.slice A1 l1.length c1] rfl t2_ ?_; (with_reducible refine (laws_toValveS.calls kj22 _ _ l1 t326 _ ?side1 ?side2 A51.out).mono ?_); (case side1 => repeat (first | exact (Kd.C_below HR1.out HB.out) | (with_reducible refine Kd.C_alloc ?_ _) | (with_reducible refine Kd.C_drewN ?_ _) | (with_reducible refine Kd.C_drew ?_))); (case side2 => exact HC1.out); rintro e w59 ⟨v327, rfl, ho0, hb⟩; refine ⟨_, rfl, ?_⟩; have n0_ := Aside0.mk (Kd.R_elder' (q2_ HO_11.out) (Kd.R_base ho0) hb); have n1_ := Aside0.mk (Kd.R_below (q2_ HO_314000.out) hb); have n2_ := Aside0.mk (Kd.R_below (q2_ HO_314001.out) hb); have n3_ := Aside0.mk (Kd.R_below (q2_ HO321.out) hb); have n4_ := Aside0.mk (Kd.R_below (q2_ HO324.out) hb); have n5_ := Aside0.mk (Kd.R_lower (Kd.R_new' ho0 (Kd.R_lt (q2_ HO_11.out))) (below_size t4_)); have n6_ := Aside0.mk (blk_below (g := gb293) (o := .cells #[.slice A0_0 l0_0.length c0_0, .slice A0_1 l0_1.length c0_1] 25 (0, 0)) (q1_ BK293.out) hb); have n7_ := Aside0.mk (blk_below (g := gb313) (o := .cells #[.slice Ao38 t307.length co38, .slice Ao41 t310.length co41] 32 (0, 0)) (q1_ BK313.out) hb); have n8_ := Aside0.mk (below_step t4_ hb); clear HO_11; clear HO_314000; clear HO_314001; clear HO321; clear HO324; clear BK293; clear BK313; clear HB; have HO_11 := n0_; have HO_314000 := n1_; have HO_314001 := n2_; have HO321 := n3_; have HO324 := n4_; have HO328 := n5_; have BK293 := n6_; have BK313 := n7_; have HB := n8_; clear n0_ n1_ n2_ n3_ n4_ n5_ n6_ n7_ n8_; (try clear hb); (try clear hb2); (try clear hk); (try clear hi); (try clear ho0); obtain ⟨Ao60, co60, eo60⟩ := Kd.R_slice HO328.out; subst eo60) | ((with_reducible refine gate_callee (f := 18) rfl ?_); refine goesL_ (some 63) rfl rfl Try.func18 t7_ rfl #[.slice Ao44 t314.length co44, .slice Ao60 t326.length co60] rfl t2_ ?_; (with_reducible refine (laws_eqValveS.calls kj22 _ _ t314 _ _ t326 true _ ?side1 ?side2 ?side3 ?side4 A52.out).mono ?_); (case side1 => repeat (first | exact (Kd.R_reads' HO_11.out).2.2 | (with_reducible refine Kd.C_alloc ?_ _) | (with_reducible refine Kd.C_drewN ?_ _) | (with_reducible refine Kd.C_drew ?_))); (case side2 => exact (Kd.R_reads' HO_11.out).2.1); (case side3 => repeat (first | exact (Kd.R_reads' HO328.out).2.2 | (with_reducible refine Kd.C_alloc ?_ _) | (with_reducible refine Kd.C_drewN ?_ _) | (with_reducible refine Kd.C_drew ?_))); (case side4 => exact (Kd.R_reads' HO328.out).2.1); rintro e w61 ⟨rfl, hb⟩; refine ⟨_, rfl, ?_⟩; have n0_ := Aside0.mk (Kd.R_below (q2_ HO_11.out) hb); have n1_ := Aside0.mk (Kd.R_below (q2_ HO_314000.out) hb); have n2_ := Aside0.mk (Kd.R_below (q2_ HO_314001.out) hb); have n3_ := Aside0.mk (Kd.R_below (q2_ HO321.out) hb); have n4_ := Aside0.mk (Kd.R_below (q2_ HO324.out) hb); have n5_ := Aside0.mk (Kd.R_below (q2_ HO328.out) hb); have n6_ := Aside0.mk (blk_below (g := gb293) (o := .cells #[.slice A0_0 l0_0.length c0_0, .slice A0_1 l0_1.length c0_1] 25 (0, 0)) (q1_ BK293.out) hb); have n7_ := Aside0.mk (blk_below (g := gb313) (o := .cells #[.slice Ao38 t307.length co38, .slice Ao41 t310.length co41] 32 (0, 0)) (q1_ BK313.out) hb); have n8_ := Aside0.mk (below_step t4_ hb); clear HO_11; clear HO_314000; clear HO_314001; clear HO321; clear HO324; clear HO328; clear BK293; clear BK313; clear HB; have HO_11 := n0_; have HO_314000 := n1_; have HO_314001 := n2_; have HO321 := n3_; have HO324 := n4_; have HO328 := n5_; have BK293 := n6_; have BK313 := n7_; have HB := n8_; clear n0_ n1_ n2_ n3_ n4_ n5_ n6_ n7_ n8_; (try clear hb); (try clear hb2); (try clear hk); (try clear hi)))
         go_ret
         exact ⟨by first | rfl | (rw [Int.tdiv_eq_ediv_of_nonneg t12_]; rfl) | (simp [errW_none, errW_some] <;> rfl) | (simp [*, errW_none, errW_some] <;> rfl), by repeat (first | (with_reducible first | exact HB.out | apply below_alloc | apply pw_below_drewN | apply below_drew1 | refine below_set ?_ GE293.out | refine below_set ?_ GE313.out) | exact HB.out)⟩
        ·replace c53 := Bool.eq_false_iff.mpr c53
         subst c53
         have H1 : (some false) = some r := by rw [if_neg (show ¬ (false = true) by decide)] at H; exact H
         clear H
         have H := H1
         clear H1
         obtain rfl := Option.some.inj H
         try go_wp2
         have n0_ := Aside0.mk (Kd.R_drew HO_11.out)
         have n1_ := Aside0.mk (Kd.R_drew HO_314000.out)
         have n2_ := Aside0.mk (Kd.R_drew HO_314001.out)
         have n3_ := Aside0.mk (blk_drew BK293.out)
         have n4_ := Aside0.mk (blk_drew BK313.out)
         have n5_ := Aside0.mk (below_drew1 HB.out)
         clear HO_11
         clear HO_314000
         clear HO_314001
         clear BK293
         clear BK313
         clear HB
         have HO_11 := n0_
         have HO_314000 := n1_
         have HO_314001 := n2_
         have BK293 := n3_
         have BK313 := n4_
         have HB := n5_
         clear n0_ n1_ n2_ n3_ n4_ n5_
         refine start_ (n := 5) (S := fun w' => w'.cell? ⟨gb313, 0, none⟩ = some (.slice Ao38 t307.length co38) ∧ w'.cell? ⟨gb313, 1, none⟩ = some (.slice Ao41 t310.length co41) ∧ w'.cell? ⟨gb293, 0, none⟩ = some (.slice A0_0 l0_0.length c0_0) ∧ w'.cell? ⟨gb293, 1, none⟩ = some (.slice A0_1 l0_1.length c0_1)) (ds := []) #[false, false, false, false, false] t7_ rfl rfl ⟨(blk_cell BK313.out 0).trans rfl, (blk_cell BK313.out 1).trans rfl, (blk_cell BK293.out 0).trans rfl, (blk_cell BK293.out 1).trans rfl⟩ (fun hHeld => ?_)
         generalize wc.drew = w62 at HO_11 HO_314000 HO_314001 BK293 BK313 HB hHeld ⊢
         refine take_ (i := 0) (N := some 55) (v := ?_) (a' := ?_) #[true, false, false, false, false] rfl rfl t7_ (fun _ _ _ h => h) (Or.inl ⟨by rfl, ?_⟩) hHeld ?_ ?_
         rotate_left
         ·rintro w' ⟨s0, s1, s2, s3⟩
          go_simp
          with_reducible rfl
         rotate_left; (· simp only [Act.put, List.setIfInBounds_toArray, List.set_cons_zero, List.set_cons_succ, i64_w, i32_w]; rfl)
         refine take_ (i := 1) (N := some 56) (v := ?_) (a' := ?_) #[true, true, false, false, false] rfl rfl t7_ (fun _ _ _ h => h) (Or.inl ⟨by rfl, ?_⟩) hHeld ?_ ?_
         rotate_left
         ·rintro w' ⟨s0, s1, s2, s3⟩
          go_simp
          with_reducible rfl
         rotate_left; (· simp only [Act.put, List.setIfInBounds_toArray, List.set_cons_zero, List.set_cons_succ, i64_w, i32_w]; rfl)
         refine one_ (i := 2) (N := some 57) #[true, true, true, false, false] rfl rfl t7_ t22_ (fun K hK => ?_)
         refine goes_ Try.func14 t7_ rfl #[.agg #[.slice A0_0 l0_0.length c0_0, .slice A0_1 l0_1.length c0_1]] t35_ rfl rfl t2_ ?_
         with_reducible refine (laws_toNetwork.calls kj22 _ _ l0_0 _ _ l0_1 t319 t322 _ ?side1 ?side2 ?side3 ?side4 A48.out).mono ?_
         (case side1 => repeat (first | exact (Kd.C_below HR0_0.out HB.out) | (with_reducible refine Kd.C_alloc ?_ _) | (with_reducible refine Kd.C_drewN ?_ _) | (with_reducible refine Kd.C_drew ?_)))
         (case side2 => exact HC0_0.out)
         (case side3 => repeat (first | exact (Kd.C_below HR0_1.out HB.out) | (with_reducible refine Kd.C_alloc ?_ _) | (with_reducible refine Kd.C_drewN ?_ _) | (with_reducible refine Kd.C_drew ?_)))
         (case side4 => exact HC0_1.out)
         rintro e w63 ⟨v320, v323, rfl, ho0, ho1, hb⟩
         refine ⟨_, rfl, ?_⟩
         have n0_ := Aside0.mk (Kd.R_below (q2_ HO_11.out) hb)
         have n1_ := Aside0.mk (Kd.R_elder' (q2_ HO_314000.out) (Kd.R_base ho0) hb)
         have n2_ := Aside0.mk (Kd.R_elder' (q2_ HO_314001.out) (Kd.R_base ho1) hb)
         have n3_ := Aside0.mk (Kd.R_lower (Kd.R_new' ho0 (Kd.R_lt (q2_ HO_314000.out))) (below_size t4_))
         have n4_ := Aside0.mk (Kd.R_lower (Kd.R_new' ho1 (Kd.R_lt (q2_ HO_314001.out))) (below_size t4_))
         have n5_ := Aside0.mk (blk_below (g := gb293) (o := .cells #[.slice A0_0 l0_0.length c0_0, .slice A0_1 l0_1.length c0_1] 25 (0, 0)) (q1_ BK293.out) hb)
         have n6_ := Aside0.mk (blk_below (g := gb313) (o := .cells #[.slice Ao38 t307.length co38, .slice Ao41 t310.length co41] 32 (0, 0)) (q1_ BK313.out) hb)
         have n7_ := Aside0.mk (below_step t4_ hb)
         clear HO_11
         clear HO_314000
         clear HO_314001
         clear BK293
         clear BK313
         clear HB
         have HO_11 := n0_
         have HO_314000 := n1_
         have HO_314001 := n2_
         have HO321 := n3_
         have HO324 := n4_
         have BK293 := n5_
         have BK313 := n6_
         have HB := n7_
         clear n0_ n1_ n2_ n3_ n4_ n5_ n6_ n7_
         (try clear hb)
         (try clear hb2)
         (try clear hk)
         (try clear hi)
         (try clear ho0)
         (try clear ho1)
         obtain ⟨Ao64, co64, eo64⟩ := Kd.R_slice HO321.out
         (first | subst eo64 | (injection eo64 with f1_ f2_ f3_; have f4_ := f1_.symm; have f5_ := f3_.symm; clear f1_ f2_ f3_; subst f4_; subst f5_))
         obtain ⟨Ao65, co65, eo65⟩ := Kd.R_slice HO324.out
         (first | subst eo65 | (injection eo65 with f1_ f2_ f3_; have f4_ := f1_.symm; have f5_ := f3_.symm; clear f1_ f2_ f3_; subst f4_; subst f5_))
         refine hK.out _ _ ⟨(blk_cell BK313.out 0).trans rfl, (blk_cell BK313.out 1).trans rfl, (blk_cell BK293.out 0).trans rfl, (blk_cell BK293.out 1).trans rfl⟩ (fun hHeld => ?_)
         clear hK K
         refine norm_ (a' := ?_) ?_ ?_
         rotate_left
         ·show Act.put _ (some 57) _ = _
          simp only [Act.put, List.setIfInBounds_toArray, List.set_cons_zero, List.set_cons_succ, i64_w, i32_w]
          rfl
         refine one_ (i := 3) (N := some 58) #[true, true, true, true, false] rfl rfl t7_ t22_ (fun K hK => ?_)
         refine goes_ Try.func17 t7_ rfl #[.agg #[.slice Ao38 t307.length co38, .slice Ao41 t310.length co41], .agg #[.slice Ao64 t319.length co64, .slice Ao65 t322.length co65]] t35_ rfl rfl t2_ ?_
         with_reducible refine (laws_eqNetwork.calls kj22 _ _ t307 _ _ t310 _ _ t319 _ _ t322 true _ ?side1 ?side2 ?side3 ?side4 ?side5 ?side6 ?side7 ?side8 A49.out).mono ?_
         (case side1 => repeat (first | exact (Kd.R_reads' HO_314000.out).2.2 | (with_reducible refine Kd.C_alloc ?_ _) | (with_reducible refine Kd.C_drewN ?_ _) | (with_reducible refine Kd.C_drew ?_)))
         (case side2 => exact (Kd.R_reads' HO_314000.out).2.1)
         (case side3 => repeat (first | exact (Kd.R_reads' HO_314001.out).2.2 | (with_reducible refine Kd.C_alloc ?_ _) | (with_reducible refine Kd.C_drewN ?_ _) | (with_reducible refine Kd.C_drew ?_)))
         (case side4 => exact (Kd.R_reads' HO_314001.out).2.1)
         (case side5 => repeat (first | exact (Kd.R_reads' HO321.out).2.2 | (with_reducible refine Kd.C_alloc ?_ _) | (with_reducible refine Kd.C_drewN ?_ _) | (with_reducible refine Kd.C_drew ?_)))
         (case side6 => exact (Kd.R_reads' HO321.out).2.1)
         (case side7 => repeat (first | exact (Kd.R_reads' HO324.out).2.2 | (with_reducible refine Kd.C_alloc ?_ _) | (with_reducible refine Kd.C_drewN ?_ _) | (with_reducible refine Kd.C_drew ?_)))
         (case side8 => exact (Kd.R_reads' HO324.out).2.1)
         rintro e w66 ⟨rfl, hb⟩
         refine ⟨_, rfl, ?_⟩
         have n0_ := Aside0.mk (Kd.R_below (q2_ HO_11.out) hb)
         have n1_ := Aside0.mk (Kd.R_below (q2_ HO_314000.out) hb)
         have n2_ := Aside0.mk (Kd.R_below (q2_ HO_314001.out) hb)
         have n3_ := Aside0.mk (Kd.R_below (q2_ HO321.out) hb)
         have n4_ := Aside0.mk (Kd.R_below (q2_ HO324.out) hb)
         have n5_ := Aside0.mk (blk_below (g := gb293) (o := .cells #[.slice A0_0 l0_0.length c0_0, .slice A0_1 l0_1.length c0_1] 25 (0, 0)) (q1_ BK293.out) hb)
         have n6_ := Aside0.mk (blk_below (g := gb313) (o := .cells #[.slice Ao38 t307.length co38, .slice Ao41 t310.length co41] 32 (0, 0)) (q1_ BK313.out) hb)
         have n7_ := Aside0.mk (below_step t4_ hb)
         clear HO_11
         clear HO_314000
         clear HO_314001
         clear HO321
         clear HO324
         clear BK293
         clear BK313
         clear HB
         have HO_11 := n0_
         have HO_314000 := n1_
         have HO_314001 := n2_
         have HO321 := n3_
         have HO324 := n4_
         have BK293 := n5_
         have BK313 := n6_
         have HB := n7_
         clear n0_ n1_ n2_ n3_ n4_ n5_ n6_ n7_
         (try clear hb)
         (try clear hb2)
         (try clear hk)
         (try clear hi)
         refine hK.out _ _ ⟨(blk_cell BK313.out 0).trans rfl, (blk_cell BK313.out 1).trans rfl, (blk_cell BK293.out 0).trans rfl, (blk_cell BK293.out 1).trans rfl⟩ (fun hHeld => ?_)
         clear hK K
         refine norm_ (a' := ?_) ?_ ?_
         rotate_left
         ·show Act.put _ (some 58) _ = _
          simp only [Act.put, List.setIfInBounds_toArray, List.set_cons_zero, List.set_cons_succ, i64_w, i32_w]
          rfl
         refine pure_ (i := 4) (N := some 59) (v := ?_) (a' := ?_) #[true, true, true, true, true] rfl rfl t7_ (fun _ _ _ h => h) (Or.inl ⟨by rfl, ?_⟩) ?_ ?_
         rotate_left; (· intro w'; go_simp; with_reducible rfl); rotate_left; (· simp only [Act.put, List.setIfInBounds_toArray, List.set_cons_zero, List.set_cons_succ, i64_w, i32_w]; rfl)
         refine done_ t7_ ?_
         try go_wp2_with (first | ((with_reducible refine gate_callee (f := 15) rfl ?_); refine goesL_ (some 62) rfl rfl Try.func15 t7_ rfl #[.slice A1 l1.length c1] rfl t2_ ?_; (with_reducible refine (laws_toValveS.calls kj22 _ _ l1 t326 _ ?side1 ?side2 A51.out).mono ?_); (case side1 => repeat (first | exact (Kd.C_below HR1.out HB.out) | (with_reducible refine Kd.C_alloc ?_ _) | (with_reducible refine Kd.C_drewN ?_ _) | (with_reducible refine Kd.C_drew ?_))); (case side2 => exact HC1.out); rintro e w67 ⟨v327, rfl, ho0, hb⟩; refine ⟨_, rfl, ?_⟩; have n0_ := Aside0.mk (Kd.R_elder' (q2_ HO_11.out) (Kd.R_base ho0) hb); have n1_ := Aside0.mk (Kd.R_below (q2_ HO_314000.out) hb); have n2_ := Aside0.mk (Kd.R_below (q2_ HO_314001.out) hb); have n3_ := Aside0.mk (Kd.R_below (q2_ HO321.out) hb); have n4_ := Aside0.mk (Kd.R_below (q2_ HO324.out) hb); have n5_ := Aside0.mk (Kd.R_lower (Kd.R_new' ho0 (Kd.R_lt (q2_ HO_11.out))) (below_size t4_)); have n6_ := Aside0.mk (blk_below (g := gb293) (o := .cells #[.slice A0_0 l0_0.length c0_0, .slice A0_1 l0_1.length c0_1] 25 (0, 0)) (q1_ BK293.out) hb); have n7_ := Aside0.mk (blk_below (g := gb313) (o := .cells #[.slice Ao38 t307.length co38, .slice Ao41 t310.length co41] 32 (0, 0)) (q1_ BK313.out) hb); have n8_ := Aside0.mk (below_step t4_ hb); clear HO_11; clear HO_314000; clear HO_314001; clear HO321; clear HO324; clear BK293; clear BK313; clear HB; have HO_11 := n0_; have HO_314000 := n1_; have HO_314001 := n2_; have HO321 := n3_; have HO324 := n4_; have HO328 := n5_; have BK293 := n6_; have BK313 := n7_; have HB := n8_; clear n0_ n1_ n2_ n3_ n4_ n5_ n6_ n7_ n8_; (try clear hb); (try clear hb2); (try clear hk); (try clear hi); (try clear ho0); obtain ⟨Ao68, co68, eo68⟩ := Kd.R_slice HO328.out; subst eo68) | ((with_reducible refine gate_callee (f := 18) rfl ?_); refine goesL_ (some 63) rfl rfl Try.func18 t7_ rfl #[.slice Ao44 t314.length co44, .slice Ao68 t326.length co68] rfl t2_ ?_; (with_reducible refine (laws_eqValveS.calls kj22 _ _ t314 _ _ t326 false _ ?side1 ?side2 ?side3 ?side4 A52.out).mono ?_); (case side1 => repeat (first | exact (Kd.R_reads' HO_11.out).2.2 | (with_reducible refine Kd.C_alloc ?_ _) | (with_reducible refine Kd.C_drewN ?_ _) | (with_reducible refine Kd.C_drew ?_))); (case side2 => exact (Kd.R_reads' HO_11.out).2.1); (case side3 => repeat (first | exact (Kd.R_reads' HO328.out).2.2 | (with_reducible refine Kd.C_alloc ?_ _) | (with_reducible refine Kd.C_drewN ?_ _) | (with_reducible refine Kd.C_drew ?_))); (case side4 => exact (Kd.R_reads' HO328.out).2.1); rintro e w69 ⟨rfl, hb⟩; refine ⟨_, rfl, ?_⟩; have n0_ := Aside0.mk (Kd.R_below (q2_ HO_11.out) hb); have n1_ := Aside0.mk (Kd.R_below (q2_ HO_314000.out) hb); have n2_ := Aside0.mk (Kd.R_below (q2_ HO_314001.out) hb); have n3_ := Aside0.mk (Kd.R_below (q2_ HO321.out) hb); have n4_ := Aside0.mk (Kd.R_below (q2_ HO324.out) hb); have n5_ := Aside0.mk (Kd.R_below (q2_ HO328.out) hb); have n6_ := Aside0.mk (blk_below (g := gb293) (o := .cells #[.slice A0_0 l0_0.length c0_0, .slice A0_1 l0_1.length c0_1] 25 (0, 0)) (q1_ BK293.out) hb); have n7_ := Aside0.mk (blk_below (g := gb313) (o := .cells #[.slice Ao38 t307.length co38, .slice Ao41 t310.length co41] 32 (0, 0)) (q1_ BK313.out) hb); have n8_ := Aside0.mk (below_step t4_ hb); clear HO_11; clear HO_314000; clear HO_314001; clear HO321; clear HO324; clear HO328; clear BK293; clear BK313; clear HB; have HO_11 := n0_; have HO_314000 := n1_; have HO_314001 := n2_; have HO321 := n3_; have HO324 := n4_; have HO328 := n5_; have BK293 := n6_; have BK313 := n7_; have HB := n8_; clear n0_ n1_ n2_ n3_ n4_ n5_ n6_ n7_ n8_; (try clear hb); (try clear hb2); (try clear hk); (try clear hi)))
         go_ret
         exact ⟨by first | rfl | (rw [Int.tdiv_eq_ediv_of_nonneg t12_]; rfl) | (simp [errW_none, errW_some] <;> rfl) | (simp [*, errW_none, errW_some] <;> rfl), by repeat (first | (with_reducible first | exact HB.out | apply below_alloc | apply pw_below_drewN | apply below_drew1 | refine below_set ?_ GE293.out | refine below_set ?_ GE313.out) | exact HB.out)⟩
       ·replace c50 := Bool.eq_false_iff.mpr c50
        subst c50
        have H1 : (some false) = some r := by rw [if_neg (show ¬ (false = true) by decide)] at H; exact H
        clear H
        have H := H1
        clear H1
        obtain rfl := Option.some.inj H
        try go_wp2
        have n0_ := Aside0.mk (Kd.R_drew HO_11.out)
        have n1_ := Aside0.mk (Kd.R_drew HO_314000.out)
        have n2_ := Aside0.mk (Kd.R_drew HO_314001.out)
        have n3_ := Aside0.mk (blk_drew BK293.out)
        have n4_ := Aside0.mk (blk_drew BK313.out)
        have n5_ := Aside0.mk (below_drew1 HB.out)
        clear HO_11
        clear HO_314000
        clear HO_314001
        clear BK293
        clear BK313
        clear HB
        have HO_11 := n0_
        have HO_314000 := n1_
        have HO_314001 := n2_
        have BK293 := n3_
        have BK313 := n4_
        have HB := n5_
        clear n0_ n1_ n2_ n3_ n4_ n5_
        refine start_ (n := 5) (S := fun w' => w'.cell? ⟨gb313, 0, none⟩ = some (.slice Ao38 t307.length co38) ∧ w'.cell? ⟨gb313, 1, none⟩ = some (.slice Ao41 t310.length co41) ∧ w'.cell? ⟨gb293, 0, none⟩ = some (.slice A0_0 l0_0.length c0_0) ∧ w'.cell? ⟨gb293, 1, none⟩ = some (.slice A0_1 l0_1.length c0_1)) (ds := []) #[false, false, false, false, false] t7_ rfl rfl ⟨(blk_cell BK313.out 0).trans rfl, (blk_cell BK313.out 1).trans rfl, (blk_cell BK293.out 0).trans rfl, (blk_cell BK293.out 1).trans rfl⟩ (fun hHeld => ?_)
        generalize wc.drew = w70 at HO_11 HO_314000 HO_314001 BK293 BK313 HB hHeld ⊢
        refine take_ (i := 0) (N := some 55) (v := ?_) (a' := ?_) #[true, false, false, false, false] rfl rfl t7_ (fun _ _ _ h => h) (Or.inl ⟨by rfl, ?_⟩) hHeld ?_ ?_
        rotate_left
        ·rintro w' ⟨s0, s1, s2, s3⟩
         go_simp
         with_reducible rfl
        rotate_left; (· simp only [Act.put, List.setIfInBounds_toArray, List.set_cons_zero, List.set_cons_succ, i64_w, i32_w]; rfl)
        refine take_ (i := 1) (N := some 56) (v := ?_) (a' := ?_) #[true, true, false, false, false] rfl rfl t7_ (fun _ _ _ h => h) (Or.inl ⟨by rfl, ?_⟩) hHeld ?_ ?_
        rotate_left
        ·rintro w' ⟨s0, s1, s2, s3⟩
         go_simp
         with_reducible rfl
        rotate_left; (· simp only [Act.put, List.setIfInBounds_toArray, List.set_cons_zero, List.set_cons_succ, i64_w, i32_w]; rfl)
        refine one_ (i := 2) (N := some 57) #[true, true, true, false, false] rfl rfl t7_ t22_ (fun K hK => ?_)
        refine goes_ Try.func14 t7_ rfl #[.agg #[.slice A0_0 l0_0.length c0_0, .slice A0_1 l0_1.length c0_1]] t35_ rfl rfl t2_ ?_
        with_reducible refine (laws_toNetwork.calls kj22 _ _ l0_0 _ _ l0_1 t319 t322 _ ?side1 ?side2 ?side3 ?side4 A48.out).mono ?_
        (case side1 => repeat (first | exact (Kd.C_below HR0_0.out HB.out) | (with_reducible refine Kd.C_alloc ?_ _) | (with_reducible refine Kd.C_drewN ?_ _) | (with_reducible refine Kd.C_drew ?_)))
        (case side2 => exact HC0_0.out)
        (case side3 => repeat (first | exact (Kd.C_below HR0_1.out HB.out) | (with_reducible refine Kd.C_alloc ?_ _) | (with_reducible refine Kd.C_drewN ?_ _) | (with_reducible refine Kd.C_drew ?_)))
        (case side4 => exact HC0_1.out)
        rintro e w71 ⟨v320, v323, rfl, ho0, ho1, hb⟩
        refine ⟨_, rfl, ?_⟩
        have n0_ := Aside0.mk (Kd.R_below (q2_ HO_11.out) hb)
        have n1_ := Aside0.mk (Kd.R_elder' (q2_ HO_314000.out) (Kd.R_base ho0) hb)
        have n2_ := Aside0.mk (Kd.R_elder' (q2_ HO_314001.out) (Kd.R_base ho1) hb)
        have n3_ := Aside0.mk (Kd.R_lower (Kd.R_new' ho0 (Kd.R_lt (q2_ HO_314000.out))) (below_size t4_))
        have n4_ := Aside0.mk (Kd.R_lower (Kd.R_new' ho1 (Kd.R_lt (q2_ HO_314001.out))) (below_size t4_))
        have n5_ := Aside0.mk (blk_below (g := gb293) (o := .cells #[.slice A0_0 l0_0.length c0_0, .slice A0_1 l0_1.length c0_1] 25 (0, 0)) (q1_ BK293.out) hb)
        have n6_ := Aside0.mk (blk_below (g := gb313) (o := .cells #[.slice Ao38 t307.length co38, .slice Ao41 t310.length co41] 32 (0, 0)) (q1_ BK313.out) hb)
        have n7_ := Aside0.mk (below_step t4_ hb)
        clear HO_11
        clear HO_314000
        clear HO_314001
        clear BK293
        clear BK313
        clear HB
        have HO_11 := n0_
        have HO_314000 := n1_
        have HO_314001 := n2_
        have HO321 := n3_
        have HO324 := n4_
        have BK293 := n5_
        have BK313 := n6_
        have HB := n7_
        clear n0_ n1_ n2_ n3_ n4_ n5_ n6_ n7_
        (try clear hb)
        (try clear hb2)
        (try clear hk)
        (try clear hi)
        (try clear ho0)
        (try clear ho1)
        obtain ⟨Ao72, co72, eo72⟩ := Kd.R_slice HO321.out
        (first | subst eo72 | (injection eo72 with f1_ f2_ f3_; have f4_ := f1_.symm; have f5_ := f3_.symm; clear f1_ f2_ f3_; subst f4_; subst f5_))
        obtain ⟨Ao73, co73, eo73⟩ := Kd.R_slice HO324.out
        (first | subst eo73 | (injection eo73 with f1_ f2_ f3_; have f4_ := f1_.symm; have f5_ := f3_.symm; clear f1_ f2_ f3_; subst f4_; subst f5_))
        refine hK.out _ _ ⟨(blk_cell BK313.out 0).trans rfl, (blk_cell BK313.out 1).trans rfl, (blk_cell BK293.out 0).trans rfl, (blk_cell BK293.out 1).trans rfl⟩ (fun hHeld => ?_)
        clear hK K
        refine norm_ (a' := ?_) ?_ ?_
        rotate_left
        ·show Act.put _ (some 57) _ = _
         simp only [Act.put, List.setIfInBounds_toArray, List.set_cons_zero, List.set_cons_succ, i64_w, i32_w]
         rfl
        refine one_ (i := 3) (N := some 58) #[true, true, true, true, false] rfl rfl t7_ t22_ (fun K hK => ?_)
        refine goes_ Try.func17 t7_ rfl #[.agg #[.slice Ao38 t307.length co38, .slice Ao41 t310.length co41], .agg #[.slice Ao72 t319.length co72, .slice Ao73 t322.length co73]] t35_ rfl rfl t2_ ?_
        with_reducible refine (laws_eqNetwork.calls kj22 _ _ t307 _ _ t310 _ _ t319 _ _ t322 false _ ?side1 ?side2 ?side3 ?side4 ?side5 ?side6 ?side7 ?side8 A49.out).mono ?_
        (case side1 => repeat (first | exact (Kd.R_reads' HO_314000.out).2.2 | (with_reducible refine Kd.C_alloc ?_ _) | (with_reducible refine Kd.C_drewN ?_ _) | (with_reducible refine Kd.C_drew ?_)))
        (case side2 => exact (Kd.R_reads' HO_314000.out).2.1)
        (case side3 => repeat (first | exact (Kd.R_reads' HO_314001.out).2.2 | (with_reducible refine Kd.C_alloc ?_ _) | (with_reducible refine Kd.C_drewN ?_ _) | (with_reducible refine Kd.C_drew ?_)))
        (case side4 => exact (Kd.R_reads' HO_314001.out).2.1)
        (case side5 => repeat (first | exact (Kd.R_reads' HO321.out).2.2 | (with_reducible refine Kd.C_alloc ?_ _) | (with_reducible refine Kd.C_drewN ?_ _) | (with_reducible refine Kd.C_drew ?_)))
        (case side6 => exact (Kd.R_reads' HO321.out).2.1)
        (case side7 => repeat (first | exact (Kd.R_reads' HO324.out).2.2 | (with_reducible refine Kd.C_alloc ?_ _) | (with_reducible refine Kd.C_drewN ?_ _) | (with_reducible refine Kd.C_drew ?_)))
        (case side8 => exact (Kd.R_reads' HO324.out).2.1)
        rintro e w74 ⟨rfl, hb⟩
        refine ⟨_, rfl, ?_⟩
        have n0_ := Aside0.mk (Kd.R_below (q2_ HO_11.out) hb)
        have n1_ := Aside0.mk (Kd.R_below (q2_ HO_314000.out) hb)
        have n2_ := Aside0.mk (Kd.R_below (q2_ HO_314001.out) hb)
        have n3_ := Aside0.mk (Kd.R_below (q2_ HO321.out) hb)
        have n4_ := Aside0.mk (Kd.R_below (q2_ HO324.out) hb)
        have n5_ := Aside0.mk (blk_below (g := gb293) (o := .cells #[.slice A0_0 l0_0.length c0_0, .slice A0_1 l0_1.length c0_1] 25 (0, 0)) (q1_ BK293.out) hb)
        have n6_ := Aside0.mk (blk_below (g := gb313) (o := .cells #[.slice Ao38 t307.length co38, .slice Ao41 t310.length co41] 32 (0, 0)) (q1_ BK313.out) hb)
        have n7_ := Aside0.mk (below_step t4_ hb)
        clear HO_11
        clear HO_314000
        clear HO_314001
        clear HO321
        clear HO324
        clear BK293
        clear BK313
        clear HB
        have HO_11 := n0_
        have HO_314000 := n1_
        have HO_314001 := n2_
        have HO321 := n3_
        have HO324 := n4_
        have BK293 := n5_
        have BK313 := n6_
        have HB := n7_
        clear n0_ n1_ n2_ n3_ n4_ n5_ n6_ n7_
        (try clear hb)
        (try clear hb2)
        (try clear hk)
        (try clear hi)
        refine hK.out _ _ ⟨(blk_cell BK313.out 0).trans rfl, (blk_cell BK313.out 1).trans rfl, (blk_cell BK293.out 0).trans rfl, (blk_cell BK293.out 1).trans rfl⟩ (fun hHeld => ?_)
        clear hK K
        refine norm_ (a' := ?_) ?_ ?_
        rotate_left
        ·show Act.put _ (some 58) _ = _
         simp only [Act.put, List.setIfInBounds_toArray, List.set_cons_zero, List.set_cons_succ, i64_w, i32_w]
         rfl
        refine pure_ (i := 4) (N := some 59) (v := ?_) (a' := ?_) #[true, true, true, true, true] rfl rfl t7_ (fun _ _ _ h => h) (Or.inl ⟨by rfl, ?_⟩) ?_ ?_
        rotate_left; (· intro w'; go_simp; with_reducible rfl); rotate_left; (· simp only [Act.put, List.setIfInBounds_toArray, List.set_cons_zero, List.set_cons_succ, i64_w, i32_w]; rfl)
        refine done_ t7_ ?_
        try go_wp2
        go_ret
        exact ⟨by first | rfl | (rw [Int.tdiv_eq_ediv_of_nonneg t12_]; rfl) | (simp [errW_none, errW_some] <;> rfl) | (simp [*, errW_none, errW_some] <;> rfl), by repeat (first | (with_reducible first | exact HB.out | apply below_alloc | apply pw_below_drewN | apply below_drew1 | refine below_set ?_ GE293.out | refine below_set ?_ GE313.out) | exact HB.out)⟩

/-- What is known of values that were read. -/
def wfIi64 (x : Int) : Prop := (Lit.int .i64 x).wf = true
def wfLIi64 (x : List Int) : Prop := x.length ≤ 9223372036854775807 ∧ ∀ x_ ∈ x, wfIi64 x_
def wfZ (x : ByteArray) : Prop := x.size ≤ maxLen
def wfT99 (x : S99) : Prop := x.f0.size ≤ maxLen ∧ (Lit.int .i64 x.f1).wf = true ∧ (Lit.int .i64 x.f2).wf = true ∧ (Lit.int .i64 x.f3).wf = true ∧ (Lit.int .i64 x.f4).wf = true ∧ (Lit.int .i64 x.f5).wf = true
def wfLT99 (x : List (S99)) : Prop := x.length ≤ 9223372036854775807 ∧ ∀ x_ ∈ x, wfT99 x_
def wfT25 (x : S25) : Prop := wfLIi64 x.f0 ∧ wfLT99 x.f1
def wfB (x : Bool) : Prop := True
def wfT60 (x : S60) : Prop := x.f0.size ≤ maxLen ∧ x.f1.size ≤ maxLen ∧ True
def wfLT60 (x : List (S60)) : Prop := x.length ≤ 9223372036854775807 ∧ ∀ x_ ∈ x, wfT60 x_

/-- THE ONE PURE STATEMENT of laws_FnExactValveNamed. -/
def laws_FnExactValveNamed.Pure : Prop := ∀ (x0 : S25) (x1 : List (S60)) (x2 : ByteArray), wfT25 x0 → wfLT60 x1 → wfZ x2 → ∃ k, laws_FnExactValveNamed.f k x0.f0 x0.f1 x1 x2 = some true
theorem laws_FnExactValveNamed.walk0 : True := trivial
theorem laws_FnExactValveNamed.walk : True := trivial

end Go.Proofs.Ytjelfhmgbhidnaa.PFnExactValveNamed
