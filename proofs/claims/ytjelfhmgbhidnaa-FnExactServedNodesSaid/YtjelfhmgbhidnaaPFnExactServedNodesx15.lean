-- written by wip/xprint.py, a program of this session, for this claim; not trusted: Lean checks it.
import Derived.Test.YtjelfhmgbhidnaaPFnExactServedNodesx0
import Derived.Test.YtjelfhmgbhidnaaPFnExactServedNodesx1
import Derived.Test.YtjelfhmgbhidnaaPFnExactServedNodesx2
import Derived.Test.YtjelfhmgbhidnaaPFnExactServedNodesx9
import Derived.Test.YtjelfhmgbhidnaaPFnExactServedNodesx14
namespace Go.Proofs.Ytjelfhmgbhidnaa.PFnExactServedNodes
open Go.RowKit Go.Proofs.YtjelfhmgbhidnaaW.PrintWords Go.Proofs.YtjelfhmgbhidnaaW.PrintLast Go.Proofs.YtjelfhmgbhidnaaW.PrintMore
attribute [local go_sem] leq_less_ max2_int min2_int max_two min_two max_three min_three max_four min_four   -- for this text's walks alone
set_option linter.unusedVariables false
set_option linter.unusedSimpArgs false

/-! ### laws_FnExactServedNodes: function 7 -/
mutual
def laws_FnExactServedNodes.j0 : Nat → List Int → List Int → List Int → Int → List Int → List Int → List Int → Int → Bool → List Int → List (S99) → List Int → List (S80) → Option (Bool)
 | 0, _, _, _, _, _, _, _, _, _, _, _, _, _ => none
 | k + 1, x1, x2, x8, x9, x11, x12, x13, x14, x62, x312000, x312001, x336000, x336001 => if x62 = true then (some false) else ((laws_toNetwork.f k x312000 x312001).bind fun bt347 => ((laws_eqNetwork.f k x336000 x336001 bt347.1 bt347.2).bind fun t353 => (if t353 = true then ((laws_toInt64S.f k x1).bind fun t354 => ((laws_eqInt64S.f k x11 t354).bind fun t357 => (if t357 = true then ((laws_toInt64S.f k x2).bind fun t358 => ((laws_eqInt64S.f k x12 t358).bind fun t361 => (if t361 = true then ((laws_markNetwork.f k x336000 x336001 1).bind fun bt362 => ((laws_markInt64S.f k x11 bt362.1).bind fun bt365 => ((laws_markInt64S.f k x12 bt365.1).bind fun bt367 => (if bt367.1 < 0 then (laws_FnExactServedNodes.j1 k x1 x2 x8 x9 x13 true x312000 x312001) else ((laws_eqInt64S.f k x13 x8).bind fun t369 => (if t369 = true then (laws_FnExactServedNodes.j1 k x1 x2 x8 x9 x13 (x14 != x9) x312000 x312001) else (laws_FnExactServedNodes.j1 k x1 x2 x8 x9 x13 true x312000 x312001))))))) else (some false)))) else (some false)))) else (some false))))
def laws_FnExactServedNodes.j1 : Nat → List Int → List Int → List Int → Int → List Int → Bool → List Int → List (S99) → Option (Bool)
 | 0, _, _, _, _, _, _, _, _ => none
 | k + 1, x1, x2, x8, x9, x13, x99, x312000, x312001 => if x99 = true then (some false) else ((laws_markInt64S.f k x13 1).bind fun bt370 => ((laws_heldInt64S.f k bt370.2 1).bind fun t372 => (if t372 < 0 then (some false) else (if t372 = bt370.1 then ((laws_toNetwork.f k x312000 x312001).bind fun bt373 => ((laws_toInt64S.f k x1).bind fun t379 => ((laws_toInt64S.f k x2).bind fun t382 => ((impl_ServedNodes.f k bt373.1 bt373.2 t379 t382).bind fun bt385 => ((laws_eqInt64S.f k bt385.1 x8).bind fun t389 => (if t389 = true then (laws_FnExactServedNodes.j2 k bt370.2 bt370.1 (bt385.2 != x9)) else (laws_FnExactServedNodes.j2 k bt370.2 bt370.1 true))))))) else (some false)))))
def laws_FnExactServedNodes.j2 : Nat → List Int → Int → Bool → Option (Bool)
 | 0, _, _, _ => none
 | k + 1, x13, x16, x129 => if x129 = true then (some false) else ((laws_heldInt64S.f k x13 1).bind fun t390 => (if t390 < 0 then (some false) else (if t390 = x16 then (some true) else (some false))))
end
def laws_FnExactServedNodes.f (k : Nat) (l0_0 : List Int) (l0_1 : List (S99)) (l1 : List Int) (l2 : List Int) : Option (Bool) := if (l1.length : Int) > 1048576 then (some true) else (if (l2.length : Int) > 1048576 then (some true) else ((laws_szNetwork.f k l0_0 l0_1 1048576).bind fun t312 => (if t312 < 0 then (some true) else ((laws_toNetwork.f k l0_0 l0_1).bind fun bt313 => ((laws_toInt64S.f k l1).bind fun t319 => ((laws_toInt64S.f k l2).bind fun t322 => ((spec_ServedNodes.f k bt313.1 bt313.2 t319 t322).bind fun bt325 => ((laws_toNetwork.f k l0_0 l0_1).bind fun bt329 => ((laws_toInt64S.f k l1).bind fun t336 => ((laws_toInt64S.f k l2).bind fun t339 => ((impl_ServedNodes.f k bt329.1 bt329.2 t336 t339).bind fun bt342 => ((laws_eqInt64S.f k bt342.1 bt325.1).bind fun t346 => (if t346 = true then (laws_FnExactServedNodes.j0 k l1 l2 bt325.1 bt325.2 t336 t339 bt342.1 bt342.2 (bt342.2 != bt325.2) l0_0 l0_1 bt329.1 bt329.2) else (laws_FnExactServedNodes.j0 k l1 l2 bt325.1 bt325.2 t336 t339 bt342.1 bt342.2 true l0_0 l0_1 bt329.1 bt329.2))))))))))))))
theorem laws_FnExactServedNodes.mono_l : ∀ k, (∀ y0 y1 y2 y3 y4 y5 y6 y7 y8 y9 y10 y11 y12, LeO (laws_FnExactServedNodes.j0 k y0 y1 y2 y3 y4 y5 y6 y7 y8 y9 y10 y11 y12) (laws_FnExactServedNodes.j0 (k + 1) y0 y1 y2 y3 y4 y5 y6 y7 y8 y9 y10 y11 y12)) ∧ (∀ y0 y1 y2 y3 y4 y5 y6 y7, LeO (laws_FnExactServedNodes.j1 k y0 y1 y2 y3 y4 y5 y6 y7) (laws_FnExactServedNodes.j1 (k + 1) y0 y1 y2 y3 y4 y5 y6 y7)) ∧ (∀ y0 y1 y2, LeO (laws_FnExactServedNodes.j2 k y0 y1 y2) (laws_FnExactServedNodes.j2 (k + 1) y0 y1 y2))
 | 0 => ⟨fun _ _ _ _ _ _ _ _ _ _ _ _ _ r h => by simp [laws_FnExactServedNodes.j0] at h, fun _ _ _ _ _ _ _ _ r h => by simp [laws_FnExactServedNodes.j1] at h, fun _ _ _ r h => by simp [laws_FnExactServedNodes.j2] at h⟩
 | k + 1 => by
  obtain ⟨ih0, ih1, ih2⟩ := laws_FnExactServedNodes.mono_l k
  refine ⟨?_, ?_, ?_⟩ <;> intros <;> first | unfold laws_FnExactServedNodes.j0 | unfold laws_FnExactServedNodes.j1 | unfold laws_FnExactServedNodes.j2
  all_goals
   repeat' first
   | (with_reducible exact ih0 _ _ _ _ _ _ _ _ _ _ _ _ _)
   | (with_reducible exact ih1 _ _ _ _ _ _ _ _)
   | (with_reducible exact ih2 _ _ _)
   | (with_reducible exact impl_ServedNodes.mono _ _ _ _ _)
   | (with_reducible exact laws_eqInt64S.mono _ _ _)
   | (with_reducible exact laws_eqNetwork.mono _ _ _ _ _)
   | (with_reducible exact laws_heldInt64S.mono _ _ _)
   | (with_reducible exact laws_markInt64S.mono _ _ _)
   | (with_reducible exact laws_markNetwork.mono _ _ _ _)
   | (with_reducible exact laws_szNetwork.mono _ _ _ _)
   | (with_reducible exact laws_toInt64S.mono _ _)
   | (with_reducible exact laws_toNetwork.mono _ _ _)
   | (with_reducible exact spec_ServedNodes.mono _ _ _ _ _)
   | (with_reducible exact LeO.refl _)
   | (with_reducible exact LeO.none _)
   | (with_reducible refine LeO.ite ?_ ?_)
   | (with_reducible refine LeO.bind ?_ (fun _ => ?_))
   | exact ih0 _ _ _ _ _ _ _ _ _ _ _ _ _
   | exact ih1 _ _ _ _ _ _ _ _
   | exact ih2 _ _ _
   | exact impl_ServedNodes.mono _ _ _ _ _
   | exact laws_eqInt64S.mono _ _ _
   | exact laws_eqNetwork.mono _ _ _ _ _
   | exact laws_heldInt64S.mono _ _ _
   | exact laws_markInt64S.mono _ _ _
   | exact laws_markNetwork.mono _ _ _ _
   | exact laws_szNetwork.mono _ _ _ _
   | exact laws_toInt64S.mono _ _
   | exact laws_toNetwork.mono _ _ _
   | exact spec_ServedNodes.mono _ _ _ _ _
   | exact LeO.none _
   | refine LeO.ite ?_ ?_
   | refine LeO.bind ?_ (fun _ => ?_)
theorem laws_FnExactServedNodes.mono : ∀ a0 a1 a2 a3 k, LeO (laws_FnExactServedNodes.f k a0 a1 a2 a3) (laws_FnExactServedNodes.f (k + 1) a0 a1 a2 a3) := by
 intro a0 a1 a2 a3 k
 obtain ⟨ih0, ih1, ih2⟩ := laws_FnExactServedNodes.mono_l k
 unfold laws_FnExactServedNodes.f
 repeat' first
   | (with_reducible exact ih0 _ _ _ _ _ _ _ _ _ _ _ _ _)
   | (with_reducible exact ih1 _ _ _ _ _ _ _ _)
   | (with_reducible exact ih2 _ _ _)
   | (with_reducible exact impl_ServedNodes.mono _ _ _ _ _)
   | (with_reducible exact laws_eqInt64S.mono _ _ _)
   | (with_reducible exact laws_eqNetwork.mono _ _ _ _ _)
   | (with_reducible exact laws_heldInt64S.mono _ _ _)
   | (with_reducible exact laws_markInt64S.mono _ _ _)
   | (with_reducible exact laws_markNetwork.mono _ _ _ _)
   | (with_reducible exact laws_szNetwork.mono _ _ _ _)
   | (with_reducible exact laws_toInt64S.mono _ _)
   | (with_reducible exact laws_toNetwork.mono _ _ _)
   | (with_reducible exact spec_ServedNodes.mono _ _ _ _ _)
   | (with_reducible exact LeO.refl _)
   | (with_reducible exact LeO.none _)
   | (with_reducible refine LeO.ite ?_ ?_)
   | (with_reducible refine LeO.bind ?_ (fun _ => ?_))
   | exact ih0 _ _ _ _ _ _ _ _ _ _ _ _ _
   | exact ih1 _ _ _ _ _ _ _ _
   | exact ih2 _ _ _
   | exact impl_ServedNodes.mono _ _ _ _ _
   | exact laws_eqInt64S.mono _ _ _
   | exact laws_eqNetwork.mono _ _ _ _ _
   | exact laws_heldInt64S.mono _ _ _
   | exact laws_markInt64S.mono _ _ _
   | exact laws_markNetwork.mono _ _ _ _
   | exact laws_szNetwork.mono _ _ _ _
   | exact laws_toInt64S.mono _ _
   | exact laws_toNetwork.mono _ _ _
   | exact spec_ServedNodes.mono _ _ _ _ _
   | exact LeO.none _
   | refine LeO.ite ?_ ?_
   | refine LeO.bind ?_ (fun _ => ?_)
set_option maxHeartbeats 8000000 in
set_option maxRecDepth 100000 in
theorem laws_FnExactServedNodes.calls (k : Nat) (A0_0 : Option Addr) (c0_0 : Nat) (l0_0 : List Int) (A0_1 : Option Addr) (c0_1 : Nat) (l0_1 : List (S99)) (A1 : Option Addr) (c1 : Nat) (l1 : List Int) (A2 : Option Addr) (c2 : Nat) (l2 : List Int) (r : Bool) (w : World) (hr0_0 : Kd.C (Kd.int .i64) w A0_0 l0_0.length l0_0) (hc0_0 : l0_0.length ≤ c0_0) (hr0_1 : Kd.C k99 w A0_1 l0_1.length l0_1) (hc0_1 : l0_1.length ≤ c0_1) (hr1 : Kd.C (Kd.int .i64) w A1 l1.length l1) (hc1 : l1.length ≤ c1) (hr2 : Kd.C (Kd.int .i64) w A2 l2.length l2) (hc2 : l2.length ≤ c2) (h : laws_FnExactServedNodes.f k l0_0 l0_1 l1 l2 = some r) :
  Calls Try.prog 7 #[.agg #[.slice A0_0 l0_0.length c0_0, .slice A0_1 l0_1.length c0_1], .slice A1 l1.length c1, .slice A2 l2.length c2] w fun e w' => e = .returned (.bool r) ∧ Below w.heap.size w w' := by
 have hu25 := Try.underlying25
 have hu32 := Try.underlying32
 have HR0_0 := Aside0.mk hr0_0
 have HC0_0 := Aside0.mk hc0_0
 clear hr0_0 hc0_0
 have HR0_1 := Aside0.mk hr0_1
 have HC0_1 := Aside0.mk hc0_1
 clear hr0_1 hc0_1
 have HR1 := Aside0.mk hr1
 have HC1 := Aside0.mk hc1
 clear hr1 hc1
 have HR2 := Aside0.mk hr2
 have HC2 := Aside0.mk hc2
 clear hr2 hc2
 have HB := Aside0.mk (Below.refl w.heap.size w)
 have H : (if (l1.length : Int) > 1048576 then (some true) else (if (l2.length : Int) > 1048576 then (some true) else ((laws_szNetwork.f k l0_0 l0_1 1048576).bind fun t312 => (if t312 < 0 then (some true) else ((laws_toNetwork.f k l0_0 l0_1).bind fun bt313 => ((laws_toInt64S.f k l1).bind fun t319 => ((laws_toInt64S.f k l2).bind fun t322 => ((spec_ServedNodes.f k bt313.1 bt313.2 t319 t322).bind fun bt325 => ((laws_toNetwork.f k l0_0 l0_1).bind fun bt329 => ((laws_toInt64S.f k l1).bind fun t336 => ((laws_toInt64S.f k l2).bind fun t339 => ((impl_ServedNodes.f k bt329.1 bt329.2 t336 t339).bind fun bt342 => ((laws_eqInt64S.f k bt342.1 bt325.1).bind fun t346 => (if t346 = true then (laws_FnExactServedNodes.j0 k l1 l2 bt325.1 bt325.2 t336 t339 bt342.1 bt342.2 (bt342.2 != bt325.2) l0_0 l0_1 bt329.1 bt329.2) else (laws_FnExactServedNodes.j0 k l1 l2 bt325.1 bt325.2 t336 t339 bt342.1 bt342.2 true l0_0 l0_1 bt329.1 bt329.2))))))))))))))) = some r := h
 clear h
 by_cases c4 : (l1.length : Int) > 1048576
 ·rw [if_pos c4] at H
  have c4b0 : decide (1048576 < (l1.length : Int)) = true := decide_eq_true c4
  have c4b1 : decide (1048576 < l1.length) = true := decide_eq_true t26_
  clear c4
  obtain rfl := Option.some.inj H
  go_enter Try.func7, Try.ntmps7
  go_wp2_with (first | ((with_reducible refine gate_dst (N := 3) rfl ?_); refine box_event ?hg (N := 3) ?hd (cs := #[.slice A0_0 l0_0.length c0_0, .slice A0_1 l0_1.length c0_1]) (t := 25) ?hr ?_; (case hd => rfl); (case hg => rfl); (case hr => first | (go_simp; done) | (go_simp; rfl)); intro gb311 hg w5 hbox hb; have n0_ := Aside0.mk (below_step t1_ hb); have n1_ := Aside0.mk (hbox); have n2_ := Aside0.mk ((by rw [hg]; exact (below_size t1_) : w.heap.size ≤ gb311)); have n3_ := Aside0.mk ((by rw [hg]; exact (below_size t1_) : w.heap.size ≤ gb311)); clear HB; have HB := n0_; have BK311 := n1_; have GW311 := n2_; have GE311 := n3_; clear n0_ n1_ n2_ n3_; clear hb hbox hg))
  go_ret
  exact ⟨t5_, t14_⟩
 ·rw [if_neg c4] at H
  have c4b0 : decide (1048576 < (l1.length : Int)) = false := decide_eq_false c4
  have c4b1 : decide (1048576 < l1.length) = false := decide_eq_false t26_
  clear c4
  by_cases c6 : (l2.length : Int) > 1048576
  ·rw [if_pos c6] at H
   have c6b0 : decide (1048576 < (l2.length : Int)) = true := decide_eq_true c6
   have c6b1 : decide (1048576 < l2.length) = true := decide_eq_true t26_
   clear c6
   obtain rfl := Option.some.inj H
   go_enter Try.func7, Try.ntmps7
   go_wp2_with (first | ((with_reducible refine gate_dst (N := 3) rfl ?_); refine box_event ?hg (N := 3) ?hd (cs := #[.slice A0_0 l0_0.length c0_0, .slice A0_1 l0_1.length c0_1]) (t := 25) ?hr ?_; (case hd => rfl); (case hg => rfl); (case hr => first | (go_simp; done) | (go_simp; rfl)); intro gb311 hg w7 hbox hb; have n0_ := Aside0.mk (below_step t1_ hb); have n1_ := Aside0.mk (hbox); have n2_ := Aside0.mk ((by rw [hg]; exact (below_size t1_) : w.heap.size ≤ gb311)); have n3_ := Aside0.mk ((by rw [hg]; exact (below_size t1_) : w.heap.size ≤ gb311)); clear HB; have HB := n0_; have BK311 := n1_; have GW311 := n2_; have GE311 := n3_; clear n0_ n1_ n2_ n3_; clear hb hbox hg))
   go_ret
   exact ⟨t5_, t14_⟩
  ·rw [if_neg c6] at H
   have c6b0 : decide (1048576 < (l2.length : Int)) = false := decide_eq_false c6
   have c6b1 : decide (1048576 < l2.length) = false := decide_eq_false t26_
   clear c6
   replace H := Option.bind_eq_some_iff.mp H
   obtain ⟨t312, A80, H⟩ := H
   replace H : (if t312 < 0 then (some true) else ((laws_toNetwork.f k l0_0 l0_1).bind fun bt313 => ((laws_toInt64S.f k l1).bind fun t319 => ((laws_toInt64S.f k l2).bind fun t322 => ((spec_ServedNodes.f k bt313.1 bt313.2 t319 t322).bind fun bt325 => ((laws_toNetwork.f k l0_0 l0_1).bind fun bt329 => ((laws_toInt64S.f k l1).bind fun t336 => ((laws_toInt64S.f k l2).bind fun t339 => ((impl_ServedNodes.f k bt329.1 bt329.2 t336 t339).bind fun bt342 => ((laws_eqInt64S.f k bt342.1 bt325.1).bind fun t346 => (if t346 = true then (laws_FnExactServedNodes.j0 k l1 l2 bt325.1 bt325.2 t336 t339 bt342.1 bt342.2 (bt342.2 != bt325.2) l0_0 l0_1 bt329.1 bt329.2) else (laws_FnExactServedNodes.j0 k l1 l2 bt325.1 bt325.2 t336 t339 bt342.1 bt342.2 true l0_0 l0_1 bt329.1 bt329.2)))))))))))) = some r := H
   have A8 := Aside0.mk A80
   clear A80
   by_cases c9 : t312 < 0
   ·rw [if_pos c9] at H
    have c9b0 : decide (t312 < 0) = true := decide_eq_true c9
    clear c9
    obtain rfl := Option.some.inj H
    go_enter Try.func7, Try.ntmps7
    go_wp2_with (first | ((with_reducible refine gate_dst (N := 3) rfl ?_); refine box_event ?hg (N := 3) ?hd (cs := #[.slice A0_0 l0_0.length c0_0, .slice A0_1 l0_1.length c0_1]) (t := 25) ?hr ?_; (case hd => rfl); (case hg => rfl); (case hr => first | (go_simp; done) | (go_simp; rfl)); intro gb311 hg w10 hbox hb; have n0_ := Aside0.mk (below_step t1_ hb); have n1_ := Aside0.mk (hbox); have n2_ := Aside0.mk ((by rw [hg]; exact (below_size t1_) : w.heap.size ≤ gb311)); have n3_ := Aside0.mk ((by rw [hg]; exact (below_size t1_) : w.heap.size ≤ gb311)); clear HB; have HB := n0_; have BK311 := n1_; have GW311 := n2_; have GE311 := n3_; clear n0_ n1_ n2_ n3_; clear hb hbox hg; have hcz11_0 : w10.cell? ⟨gb311, 0, none⟩ = some (.slice A0_0 l0_0.length c0_0) := (blk_cell BK311.out 0).trans rfl; have hcz11_1 : w10.cell? ⟨gb311, 1, none⟩ = some (.slice A0_1 l0_1.length c0_1) := (blk_cell BK311.out 1).trans rfl; have hfz11_0 := blk_frozen BK311.out 0; have hfz11_1 := blk_frozen BK311.out 1) | ((with_reducible refine gate_callee (f := 11) rfl ?_); refine goesL_ (some 28) rfl rfl Try.func11 t15_ rfl #[.agg #[.slice A0_0 l0_0.length c0_0, .slice A0_1 l0_1.length c0_1], .int .i64 1048576] rfl t2_ ?_; (with_reducible refine (laws_szNetwork.calls k _ _ l0_0 _ _ l0_1 1048576 t312 _ ?side1 ?side2 ?side3 ?side4 A8.out).mono ?_); (case side1 => repeat (first | exact (Kd.C_below HR0_0.out HB.out) | (with_reducible refine Kd.C_alloc ?_ _) | (with_reducible refine Kd.C_drewN ?_ _) | (with_reducible refine Kd.C_drew ?_))); (case side2 => exact HC0_0.out); (case side3 => repeat (first | exact (Kd.C_below HR0_1.out HB.out) | (with_reducible refine Kd.C_alloc ?_ _) | (with_reducible refine Kd.C_drewN ?_ _) | (with_reducible refine Kd.C_drew ?_))); (case side4 => exact HC0_1.out); rintro e w12 ⟨rfl, hb⟩; refine ⟨_, rfl, ?_⟩; have n0_ := Aside0.mk (blk_below (g := gb311) (o := .cells #[.slice A0_0 l0_0.length c0_0, .slice A0_1 l0_1.length c0_1] 25 (0, 0)) (q1_ BK311.out) hb); have n1_ := Aside0.mk (below_step t14_ hb); clear BK311; clear HB; have BK311 := n0_; have HB := n1_; clear n0_ n1_; (try clear hb); (try clear hb2); (try clear hk); (try clear hi)))
    go_ret
    exact ⟨t5_, t14_⟩
   ·rw [if_neg c9] at H
    have c9b0 : decide (t312 < 0) = false := decide_eq_false c9
    clear c9
    replace H := Option.bind_eq_some_iff.mp H
    obtain ⟨⟨t313, t316⟩, A130, H⟩ := H
    replace H : ((laws_toInt64S.f k l1).bind fun t319 => ((laws_toInt64S.f k l2).bind fun t322 => ((spec_ServedNodes.f k t313 t316 t319 t322).bind fun bt325 => ((laws_toNetwork.f k l0_0 l0_1).bind fun bt329 => ((laws_toInt64S.f k l1).bind fun t336 => ((laws_toInt64S.f k l2).bind fun t339 => ((impl_ServedNodes.f k bt329.1 bt329.2 t336 t339).bind fun bt342 => ((laws_eqInt64S.f k bt342.1 bt325.1).bind fun t346 => (if t346 = true then (laws_FnExactServedNodes.j0 k l1 l2 bt325.1 bt325.2 t336 t339 bt342.1 bt342.2 (bt342.2 != bt325.2) l0_0 l0_1 bt329.1 bt329.2) else (laws_FnExactServedNodes.j0 k l1 l2 bt325.1 bt325.2 t336 t339 bt342.1 bt342.2 true l0_0 l0_1 bt329.1 bt329.2)))))))))) = some r := H
    have A13 := Aside0.mk A130
    clear A130
    replace H := Option.bind_eq_some_iff.mp H
    obtain ⟨t319, A140, H⟩ := H
    replace H : ((laws_toInt64S.f k l2).bind fun t322 => ((spec_ServedNodes.f k t313 t316 t319 t322).bind fun bt325 => ((laws_toNetwork.f k l0_0 l0_1).bind fun bt329 => ((laws_toInt64S.f k l1).bind fun t336 => ((laws_toInt64S.f k l2).bind fun t339 => ((impl_ServedNodes.f k bt329.1 bt329.2 t336 t339).bind fun bt342 => ((laws_eqInt64S.f k bt342.1 bt325.1).bind fun t346 => (if t346 = true then (laws_FnExactServedNodes.j0 k l1 l2 bt325.1 bt325.2 t336 t339 bt342.1 bt342.2 (bt342.2 != bt325.2) l0_0 l0_1 bt329.1 bt329.2) else (laws_FnExactServedNodes.j0 k l1 l2 bt325.1 bt325.2 t336 t339 bt342.1 bt342.2 true l0_0 l0_1 bt329.1 bt329.2))))))))) = some r := H
    have A14 := Aside0.mk A140
    clear A140
    replace H := Option.bind_eq_some_iff.mp H
    obtain ⟨t322, A150, H⟩ := H
    replace H : ((spec_ServedNodes.f k t313 t316 t319 t322).bind fun bt325 => ((laws_toNetwork.f k l0_0 l0_1).bind fun bt329 => ((laws_toInt64S.f k l1).bind fun t336 => ((laws_toInt64S.f k l2).bind fun t339 => ((impl_ServedNodes.f k bt329.1 bt329.2 t336 t339).bind fun bt342 => ((laws_eqInt64S.f k bt342.1 bt325.1).bind fun t346 => (if t346 = true then (laws_FnExactServedNodes.j0 k l1 l2 bt325.1 bt325.2 t336 t339 bt342.1 bt342.2 (bt342.2 != bt325.2) l0_0 l0_1 bt329.1 bt329.2) else (laws_FnExactServedNodes.j0 k l1 l2 bt325.1 bt325.2 t336 t339 bt342.1 bt342.2 true l0_0 l0_1 bt329.1 bt329.2)))))))) = some r := H
    have A15 := Aside0.mk A150
    clear A150
    replace H := Option.bind_eq_some_iff.mp H
    obtain ⟨⟨t325, t328⟩, A160, H⟩ := H
    replace H : ((laws_toNetwork.f k l0_0 l0_1).bind fun bt329 => ((laws_toInt64S.f k l1).bind fun t336 => ((laws_toInt64S.f k l2).bind fun t339 => ((impl_ServedNodes.f k bt329.1 bt329.2 t336 t339).bind fun bt342 => ((laws_eqInt64S.f k bt342.1 t325).bind fun t346 => (if t346 = true then (laws_FnExactServedNodes.j0 k l1 l2 t325 t328 t336 t339 bt342.1 bt342.2 (bt342.2 != t328) l0_0 l0_1 bt329.1 bt329.2) else (laws_FnExactServedNodes.j0 k l1 l2 t325 t328 t336 t339 bt342.1 bt342.2 true l0_0 l0_1 bt329.1 bt329.2))))))) = some r := H
    have A16 := Aside0.mk A160
    clear A160
    replace H := Option.bind_eq_some_iff.mp H
    obtain ⟨⟨t329, t332⟩, A170, H⟩ := H
    replace H : ((laws_toInt64S.f k l1).bind fun t336 => ((laws_toInt64S.f k l2).bind fun t339 => ((impl_ServedNodes.f k t329 t332 t336 t339).bind fun bt342 => ((laws_eqInt64S.f k bt342.1 t325).bind fun t346 => (if t346 = true then (laws_FnExactServedNodes.j0 k l1 l2 t325 t328 t336 t339 bt342.1 bt342.2 (bt342.2 != t328) l0_0 l0_1 t329 t332) else (laws_FnExactServedNodes.j0 k l1 l2 t325 t328 t336 t339 bt342.1 bt342.2 true l0_0 l0_1 t329 t332)))))) = some r := H
    have A17 := Aside0.mk A170
    clear A170
    replace H := Option.bind_eq_some_iff.mp H
    obtain ⟨t336, A180, H⟩ := H
    replace H : ((laws_toInt64S.f k l2).bind fun t339 => ((impl_ServedNodes.f k t329 t332 t336 t339).bind fun bt342 => ((laws_eqInt64S.f k bt342.1 t325).bind fun t346 => (if t346 = true then (laws_FnExactServedNodes.j0 k l1 l2 t325 t328 t336 t339 bt342.1 bt342.2 (bt342.2 != t328) l0_0 l0_1 t329 t332) else (laws_FnExactServedNodes.j0 k l1 l2 t325 t328 t336 t339 bt342.1 bt342.2 true l0_0 l0_1 t329 t332))))) = some r := H
    have A18 := Aside0.mk A180
    clear A180
    replace H := Option.bind_eq_some_iff.mp H
    obtain ⟨t339, A190, H⟩ := H
    replace H : ((impl_ServedNodes.f k t329 t332 t336 t339).bind fun bt342 => ((laws_eqInt64S.f k bt342.1 t325).bind fun t346 => (if t346 = true then (laws_FnExactServedNodes.j0 k l1 l2 t325 t328 t336 t339 bt342.1 bt342.2 (bt342.2 != t328) l0_0 l0_1 t329 t332) else (laws_FnExactServedNodes.j0 k l1 l2 t325 t328 t336 t339 bt342.1 bt342.2 true l0_0 l0_1 t329 t332)))) = some r := H
    have A19 := Aside0.mk A190
    clear A190
    replace H := Option.bind_eq_some_iff.mp H
    obtain ⟨⟨t342, t345⟩, A200, H⟩ := H
    replace H : ((laws_eqInt64S.f k t342 t325).bind fun t346 => (if t346 = true then (laws_FnExactServedNodes.j0 k l1 l2 t325 t328 t336 t339 t342 t345 (t345 != t328) l0_0 l0_1 t329 t332) else (laws_FnExactServedNodes.j0 k l1 l2 t325 t328 t336 t339 t342 t345 true l0_0 l0_1 t329 t332))) = some r := H
    have A20 := Aside0.mk A200
    clear A200
    have HC21 := Aside0.mk H
    clear H
    go_enter Try.func7, Try.ntmps7
    go_upto_region 14 with (first | ((with_reducible refine gate_dst (N := 3) rfl ?_); refine box_event ?hg (N := 3) ?hd (cs := #[.slice A0_0 l0_0.length c0_0, .slice A0_1 l0_1.length c0_1]) (t := 25) ?hr ?_; (case hd => rfl); (case hg => rfl); (case hr => first | (go_simp; done) | (go_simp; rfl)); intro gb311 hg w22 hbox hb; have n0_ := Aside0.mk (below_step t1_ hb); have n1_ := Aside0.mk (hbox); have n2_ := Aside0.mk ((by rw [hg]; exact (below_size t1_) : w.heap.size ≤ gb311)); have n3_ := Aside0.mk ((by rw [hg]; exact (below_size t1_) : w.heap.size ≤ gb311)); clear HB; have HB := n0_; have BK311 := n1_; have GW311 := n2_; have GE311 := n3_; clear n0_ n1_ n2_ n3_; clear hb hbox hg; have hcz23_0 : w22.cell? ⟨gb311, 0, none⟩ = some (.slice A0_0 l0_0.length c0_0) := (blk_cell BK311.out 0).trans rfl; have hcz23_1 : w22.cell? ⟨gb311, 1, none⟩ = some (.slice A0_1 l0_1.length c0_1) := (blk_cell BK311.out 1).trans rfl; have hfz23_0 := blk_frozen BK311.out 0; have hfz23_1 := blk_frozen BK311.out 1) | ((with_reducible refine gate_callee (f := 11) rfl ?_); refine goesL_ (some 28) rfl rfl Try.func11 t15_ rfl #[.agg #[.slice A0_0 l0_0.length c0_0, .slice A0_1 l0_1.length c0_1], .int .i64 1048576] rfl t2_ ?_; (with_reducible refine (laws_szNetwork.calls k _ _ l0_0 _ _ l0_1 1048576 t312 _ ?side1 ?side2 ?side3 ?side4 A8.out).mono ?_); (case side1 => repeat (first | exact (Kd.C_below HR0_0.out HB.out) | (with_reducible refine Kd.C_alloc ?_ _) | (with_reducible refine Kd.C_drewN ?_ _) | (with_reducible refine Kd.C_drew ?_))); (case side2 => exact HC0_0.out); (case side3 => repeat (first | exact (Kd.C_below HR0_1.out HB.out) | (with_reducible refine Kd.C_alloc ?_ _) | (with_reducible refine Kd.C_drewN ?_ _) | (with_reducible refine Kd.C_drew ?_))); (case side4 => exact HC0_1.out); rintro e w24 ⟨rfl, hb⟩; refine ⟨_, rfl, ?_⟩; have n0_ := Aside0.mk (blk_below (g := gb311) (o := .cells #[.slice A0_0 l0_0.length c0_0, .slice A0_1 l0_1.length c0_1] 25 (0, 0)) (q1_ BK311.out) hb); have n1_ := Aside0.mk (below_step t14_ hb); clear BK311; clear HB; have BK311 := n0_; have HB := n1_; clear n0_ n1_; (try clear hb); (try clear hb2); (try clear hk); (try clear hi); have hcz25_0 : w24.cell? ⟨gb311, 0, none⟩ = some (.slice A0_0 l0_0.length c0_0) := (blk_cell BK311.out 0).trans rfl; have hcz25_1 : w24.cell? ⟨gb311, 1, none⟩ = some (.slice A0_1 l0_1.length c0_1) := (blk_cell BK311.out 1).trans rfl; have hfz25_0 := blk_frozen BK311.out 0; have hfz25_1 := blk_frozen BK311.out 1) | ((with_reducible refine gate_callee (f := 14) rfl ?_); refine goesL_ (some 33) rfl rfl Try.func14 t15_ rfl #[.agg #[.slice A0_0 l0_0.length c0_0, .slice A0_1 l0_1.length c0_1]] rfl t2_ ?_; (with_reducible refine (laws_toNetwork.calls k _ _ l0_0 _ _ l0_1 t313 t316 _ ?side1 ?side2 ?side3 ?side4 A13.out).mono ?_); (case side1 => repeat (first | exact (Kd.C_below HR0_0.out HB.out) | (with_reducible refine Kd.C_alloc ?_ _) | (with_reducible refine Kd.C_drewN ?_ _) | (with_reducible refine Kd.C_drew ?_))); (case side2 => exact HC0_0.out); (case side3 => repeat (first | exact (Kd.C_below HR0_1.out HB.out) | (with_reducible refine Kd.C_alloc ?_ _) | (with_reducible refine Kd.C_drewN ?_ _) | (with_reducible refine Kd.C_drew ?_))); (case side4 => exact HC0_1.out); rintro e w26 ⟨v314, v317, rfl, ho0, ho1, hb⟩; refine ⟨_, rfl, ?_⟩; have n0_ := Aside0.mk (Kd.R_lower ho0 (below_size t14_)); have n1_ := Aside0.mk (Kd.R_lower ho1 (below_size t14_)); have n2_ := Aside0.mk (blk_below (g := gb311) (o := .cells #[.slice A0_0 l0_0.length c0_0, .slice A0_1 l0_1.length c0_1] 25 (0, 0)) (q1_ BK311.out) hb); have n3_ := Aside0.mk (below_step t14_ hb); clear BK311; clear HB; have HO315 := n0_; have HO318 := n1_; have BK311 := n2_; have HB := n3_; clear n0_ n1_ n2_ n3_; (try clear hb); (try clear hb2); (try clear hk); (try clear hi); (try clear ho0); (try clear ho1)) | ((with_reducible refine gate_callee (f := 22) rfl ?_); refine goesL_ (some 35) rfl rfl Try.func22 t15_ rfl #[.slice A1 l1.length c1] rfl t2_ ?_; (with_reducible refine (laws_toInt64S.calls k _ _ l1 t319 _ ?side1 ?side2 A14.out).mono ?_); (case side1 => repeat (first | exact (Kd.C_below HR1.out HB.out) | (with_reducible refine Kd.C_alloc ?_ _) | (with_reducible refine Kd.C_drewN ?_ _) | (with_reducible refine Kd.C_drew ?_))); (case side2 => exact HC1.out); rintro e w27 ⟨v320, rfl, ho0, hb⟩; refine ⟨_, rfl, ?_⟩; have n0_ := Aside0.mk (Kd.R_elder' (q2_ HO315.out) (Kd.R_base ho0) hb); have n1_ := Aside0.mk (Kd.R_below (q2_ HO318.out) hb); have n2_ := Aside0.mk (Kd.R_lower (Kd.R_new' ho0 (Kd.R_lt (q2_ HO315.out))) (below_size t14_)); have n3_ := Aside0.mk (blk_below (g := gb311) (o := .cells #[.slice A0_0 l0_0.length c0_0, .slice A0_1 l0_1.length c0_1] 25 (0, 0)) (q1_ BK311.out) hb); have n4_ := Aside0.mk (below_step t14_ hb); clear HO315; clear HO318; clear BK311; clear HB; have HO315 := n0_; have HO318 := n1_; have HO321 := n2_; have BK311 := n3_; have HB := n4_; clear n0_ n1_ n2_ n3_ n4_; (try clear hb); (try clear hb2); (try clear hk); (try clear hi); (try clear ho0)) | ((with_reducible refine gate_callee (f := 22) rfl ?_); refine goesL_ (some 37) rfl rfl Try.func22 t15_ rfl #[.slice A2 l2.length c2] rfl t2_ ?_; (with_reducible refine (laws_toInt64S.calls k _ _ l2 t322 _ ?side1 ?side2 A15.out).mono ?_); (case side1 => repeat (first | exact (Kd.C_below HR2.out HB.out) | (with_reducible refine Kd.C_alloc ?_ _) | (with_reducible refine Kd.C_drewN ?_ _) | (with_reducible refine Kd.C_drew ?_))); (case side2 => exact HC2.out); rintro e w28 ⟨v323, rfl, ho0, hb⟩; refine ⟨_, rfl, ?_⟩; have n0_ := Aside0.mk (Kd.R_elder' (q2_ HO315.out) (Kd.R_base ho0) hb); have n1_ := Aside0.mk (Kd.R_below (q2_ HO318.out) hb); have n2_ := Aside0.mk (Kd.R_elder' (q2_ HO321.out) (Kd.R_base ho0) hb); have n3_ := Aside0.mk (Kd.R_lower (Kd.R_new' (Kd.R_new' ho0 (Kd.R_lt (q2_ HO315.out))) (Kd.R_lt (q2_ HO321.out))) (below_size t14_)); have n4_ := Aside0.mk (blk_below (g := gb311) (o := .cells #[.slice A0_0 l0_0.length c0_0, .slice A0_1 l0_1.length c0_1] 25 (0, 0)) (q1_ BK311.out) hb); have n5_ := Aside0.mk (below_step t14_ hb); clear HO315; clear HO318; clear HO321; clear BK311; clear HB; have HO315 := n0_; have HO318 := n1_; have HO321 := n2_; have HO324 := n3_; have BK311 := n4_; have HB := n5_; clear n0_ n1_ n2_ n3_ n4_ n5_; (try clear hb); (try clear hb2); (try clear hk); (try clear hi); (try clear ho0); obtain ⟨Ao29, co29, eo29⟩ := Kd.R_slice HO315.out; subst eo29; obtain ⟨Ao30, co30, eo30⟩ := Kd.R_slice HO318.out; subst eo30; obtain ⟨Ao31, co31, eo31⟩ := Kd.R_slice HO321.out; subst eo31; obtain ⟨Ao32, co32, eo32⟩ := Kd.R_slice HO324.out; subst eo32) | ((with_reducible refine gate_callee (f := 30) rfl ?_); refine goesL_ (some 38) rfl rfl Try.func30 t15_ rfl #[.agg #[.slice Ao29 t313.length co29, .slice Ao30 t316.length co30], .slice Ao31 t319.length co31, .slice Ao32 t322.length co32] rfl t2_ ?_; (with_reducible refine (spec_ServedNodes.calls k _ _ t313 _ _ t316 _ _ t319 _ _ t322 t325 t328 _ ?side1 ?side2 ?side3 ?side4 ?side5 ?side6 ?side7 ?side8 A16.out).mono ?_); (case side1 => repeat (first | exact (Kd.R_reads' HO315.out).2.2 | (with_reducible refine Kd.C_alloc ?_ _) | (with_reducible refine Kd.C_drewN ?_ _) | (with_reducible refine Kd.C_drew ?_))); (case side2 => exact (Kd.R_reads' HO315.out).2.1); (case side3 => repeat (first | exact (Kd.R_reads' HO318.out).2.2 | (with_reducible refine Kd.C_alloc ?_ _) | (with_reducible refine Kd.C_drewN ?_ _) | (with_reducible refine Kd.C_drew ?_))); (case side4 => exact (Kd.R_reads' HO318.out).2.1); (case side5 => repeat (first | exact (Kd.R_reads' HO321.out).2.2 | (with_reducible refine Kd.C_alloc ?_ _) | (with_reducible refine Kd.C_drewN ?_ _) | (with_reducible refine Kd.C_drew ?_))); (case side6 => exact (Kd.R_reads' HO321.out).2.1); (case side7 => repeat (first | exact (Kd.R_reads' HO324.out).2.2 | (with_reducible refine Kd.C_alloc ?_ _) | (with_reducible refine Kd.C_drewN ?_ _) | (with_reducible refine Kd.C_drew ?_))); (case side8 => exact (Kd.R_reads' HO324.out).2.1); rintro e w33 ⟨v326, rfl, ho0, hb⟩; refine ⟨_, rfl, ?_⟩; have n0_ := Aside0.mk (Kd.R_elder' (q2_ HO315.out) (Kd.R_base ho0) hb); have n1_ := Aside0.mk (Kd.R_below (q2_ HO318.out) hb); have n2_ := Aside0.mk (Kd.R_elder' (q2_ HO321.out) (Kd.R_base ho0) hb); have n3_ := Aside0.mk (Kd.R_elder' (q2_ HO324.out) (Kd.R_base ho0) hb); have n4_ := Aside0.mk (Kd.R_lower (Kd.R_new' (Kd.R_new' (Kd.R_new' ho0 (Kd.R_lt (q2_ HO315.out))) (Kd.R_lt (q2_ HO321.out))) (Kd.R_lt (q2_ HO324.out))) (below_size t14_)); have n5_ := Aside0.mk (blk_below (g := gb311) (o := .cells #[.slice A0_0 l0_0.length c0_0, .slice A0_1 l0_1.length c0_1] 25 (0, 0)) (q1_ BK311.out) hb); have n6_ := Aside0.mk (below_step t14_ hb); clear HO315; clear HO318; clear HO321; clear HO324; clear BK311; clear HB; have HO315 := n0_; have HO318 := n1_; have HO321 := n2_; have HO324 := n3_; have HO327 := n4_; have BK311 := n5_; have HB := n6_; clear n0_ n1_ n2_ n3_ n4_ n5_ n6_; (try clear hb); (try clear hb2); (try clear hk); (try clear hi); (try clear ho0); have hcz34_0 : w33.cell? ⟨gb311, 0, none⟩ = some (.slice A0_0 l0_0.length c0_0) := (blk_cell BK311.out 0).trans rfl; have hcz34_1 : w33.cell? ⟨gb311, 1, none⟩ = some (.slice A0_1 l0_1.length c0_1) := (blk_cell BK311.out 1).trans rfl; have hfz34_0 := blk_frozen BK311.out 0; have hfz34_1 := blk_frozen BK311.out 1) | ((with_reducible refine gate_callee (f := 14) rfl ?_); refine goesL_ (some 42) rfl rfl Try.func14 t15_ rfl #[.agg #[.slice A0_0 l0_0.length c0_0, .slice A0_1 l0_1.length c0_1]] rfl t2_ ?_; (with_reducible refine (laws_toNetwork.calls k _ _ l0_0 _ _ l0_1 t329 t332 _ ?side1 ?side2 ?side3 ?side4 A17.out).mono ?_); (case side1 => repeat (first | exact (Kd.C_below HR0_0.out HB.out) | (with_reducible refine Kd.C_alloc ?_ _) | (with_reducible refine Kd.C_drewN ?_ _) | (with_reducible refine Kd.C_drew ?_))); (case side2 => exact HC0_0.out); (case side3 => repeat (first | exact (Kd.C_below HR0_1.out HB.out) | (with_reducible refine Kd.C_alloc ?_ _) | (with_reducible refine Kd.C_drewN ?_ _) | (with_reducible refine Kd.C_drew ?_))); (case side4 => exact HC0_1.out); rintro e w35 ⟨v330, v333, rfl, ho0, ho1, hb⟩; refine ⟨_, rfl, ?_⟩; have n0_ := Aside0.mk (Kd.R_elder' (q2_ HO315.out) (Kd.R_base ho0) hb); have n1_ := Aside0.mk (Kd.R_elder' (q2_ HO318.out) (Kd.R_base ho1) hb); have n2_ := Aside0.mk (Kd.R_elder' (q2_ HO321.out) (Kd.R_base ho0) hb); have n3_ := Aside0.mk (Kd.R_elder' (q2_ HO324.out) (Kd.R_base ho0) hb); have n4_ := Aside0.mk (Kd.R_elder' (q2_ HO327.out) (Kd.R_base ho0) hb); have n5_ := Aside0.mk (Kd.R_lower (Kd.R_new' (Kd.R_new' (Kd.R_new' (Kd.R_new' ho0 (Kd.R_lt (q2_ HO315.out))) (Kd.R_lt (q2_ HO321.out))) (Kd.R_lt (q2_ HO324.out))) (Kd.R_lt (q2_ HO327.out))) (below_size t14_)); have n6_ := Aside0.mk (Kd.R_lower (Kd.R_new' ho1 (Kd.R_lt (q2_ HO318.out))) (below_size t14_)); have n7_ := Aside0.mk (blk_below (g := gb311) (o := .cells #[.slice A0_0 l0_0.length c0_0, .slice A0_1 l0_1.length c0_1] 25 (0, 0)) (q1_ BK311.out) hb); have n8_ := Aside0.mk (below_step t14_ hb); clear HO315; clear HO318; clear HO321; clear HO324; clear HO327; clear BK311; clear HB; have HO315 := n0_; have HO318 := n1_; have HO321 := n2_; have HO324 := n3_; have HO327 := n4_; have HO331 := n5_; have HO334 := n6_; have BK311 := n7_; have HB := n8_; clear n0_ n1_ n2_ n3_ n4_ n5_ n6_ n7_ n8_; (try clear hb); (try clear hb2); (try clear hk); (try clear hi); (try clear ho0); (try clear ho1)) | ((with_reducible refine gate_dst (N := 10) rfl ?_); refine box_event ?hg (N := 10) ?hd (cs := #[.slice none 0 0, .slice none 0 0]) (t := 32) ?hr ?_; (case hd => rfl); (case hg => rfl); (case hr => first | (go_simp; done) | (go_simp; rfl)); intro gb335 hg w36 hbox hb; have n0_ := Aside0.mk (Kd.R_below (q2_ HO315.out) hb); have n1_ := Aside0.mk (Kd.R_below (q2_ HO318.out) hb); have n2_ := Aside0.mk (Kd.R_below (q2_ HO321.out) hb); have n3_ := Aside0.mk (Kd.R_below (q2_ HO324.out) hb); have n4_ := Aside0.mk (Kd.R_below (q2_ HO327.out) hb); have n5_ := Aside0.mk (Kd.R_below (q2_ HO331.out) hb); have n6_ := Aside0.mk (Kd.R_below (q2_ HO334.out) hb); have n7_ := Aside0.mk (blk_below (g := gb311) (o := .cells #[.slice A0_0 l0_0.length c0_0, .slice A0_1 l0_1.length c0_1] 25 (0, 0)) (q1_ BK311.out) hb); have n8_ := Aside0.mk (below_step t14_ hb); have n9_ := Aside0.mk (hbox); have n10_ := Aside0.mk ((by rw [hg]; exact (below_size t14_) : w.heap.size ≤ gb335)); have n11_ := Aside0.mk ((by rw [hg]; exact (below_size t14_) : w.heap.size ≤ gb335)); have n12_ := Aside0.mk ((by rw [hg]; exact Nat.ne_of_lt (blk_lt (g := gb311) (o := .cells #[.slice A0_0 l0_0.length c0_0, .slice A0_1 l0_1.length c0_1] 25 (0, 0)) (q1_ BK311.out)) : gb311 ≠ gb335)); have n13_ := Aside0.mk ((by rw [hg]; exact Nat.ne_of_gt (blk_lt (g := gb311) (o := .cells #[.slice A0_0 l0_0.length c0_0, .slice A0_1 l0_1.length c0_1] 25 (0, 0)) (q1_ BK311.out)) : gb335 ≠ gb311)); clear HO315; clear HO318; clear HO321; clear HO324; clear HO327; clear HO331; clear HO334; clear BK311; clear HB; have HO315 := n0_; have HO318 := n1_; have HO321 := n2_; have HO324 := n3_; have HO327 := n4_; have HO331 := n5_; have HO334 := n6_; have BK311 := n7_; have HB := n8_; have BK335 := n9_; have GW335 := n10_; have GE335 := n11_; have NB311_335 := n12_; have NB335_311 := n13_; clear n0_ n1_ n2_ n3_ n4_ n5_ n6_ n7_ n8_ n9_ n10_ n11_ n12_ n13_; clear hb hbox hg; obtain ⟨Ao37, co37, eo37⟩ := Kd.R_slice HO331.out; subst eo37; have hnb38 := NB335_311.out; have hnc38 := NB311_335.out; have hcz39_0 : w36.cell? ⟨gb335, 0, none⟩ = some (.slice none 0 0) := (blk_cell BK335.out 0).trans rfl; have hcz39_1 : w36.cell? ⟨gb335, 1, none⟩ = some (.slice none 0 0) := (blk_cell BK335.out 1).trans rfl; have hfz39_0 := blk_frozen BK335.out 0; have hfz39_1 := blk_frozen BK335.out 1; obtain ⟨Ao40, co40, eo40⟩ := Kd.R_slice HO334.out; subst eo40) | ((with_reducible refine gate_callee (f := 22) rfl ?_); refine goesL_ (some 44) rfl rfl Try.func22 t15_ rfl #[.slice A1 l1.length c1] rfl t2_ ?_; (with_reducible refine (laws_toInt64S.calls k _ _ l1 t336 _ ?side1 ?side2 A18.out).mono ?_); (case side1 => exact Kd.C_below HR1.out t4_); (case side2 => exact HC1.out); rintro e w41 ⟨v337, rfl, ho0, hb⟩; refine ⟨_, rfl, ?_⟩; have n0_ := Aside0.mk (Kd.R_elder' t56_ (Kd.R_base ho0) hb); have n1_ := Aside0.mk (Kd.R_below (by (with_reducible repeat (first | apply Kd.R_alloc | apply Kd.R_drewN | apply Kd.R_drew)); exact (Kd.R_mono (Kd.R_far (p := ⟨gb335, 1, none⟩) (Kd.R_far (p := ⟨gb335, 0, none⟩) (Kd.R_types HO318.out BK335.out t33_) (fun _ hk => hk.2) (.slice Ao37 t329.length co37)) (fun _ hk => hk.2) (.slice Ao40 t332.length co40)) (fun _ h_ => h_.1))) hb); have n2_ := Aside0.mk (Kd.R_elder' t55_ (Kd.R_base ho0) hb); have n3_ := Aside0.mk (Kd.R_elder' t54_ (Kd.R_base ho0) hb); have n4_ := Aside0.mk (Kd.R_elder' t53_ (Kd.R_base ho0) hb); have n5_ := Aside0.mk (Kd.R_elder' t52_ (Kd.R_base ho0) hb); have n6_ := Aside0.mk (Kd.R_below (by (with_reducible repeat (first | apply Kd.R_alloc | apply Kd.R_drewN | apply Kd.R_drew)); exact (Kd.R_mono (Kd.R_far (p := ⟨gb335, 1, none⟩) (Kd.R_far (p := ⟨gb335, 0, none⟩) (Kd.R_types HO334.out BK335.out t33_) (fun _ hk => hk.2) (.slice Ao37 t329.length co37)) (fun _ hk => hk.2) (.slice Ao40 t332.length co40)) (fun _ h_ => h_.1))) hb); have n7_ := Aside0.mk (Kd.R_lower (Kd.R_new' (Kd.R_new' (Kd.R_new' (Kd.R_new' (Kd.R_new' ho0 (Kd.R_lt t56_)) (Kd.R_lt t55_)) (Kd.R_lt t54_)) (Kd.R_lt t53_)) (Kd.R_lt t52_)) (below_size t4_)); have n8_ := Aside0.mk (blk_below (g := gb311) (o := .cells #[.slice A0_0 l0_0.length c0_0, .slice A0_1 l0_1.length c0_1] 25 (0, 0)) (by (with_reducible repeat (first | refine blk_drewN ?_ _ | refine blk_drew ?_ | refine blk_alloc ?_ _)); refine blk_far ?_ NB311_335.out _; (with_reducible repeat (first | refine blk_drewN ?_ _ | refine blk_drew ?_ | refine blk_alloc ?_ _)); refine blk_far ?_ NB311_335.out _; (with_reducible repeat (first | refine blk_drewN ?_ _ | refine blk_drew ?_ | refine blk_alloc ?_ _)); exact BK311.out) hb); have n9_ := Aside0.mk (blk_below (g := gb335) (o := .cells #[.slice Ao37 t329.length co37, .slice Ao40 t332.length co40] 32 (0, 0)) (by (with_reducible repeat (first | refine blk_drewN ?_ _ | refine blk_drew ?_ | refine blk_alloc ?_ _)); refine blk_put (cs := #[.slice Ao37 t329.length co37, .slice none 0 0]) ?_ 1 _ rfl; (with_reducible repeat (first | refine blk_drewN ?_ _ | refine blk_drew ?_ | refine blk_alloc ?_ _)); refine blk_put (cs := #[.slice none 0 0, .slice none 0 0]) ?_ 0 _ rfl; (with_reducible repeat (first | refine blk_drewN ?_ _ | refine blk_drew ?_ | refine blk_alloc ?_ _)); exact BK335.out) hb); have n10_ := Aside0.mk (below_step t4_ hb); clear HO315; clear HO318; clear HO321; clear HO324; clear HO327; clear HO331; clear HO334; clear BK311; clear BK335; clear HB; have HO315 := n0_; have HO318 := n1_; have HO321 := n2_; have HO324 := n3_; have HO327 := n4_; have HO331 := n5_; have HO334 := n6_; have HO338 := n7_; have BK311 := n8_; have BK335 := n9_; have HB := n10_; clear n0_ n1_ n2_ n3_ n4_ n5_ n6_ n7_ n8_ n9_ n10_; (try clear hb); (try clear hb2); (try clear hk); (try clear hi); (try clear ho0)) | ((with_reducible refine gate_callee (f := 22) rfl ?_); refine goesL_ (some 46) rfl rfl Try.func22 t15_ rfl #[.slice A2 l2.length c2] rfl t2_ ?_; (with_reducible refine (laws_toInt64S.calls k _ _ l2 t339 _ ?side1 ?side2 A19.out).mono ?_); (case side1 => repeat (first | exact (Kd.C_below HR2.out HB.out) | (with_reducible refine Kd.C_alloc ?_ _) | (with_reducible refine Kd.C_drewN ?_ _) | (with_reducible refine Kd.C_drew ?_))); (case side2 => exact HC2.out); rintro e w42 ⟨v340, rfl, ho0, hb⟩; refine ⟨_, rfl, ?_⟩; have n0_ := Aside0.mk (Kd.R_elder' (q2_ HO315.out) (Kd.R_base ho0) hb); have n1_ := Aside0.mk (Kd.R_below (q2_ HO318.out) hb); have n2_ := Aside0.mk (Kd.R_elder' (q2_ HO321.out) (Kd.R_base ho0) hb); have n3_ := Aside0.mk (Kd.R_elder' (q2_ HO324.out) (Kd.R_base ho0) hb); have n4_ := Aside0.mk (Kd.R_elder' (q2_ HO327.out) (Kd.R_base ho0) hb); have n5_ := Aside0.mk (Kd.R_elder' (q2_ HO331.out) (Kd.R_base ho0) hb); have n6_ := Aside0.mk (Kd.R_below (q2_ HO334.out) hb); have n7_ := Aside0.mk (Kd.R_elder' (q2_ HO338.out) (Kd.R_base ho0) hb); have n8_ := Aside0.mk (Kd.R_lower (Kd.R_new' (Kd.R_new' (Kd.R_new' (Kd.R_new' (Kd.R_new' (Kd.R_new' ho0 (Kd.R_lt (q2_ HO315.out))) (Kd.R_lt (q2_ HO321.out))) (Kd.R_lt (q2_ HO324.out))) (Kd.R_lt (q2_ HO327.out))) (Kd.R_lt (q2_ HO331.out))) (Kd.R_lt (q2_ HO338.out))) (below_size t4_)); have n9_ := Aside0.mk (blk_below (g := gb311) (o := .cells #[.slice A0_0 l0_0.length c0_0, .slice A0_1 l0_1.length c0_1] 25 (0, 0)) (q1_ BK311.out) hb); have n10_ := Aside0.mk (blk_below (g := gb335) (o := .cells #[.slice Ao37 t329.length co37, .slice Ao40 t332.length co40] 32 (0, 0)) (q1_ BK335.out) hb); have n11_ := Aside0.mk (below_step t4_ hb); clear HO315; clear HO318; clear HO321; clear HO324; clear HO327; clear HO331; clear HO334; clear HO338; clear BK311; clear BK335; clear HB; have HO315 := n0_; have HO318 := n1_; have HO321 := n2_; have HO324 := n3_; have HO327 := n4_; have HO331 := n5_; have HO334 := n6_; have HO338 := n7_; have HO341 := n8_; have BK311 := n9_; have BK335 := n10_; have HB := n11_; clear n0_ n1_ n2_ n3_ n4_ n5_ n6_ n7_ n8_ n9_ n10_ n11_; (try clear hb); (try clear hb2); (try clear hk); (try clear hi); (try clear ho0); have hcz43_0 : w42.cell? ⟨gb335, 0, none⟩ = some (.slice Ao37 t329.length co37) := (blk_cell BK335.out 0).trans rfl; have hcz43_1 : w42.cell? ⟨gb335, 1, none⟩ = some (.slice Ao40 t332.length co40) := (blk_cell BK335.out 1).trans rfl; have hfz43_0 := blk_frozen BK335.out 0; have hfz43_1 := blk_frozen BK335.out 1; obtain ⟨Ao44, co44, eo44⟩ := Kd.R_slice HO338.out; subst eo44; obtain ⟨Ao45, co45, eo45⟩ := Kd.R_slice HO341.out; subst eo45) | ((with_reducible refine gate_callee (f := 31) rfl ?_); refine goesL_ (some 51) rfl rfl Try.func31 t15_ rfl #[.agg #[.slice Ao37 t329.length co37, .slice Ao40 t332.length co40], .slice Ao44 t336.length co44, .slice Ao45 t339.length co45] rfl t2_ ?_; (with_reducible refine (impl_ServedNodes.calls k _ _ t329 _ _ t332 _ _ t336 _ _ t339 t342 t345 _ ?side1 ?side2 ?side3 ?side4 ?side5 ?side6 ?side7 ?side8 A20.out).mono ?_); (case side1 => repeat (first | exact (Kd.R_reads' HO331.out).2.2 | (with_reducible refine Kd.C_alloc ?_ _) | (with_reducible refine Kd.C_drewN ?_ _) | (with_reducible refine Kd.C_drew ?_))); (case side2 => exact (Kd.R_reads' HO331.out).2.1); (case side3 => repeat (first | exact (Kd.R_reads' HO334.out).2.2 | (with_reducible refine Kd.C_alloc ?_ _) | (with_reducible refine Kd.C_drewN ?_ _) | (with_reducible refine Kd.C_drew ?_))); (case side4 => exact (Kd.R_reads' HO334.out).2.1); (case side5 => repeat (first | exact (Kd.R_reads' HO338.out).2.2 | (with_reducible refine Kd.C_alloc ?_ _) | (with_reducible refine Kd.C_drewN ?_ _) | (with_reducible refine Kd.C_drew ?_))); (case side6 => exact (Kd.R_reads' HO338.out).2.1); (case side7 => repeat (first | exact (Kd.R_reads' HO341.out).2.2 | (with_reducible refine Kd.C_alloc ?_ _) | (with_reducible refine Kd.C_drewN ?_ _) | (with_reducible refine Kd.C_drew ?_))); (case side8 => exact (Kd.R_reads' HO341.out).2.1); rintro e w46 ⟨v343, rfl, ho0, hb⟩; refine ⟨_, rfl, ?_⟩; have n0_ := Aside0.mk (Kd.R_elder' (q2_ HO315.out) (Kd.R_base ho0) hb); have n1_ := Aside0.mk (Kd.R_below (q2_ HO318.out) hb); have n2_ := Aside0.mk (Kd.R_elder' (q2_ HO321.out) (Kd.R_base ho0) hb); have n3_ := Aside0.mk (Kd.R_elder' (q2_ HO324.out) (Kd.R_base ho0) hb); have n4_ := Aside0.mk (Kd.R_elder' (q2_ HO327.out) (Kd.R_base ho0) hb); have n5_ := Aside0.mk (Kd.R_elder' (q2_ HO331.out) (Kd.R_base ho0) hb); have n6_ := Aside0.mk (Kd.R_below (q2_ HO334.out) hb); have n7_ := Aside0.mk (Kd.R_elder' (q2_ HO338.out) (Kd.R_base ho0) hb); have n8_ := Aside0.mk (Kd.R_elder' (q2_ HO341.out) (Kd.R_base ho0) hb); have n9_ := Aside0.mk (Kd.R_lower (Kd.R_new' (Kd.R_new' (Kd.R_new' (Kd.R_new' (Kd.R_new' (Kd.R_new' (Kd.R_new' ho0 (Kd.R_lt (q2_ HO315.out))) (Kd.R_lt (q2_ HO321.out))) (Kd.R_lt (q2_ HO324.out))) (Kd.R_lt (q2_ HO327.out))) (Kd.R_lt (q2_ HO331.out))) (Kd.R_lt (q2_ HO338.out))) (Kd.R_lt (q2_ HO341.out))) (below_size t4_)); have n10_ := Aside0.mk (blk_below (g := gb311) (o := .cells #[.slice A0_0 l0_0.length c0_0, .slice A0_1 l0_1.length c0_1] 25 (0, 0)) (q1_ BK311.out) hb); have n11_ := Aside0.mk (blk_below (g := gb335) (o := .cells #[.slice Ao37 t329.length co37, .slice Ao40 t332.length co40] 32 (0, 0)) (q1_ BK335.out) hb); have n12_ := Aside0.mk (below_step t4_ hb); clear HO315; clear HO318; clear HO321; clear HO324; clear HO327; clear HO331; clear HO334; clear HO338; clear HO341; clear BK311; clear BK335; clear HB; have HO315 := n0_; have HO318 := n1_; have HO321 := n2_; have HO324 := n3_; have HO327 := n4_; have HO331 := n5_; have HO334 := n6_; have HO338 := n7_; have HO341 := n8_; have HO344 := n9_; have BK311 := n10_; have BK335 := n11_; have HB := n12_; clear n0_ n1_ n2_ n3_ n4_ n5_ n6_ n7_ n8_ n9_ n10_ n11_ n12_; (try clear hb); (try clear hb2); (try clear hk); (try clear hi); (try clear ho0)))
    (try simp only [Act.put, List.setIfInBounds_toArray, List.set_cons_zero, List.set_cons_succ])
    go_cut [62] (fun v62 wc => ∃ (kq : Nat) (x62_20 : Bool), v62 = .bool x62_20 ∧ Aside0 (laws_FnExactServedNodes.j0 kq l1 l2 t325 t328 t336 t339 t342 t345 x62_20 l0_0 l0_1 t329 t332 = some r) ∧ Aside0 (kq ≤ k) ∧ Aside0 (Kd.R (Kd.int .i64) 2 wc w.heap.size (fun k_ => some k_ ≠ ((.slice Ao44 t336.length co44) : Value).ownBlock ∧ some k_ ≠ ((.slice Ao45 t339.length co45) : Value).ownBlock ∧ some k_ ≠ (v343 : Value).ownBlock ∧ some k_ ≠ ((.slice Ao37 t329.length co37) : Value).ownBlock) v326 t325) ∧ Aside0 (Kd.R (Kd.int .i64) 2 wc w.heap.size (fun k_ => some k_ ≠ (v326 : Value).ownBlock ∧ some k_ ≠ ((.slice Ao45 t339.length co45) : Value).ownBlock ∧ some k_ ≠ (v343 : Value).ownBlock ∧ some k_ ≠ ((.slice Ao37 t329.length co37) : Value).ownBlock) (.slice Ao44 t336.length co44) t336) ∧ Aside0 (Kd.R (Kd.int .i64) 2 wc w.heap.size (fun k_ => some k_ ≠ (v326 : Value).ownBlock ∧ some k_ ≠ ((.slice Ao44 t336.length co44) : Value).ownBlock ∧ some k_ ≠ (v343 : Value).ownBlock ∧ some k_ ≠ ((.slice Ao37 t329.length co37) : Value).ownBlock) (.slice Ao45 t339.length co45) t339) ∧ Aside0 (Kd.R (Kd.int .i64) 2 wc w.heap.size (fun k_ => some k_ ≠ (v326 : Value).ownBlock ∧ some k_ ≠ ((.slice Ao44 t336.length co44) : Value).ownBlock ∧ some k_ ≠ ((.slice Ao45 t339.length co45) : Value).ownBlock ∧ some k_ ≠ ((.slice Ao37 t329.length co37) : Value).ownBlock) v343 t342) ∧ Aside0 (Kd.R (Kd.int .i64) 2 wc w.heap.size (fun k_ => some k_ ≠ (v326 : Value).ownBlock ∧ some k_ ≠ ((.slice Ao44 t336.length co44) : Value).ownBlock ∧ some k_ ≠ ((.slice Ao45 t339.length co45) : Value).ownBlock ∧ some k_ ≠ (v343 : Value).ownBlock) (.slice Ao37 t329.length co37) t329) ∧ Aside0 (Kd.R k80 80 wc w.heap.size (fun _ => True) (.slice Ao40 t332.length co40) t332) ∧ Aside0 (wc.heap[gb311]? = some (.cells #[(.slice A0_0 l0_0.length c0_0), (.slice A0_1 l0_1.length c0_1)] 25 (0, 0))) ∧ Aside0 (wc.heap[gb335]? = some (.cells #[(.slice Ao37 t329.length co37), (.slice Ao40 t332.length co40)] 32 (0, 0))) ∧ Aside0 (Below w.heap.size w wc))
    case first =>
     have H := HC21.out
     clear HC21
     replace H := Option.bind_eq_some_iff.mp H
     obtain ⟨t346, A470, H⟩ := H
     replace H : (if t346 = true then (laws_FnExactServedNodes.j0 k l1 l2 t325 t328 t336 t339 t342 t345 (t345 != t328) l0_0 l0_1 t329 t332) else (laws_FnExactServedNodes.j0 k l1 l2 t325 t328 t336 t339 t342 t345 true l0_0 l0_1 t329 t332)) = some r := H
     have A47 := Aside0.mk A470
     clear A470
     by_cases c48 : t346 = true
     ·subst c48
      have H1 : (laws_FnExactServedNodes.j0 k l1 l2 t325 t328 t336 t339 t342 t345 (t345 != t328) l0_0 l0_1 t329 t332) = some r := by rw [if_pos rfl] at H; exact H
      clear H
      have H := H1
      clear H1
      have H' := Aside0.mk H
      clear H
      obtain ⟨Ao49, co49, eo49⟩ := Kd.R_slice HO344.out
      subst eo49
      obtain ⟨Ao50, co50, eo50⟩ := Kd.R_slice HO327.out
      subst eo50
      go_wp2_with (first | ((with_reducible refine gate_callee (f := 24) rfl ?_); refine goesL_ (some 56) rfl rfl Try.func24 t15_ rfl #[.slice Ao49 t342.length co49, .slice Ao50 t325.length co50] rfl t2_ ?_; (with_reducible refine (laws_eqInt64S.calls k _ _ t342 _ _ t325 true _ ?side1 ?side2 ?side3 ?side4 A47.out).mono ?_); (case side1 => repeat (first | exact (Kd.R_reads' HO344.out).2.2 | (with_reducible refine Kd.C_alloc ?_ _) | (with_reducible refine Kd.C_drewN ?_ _) | (with_reducible refine Kd.C_drew ?_))); (case side2 => exact (Kd.R_reads' HO344.out).2.1); (case side3 => repeat (first | exact (Kd.R_reads' HO327.out).2.2 | (with_reducible refine Kd.C_alloc ?_ _) | (with_reducible refine Kd.C_drewN ?_ _) | (with_reducible refine Kd.C_drew ?_))); (case side4 => exact (Kd.R_reads' HO327.out).2.1); rintro e w' ⟨rfl, ⟨nd, rfl⟩⟩; refine ⟨_, rfl, ?_⟩))
      go_meet
      case rel => exact ⟨_, ((t345 != t328)), t7_, H', ⟨t39_⟩, ⟨(by (with_reducible repeat (first | apply Kd.R_alloc | apply Kd.R_drewN | apply Kd.R_drew)); exact Kd.R_mono HO327.out (fun _ hk => ⟨hk.1.1.2, ⟨hk.1.2, ⟨hk.2, hk.1.1.1.2⟩⟩⟩))⟩, ⟨(by (with_reducible repeat (first | apply Kd.R_alloc | apply Kd.R_drewN | apply Kd.R_drew)); exact Kd.R_mono HO338.out (fun _ hk => ⟨hk.1.1.1.2, ⟨hk.1.2, ⟨hk.2, hk.1.1.2⟩⟩⟩))⟩, ⟨(by (with_reducible repeat (first | apply Kd.R_alloc | apply Kd.R_drewN | apply Kd.R_drew)); exact Kd.R_mono HO341.out (fun _ hk => ⟨hk.1.1.1.2, ⟨hk.1.2, ⟨hk.2, hk.1.1.2⟩⟩⟩))⟩, ⟨(by (with_reducible repeat (first | apply Kd.R_alloc | apply Kd.R_drewN | apply Kd.R_drew)); exact Kd.R_mono HO344.out (fun _ hk => ⟨hk.1.1.1.2, ⟨hk.1.2, ⟨hk.2, hk.1.1.2⟩⟩⟩))⟩, ⟨(by (with_reducible repeat (first | apply Kd.R_alloc | apply Kd.R_drewN | apply Kd.R_drew)); exact Kd.R_mono HO331.out (fun _ hk => ⟨hk.1.1.1.2, ⟨hk.1.1.2, ⟨hk.1.2, hk.2⟩⟩⟩))⟩, ⟨(by (with_reducible repeat (first | apply Kd.R_alloc | apply Kd.R_drewN | apply Kd.R_drew)); exact Kd.R_mono HO334.out (fun _ hk => trivial))⟩, ⟨t45_⟩, ⟨t44_⟩, ⟨t4_⟩⟩
     ·replace c48 := Bool.eq_false_iff.mpr c48
      subst c48
      have H1 : (laws_FnExactServedNodes.j0 k l1 l2 t325 t328 t336 t339 t342 t345 true l0_0 l0_1 t329 t332) = some r := by rw [if_neg (show ¬ (false = true) by decide)] at H; exact H
      clear H
      have H := H1
      clear H1
      have H' := Aside0.mk H
      clear H
      obtain ⟨Ao51, co51, eo51⟩ := Kd.R_slice HO344.out
      subst eo51
      obtain ⟨Ao52, co52, eo52⟩ := Kd.R_slice HO327.out
      subst eo52
      go_wp2_with (first | ((with_reducible refine gate_callee (f := 24) rfl ?_); refine goesL_ (some 56) rfl rfl Try.func24 t15_ rfl #[.slice Ao51 t342.length co51, .slice Ao52 t325.length co52] rfl t2_ ?_; (with_reducible refine (laws_eqInt64S.calls k _ _ t342 _ _ t325 false _ ?side1 ?side2 ?side3 ?side4 A47.out).mono ?_); (case side1 => repeat (first | exact (Kd.R_reads' HO344.out).2.2 | (with_reducible refine Kd.C_alloc ?_ _) | (with_reducible refine Kd.C_drewN ?_ _) | (with_reducible refine Kd.C_drew ?_))); (case side2 => exact (Kd.R_reads' HO344.out).2.1); (case side3 => repeat (first | exact (Kd.R_reads' HO327.out).2.2 | (with_reducible refine Kd.C_alloc ?_ _) | (with_reducible refine Kd.C_drewN ?_ _) | (with_reducible refine Kd.C_drew ?_))); (case side4 => exact (Kd.R_reads' HO327.out).2.1); rintro e w' ⟨rfl, ⟨nd, rfl⟩⟩; refine ⟨_, rfl, ?_⟩))
      go_meet
      case rel => exact ⟨_, (true), t7_, H', ⟨t39_⟩, ⟨(by (with_reducible repeat (first | apply Kd.R_alloc | apply Kd.R_drewN | apply Kd.R_drew)); exact Kd.R_mono HO327.out (fun _ hk => ⟨hk.1.1.2, ⟨hk.1.2, ⟨hk.2, hk.1.1.1.2⟩⟩⟩))⟩, ⟨(by (with_reducible repeat (first | apply Kd.R_alloc | apply Kd.R_drewN | apply Kd.R_drew)); exact Kd.R_mono HO338.out (fun _ hk => ⟨hk.1.1.1.2, ⟨hk.1.2, ⟨hk.2, hk.1.1.2⟩⟩⟩))⟩, ⟨(by (with_reducible repeat (first | apply Kd.R_alloc | apply Kd.R_drewN | apply Kd.R_drew)); exact Kd.R_mono HO341.out (fun _ hk => ⟨hk.1.1.1.2, ⟨hk.1.2, ⟨hk.2, hk.1.1.2⟩⟩⟩))⟩, ⟨(by (with_reducible repeat (first | apply Kd.R_alloc | apply Kd.R_drewN | apply Kd.R_drew)); exact Kd.R_mono HO344.out (fun _ hk => ⟨hk.1.1.1.2, ⟨hk.1.2, ⟨hk.2, hk.1.1.2⟩⟩⟩))⟩, ⟨(by (with_reducible repeat (first | apply Kd.R_alloc | apply Kd.R_drewN | apply Kd.R_drew)); exact Kd.R_mono HO331.out (fun _ hk => ⟨hk.1.1.1.2, ⟨hk.1.1.2, ⟨hk.1.2, hk.2⟩⟩⟩))⟩, ⟨(by (with_reducible repeat (first | apply Kd.R_alloc | apply Kd.R_drewN | apply Kd.R_drew)); exact Kd.R_mono HO334.out (fun _ hk => trivial))⟩, ⟨t45_⟩, ⟨t44_⟩, ⟨t4_⟩⟩
    case rest =>
     clear HC21
     try clear c1
     try clear c2
     try clear p2
     try clear c3
     try clear c4
     try clear c4b0
     try clear c4b1
     try clear c6
     try clear c6b0
     try clear c6b1
     try clear c7
     try clear c9
     try clear c9b0
     try clear c11
     try clear c14
     try clear c22
     try clear c24
     try clear c30
     try clear c31
     try clear c38
     try clear c48
     try clear hcz11_0
     try clear hcz11_1
     try clear hcz23_0
     try clear hcz23_1
     try clear hcz25_0
     try clear hcz25_1
     try clear hcz34_0
     try clear hcz34_1
     try clear hcz39_0
     try clear hcz39_1
     try clear hcz43_0
     try clear hcz43_1
     try clear hfz11_0
     try clear hfz11_1
     try clear hfz23_0
     try clear hfz23_1
     try clear hfz25_0
     try clear hfz25_1
     try clear hfz34_0
     try clear hfz34_1
     try clear hfz39_0
     try clear hfz39_1
     try clear hfz43_0
     try clear hfz43_1
     obtain ⟨kq, x62_20, rfl, HA, HJ20, HO_8, HO_11, HO_12, HO_13, HO_336000, HO_336001, BK311, BK335, HB⟩ := hcut
     cases kq with
     | zero => exact absurd HA.out (by simp [laws_FnExactServedNodes.j0])
     | succ kj20 =>
      have H := HA.out
      clear HA
      simp only [laws_FnExactServedNodes.j0] at H
      by_cases c53 : x62_20 = true
      ·subst c53
       have H1 : (some false) = some r := by rw [if_pos rfl] at H; exact H
       clear H
       have H := H1
       clear H1
       obtain rfl := Option.some.inj H
       go_wp2
       go_ret
       exact ⟨t5_, t4_⟩
      ·replace c53 := Bool.eq_false_iff.mpr c53
       subst c53
       have H1 : ((laws_toNetwork.f kj20 l0_0 l0_1).bind fun bt347 => ((laws_eqNetwork.f kj20 t329 t332 bt347.1 bt347.2).bind fun t353 => (if t353 = true then ((laws_toInt64S.f kj20 l1).bind fun t354 => ((laws_eqInt64S.f kj20 t336 t354).bind fun t357 => (if t357 = true then ((laws_toInt64S.f kj20 l2).bind fun t358 => ((laws_eqInt64S.f kj20 t339 t358).bind fun t361 => (if t361 = true then ((laws_markNetwork.f kj20 t329 t332 1).bind fun bt362 => ((laws_markInt64S.f kj20 t336 bt362.1).bind fun bt365 => ((laws_markInt64S.f kj20 t339 bt365.1).bind fun bt367 => (if bt367.1 < 0 then (laws_FnExactServedNodes.j1 kj20 l1 l2 t325 t328 t342 true l0_0 l0_1) else ((laws_eqInt64S.f kj20 t342 t325).bind fun t369 => (if t369 = true then (laws_FnExactServedNodes.j1 kj20 l1 l2 t325 t328 t342 (t345 != t328) l0_0 l0_1) else (laws_FnExactServedNodes.j1 kj20 l1 l2 t325 t328 t342 true l0_0 l0_1))))))) else (some false)))) else (some false)))) else (some false)))) = some r := by rw [if_neg (show ¬ (false = true) by decide)] at H; exact H
       clear H
       have H := H1
       clear H1
       replace H := Option.bind_eq_some_iff.mp H
       obtain ⟨⟨t347, t350⟩, A540, H⟩ := H
       replace H : ((laws_eqNetwork.f kj20 t329 t332 t347 t350).bind fun t353 => (if t353 = true then ((laws_toInt64S.f kj20 l1).bind fun t354 => ((laws_eqInt64S.f kj20 t336 t354).bind fun t357 => (if t357 = true then ((laws_toInt64S.f kj20 l2).bind fun t358 => ((laws_eqInt64S.f kj20 t339 t358).bind fun t361 => (if t361 = true then ((laws_markNetwork.f kj20 t329 t332 1).bind fun bt362 => ((laws_markInt64S.f kj20 t336 bt362.1).bind fun bt365 => ((laws_markInt64S.f kj20 t339 bt365.1).bind fun bt367 => (if bt367.1 < 0 then (laws_FnExactServedNodes.j1 kj20 l1 l2 t325 t328 t342 true l0_0 l0_1) else ((laws_eqInt64S.f kj20 t342 t325).bind fun t369 => (if t369 = true then (laws_FnExactServedNodes.j1 kj20 l1 l2 t325 t328 t342 (t345 != t328) l0_0 l0_1) else (laws_FnExactServedNodes.j1 kj20 l1 l2 t325 t328 t342 true l0_0 l0_1))))))) else (some false)))) else (some false)))) else (some false))) = some r := H
       have A54 := Aside0.mk A540
       clear A540
       replace H := Option.bind_eq_some_iff.mp H
       obtain ⟨t353, A550, H⟩ := H
       replace H : (if t353 = true then ((laws_toInt64S.f kj20 l1).bind fun t354 => ((laws_eqInt64S.f kj20 t336 t354).bind fun t357 => (if t357 = true then ((laws_toInt64S.f kj20 l2).bind fun t358 => ((laws_eqInt64S.f kj20 t339 t358).bind fun t361 => (if t361 = true then ((laws_markNetwork.f kj20 t329 t332 1).bind fun bt362 => ((laws_markInt64S.f kj20 t336 bt362.1).bind fun bt365 => ((laws_markInt64S.f kj20 t339 bt365.1).bind fun bt367 => (if bt367.1 < 0 then (laws_FnExactServedNodes.j1 kj20 l1 l2 t325 t328 t342 true l0_0 l0_1) else ((laws_eqInt64S.f kj20 t342 t325).bind fun t369 => (if t369 = true then (laws_FnExactServedNodes.j1 kj20 l1 l2 t325 t328 t342 (t345 != t328) l0_0 l0_1) else (laws_FnExactServedNodes.j1 kj20 l1 l2 t325 t328 t342 true l0_0 l0_1))))))) else (some false)))) else (some false)))) else (some false)) = some r := H
       have A55 := Aside0.mk A550
       clear A550
       by_cases c56 : t353 = true
       ·subst c56
        have H1 : ((laws_toInt64S.f kj20 l1).bind fun t354 => ((laws_eqInt64S.f kj20 t336 t354).bind fun t357 => (if t357 = true then ((laws_toInt64S.f kj20 l2).bind fun t358 => ((laws_eqInt64S.f kj20 t339 t358).bind fun t361 => (if t361 = true then ((laws_markNetwork.f kj20 t329 t332 1).bind fun bt362 => ((laws_markInt64S.f kj20 t336 bt362.1).bind fun bt365 => ((laws_markInt64S.f kj20 t339 bt365.1).bind fun bt367 => (if bt367.1 < 0 then (laws_FnExactServedNodes.j1 kj20 l1 l2 t325 t328 t342 true l0_0 l0_1) else ((laws_eqInt64S.f kj20 t342 t325).bind fun t369 => (if t369 = true then (laws_FnExactServedNodes.j1 kj20 l1 l2 t325 t328 t342 (t345 != t328) l0_0 l0_1) else (laws_FnExactServedNodes.j1 kj20 l1 l2 t325 t328 t342 true l0_0 l0_1))))))) else (some false)))) else (some false)))) = some r := by rw [if_pos rfl] at H; exact H
        clear H
        have H := H1
        clear H1
        replace H := Option.bind_eq_some_iff.mp H
        obtain ⟨t354, A570, H⟩ := H
        replace H : ((laws_eqInt64S.f kj20 t336 t354).bind fun t357 => (if t357 = true then ((laws_toInt64S.f kj20 l2).bind fun t358 => ((laws_eqInt64S.f kj20 t339 t358).bind fun t361 => (if t361 = true then ((laws_markNetwork.f kj20 t329 t332 1).bind fun bt362 => ((laws_markInt64S.f kj20 t336 bt362.1).bind fun bt365 => ((laws_markInt64S.f kj20 t339 bt365.1).bind fun bt367 => (if bt367.1 < 0 then (laws_FnExactServedNodes.j1 kj20 l1 l2 t325 t328 t342 true l0_0 l0_1) else ((laws_eqInt64S.f kj20 t342 t325).bind fun t369 => (if t369 = true then (laws_FnExactServedNodes.j1 kj20 l1 l2 t325 t328 t342 (t345 != t328) l0_0 l0_1) else (laws_FnExactServedNodes.j1 kj20 l1 l2 t325 t328 t342 true l0_0 l0_1))))))) else (some false)))) else (some false))) = some r := H
        have A57 := Aside0.mk A570
        clear A570
        replace H := Option.bind_eq_some_iff.mp H
        obtain ⟨t357, A580, H⟩ := H
        replace H : (if t357 = true then ((laws_toInt64S.f kj20 l2).bind fun t358 => ((laws_eqInt64S.f kj20 t339 t358).bind fun t361 => (if t361 = true then ((laws_markNetwork.f kj20 t329 t332 1).bind fun bt362 => ((laws_markInt64S.f kj20 t336 bt362.1).bind fun bt365 => ((laws_markInt64S.f kj20 t339 bt365.1).bind fun bt367 => (if bt367.1 < 0 then (laws_FnExactServedNodes.j1 kj20 l1 l2 t325 t328 t342 true l0_0 l0_1) else ((laws_eqInt64S.f kj20 t342 t325).bind fun t369 => (if t369 = true then (laws_FnExactServedNodes.j1 kj20 l1 l2 t325 t328 t342 (t345 != t328) l0_0 l0_1) else (laws_FnExactServedNodes.j1 kj20 l1 l2 t325 t328 t342 true l0_0 l0_1))))))) else (some false)))) else (some false)) = some r := H
        have A58 := Aside0.mk A580
        clear A580
        by_cases c59 : t357 = true
        ·subst c59
         have H1 : ((laws_toInt64S.f kj20 l2).bind fun t358 => ((laws_eqInt64S.f kj20 t339 t358).bind fun t361 => (if t361 = true then ((laws_markNetwork.f kj20 t329 t332 1).bind fun bt362 => ((laws_markInt64S.f kj20 t336 bt362.1).bind fun bt365 => ((laws_markInt64S.f kj20 t339 bt365.1).bind fun bt367 => (if bt367.1 < 0 then (laws_FnExactServedNodes.j1 kj20 l1 l2 t325 t328 t342 true l0_0 l0_1) else ((laws_eqInt64S.f kj20 t342 t325).bind fun t369 => (if t369 = true then (laws_FnExactServedNodes.j1 kj20 l1 l2 t325 t328 t342 (t345 != t328) l0_0 l0_1) else (laws_FnExactServedNodes.j1 kj20 l1 l2 t325 t328 t342 true l0_0 l0_1))))))) else (some false)))) = some r := by rw [if_pos rfl] at H; exact H
         clear H
         have H := H1
         clear H1
         replace H := Option.bind_eq_some_iff.mp H
         obtain ⟨t358, A600, H⟩ := H
         replace H : ((laws_eqInt64S.f kj20 t339 t358).bind fun t361 => (if t361 = true then ((laws_markNetwork.f kj20 t329 t332 1).bind fun bt362 => ((laws_markInt64S.f kj20 t336 bt362.1).bind fun bt365 => ((laws_markInt64S.f kj20 t339 bt365.1).bind fun bt367 => (if bt367.1 < 0 then (laws_FnExactServedNodes.j1 kj20 l1 l2 t325 t328 t342 true l0_0 l0_1) else ((laws_eqInt64S.f kj20 t342 t325).bind fun t369 => (if t369 = true then (laws_FnExactServedNodes.j1 kj20 l1 l2 t325 t328 t342 (t345 != t328) l0_0 l0_1) else (laws_FnExactServedNodes.j1 kj20 l1 l2 t325 t328 t342 true l0_0 l0_1))))))) else (some false))) = some r := H
         have A60 := Aside0.mk A600
         clear A600
         replace H := Option.bind_eq_some_iff.mp H
         obtain ⟨t361, A610, H⟩ := H
         replace H : (if t361 = true then ((laws_markNetwork.f kj20 t329 t332 1).bind fun bt362 => ((laws_markInt64S.f kj20 t336 bt362.1).bind fun bt365 => ((laws_markInt64S.f kj20 t339 bt365.1).bind fun bt367 => (if bt367.1 < 0 then (laws_FnExactServedNodes.j1 kj20 l1 l2 t325 t328 t342 true l0_0 l0_1) else ((laws_eqInt64S.f kj20 t342 t325).bind fun t369 => (if t369 = true then (laws_FnExactServedNodes.j1 kj20 l1 l2 t325 t328 t342 (t345 != t328) l0_0 l0_1) else (laws_FnExactServedNodes.j1 kj20 l1 l2 t325 t328 t342 true l0_0 l0_1))))))) else (some false)) = some r := H
         have A61 := Aside0.mk A610
         clear A610
         by_cases c62 : t361 = true
         ·subst c62
          have H1 : ((laws_markNetwork.f kj20 t329 t332 1).bind fun bt362 => ((laws_markInt64S.f kj20 t336 bt362.1).bind fun bt365 => ((laws_markInt64S.f kj20 t339 bt365.1).bind fun bt367 => (if bt367.1 < 0 then (laws_FnExactServedNodes.j1 kj20 l1 l2 t325 t328 t342 true l0_0 l0_1) else ((laws_eqInt64S.f kj20 t342 t325).bind fun t369 => (if t369 = true then (laws_FnExactServedNodes.j1 kj20 l1 l2 t325 t328 t342 (t345 != t328) l0_0 l0_1) else (laws_FnExactServedNodes.j1 kj20 l1 l2 t325 t328 t342 true l0_0 l0_1))))))) = some r := by rw [if_pos rfl] at H; exact H
          clear H
          have H := H1
          clear H1
          replace H := Option.bind_eq_some_iff.mp H
          obtain ⟨⟨t362, t363, t364⟩, A630, H⟩ := H
          replace H : ((laws_markInt64S.f kj20 t336 t362).bind fun bt365 => ((laws_markInt64S.f kj20 t339 bt365.1).bind fun bt367 => (if bt367.1 < 0 then (laws_FnExactServedNodes.j1 kj20 l1 l2 t325 t328 t342 true l0_0 l0_1) else ((laws_eqInt64S.f kj20 t342 t325).bind fun t369 => (if t369 = true then (laws_FnExactServedNodes.j1 kj20 l1 l2 t325 t328 t342 (t345 != t328) l0_0 l0_1) else (laws_FnExactServedNodes.j1 kj20 l1 l2 t325 t328 t342 true l0_0 l0_1)))))) = some r := H
          have A63 := Aside0.mk A630
          clear A630
          replace H := Option.bind_eq_some_iff.mp H
          obtain ⟨⟨t365, t366⟩, A640, H⟩ := H
          replace H : ((laws_markInt64S.f kj20 t339 t365).bind fun bt367 => (if bt367.1 < 0 then (laws_FnExactServedNodes.j1 kj20 l1 l2 t325 t328 t342 true l0_0 l0_1) else ((laws_eqInt64S.f kj20 t342 t325).bind fun t369 => (if t369 = true then (laws_FnExactServedNodes.j1 kj20 l1 l2 t325 t328 t342 (t345 != t328) l0_0 l0_1) else (laws_FnExactServedNodes.j1 kj20 l1 l2 t325 t328 t342 true l0_0 l0_1))))) = some r := H
          have A64 := Aside0.mk A640
          clear A640
          replace H := Option.bind_eq_some_iff.mp H
          obtain ⟨⟨t367, t368⟩, A650, H⟩ := H
          replace H : (if t367 < 0 then (laws_FnExactServedNodes.j1 kj20 l1 l2 t325 t328 t342 true l0_0 l0_1) else ((laws_eqInt64S.f kj20 t342 t325).bind fun t369 => (if t369 = true then (laws_FnExactServedNodes.j1 kj20 l1 l2 t325 t328 t342 (t345 != t328) l0_0 l0_1) else (laws_FnExactServedNodes.j1 kj20 l1 l2 t325 t328 t342 true l0_0 l0_1)))) = some r := H
          have A65 := Aside0.mk A650
          clear A650
          have HC66 := Aside0.mk H
          clear H
          try go_wp2
          have n0_ := Aside0.mk (Kd.R_drew HO_8.out)
          have n1_ := Aside0.mk (Kd.R_drew HO_11.out)
          have n2_ := Aside0.mk (Kd.R_drew HO_12.out)
          have n3_ := Aside0.mk (Kd.R_drew HO_13.out)
          have n4_ := Aside0.mk (Kd.R_drew HO_336000.out)
          have n5_ := Aside0.mk (Kd.R_drew HO_336001.out)
          have n6_ := Aside0.mk (blk_drew BK311.out)
          have n7_ := Aside0.mk (blk_drew BK335.out)
          have n8_ := Aside0.mk (below_drew1 HB.out)
          clear HO_8
          clear HO_11
          clear HO_12
          clear HO_13
          clear HO_336000
          clear HO_336001
          clear BK311
          clear BK335
          clear HB
          have HO_8 := n0_
          have HO_11 := n1_
          have HO_12 := n2_
          have HO_13 := n3_
          have HO_336000 := n4_
          have HO_336001 := n5_
          have BK311 := n6_
          have BK335 := n7_
          have HB := n8_
          clear n0_ n1_ n2_ n3_ n4_ n5_ n6_ n7_ n8_
          refine start_ (n := 5) (S := fun w' => w'.cell? ⟨gb335, 0, none⟩ = some (.slice Ao37 t329.length co37) ∧ w'.cell? ⟨gb335, 1, none⟩ = some (.slice Ao40 t332.length co40) ∧ w'.cell? ⟨gb311, 0, none⟩ = some (.slice A0_0 l0_0.length c0_0) ∧ w'.cell? ⟨gb311, 1, none⟩ = some (.slice A0_1 l0_1.length c0_1)) (ds := []) #[false, false, false, false, false] t15_ rfl rfl ⟨(blk_cell BK335.out 0).trans rfl, (blk_cell BK335.out 1).trans rfl, (blk_cell BK311.out 0).trans rfl, (blk_cell BK311.out 1).trans rfl⟩ (fun hHeld => ?_)
          generalize wc.drew = w67 at HO_8 HO_11 HO_12 HO_13 HO_336000 HO_336001 BK311 BK335 HB hHeld ⊢
          refine take_ (i := 0) (N := some 63) (v := ?_) (a' := ?_) #[true, false, false, false, false] rfl rfl t15_ (fun _ _ _ h => h) (Or.inl ⟨t68_, ?_⟩) hHeld ?_ ?_
          rotate_left
          ·rintro w' ⟨s0, s1, s2, s3⟩
           go_simp
           with_reducible rfl
          rotate_left; (· simp only [Act.put, List.setIfInBounds_toArray, List.set_cons_zero, List.set_cons_succ, i64_w, i32_w]; rfl)
          refine take_ (i := 1) (N := some 64) (v := ?_) (a' := ?_) #[true, true, false, false, false] rfl rfl t15_ (fun _ _ _ h => h) (Or.inl ⟨t68_, ?_⟩) hHeld ?_ ?_
          rotate_left
          ·rintro w' ⟨s0, s1, s2, s3⟩
           go_simp
           with_reducible rfl
          rotate_left; (· simp only [Act.put, List.setIfInBounds_toArray, List.set_cons_zero, List.set_cons_succ, i64_w, i32_w]; rfl)
          refine one_ (i := 2) (N := some 65) #[true, true, true, false, false] rfl rfl t15_ t33_ (fun K hK => ?_)
          refine goes_ Try.func14 t15_ rfl #[.agg #[.slice A0_0 l0_0.length c0_0, .slice A0_1 l0_1.length c0_1]] t68_ rfl rfl t2_ ?_
          with_reducible refine (laws_toNetwork.calls kj20 _ _ l0_0 _ _ l0_1 t347 t350 _ ?side1 ?side2 ?side3 ?side4 A54.out).mono ?_
          (case side1 => repeat (first | exact (Kd.C_below HR0_0.out HB.out) | (with_reducible refine Kd.C_alloc ?_ _) | (with_reducible refine Kd.C_drewN ?_ _) | (with_reducible refine Kd.C_drew ?_)))
          (case side2 => exact HC0_0.out)
          (case side3 => repeat (first | exact (Kd.C_below HR0_1.out HB.out) | (with_reducible refine Kd.C_alloc ?_ _) | (with_reducible refine Kd.C_drewN ?_ _) | (with_reducible refine Kd.C_drew ?_)))
          (case side4 => exact HC0_1.out)
          rintro e w68 ⟨v348, v351, rfl, ho0, ho1, hb⟩
          refine ⟨_, rfl, ?_⟩
          have n0_ := Aside0.mk (Kd.R_elder' (q2_ HO_8.out) (Kd.R_base ho0) hb)
          have n1_ := Aside0.mk (Kd.R_elder' (q2_ HO_11.out) (Kd.R_base ho0) hb)
          have n2_ := Aside0.mk (Kd.R_elder' (q2_ HO_12.out) (Kd.R_base ho0) hb)
          have n3_ := Aside0.mk (Kd.R_elder' (q2_ HO_13.out) (Kd.R_base ho0) hb)
          have n4_ := Aside0.mk (Kd.R_elder' (q2_ HO_336000.out) (Kd.R_base ho0) hb)
          have n5_ := Aside0.mk (Kd.R_elder' (q2_ HO_336001.out) (Kd.R_base ho1) hb)
          have n6_ := Aside0.mk (Kd.R_lower (Kd.R_new' (Kd.R_new' (Kd.R_new' (Kd.R_new' (Kd.R_new' ho0 (Kd.R_lt (q2_ HO_8.out))) (Kd.R_lt (q2_ HO_11.out))) (Kd.R_lt (q2_ HO_12.out))) (Kd.R_lt (q2_ HO_13.out))) (Kd.R_lt (q2_ HO_336000.out))) (below_size t4_))
          have n7_ := Aside0.mk (Kd.R_lower (Kd.R_new' ho1 (Kd.R_lt (q2_ HO_336001.out))) (below_size t4_))
          have n8_ := Aside0.mk (blk_below (g := gb311) (o := .cells #[.slice A0_0 l0_0.length c0_0, .slice A0_1 l0_1.length c0_1] 25 (0, 0)) (q1_ BK311.out) hb)
          have n9_ := Aside0.mk (blk_below (g := gb335) (o := .cells #[.slice Ao37 t329.length co37, .slice Ao40 t332.length co40] 32 (0, 0)) (q1_ BK335.out) hb)
          have n10_ := Aside0.mk (below_step t4_ hb)
          clear HO_8
          clear HO_11
          clear HO_12
          clear HO_13
          clear HO_336000
          clear HO_336001
          clear BK311
          clear BK335
          clear HB
          have HO_8 := n0_
          have HO_11 := n1_
          have HO_12 := n2_
          have HO_13 := n3_
          have HO_336000 := n4_
          have HO_336001 := n5_
          have HO349 := n6_
          have HO352 := n7_
          have BK311 := n8_
          have BK335 := n9_
          have HB := n10_
          clear n0_ n1_ n2_ n3_ n4_ n5_ n6_ n7_ n8_ n9_ n10_
          (try clear hb)
          (try clear hb2)
          (try clear hk)
          (try clear hi)
          (try clear ho0)
          (try clear ho1)
          obtain ⟨Ao69, co69, eo69⟩ := Kd.R_slice HO349.out
          (first | subst eo69 | (injection eo69 with f1_ f2_ f3_; have f4_ := f1_.symm; have f5_ := f3_.symm; clear f1_ f2_ f3_; subst f4_; subst f5_))
          obtain ⟨Ao70, co70, eo70⟩ := Kd.R_slice HO352.out
          (first | subst eo70 | (injection eo70 with f1_ f2_ f3_; have f4_ := f1_.symm; have f5_ := f3_.symm; clear f1_ f2_ f3_; subst f4_; subst f5_))
          refine hK.out _ _ ⟨(blk_cell BK335.out 0).trans rfl, (blk_cell BK335.out 1).trans rfl, (blk_cell BK311.out 0).trans rfl, (blk_cell BK311.out 1).trans rfl⟩ (fun hHeld => ?_)
          clear hK K
          refine norm_ (a' := ?_) ?_ ?_
          rotate_left
          ·show Act.put _ (some 65) _ = _
           simp only [Act.put, List.setIfInBounds_toArray, List.set_cons_zero, List.set_cons_succ, i64_w, i32_w]
           rfl
          refine one_ (i := 3) (N := some 66) #[true, true, true, true, false] rfl rfl t15_ t33_ (fun K hK => ?_)
          refine goes_ Try.func17 t15_ rfl #[.agg #[.slice Ao37 t329.length co37, .slice Ao40 t332.length co40], .agg #[.slice Ao69 t347.length co69, .slice Ao70 t350.length co70]] t68_ rfl rfl t2_ ?_
          with_reducible refine (laws_eqNetwork.calls kj20 _ _ t329 _ _ t332 _ _ t347 _ _ t350 true _ ?side1 ?side2 ?side3 ?side4 ?side5 ?side6 ?side7 ?side8 A55.out).mono ?_
          (case side1 => repeat (first | exact (Kd.R_reads' HO_336000.out).2.2 | (with_reducible refine Kd.C_alloc ?_ _) | (with_reducible refine Kd.C_drewN ?_ _) | (with_reducible refine Kd.C_drew ?_)))
          (case side2 => exact (Kd.R_reads' HO_336000.out).2.1)
          (case side3 => repeat (first | exact (Kd.R_reads' HO_336001.out).2.2 | (with_reducible refine Kd.C_alloc ?_ _) | (with_reducible refine Kd.C_drewN ?_ _) | (with_reducible refine Kd.C_drew ?_)))
          (case side4 => exact (Kd.R_reads' HO_336001.out).2.1)
          (case side5 => repeat (first | exact (Kd.R_reads' HO349.out).2.2 | (with_reducible refine Kd.C_alloc ?_ _) | (with_reducible refine Kd.C_drewN ?_ _) | (with_reducible refine Kd.C_drew ?_)))
          (case side6 => exact (Kd.R_reads' HO349.out).2.1)
          (case side7 => repeat (first | exact (Kd.R_reads' HO352.out).2.2 | (with_reducible refine Kd.C_alloc ?_ _) | (with_reducible refine Kd.C_drewN ?_ _) | (with_reducible refine Kd.C_drew ?_)))
          (case side8 => exact (Kd.R_reads' HO352.out).2.1)
          rintro e w71 ⟨rfl, hb⟩
          refine ⟨_, rfl, ?_⟩
          have n0_ := Aside0.mk (Kd.R_below (q2_ HO_8.out) hb)
          have n1_ := Aside0.mk (Kd.R_below (q2_ HO_11.out) hb)
          have n2_ := Aside0.mk (Kd.R_below (q2_ HO_12.out) hb)
          have n3_ := Aside0.mk (Kd.R_below (q2_ HO_13.out) hb)
          have n4_ := Aside0.mk (Kd.R_below (q2_ HO_336000.out) hb)
          have n5_ := Aside0.mk (Kd.R_below (q2_ HO_336001.out) hb)
          have n6_ := Aside0.mk (Kd.R_below (q2_ HO349.out) hb)
          have n7_ := Aside0.mk (Kd.R_below (q2_ HO352.out) hb)
          have n8_ := Aside0.mk (blk_below (g := gb311) (o := .cells #[.slice A0_0 l0_0.length c0_0, .slice A0_1 l0_1.length c0_1] 25 (0, 0)) (q1_ BK311.out) hb)
          have n9_ := Aside0.mk (blk_below (g := gb335) (o := .cells #[.slice Ao37 t329.length co37, .slice Ao40 t332.length co40] 32 (0, 0)) (q1_ BK335.out) hb)
          have n10_ := Aside0.mk (below_step t4_ hb)
          clear HO_8
          clear HO_11
          clear HO_12
          clear HO_13
          clear HO_336000
          clear HO_336001
          clear HO349
          clear HO352
          clear BK311
          clear BK335
          clear HB
          have HO_8 := n0_
          have HO_11 := n1_
          have HO_12 := n2_
          have HO_13 := n3_
          have HO_336000 := n4_
          have HO_336001 := n5_
          have HO349 := n6_
          have HO352 := n7_
          have BK311 := n8_
          have BK335 := n9_
          have HB := n10_
          clear n0_ n1_ n2_ n3_ n4_ n5_ n6_ n7_ n8_ n9_ n10_
          (try clear hb)
          (try clear hb2)
          (try clear hk)
          (try clear hi)
          refine hK.out _ _ ⟨(blk_cell BK335.out 0).trans rfl, (blk_cell BK335.out 1).trans rfl, (blk_cell BK311.out 0).trans rfl, (blk_cell BK311.out 1).trans rfl⟩ (fun hHeld => ?_)
          clear hK K
          refine norm_ (a' := ?_) ?_ ?_
          rotate_left
          ·show Act.put _ (some 66) _ = _
           simp only [Act.put, List.setIfInBounds_toArray, List.set_cons_zero, List.set_cons_succ, i64_w, i32_w]
           rfl
          refine pure_ (i := 4) (N := some 67) (v := ?_) (a' := ?_) #[true, true, true, true, true] rfl rfl t15_ (fun _ _ _ h => h) (Or.inl ⟨t68_, ?_⟩) ?_ ?_
          rotate_left; (· intro w'; go_simp; with_reducible rfl); rotate_left; (· simp only [Act.put, List.setIfInBounds_toArray, List.set_cons_zero, List.set_cons_succ, i64_w, i32_w]; rfl)
          refine done_ t15_ ?_
          go_upto_region 26 with (first | ((with_reducible refine gate_callee (f := 22) rfl ?_); refine goesL_ (some 70) rfl rfl Try.func22 t15_ rfl #[.slice A1 l1.length c1] rfl t2_ ?_; (with_reducible refine (laws_toInt64S.calls kj20 _ _ l1 t354 _ ?side1 ?side2 A57.out).mono ?_); (case side1 => repeat (first | exact (Kd.C_below HR1.out HB.out) | (with_reducible refine Kd.C_alloc ?_ _) | (with_reducible refine Kd.C_drewN ?_ _) | (with_reducible refine Kd.C_drew ?_))); (case side2 => exact HC1.out); rintro e w72 ⟨v355, rfl, ho0, hb⟩; refine ⟨_, rfl, ?_⟩; have n0_ := Aside0.mk (Kd.R_elder' (q2_ HO_8.out) (Kd.R_base ho0) hb); have n1_ := Aside0.mk (Kd.R_elder' (q2_ HO_11.out) (Kd.R_base ho0) hb); have n2_ := Aside0.mk (Kd.R_elder' (q2_ HO_12.out) (Kd.R_base ho0) hb); have n3_ := Aside0.mk (Kd.R_elder' (q2_ HO_13.out) (Kd.R_base ho0) hb); have n4_ := Aside0.mk (Kd.R_elder' (q2_ HO_336000.out) (Kd.R_base ho0) hb); have n5_ := Aside0.mk (Kd.R_below (q2_ HO_336001.out) hb); have n6_ := Aside0.mk (Kd.R_elder' (q2_ HO349.out) (Kd.R_base ho0) hb); have n7_ := Aside0.mk (Kd.R_below (q2_ HO352.out) hb); have n8_ := Aside0.mk (Kd.R_lower (Kd.R_new' (Kd.R_new' (Kd.R_new' (Kd.R_new' (Kd.R_new' (Kd.R_new' ho0 (Kd.R_lt (q2_ HO_8.out))) (Kd.R_lt (q2_ HO_11.out))) (Kd.R_lt (q2_ HO_12.out))) (Kd.R_lt (q2_ HO_13.out))) (Kd.R_lt (q2_ HO_336000.out))) (Kd.R_lt (q2_ HO349.out))) (below_size t4_)); have n9_ := Aside0.mk (blk_below (g := gb311) (o := .cells #[.slice A0_0 l0_0.length c0_0, .slice A0_1 l0_1.length c0_1] 25 (0, 0)) (q1_ BK311.out) hb); have n10_ := Aside0.mk (blk_below (g := gb335) (o := .cells #[.slice Ao37 t329.length co37, .slice Ao40 t332.length co40] 32 (0, 0)) (q1_ BK335.out) hb); have n11_ := Aside0.mk (below_step t4_ hb); clear HO_8; clear HO_11; clear HO_12; clear HO_13; clear HO_336000; clear HO_336001; clear HO349; clear HO352; clear BK311; clear BK335; clear HB; have HO_8 := n0_; have HO_11 := n1_; have HO_12 := n2_; have HO_13 := n3_; have HO_336000 := n4_; have HO_336001 := n5_; have HO349 := n6_; have HO352 := n7_; have HO356 := n8_; have BK311 := n9_; have BK335 := n10_; have HB := n11_; clear n0_ n1_ n2_ n3_ n4_ n5_ n6_ n7_ n8_ n9_ n10_ n11_; (try clear hb); (try clear hb2); (try clear hk); (try clear hi); (try clear ho0); obtain ⟨Ao73, co73, eo73⟩ := Kd.R_slice HO356.out; subst eo73) | ((with_reducible refine gate_callee (f := 24) rfl ?_); refine goesL_ (some 71) rfl rfl Try.func24 t15_ rfl #[.slice Ao44 t336.length co44, .slice Ao73 t354.length co73] rfl t2_ ?_; (with_reducible refine (laws_eqInt64S.calls kj20 _ _ t336 _ _ t354 true _ ?side1 ?side2 ?side3 ?side4 A58.out).mono ?_); (case side1 => repeat (first | exact (Kd.R_reads' HO_11.out).2.2 | (with_reducible refine Kd.C_alloc ?_ _) | (with_reducible refine Kd.C_drewN ?_ _) | (with_reducible refine Kd.C_drew ?_))); (case side2 => exact (Kd.R_reads' HO_11.out).2.1); (case side3 => repeat (first | exact (Kd.R_reads' HO356.out).2.2 | (with_reducible refine Kd.C_alloc ?_ _) | (with_reducible refine Kd.C_drewN ?_ _) | (with_reducible refine Kd.C_drew ?_))); (case side4 => exact (Kd.R_reads' HO356.out).2.1); rintro e w' ⟨rfl, ⟨nd, rfl⟩⟩; refine ⟨_, rfl, ?_⟩) | ((with_reducible refine gate_callee (f := 22) rfl ?_); refine goesL_ (some 75) rfl rfl Try.func22 t15_ rfl #[.slice A2 l2.length c2] rfl t2_ ?_; (with_reducible refine (laws_toInt64S.calls kj20 _ _ l2 t358 _ ?side1 ?side2 A60.out).mono ?_); (case side1 => repeat (first | exact (Kd.C_below HR2.out t4_) | (with_reducible refine Kd.C_alloc ?_ _) | (with_reducible refine Kd.C_drewN ?_ _) | (with_reducible refine Kd.C_drew ?_))); (case side2 => exact HC2.out); rintro e w74 ⟨v359, rfl, ho0, hb⟩; refine ⟨_, rfl, ?_⟩; have n0_ := Aside0.mk (Kd.R_elder' (q2_ HO_8.out) (Kd.R_base ho0) hb); have n1_ := Aside0.mk (Kd.R_elder' (q2_ HO_11.out) (Kd.R_base ho0) hb); have n2_ := Aside0.mk (Kd.R_elder' (q2_ HO_12.out) (Kd.R_base ho0) hb); have n3_ := Aside0.mk (Kd.R_elder' (q2_ HO_13.out) (Kd.R_base ho0) hb); have n4_ := Aside0.mk (Kd.R_elder' (q2_ HO_336000.out) (Kd.R_base ho0) hb); have n5_ := Aside0.mk (Kd.R_below (q2_ HO_336001.out) hb); have n6_ := Aside0.mk (Kd.R_elder' (q2_ HO349.out) (Kd.R_base ho0) hb); have n7_ := Aside0.mk (Kd.R_below (q2_ HO352.out) hb); have n8_ := Aside0.mk (Kd.R_elder' (q2_ HO356.out) (Kd.R_base ho0) hb); have n9_ := Aside0.mk (Kd.R_lower (Kd.R_new' (Kd.R_new' (Kd.R_new' (Kd.R_new' (Kd.R_new' (Kd.R_new' (Kd.R_new' ho0 (Kd.R_lt (q2_ HO_8.out))) (Kd.R_lt (q2_ HO_11.out))) (Kd.R_lt (q2_ HO_12.out))) (Kd.R_lt (q2_ HO_13.out))) (Kd.R_lt (q2_ HO_336000.out))) (Kd.R_lt (q2_ HO349.out))) (Kd.R_lt (q2_ HO356.out))) (below_size t4_)); have n10_ := Aside0.mk (blk_below (g := gb311) (o := .cells #[.slice A0_0 l0_0.length c0_0, .slice A0_1 l0_1.length c0_1] 25 (0, 0)) (q1_ BK311.out) hb); have n11_ := Aside0.mk (blk_below (g := gb335) (o := .cells #[.slice Ao37 t329.length co37, .slice Ao40 t332.length co40] 32 (0, 0)) (q1_ BK335.out) hb); have n12_ := Aside0.mk (below_step t4_ hb); clear HO_8; clear HO_11; clear HO_12; clear HO_13; clear HO_336000; clear HO_336001; clear HO349; clear HO352; clear HO356; clear BK311; clear BK335; clear HB; have HO_8 := n0_; have HO_11 := n1_; have HO_12 := n2_; have HO_13 := n3_; have HO_336000 := n4_; have HO_336001 := n5_; have HO349 := n6_; have HO352 := n7_; have HO356 := n8_; have HO360 := n9_; have BK311 := n10_; have BK335 := n11_; have HB := n12_; clear n0_ n1_ n2_ n3_ n4_ n5_ n6_ n7_ n8_ n9_ n10_ n11_ n12_; (try clear hb); (try clear hb2); (try clear hk); (try clear hi); (try clear ho0); obtain ⟨Ao75, co75, eo75⟩ := Kd.R_slice HO360.out; subst eo75) | ((with_reducible refine gate_callee (f := 24) rfl ?_); refine goesL_ (some 76) rfl rfl Try.func24 t15_ rfl #[.slice Ao45 t339.length co45, .slice Ao75 t358.length co75] rfl t2_ ?_; (with_reducible refine (laws_eqInt64S.calls kj20 _ _ t339 _ _ t358 true _ ?side1 ?side2 ?side3 ?side4 A61.out).mono ?_); (case side1 => repeat (first | exact (Kd.R_reads' HO_12.out).2.2 | (with_reducible refine Kd.C_alloc ?_ _) | (with_reducible refine Kd.C_drewN ?_ _) | (with_reducible refine Kd.C_drew ?_))); (case side2 => exact (Kd.R_reads' HO_12.out).2.1); (case side3 => repeat (first | exact (Kd.R_reads' HO360.out).2.2 | (with_reducible refine Kd.C_alloc ?_ _) | (with_reducible refine Kd.C_drewN ?_ _) | (with_reducible refine Kd.C_drew ?_))); (case side4 => exact (Kd.R_reads' HO360.out).2.1); rintro e w' ⟨rfl, ⟨nd, rfl⟩⟩; refine ⟨_, rfl, ?_⟩; have hnb76 := NB335_311.out; have hnc76 := NB311_335.out; have hcz77_0 : w74.cell? ⟨gb335, 0, none⟩ = some (.slice Ao37 t329.length co37) := (blk_cell BK335.out 0).trans rfl; have hcz77_1 : w74.cell? ⟨gb335, 1, none⟩ = some (.slice Ao40 t332.length co40) := (blk_cell BK335.out 1).trans rfl; have hfz77_0 := blk_frozen BK335.out 0; have hfz77_1 := blk_frozen BK335.out 1) | ((with_reducible refine gate_callee (f := 25) rfl ?_); refine goesL_ (some 80) rfl rfl Try.func25 t15_ rfl #[.agg #[.slice Ao37 t329.length co37, .slice Ao40 t332.length co40], .int .i64 1] rfl t2_ ?_; (with_reducible refine (laws_markNetwork.calls kj20 (fun k_ => some k_ = (.slice Ao37 t329.length co37 : Value).ownBlock) (.slice Ao37 t329.length co37) t329 (fun k_ => some k_ = (.slice Ao40 t332.length co40 : Value).ownBlock) (.slice Ao40 t332.length co40) t332 1 t362 t363 t364 w _ ?side1 ?side2 ?side3 A63.out).mono ?_); (case side1 => repeat (first | (with_reducible first | exact HB.out | apply below_alloc | apply pw_below_drewN | apply below_drew1 | refine below_set ?_ GE311.out | refine below_set ?_ GE335.out) | exact HB.out)); (case side2 => exact Kd.R_tight rfl HO_336000.out); (case side3 => exact Kd.R_tight rfl HO_336001.out); rintro e w78 ⟨rfl, hy0, hy1, hb, hkp⟩; refine ⟨_, rfl, ?_⟩; have n0_ := Aside0.mk (Kd.R_mono (ok' := fun k_ => some k_ ≠ (.slice Ao44 t336.length co44 : Value).ownBlock ∧ some k_ ≠ (.slice Ao45 t339.length co45 : Value).ownBlock ∧ some k_ ≠ (v343 : Value).ownBlock ∧ some k_ ≠ (.slice Ao37 t329.length co37 : Value).ownBlock ∧ some k_ ≠ (.slice Ao69 t347.length co69 : Value).ownBlock ∧ some k_ ≠ (.slice Ao73 t354.length co73 : Value).ownBlock ∧ some k_ ≠ (.slice Ao75 t358.length co75 : Value).ownBlock) (Kd.R_keptB ((Kd.R_apart' HO_8.out (Kd.R_typed HO_336001.out) t33_)) hkp (fun k_ hk_ hs_ => Or.elim hs_ (fun e_ => (hk_.1.1.1.1.2.2.2) e_) (fun e_ => (hk_.2) e_))) (fun k_ hk_ => ⟨hk_.1.1.1.1.1.1, hk_.1.1.1.1.1.2.1, hk_.1.1.1.1.1.2.2.1, hk_.1.1.1.1.1.2.2.2, hk_.1.1.1.1.2, hk_.1.1.1.2, hk_.1.1.2⟩)); have n1_ := Aside0.mk (Kd.R_mono (ok' := fun k_ => some k_ ≠ (v326 : Value).ownBlock ∧ some k_ ≠ (.slice Ao45 t339.length co45 : Value).ownBlock ∧ some k_ ≠ (v343 : Value).ownBlock ∧ some k_ ≠ (.slice Ao37 t329.length co37 : Value).ownBlock ∧ some k_ ≠ (.slice Ao69 t347.length co69 : Value).ownBlock ∧ some k_ ≠ (.slice Ao73 t354.length co73 : Value).ownBlock ∧ some k_ ≠ (.slice Ao75 t358.length co75 : Value).ownBlock) (Kd.R_keptB ((Kd.R_apart' HO_11.out (Kd.R_typed HO_336001.out) t33_)) hkp (fun k_ hk_ hs_ => Or.elim hs_ (fun e_ => (hk_.1.1.1.1.2.2.2) e_) (fun e_ => (hk_.2) e_))) (fun k_ hk_ => ⟨hk_.1.1.1.1.1.1, hk_.1.1.1.1.1.2.1, hk_.1.1.1.1.1.2.2.1, hk_.1.1.1.1.1.2.2.2, hk_.1.1.1.1.2, hk_.1.1.1.2, hk_.1.1.2⟩)); have n2_ := Aside0.mk (Kd.R_mono (ok' := fun k_ => some k_ ≠ (v326 : Value).ownBlock ∧ some k_ ≠ (.slice Ao44 t336.length co44 : Value).ownBlock ∧ some k_ ≠ (v343 : Value).ownBlock ∧ some k_ ≠ (.slice Ao37 t329.length co37 : Value).ownBlock ∧ some k_ ≠ (.slice Ao69 t347.length co69 : Value).ownBlock ∧ some k_ ≠ (.slice Ao73 t354.length co73 : Value).ownBlock ∧ some k_ ≠ (.slice Ao75 t358.length co75 : Value).ownBlock) (Kd.R_keptB ((Kd.R_apart' HO_12.out (Kd.R_typed HO_336001.out) t33_)) hkp (fun k_ hk_ hs_ => Or.elim hs_ (fun e_ => (hk_.1.1.1.1.2.2.2) e_) (fun e_ => (hk_.2) e_))) (fun k_ hk_ => ⟨hk_.1.1.1.1.1.1, hk_.1.1.1.1.1.2.1, hk_.1.1.1.1.1.2.2.1, hk_.1.1.1.1.1.2.2.2, hk_.1.1.1.1.2, hk_.1.1.1.2, hk_.1.1.2⟩)); have n3_ := Aside0.mk (Kd.R_mono (ok' := fun k_ => some k_ ≠ (v326 : Value).ownBlock ∧ some k_ ≠ (.slice Ao44 t336.length co44 : Value).ownBlock ∧ some k_ ≠ (.slice Ao45 t339.length co45 : Value).ownBlock ∧ some k_ ≠ (.slice Ao37 t329.length co37 : Value).ownBlock ∧ some k_ ≠ (.slice Ao69 t347.length co69 : Value).ownBlock ∧ some k_ ≠ (.slice Ao73 t354.length co73 : Value).ownBlock ∧ some k_ ≠ (.slice Ao75 t358.length co75 : Value).ownBlock) (Kd.R_keptB ((Kd.R_apart' HO_13.out (Kd.R_typed HO_336001.out) t33_)) hkp (fun k_ hk_ hs_ => Or.elim hs_ (fun e_ => (hk_.1.1.1.1.2.2.2) e_) (fun e_ => (hk_.2) e_))) (fun k_ hk_ => ⟨hk_.1.1.1.1.1.1, hk_.1.1.1.1.1.2.1, hk_.1.1.1.1.1.2.2.1, hk_.1.1.1.1.1.2.2.2, hk_.1.1.1.1.2, hk_.1.1.1.2, hk_.1.1.2⟩)); have n4_ := Aside0.mk (Kd.R_reok rfl hy0 (fun k_ e_ => HO_336000.out.1 k_ e_)); have n5_ := Aside0.mk (Kd.R_reok rfl hy1 (fun k_ e_ => HO_336001.out.1 k_ e_)); have n6_ := Aside0.mk (blk_kept (q1_ BK311.out) hkp (fun hs_ => Or.elim hs_ (fun e_ => (fun e_ => (Kd.R_ne HO_336000.out BK311.out t33_) e_) e_) (fun e_ => (fun e_ => (Kd.R_ne HO_336001.out BK311.out t33_) e_) e_))); have n7_ := Aside0.mk (blk_kept (q1_ BK335.out) hkp (fun hs_ => Or.elim hs_ (fun e_ => (fun e_ => (Kd.R_ne HO_336000.out BK335.out t33_) e_) e_) (fun e_ => (fun e_ => (Kd.R_ne HO_336001.out BK335.out t33_) e_) e_))); have n8_ := Aside0.mk (Kd.R_mono (ok' := fun k_ => some k_ ≠ (v326 : Value).ownBlock ∧ some k_ ≠ (.slice Ao44 t336.length co44 : Value).ownBlock ∧ some k_ ≠ (.slice Ao45 t339.length co45 : Value).ownBlock ∧ some k_ ≠ (v343 : Value).ownBlock ∧ some k_ ≠ (.slice Ao37 t329.length co37 : Value).ownBlock ∧ some k_ ≠ (.slice Ao73 t354.length co73 : Value).ownBlock ∧ some k_ ≠ (.slice Ao75 t358.length co75 : Value).ownBlock) (Kd.R_keptB ((Kd.R_apart' HO349.out (Kd.R_typed HO_336001.out) t33_)) hkp (fun k_ hk_ hs_ => Or.elim hs_ (fun e_ => (hk_.1.1.1.2) e_) (fun e_ => (hk_.2) e_))) (fun k_ hk_ => ⟨hk_.1.1.1.1.1.1.1.1.2, hk_.1.1.1.1.1.1.1.2, hk_.1.1.1.1.1.1.2, hk_.1.1.1.1.1.2, hk_.1.1.1.1.2, hk_.1.1.1.2, hk_.1.1.2⟩)); have n9_ := Aside0.mk (Kd.R_mono (ok' := fun k_ => some k_ ≠ (.slice Ao40 t332.length co40 : Value).ownBlock) (Kd.R_keptB ((Kd.R_apart' HO352.out (Kd.R_typed HO_336000.out) t33_)) hkp (fun k_ hk_ hs_ => Or.elim hs_ (fun e_ => (hk_.2) e_) (fun e_ => (hk_.1.2) e_))) (fun k_ hk_ => hk_.1.1.2)); have n10_ := Aside0.mk (Kd.R_mono (ok' := fun k_ => some k_ ≠ (v326 : Value).ownBlock ∧ some k_ ≠ (.slice Ao44 t336.length co44 : Value).ownBlock ∧ some k_ ≠ (.slice Ao45 t339.length co45 : Value).ownBlock ∧ some k_ ≠ (v343 : Value).ownBlock ∧ some k_ ≠ (.slice Ao37 t329.length co37 : Value).ownBlock ∧ some k_ ≠ (.slice Ao69 t347.length co69 : Value).ownBlock ∧ some k_ ≠ (.slice Ao75 t358.length co75 : Value).ownBlock) (Kd.R_keptB ((Kd.R_apart' HO356.out (Kd.R_typed HO_336001.out) t33_)) hkp (fun k_ hk_ hs_ => Or.elim hs_ (fun e_ => (hk_.1.1.1.2) e_) (fun e_ => (hk_.2) e_))) (fun k_ hk_ => ⟨hk_.1.1.1.1.1.1.1.1.2, hk_.1.1.1.1.1.1.1.2, hk_.1.1.1.1.1.1.2, hk_.1.1.1.1.1.2, hk_.1.1.1.1.2, hk_.1.1.1.2, hk_.1.1.2⟩)); have n11_ := Aside0.mk (Kd.R_mono (ok' := fun k_ => some k_ ≠ (v326 : Value).ownBlock ∧ some k_ ≠ (.slice Ao44 t336.length co44 : Value).ownBlock ∧ some k_ ≠ (.slice Ao45 t339.length co45 : Value).ownBlock ∧ some k_ ≠ (v343 : Value).ownBlock ∧ some k_ ≠ (.slice Ao37 t329.length co37 : Value).ownBlock ∧ some k_ ≠ (.slice Ao69 t347.length co69 : Value).ownBlock ∧ some k_ ≠ (.slice Ao73 t354.length co73 : Value).ownBlock) (Kd.R_keptB ((Kd.R_apart' HO360.out (Kd.R_typed HO_336001.out) t33_)) hkp (fun k_ hk_ hs_ => Or.elim hs_ (fun e_ => (hk_.1.1.1.2) e_) (fun e_ => (hk_.2) e_))) (fun k_ hk_ => ⟨hk_.1.1.1.1.1.1.1.1.2, hk_.1.1.1.1.1.1.1.2, hk_.1.1.1.1.1.1.2, hk_.1.1.1.1.1.2, hk_.1.1.1.1.2, hk_.1.1.1.2, hk_.1.1.2⟩)); have n12_ := Aside0.mk (hb); clear HO_8; clear HO_11; clear HO_12; clear HO_13; clear HO_336000; clear HO_336001; clear BK311; clear BK335; clear HO349; clear HO352; clear HO356; clear HO360; clear HB; have HO_8 := n0_; have HO_11 := n1_; have HO_12 := n2_; have HO_13 := n3_; have HO_336000 := n4_; have HO_336001 := n5_; have BK311 := n6_; have BK335 := n7_; have HO349 := n8_; have HO352 := n9_; have HO356 := n10_; have HO360 := n11_; have HB := n12_; clear n0_ n1_ n2_ n3_ n4_ n5_ n6_ n7_ n8_ n9_ n10_ n11_ n12_; (try clear hb); (try clear hkp); (try clear hy0); (try clear hy1)) | ((with_reducible refine gate_callee (f := 26) rfl ?_); refine goesL_ (some 83) rfl rfl Try.func26 t15_ rfl #[.slice Ao44 t336.length co44, .int .i64 t362] rfl t2_ ?_; (with_reducible refine (laws_markInt64S.calls kj20 (fun k_ => some k_ = (.slice Ao44 t336.length co44 : Value).ownBlock) (.slice Ao44 t336.length co44) t336 t362 t365 t366 w _ ?side1 ?side2 A64.out).mono ?_); (case side1 => repeat (first | (with_reducible first | exact HB.out | apply below_alloc | apply pw_below_drewN | apply below_drew1 | refine below_set ?_ GE311.out | refine below_set ?_ GE335.out) | exact HB.out)); (case side2 => exact Kd.R_tight rfl HO_11.out); rintro e w79 ⟨rfl, hy0, hb, hkp⟩; refine ⟨_, rfl, ?_⟩; have n0_ := Aside0.mk (Kd.R_mono (ok' := fun k_ => some k_ ≠ (.slice Ao44 t336.length co44 : Value).ownBlock ∧ some k_ ≠ (.slice Ao45 t339.length co45 : Value).ownBlock ∧ some k_ ≠ (v343 : Value).ownBlock ∧ some k_ ≠ (.slice Ao37 t329.length co37 : Value).ownBlock ∧ some k_ ≠ (.slice Ao69 t347.length co69 : Value).ownBlock ∧ some k_ ≠ (.slice Ao73 t354.length co73 : Value).ownBlock ∧ some k_ ≠ (.slice Ao75 t358.length co75 : Value).ownBlock) (Kd.R_keptB (HO_8.out) hkp (fun k_ hk_ hs_ => (hk_.1) hs_)) (fun k_ hk_ => ⟨hk_.1.1, hk_.1.2.1, hk_.1.2.2.1, hk_.1.2.2.2.1, hk_.1.2.2.2.2.1, hk_.1.2.2.2.2.2.1, hk_.1.2.2.2.2.2.2⟩)); have n1_ := Aside0.mk (Kd.R_reok rfl hy0 (fun k_ e_ => HO_11.out.1 k_ e_)); have n2_ := Aside0.mk (Kd.R_mono (ok' := fun k_ => some k_ ≠ (v326 : Value).ownBlock ∧ some k_ ≠ (.slice Ao44 t336.length co44 : Value).ownBlock ∧ some k_ ≠ (v343 : Value).ownBlock ∧ some k_ ≠ (.slice Ao37 t329.length co37 : Value).ownBlock ∧ some k_ ≠ (.slice Ao69 t347.length co69 : Value).ownBlock ∧ some k_ ≠ (.slice Ao73 t354.length co73 : Value).ownBlock ∧ some k_ ≠ (.slice Ao75 t358.length co75 : Value).ownBlock) (Kd.R_keptB (HO_12.out) hkp (fun k_ hk_ hs_ => (hk_.2.1) hs_)) (fun k_ hk_ => ⟨hk_.1.1, hk_.1.2.1, hk_.1.2.2.1, hk_.1.2.2.2.1, hk_.1.2.2.2.2.1, hk_.1.2.2.2.2.2.1, hk_.1.2.2.2.2.2.2⟩)); have n3_ := Aside0.mk (Kd.R_mono (ok' := fun k_ => some k_ ≠ (v326 : Value).ownBlock ∧ some k_ ≠ (.slice Ao44 t336.length co44 : Value).ownBlock ∧ some k_ ≠ (.slice Ao45 t339.length co45 : Value).ownBlock ∧ some k_ ≠ (.slice Ao37 t329.length co37 : Value).ownBlock ∧ some k_ ≠ (.slice Ao69 t347.length co69 : Value).ownBlock ∧ some k_ ≠ (.slice Ao73 t354.length co73 : Value).ownBlock ∧ some k_ ≠ (.slice Ao75 t358.length co75 : Value).ownBlock) (Kd.R_keptB (HO_13.out) hkp (fun k_ hk_ hs_ => (hk_.2.1) hs_)) (fun k_ hk_ => ⟨hk_.1.1, hk_.1.2.1, hk_.1.2.2.1, hk_.1.2.2.2.1, hk_.1.2.2.2.2.1, hk_.1.2.2.2.2.2.1, hk_.1.2.2.2.2.2.2⟩)); have n4_ := Aside0.mk (Kd.R_mono (ok' := fun k_ => some k_ ≠ (v326 : Value).ownBlock ∧ some k_ ≠ (.slice Ao44 t336.length co44 : Value).ownBlock ∧ some k_ ≠ (.slice Ao45 t339.length co45 : Value).ownBlock ∧ some k_ ≠ (v343 : Value).ownBlock ∧ some k_ ≠ (.slice Ao69 t347.length co69 : Value).ownBlock ∧ some k_ ≠ (.slice Ao73 t354.length co73 : Value).ownBlock ∧ some k_ ≠ (.slice Ao75 t358.length co75 : Value).ownBlock) (Kd.R_keptB (HO_336000.out) hkp (fun k_ hk_ hs_ => (hk_.1.1.1.2.1) hs_)) (fun k_ hk_ => ⟨hk_.1.1.1.1.1, hk_.1.1.1.1.2.1, hk_.1.1.1.1.2.2.1, hk_.1.1.1.1.2.2.2, hk_.1.1.1.2, hk_.1.1.2, hk_.1.2⟩)); have n5_ := Aside0.mk (Kd.R_mono (ok' := fun k_ => some k_ ≠ (.slice Ao70 t350.length co70 : Value).ownBlock) (Kd.R_keptB ((Kd.R_apart' HO_336001.out (Kd.R_typed HO_11.out) t33_)) hkp (fun k_ hk_ hs_ => (hk_.2) hs_)) (fun k_ hk_ => hk_.1.1.2)); have n6_ := Aside0.mk (blk_kept (q1_ BK311.out) hkp (fun hs_ => (fun e_ => (Kd.R_ne HO_11.out BK311.out t33_) e_) hs_)); have n7_ := Aside0.mk (blk_kept (q1_ BK335.out) hkp (fun hs_ => (fun e_ => (Kd.R_ne HO_11.out BK335.out t33_) e_) hs_)); have n8_ := Aside0.mk (Kd.R_mono (ok' := fun k_ => some k_ ≠ (v326 : Value).ownBlock ∧ some k_ ≠ (.slice Ao44 t336.length co44 : Value).ownBlock ∧ some k_ ≠ (.slice Ao45 t339.length co45 : Value).ownBlock ∧ some k_ ≠ (v343 : Value).ownBlock ∧ some k_ ≠ (.slice Ao37 t329.length co37 : Value).ownBlock ∧ some k_ ≠ (.slice Ao73 t354.length co73 : Value).ownBlock ∧ some k_ ≠ (.slice Ao75 t358.length co75 : Value).ownBlock) (Kd.R_keptB (HO349.out) hkp (fun k_ hk_ hs_ => (hk_.2.1) hs_)) (fun k_ hk_ => ⟨hk_.1.1, hk_.1.2.1, hk_.1.2.2.1, hk_.1.2.2.2.1, hk_.1.2.2.2.2.1, hk_.1.2.2.2.2.2.1, hk_.1.2.2.2.2.2.2⟩)); have n9_ := Aside0.mk (Kd.R_mono (ok' := fun k_ => some k_ ≠ (.slice Ao40 t332.length co40 : Value).ownBlock) (Kd.R_keptB ((Kd.R_apart' HO352.out (Kd.R_typed HO_11.out) t33_)) hkp (fun k_ hk_ hs_ => (hk_.2) hs_)) (fun k_ hk_ => hk_.1.1)); have n10_ := Aside0.mk (Kd.R_mono (ok' := fun k_ => some k_ ≠ (v326 : Value).ownBlock ∧ some k_ ≠ (.slice Ao44 t336.length co44 : Value).ownBlock ∧ some k_ ≠ (.slice Ao45 t339.length co45 : Value).ownBlock ∧ some k_ ≠ (v343 : Value).ownBlock ∧ some k_ ≠ (.slice Ao37 t329.length co37 : Value).ownBlock ∧ some k_ ≠ (.slice Ao69 t347.length co69 : Value).ownBlock ∧ some k_ ≠ (.slice Ao75 t358.length co75 : Value).ownBlock) (Kd.R_keptB (HO356.out) hkp (fun k_ hk_ hs_ => (hk_.2.1) hs_)) (fun k_ hk_ => ⟨hk_.1.1, hk_.1.2.1, hk_.1.2.2.1, hk_.1.2.2.2.1, hk_.1.2.2.2.2.1, hk_.1.2.2.2.2.2.1, hk_.1.2.2.2.2.2.2⟩)); have n11_ := Aside0.mk (Kd.R_mono (ok' := fun k_ => some k_ ≠ (v326 : Value).ownBlock ∧ some k_ ≠ (.slice Ao44 t336.length co44 : Value).ownBlock ∧ some k_ ≠ (.slice Ao45 t339.length co45 : Value).ownBlock ∧ some k_ ≠ (v343 : Value).ownBlock ∧ some k_ ≠ (.slice Ao37 t329.length co37 : Value).ownBlock ∧ some k_ ≠ (.slice Ao69 t347.length co69 : Value).ownBlock ∧ some k_ ≠ (.slice Ao73 t354.length co73 : Value).ownBlock) (Kd.R_keptB (HO360.out) hkp (fun k_ hk_ hs_ => (hk_.2.1) hs_)) (fun k_ hk_ => ⟨hk_.1.1, hk_.1.2.1, hk_.1.2.2.1, hk_.1.2.2.2.1, hk_.1.2.2.2.2.1, hk_.1.2.2.2.2.2.1, hk_.1.2.2.2.2.2.2⟩)); have n12_ := Aside0.mk (hb); clear HO_8; clear HO_11; clear HO_12; clear HO_13; clear HO_336000; clear HO_336001; clear BK311; clear BK335; clear HO349; clear HO352; clear HO356; clear HO360; clear HB; have HO_8 := n0_; have HO_11 := n1_; have HO_12 := n2_; have HO_13 := n3_; have HO_336000 := n4_; have HO_336001 := n5_; have BK311 := n6_; have BK335 := n7_; have HO349 := n8_; have HO352 := n9_; have HO356 := n10_; have HO360 := n11_; have HB := n12_; clear n0_ n1_ n2_ n3_ n4_ n5_ n6_ n7_ n8_ n9_ n10_ n11_ n12_; (try clear hb); (try clear hkp); (try clear hy0)) | ((with_reducible refine gate_callee (f := 26) rfl ?_); refine goesL_ (some 86) rfl rfl Try.func26 t15_ rfl #[.slice Ao45 t339.length co45, .int .i64 t365] rfl t2_ ?_; (with_reducible refine (laws_markInt64S.calls kj20 (fun k_ => some k_ = (.slice Ao45 t339.length co45 : Value).ownBlock) (.slice Ao45 t339.length co45) t339 t365 t367 t368 w _ ?side1 ?side2 A65.out).mono ?_); (case side1 => repeat (first | (with_reducible first | exact HB.out | apply below_alloc | apply pw_below_drewN | apply below_drew1 | refine below_set ?_ GE311.out | refine below_set ?_ GE335.out) | exact HB.out)); (case side2 => exact Kd.R_tight rfl HO_12.out); rintro e w80 ⟨rfl, hy0, hb, hkp⟩; refine ⟨_, rfl, ?_⟩; have n0_ := Aside0.mk (Kd.R_mono (ok' := fun k_ => some k_ ≠ (.slice Ao44 t336.length co44 : Value).ownBlock ∧ some k_ ≠ (.slice Ao45 t339.length co45 : Value).ownBlock ∧ some k_ ≠ (v343 : Value).ownBlock ∧ some k_ ≠ (.slice Ao37 t329.length co37 : Value).ownBlock ∧ some k_ ≠ (.slice Ao69 t347.length co69 : Value).ownBlock ∧ some k_ ≠ (.slice Ao73 t354.length co73 : Value).ownBlock ∧ some k_ ≠ (.slice Ao75 t358.length co75 : Value).ownBlock) (Kd.R_keptB (HO_8.out) hkp (fun k_ hk_ hs_ => (hk_.2.1) hs_)) (fun k_ hk_ => ⟨hk_.1.1, hk_.1.2.1, hk_.1.2.2.1, hk_.1.2.2.2.1, hk_.1.2.2.2.2.1, hk_.1.2.2.2.2.2.1, hk_.1.2.2.2.2.2.2⟩)); have n1_ := Aside0.mk (Kd.R_mono (ok' := fun k_ => some k_ ≠ (v326 : Value).ownBlock ∧ some k_ ≠ (.slice Ao45 t339.length co45 : Value).ownBlock ∧ some k_ ≠ (v343 : Value).ownBlock ∧ some k_ ≠ (.slice Ao37 t329.length co37 : Value).ownBlock ∧ some k_ ≠ (.slice Ao69 t347.length co69 : Value).ownBlock ∧ some k_ ≠ (.slice Ao73 t354.length co73 : Value).ownBlock ∧ some k_ ≠ (.slice Ao75 t358.length co75 : Value).ownBlock) (Kd.R_keptB (HO_11.out) hkp (fun k_ hk_ hs_ => (hk_.2.1) hs_)) (fun k_ hk_ => ⟨hk_.1.1, hk_.1.2.1, hk_.1.2.2.1, hk_.1.2.2.2.1, hk_.1.2.2.2.2.1, hk_.1.2.2.2.2.2.1, hk_.1.2.2.2.2.2.2⟩)); have n2_ := Aside0.mk (Kd.R_reok rfl hy0 (fun k_ e_ => HO_12.out.1 k_ e_)); have n3_ := Aside0.mk (Kd.R_mono (ok' := fun k_ => some k_ ≠ (v326 : Value).ownBlock ∧ some k_ ≠ (.slice Ao44 t336.length co44 : Value).ownBlock ∧ some k_ ≠ (.slice Ao45 t339.length co45 : Value).ownBlock ∧ some k_ ≠ (.slice Ao37 t329.length co37 : Value).ownBlock ∧ some k_ ≠ (.slice Ao69 t347.length co69 : Value).ownBlock ∧ some k_ ≠ (.slice Ao73 t354.length co73 : Value).ownBlock ∧ some k_ ≠ (.slice Ao75 t358.length co75 : Value).ownBlock) (Kd.R_keptB (HO_13.out) hkp (fun k_ hk_ hs_ => (hk_.2.2.1) hs_)) (fun k_ hk_ => ⟨hk_.1.1, hk_.1.2.1, hk_.1.2.2.1, hk_.1.2.2.2.1, hk_.1.2.2.2.2.1, hk_.1.2.2.2.2.2.1, hk_.1.2.2.2.2.2.2⟩)); have n4_ := Aside0.mk (Kd.R_mono (ok' := fun k_ => some k_ ≠ (v326 : Value).ownBlock ∧ some k_ ≠ (.slice Ao44 t336.length co44 : Value).ownBlock ∧ some k_ ≠ (.slice Ao45 t339.length co45 : Value).ownBlock ∧ some k_ ≠ (v343 : Value).ownBlock ∧ some k_ ≠ (.slice Ao69 t347.length co69 : Value).ownBlock ∧ some k_ ≠ (.slice Ao73 t354.length co73 : Value).ownBlock ∧ some k_ ≠ (.slice Ao75 t358.length co75 : Value).ownBlock) (Kd.R_keptB (HO_336000.out) hkp (fun k_ hk_ hs_ => (hk_.2.2.1) hs_)) (fun k_ hk_ => ⟨hk_.1.1, hk_.1.2.1, hk_.1.2.2.1, hk_.1.2.2.2.1, hk_.1.2.2.2.2.1, hk_.1.2.2.2.2.2.1, hk_.1.2.2.2.2.2.2⟩)); have n5_ := Aside0.mk (Kd.R_mono (ok' := fun k_ => some k_ ≠ (.slice Ao70 t350.length co70 : Value).ownBlock) (Kd.R_keptB ((Kd.R_apart' HO_336001.out (Kd.R_typed HO_12.out) t33_)) hkp (fun k_ hk_ hs_ => (hk_.2) hs_)) (fun k_ hk_ => hk_.1.1)); have n6_ := Aside0.mk (blk_kept (q1_ BK311.out) hkp (fun hs_ => (fun e_ => (Kd.R_ne HO_12.out BK311.out t33_) e_) hs_)); have n7_ := Aside0.mk (blk_kept (q1_ BK335.out) hkp (fun hs_ => (fun e_ => (Kd.R_ne HO_12.out BK335.out t33_) e_) hs_)); have n8_ := Aside0.mk (Kd.R_mono (ok' := fun k_ => some k_ ≠ (v326 : Value).ownBlock ∧ some k_ ≠ (.slice Ao44 t336.length co44 : Value).ownBlock ∧ some k_ ≠ (.slice Ao45 t339.length co45 : Value).ownBlock ∧ some k_ ≠ (v343 : Value).ownBlock ∧ some k_ ≠ (.slice Ao37 t329.length co37 : Value).ownBlock ∧ some k_ ≠ (.slice Ao73 t354.length co73 : Value).ownBlock ∧ some k_ ≠ (.slice Ao75 t358.length co75 : Value).ownBlock) (Kd.R_keptB (HO349.out) hkp (fun k_ hk_ hs_ => (hk_.2.2.1) hs_)) (fun k_ hk_ => ⟨hk_.1.1, hk_.1.2.1, hk_.1.2.2.1, hk_.1.2.2.2.1, hk_.1.2.2.2.2.1, hk_.1.2.2.2.2.2.1, hk_.1.2.2.2.2.2.2⟩)); have n9_ := Aside0.mk (Kd.R_mono (ok' := fun k_ => some k_ ≠ (.slice Ao40 t332.length co40 : Value).ownBlock) (Kd.R_keptB ((Kd.R_apart' HO352.out (Kd.R_typed HO_12.out) t33_)) hkp (fun k_ hk_ hs_ => (hk_.2) hs_)) (fun k_ hk_ => hk_.1.1)); have n10_ := Aside0.mk (Kd.R_mono (ok' := fun k_ => some k_ ≠ (v326 : Value).ownBlock ∧ some k_ ≠ (.slice Ao44 t336.length co44 : Value).ownBlock ∧ some k_ ≠ (.slice Ao45 t339.length co45 : Value).ownBlock ∧ some k_ ≠ (v343 : Value).ownBlock ∧ some k_ ≠ (.slice Ao37 t329.length co37 : Value).ownBlock ∧ some k_ ≠ (.slice Ao69 t347.length co69 : Value).ownBlock ∧ some k_ ≠ (.slice Ao75 t358.length co75 : Value).ownBlock) (Kd.R_keptB (HO356.out) hkp (fun k_ hk_ hs_ => (hk_.2.2.1) hs_)) (fun k_ hk_ => ⟨hk_.1.1, hk_.1.2.1, hk_.1.2.2.1, hk_.1.2.2.2.1, hk_.1.2.2.2.2.1, hk_.1.2.2.2.2.2.1, hk_.1.2.2.2.2.2.2⟩)); have n11_ := Aside0.mk (Kd.R_mono (ok' := fun k_ => some k_ ≠ (v326 : Value).ownBlock ∧ some k_ ≠ (.slice Ao44 t336.length co44 : Value).ownBlock ∧ some k_ ≠ (.slice Ao45 t339.length co45 : Value).ownBlock ∧ some k_ ≠ (v343 : Value).ownBlock ∧ some k_ ≠ (.slice Ao37 t329.length co37 : Value).ownBlock ∧ some k_ ≠ (.slice Ao69 t347.length co69 : Value).ownBlock ∧ some k_ ≠ (.slice Ao73 t354.length co73 : Value).ownBlock) (Kd.R_keptB (HO360.out) hkp (fun k_ hk_ hs_ => (hk_.2.2.1) hs_)) (fun k_ hk_ => ⟨hk_.1.1, hk_.1.2.1, hk_.1.2.2.1, hk_.1.2.2.2.1, hk_.1.2.2.2.2.1, hk_.1.2.2.2.2.2.1, hk_.1.2.2.2.2.2.2⟩)); have n12_ := Aside0.mk (hb); clear HO_8; clear HO_11; clear HO_12; clear HO_13; clear HO_336000; clear HO_336001; clear BK311; clear BK335; clear HO349; clear HO352; clear HO356; clear HO360; clear HB; have HO_8 := n0_; have HO_11 := n1_; have HO_12 := n2_; have HO_13 := n3_; have HO_336000 := n4_; have HO_336001 := n5_; have BK311 := n6_; have BK335 := n7_; have HO349 := n8_; have HO352 := n9_; have HO356 := n10_; have HO360 := n11_; have HB := n12_; clear n0_ n1_ n2_ n3_ n4_ n5_ n6_ n7_ n8_ n9_ n10_ n11_ n12_; (try clear hb); (try clear hkp); (try clear hy0)))
          (try simp only [Act.put, List.setIfInBounds_toArray, List.set_cons_zero, List.set_cons_succ])
          go_cut [99] (fun v99 wc => ∃ (kq : Nat) (x99_65 : Bool), v99 = .bool x99_65 ∧ Aside0 (laws_FnExactServedNodes.j1 kq l1 l2 t325 t328 t342 x99_65 l0_0 l0_1 = some r) ∧ Aside0 (kq ≤ kj20) ∧ Aside0 (Kd.R (Kd.int .i64) 2 wc w.heap.size (fun k_ => some k_ ≠ (v343 : Value).ownBlock ∧ some k_ ≠ ((.slice Ao37 t329.length co37) : Value).ownBlock) v326 t325) ∧ Aside0 (Kd.R (Kd.int .i64) 2 wc w.heap.size (fun k_ => some k_ ≠ (v326 : Value).ownBlock ∧ some k_ ≠ ((.slice Ao37 t329.length co37) : Value).ownBlock) v343 t342) ∧ Aside0 (Kd.R (Kd.int .i64) 2 wc w.heap.size (fun k_ => some k_ ≠ (v326 : Value).ownBlock ∧ some k_ ≠ (v343 : Value).ownBlock) (.slice Ao37 t329.length co37) t363) ∧ Aside0 (Kd.R k80 80 wc w.heap.size (fun _ => True) (.slice Ao40 t332.length co40) t364) ∧ Aside0 (wc.heap[gb311]? = some (.cells #[(.slice A0_0 l0_0.length c0_0), (.slice A0_1 l0_1.length c0_1)] 25 (0, 0))) ∧ Aside0 (wc.heap[gb335]? = some (.cells #[(.slice Ao37 t329.length co37), (.slice Ao40 t332.length co40)] 32 (0, 0))) ∧ Aside0 (Below w.heap.size w wc))
          case first =>
           have H := HC66.out
           clear HC66
           by_cases c81 : t367 < 0
           ·rw [if_pos c81] at H
            have c81b0 : decide (t367 < 0) = true := decide_eq_true c81
            clear c81
            (first | rw [c81b0] | (simp only [i64_w, i32_w]; rw [c81b0]) | skip)
            have H' := Aside0.mk H
            clear H
            go_wp2
            go_meet
            case rel => exact ⟨_, (true), t7_, H', ⟨(by have := HJ20.out; first | omega | exact Nat.le_refl _)⟩, ⟨t64_⟩, ⟨t65_⟩, ⟨t61_⟩, ⟨t67_⟩, ⟨t45_⟩, ⟨t44_⟩, ⟨t4_⟩⟩
           ·rw [if_neg c81] at H
            have c81b0 : decide (t367 < 0) = false := decide_eq_false c81
            clear c81
            (first | rw [c81b0] | (simp only [i64_w, i32_w]; rw [c81b0]) | skip)
            replace H := Option.bind_eq_some_iff.mp H
            obtain ⟨t369, A820, H⟩ := H
            replace H : (if t369 = true then (laws_FnExactServedNodes.j1 kj20 l1 l2 t325 t328 t342 (t345 != t328) l0_0 l0_1) else (laws_FnExactServedNodes.j1 kj20 l1 l2 t325 t328 t342 true l0_0 l0_1)) = some r := H
            have A82 := Aside0.mk A820
            clear A820
            by_cases c83 : t369 = true
            ·subst c83
             have H1 : (laws_FnExactServedNodes.j1 kj20 l1 l2 t325 t328 t342 (t345 != t328) l0_0 l0_1) = some r := by rw [if_pos rfl] at H; exact H
             clear H
             have H := H1
             clear H1
             have H' := Aside0.mk H
             clear H
             obtain ⟨Ao84, co84, eo84⟩ := Kd.R_slice HO_13.out
             subst eo84
             obtain ⟨Ao85, co85, eo85⟩ := Kd.R_slice HO_8.out
             subst eo85
             go_wp2_with (first | (go_at_call 24; (with_reducible refine (laws_eqInt64S.calls kj20 _ _ t342 _ _ t325 true _ ?side1 ?side2 ?side3 ?side4 A82.out).mono ?_); (case side1 => repeat (first | exact (Kd.R_reads' HO_13.out).2.2 | (with_reducible refine Kd.C_alloc ?_ _) | (with_reducible refine Kd.C_drewN ?_ _) | (with_reducible refine Kd.C_drew ?_))); (case side2 => exact (Kd.R_reads' HO_13.out).2.1); (case side3 => repeat (first | exact (Kd.R_reads' HO_8.out).2.2 | (with_reducible refine Kd.C_alloc ?_ _) | (with_reducible refine Kd.C_drewN ?_ _) | (with_reducible refine Kd.C_drew ?_))); (case side4 => exact (Kd.R_reads' HO_8.out).2.1); rintro e w' ⟨rfl, ⟨nd, rfl⟩⟩))
             go_meet
             case rel => exact ⟨_, ((t345 != t328)), t7_, H', ⟨(by have := HJ20.out; first | omega | exact Nat.le_refl _)⟩, ⟨t64_⟩, ⟨t65_⟩, ⟨t61_⟩, ⟨t67_⟩, ⟨t45_⟩, ⟨t44_⟩, ⟨t4_⟩⟩
            ·replace c83 := Bool.eq_false_iff.mpr c83
             subst c83
             have H1 : (laws_FnExactServedNodes.j1 kj20 l1 l2 t325 t328 t342 true l0_0 l0_1) = some r := by rw [if_neg (show ¬ (false = true) by decide)] at H; exact H
             clear H
             have H := H1
             clear H1
             have H' := Aside0.mk H
             clear H
             obtain ⟨Ao86, co86, eo86⟩ := Kd.R_slice HO_13.out
             subst eo86
             obtain ⟨Ao87, co87, eo87⟩ := Kd.R_slice HO_8.out
             subst eo87
             go_wp2_with (first | (go_at_call 24; (with_reducible refine (laws_eqInt64S.calls kj20 _ _ t342 _ _ t325 false _ ?side1 ?side2 ?side3 ?side4 A82.out).mono ?_); (case side1 => repeat (first | exact (Kd.R_reads' HO_13.out).2.2 | (with_reducible refine Kd.C_alloc ?_ _) | (with_reducible refine Kd.C_drewN ?_ _) | (with_reducible refine Kd.C_drew ?_))); (case side2 => exact (Kd.R_reads' HO_13.out).2.1); (case side3 => repeat (first | exact (Kd.R_reads' HO_8.out).2.2 | (with_reducible refine Kd.C_alloc ?_ _) | (with_reducible refine Kd.C_drewN ?_ _) | (with_reducible refine Kd.C_drew ?_))); (case side4 => exact (Kd.R_reads' HO_8.out).2.1); rintro e w' ⟨rfl, ⟨nd, rfl⟩⟩))
             go_meet
             case rel => exact ⟨_, (true), t7_, H', ⟨(by have := HJ20.out; first | omega | exact Nat.le_refl _)⟩, ⟨t64_⟩, ⟨t65_⟩, ⟨t61_⟩, ⟨t67_⟩, ⟨t45_⟩, ⟨t44_⟩, ⟨t4_⟩⟩
          case rest =>
           clear HC66
           try clear c1
           try clear c2
           try clear p2
           try clear c3
           try clear c4
           try clear c4b0
           try clear c4b1
           try clear c5
           try clear c6
           try clear c6b0
           try clear c6b1
           try clear c7
           try clear c8
           try clear c9
           try clear c9b0
           try clear c11
           try clear c14
           try clear c17
           try clear c22
           try clear c24
           try clear c25
           try clear c26
           try clear c30
           try clear c31
           try clear c38
           try clear c48
           try clear c53
           try clear c56
           try clear c59
           try clear c62
           try clear c76
           try clear c81
           try clear c81b0
           try clear c83
           try clear hcz11_0
           try clear hcz11_1
           try clear hcz23_0
           try clear hcz23_1
           try clear hcz25_0
           try clear hcz25_1
           try clear hcz34_0
           try clear hcz34_1
           try clear hcz39_0
           try clear hcz39_1
           try clear hcz43_0
           try clear hcz43_1
           try clear hcz77_0
           try clear hcz77_1
           try clear hfz11_0
           try clear hfz11_1
           try clear hfz23_0
           try clear hfz23_1
           try clear hfz25_0
           try clear hfz25_1
           try clear hfz34_0
           try clear hfz34_1
           try clear hfz39_0
           try clear hfz39_1
           try clear hfz43_0
           try clear hfz43_1
           try clear hfz77_0
           try clear hfz77_1
           try clear p2
           obtain ⟨kq, x99_65, rfl, HA, HJ65, HO_8, HO_13, HO_336000, HO_336001, BK311, BK335, HB⟩ := hcut
           have hl336000_65 := (Kd.R_reads' HO_336000.out).1
           rw [hl336000_65] at HO_336000
           (try simp only [hl336000_65])
           (try simp only [hl336000_65] at BK311)
           (try simp only [hl336000_65] at BK335)
           (try simp only [hl336000_65] at HO_8)
           (try simp only [hl336000_65] at HO_13)
           (try simp only [hl336000_65] at HO_336001)
           have hl336001_65 := (Kd.R_reads' HO_336001.out).1
           rw [hl336001_65] at HO_336001
           (try simp only [hl336001_65])
           (try simp only [hl336001_65] at BK311)
           (try simp only [hl336001_65] at BK335)
           (try simp only [hl336001_65] at HO_8)
           (try simp only [hl336001_65] at HO_13)
           (try simp only [hl336001_65] at HO_336000)
           cases kq with
           | zero => exact absurd HA.out (by simp [laws_FnExactServedNodes.j1])
           | succ kj65 =>
            have H := HA.out
            clear HA
            simp only [laws_FnExactServedNodes.j1] at H
            by_cases c88 : x99_65 = true
            ·subst c88
             have H1 : (some false) = some r := by rw [if_pos rfl] at H; exact H
             clear H
             have H := H1
             clear H1
             obtain rfl := Option.some.inj H
             go_wp2
             go_ret
             exact ⟨t5_, t4_⟩
            ·replace c88 := Bool.eq_false_iff.mpr c88
             subst c88
             have H1 : ((laws_markInt64S.f kj65 t342 1).bind fun bt370 => ((laws_heldInt64S.f kj65 bt370.2 1).bind fun t372 => (if t372 < 0 then (some false) else (if t372 = bt370.1 then ((laws_toNetwork.f kj65 l0_0 l0_1).bind fun bt373 => ((laws_toInt64S.f kj65 l1).bind fun t379 => ((laws_toInt64S.f kj65 l2).bind fun t382 => ((impl_ServedNodes.f kj65 bt373.1 bt373.2 t379 t382).bind fun bt385 => ((laws_eqInt64S.f kj65 bt385.1 t325).bind fun t389 => (if t389 = true then (laws_FnExactServedNodes.j2 kj65 bt370.2 bt370.1 (bt385.2 != t328)) else (laws_FnExactServedNodes.j2 kj65 bt370.2 bt370.1 true))))))) else (some false))))) = some r := by rw [if_neg (show ¬ (false = true) by decide)] at H; exact H
             clear H
             have H := H1
             clear H1
             replace H := Option.bind_eq_some_iff.mp H
             obtain ⟨⟨t370, t371⟩, A890, H⟩ := H
             replace H : ((laws_heldInt64S.f kj65 t371 1).bind fun t372 => (if t372 < 0 then (some false) else (if t372 = t370 then ((laws_toNetwork.f kj65 l0_0 l0_1).bind fun bt373 => ((laws_toInt64S.f kj65 l1).bind fun t379 => ((laws_toInt64S.f kj65 l2).bind fun t382 => ((impl_ServedNodes.f kj65 bt373.1 bt373.2 t379 t382).bind fun bt385 => ((laws_eqInt64S.f kj65 bt385.1 t325).bind fun t389 => (if t389 = true then (laws_FnExactServedNodes.j2 kj65 t371 t370 (bt385.2 != t328)) else (laws_FnExactServedNodes.j2 kj65 t371 t370 true))))))) else (some false)))) = some r := H
             have A89 := Aside0.mk A890
             clear A890
             replace H := Option.bind_eq_some_iff.mp H
             obtain ⟨t372, A900, H⟩ := H
             replace H : (if t372 < 0 then (some false) else (if t372 = t370 then ((laws_toNetwork.f kj65 l0_0 l0_1).bind fun bt373 => ((laws_toInt64S.f kj65 l1).bind fun t379 => ((laws_toInt64S.f kj65 l2).bind fun t382 => ((impl_ServedNodes.f kj65 bt373.1 bt373.2 t379 t382).bind fun bt385 => ((laws_eqInt64S.f kj65 bt385.1 t325).bind fun t389 => (if t389 = true then (laws_FnExactServedNodes.j2 kj65 t371 t370 (bt385.2 != t328)) else (laws_FnExactServedNodes.j2 kj65 t371 t370 true))))))) else (some false))) = some r := H
             have A90 := Aside0.mk A900
             clear A900
             by_cases c91 : t372 < 0
             ·rw [if_pos c91] at H
              have c91b0 : decide (t372 < 0) = true := decide_eq_true c91
              clear c91
              obtain rfl := Option.some.inj H
              obtain ⟨Ao92, co92, eo92⟩ := Kd.R_slice HO_13.out
              subst eo92
              go_wp2_with (first | ((with_reducible refine gate_callee (f := 26) rfl ?_); refine goesL_ (some 102) rfl rfl Try.func26 t15_ rfl #[.slice Ao92 t342.length co92, .int .i64 1] rfl t2_ ?_; (with_reducible refine (laws_markInt64S.calls kj65 (fun k_ => some k_ = (.slice Ao92 t342.length co92 : Value).ownBlock) (.slice Ao92 t342.length co92) t342 1 t370 t371 w _ ?side1 ?side2 A89.out).mono ?_); (case side1 => repeat (first | (with_reducible first | exact HB.out | apply below_alloc | apply pw_below_drewN | apply below_drew1 | refine below_set ?_ GE311.out | refine below_set ?_ GE335.out) | exact HB.out)); (case side2 => exact Kd.R_tight rfl HO_13.out); rintro e w93 ⟨rfl, hy0, hb, hkp⟩; refine ⟨_, rfl, ?_⟩; have n0_ := Aside0.mk (Kd.R_mono (ok' := fun k_ => some k_ ≠ (.slice Ao92 t342.length co92 : Value).ownBlock ∧ some k_ ≠ (.slice Ao37 t363.length co37 : Value).ownBlock) (Kd.R_keptB (HO_8.out) hkp (fun k_ hk_ hs_ => (hk_.1) hs_)) (fun k_ hk_ => ⟨hk_.1.1, hk_.1.2⟩)); have n1_ := Aside0.mk (Kd.R_reok rfl hy0 (fun k_ e_ => HO_13.out.1 k_ e_)); have n2_ := Aside0.mk (Kd.R_mono (ok' := fun k_ => some k_ ≠ (v326 : Value).ownBlock ∧ some k_ ≠ (.slice Ao92 t342.length co92 : Value).ownBlock) (Kd.R_keptB (HO_336000.out) hkp (fun k_ hk_ hs_ => (hk_.2) hs_)) (fun k_ hk_ => ⟨hk_.1.1, hk_.1.2⟩)); have n3_ := Aside0.mk (Kd.R_mono (ok' := fun k_ => True) (Kd.R_keptB ((Kd.R_apart' HO_336001.out (Kd.R_typed HO_13.out) t33_)) hkp (fun k_ hk_ hs_ => (hk_.2) hs_)) (fun k_ hk_ => trivial)); have n4_ := Aside0.mk (blk_kept (q1_ BK311.out) hkp (fun hs_ => (fun e_ => (Kd.R_ne HO_13.out BK311.out t33_) e_) hs_)); have n5_ := Aside0.mk (blk_kept (q1_ BK335.out) hkp (fun hs_ => (fun e_ => (Kd.R_ne HO_13.out BK335.out t33_) e_) hs_)); have n6_ := Aside0.mk (hb); clear HO_8; clear HO_13; clear HO_336000; clear HO_336001; clear BK311; clear BK335; clear HB; have HO_8 := n0_; have HO_13 := n1_; have HO_336000 := n2_; have HO_336001 := n3_; have BK311 := n4_; have BK335 := n5_; have HB := n6_; clear n0_ n1_ n2_ n3_ n4_ n5_ n6_; (try clear hb); (try clear hkp); (try clear hy0)) | ((with_reducible refine gate_callee (f := 27) rfl ?_); refine goesL_ (some 105) rfl rfl Try.func27 t15_ rfl #[.slice Ao92 t371.length co92, .int .i64 1] rfl t46_ ?_; (with_reducible refine (laws_heldInt64S.calls kj65 _ _ t371 1 t372 _ ?side1 ?side2 A90.out).mono ?_); (case side1 => repeat (first | exact (Kd.R_reads' HO_13.out).2.2 | (with_reducible refine Kd.C_alloc ?_ _) | (with_reducible refine Kd.C_drewN ?_ _) | (with_reducible refine Kd.C_drew ?_))); (case side2 => rw [show t371.length = t342.length from (Kd.R_reads' HO_13.out).1.symm]; exact (Kd.R_reads' HO_13.out).2.1); rintro e w' ⟨rfl, ⟨nd, rfl⟩⟩; refine ⟨_, rfl, ?_⟩))
              go_ret
              exact ⟨t5_, t4_⟩
             ·rw [if_neg c91] at H
              have c91b0 : decide (t372 < 0) = false := decide_eq_false c91
              clear c91
              by_cases c94 : t372 = t370
              ·rw [if_pos c94] at H
               have c94b0 : (t372 == t370) = true := beq_iff_eq.mpr c94
               have c94b1 : (t372 != t370) = false := bne_eq_false_iff_eq.mpr c94
               clear c94
               replace H := Option.bind_eq_some_iff.mp H
               obtain ⟨⟨t373, t376⟩, A950, H⟩ := H
               replace H : ((laws_toInt64S.f kj65 l1).bind fun t379 => ((laws_toInt64S.f kj65 l2).bind fun t382 => ((impl_ServedNodes.f kj65 t373 t376 t379 t382).bind fun bt385 => ((laws_eqInt64S.f kj65 bt385.1 t325).bind fun t389 => (if t389 = true then (laws_FnExactServedNodes.j2 kj65 t371 t370 (bt385.2 != t328)) else (laws_FnExactServedNodes.j2 kj65 t371 t370 true)))))) = some r := H
               have A95 := Aside0.mk A950
               clear A950
               replace H := Option.bind_eq_some_iff.mp H
               obtain ⟨t379, A960, H⟩ := H
               replace H : ((laws_toInt64S.f kj65 l2).bind fun t382 => ((impl_ServedNodes.f kj65 t373 t376 t379 t382).bind fun bt385 => ((laws_eqInt64S.f kj65 bt385.1 t325).bind fun t389 => (if t389 = true then (laws_FnExactServedNodes.j2 kj65 t371 t370 (bt385.2 != t328)) else (laws_FnExactServedNodes.j2 kj65 t371 t370 true))))) = some r := H
               have A96 := Aside0.mk A960
               clear A960
               replace H := Option.bind_eq_some_iff.mp H
               obtain ⟨t382, A970, H⟩ := H
               replace H : ((impl_ServedNodes.f kj65 t373 t376 t379 t382).bind fun bt385 => ((laws_eqInt64S.f kj65 bt385.1 t325).bind fun t389 => (if t389 = true then (laws_FnExactServedNodes.j2 kj65 t371 t370 (bt385.2 != t328)) else (laws_FnExactServedNodes.j2 kj65 t371 t370 true)))) = some r := H
               have A97 := Aside0.mk A970
               clear A970
               replace H := Option.bind_eq_some_iff.mp H
               obtain ⟨⟨t385, t388⟩, A980, H⟩ := H
               replace H : ((laws_eqInt64S.f kj65 t385 t325).bind fun t389 => (if t389 = true then (laws_FnExactServedNodes.j2 kj65 t371 t370 (t388 != t328)) else (laws_FnExactServedNodes.j2 kj65 t371 t370 true))) = some r := H
               have A98 := Aside0.mk A980
               clear A980
               have HC99 := Aside0.mk H
               clear H
               obtain ⟨Ao100, co100, eo100⟩ := Kd.R_slice HO_13.out
               subst eo100
               go_upto_region 37 with (first | ((with_reducible refine gate_callee (f := 26) rfl ?_); refine goesL_ (some 102) rfl rfl Try.func26 t15_ rfl #[.slice Ao100 t342.length co100, .int .i64 1] rfl t2_ ?_; (with_reducible refine (laws_markInt64S.calls kj65 (fun k_ => some k_ = (.slice Ao100 t342.length co100 : Value).ownBlock) (.slice Ao100 t342.length co100) t342 1 t370 t371 w _ ?side1 ?side2 A89.out).mono ?_); (case side1 => repeat (first | (with_reducible first | exact HB.out | apply below_alloc | apply pw_below_drewN | apply below_drew1 | refine below_set ?_ GE311.out | refine below_set ?_ GE335.out) | exact HB.out)); (case side2 => exact Kd.R_tight rfl HO_13.out); rintro e w101 ⟨rfl, hy0, hb, hkp⟩; refine ⟨_, rfl, ?_⟩; have n0_ := Aside0.mk (Kd.R_mono (ok' := fun k_ => some k_ ≠ (.slice Ao100 t342.length co100 : Value).ownBlock ∧ some k_ ≠ (.slice Ao37 t363.length co37 : Value).ownBlock) (Kd.R_keptB (HO_8.out) hkp (fun k_ hk_ hs_ => (hk_.1) hs_)) (fun k_ hk_ => ⟨hk_.1.1, hk_.1.2⟩)); have n1_ := Aside0.mk (Kd.R_reok rfl hy0 (fun k_ e_ => HO_13.out.1 k_ e_)); have n2_ := Aside0.mk (Kd.R_mono (ok' := fun k_ => some k_ ≠ (v326 : Value).ownBlock ∧ some k_ ≠ (.slice Ao100 t342.length co100 : Value).ownBlock) (Kd.R_keptB (HO_336000.out) hkp (fun k_ hk_ hs_ => (hk_.2) hs_)) (fun k_ hk_ => ⟨hk_.1.1, hk_.1.2⟩)); have n3_ := Aside0.mk (Kd.R_mono (ok' := fun k_ => True) (Kd.R_keptB ((Kd.R_apart' HO_336001.out (Kd.R_typed HO_13.out) t33_)) hkp (fun k_ hk_ hs_ => (hk_.2) hs_)) (fun k_ hk_ => trivial)); have n4_ := Aside0.mk (blk_kept (q1_ BK311.out) hkp (fun hs_ => (fun e_ => (Kd.R_ne HO_13.out BK311.out t33_) e_) hs_)); have n5_ := Aside0.mk (blk_kept (q1_ BK335.out) hkp (fun hs_ => (fun e_ => (Kd.R_ne HO_13.out BK335.out t33_) e_) hs_)); have n6_ := Aside0.mk (hb); clear HO_8; clear HO_13; clear HO_336000; clear HO_336001; clear BK311; clear BK335; clear HB; have HO_8 := n0_; have HO_13 := n1_; have HO_336000 := n2_; have HO_336001 := n3_; have BK311 := n4_; have BK335 := n5_; have HB := n6_; clear n0_ n1_ n2_ n3_ n4_ n5_ n6_; (try clear hb); (try clear hkp); (try clear hy0)) | ((with_reducible refine gate_callee (f := 27) rfl ?_); refine goesL_ (some 105) rfl rfl Try.func27 t15_ rfl #[.slice Ao100 t371.length co100, .int .i64 1] rfl t46_ ?_; (with_reducible refine (laws_heldInt64S.calls kj65 _ _ t371 1 t372 _ ?side1 ?side2 A90.out).mono ?_); (case side1 => repeat (first | exact (Kd.R_reads' HO_13.out).2.2 | (with_reducible refine Kd.C_alloc ?_ _) | (with_reducible refine Kd.C_drewN ?_ _) | (with_reducible refine Kd.C_drew ?_))); (case side2 => rw [show t371.length = t342.length from (Kd.R_reads' HO_13.out).1.symm]; exact (Kd.R_reads' HO_13.out).2.1); rintro e w' ⟨rfl, ⟨nd, rfl⟩⟩; refine ⟨_, rfl, ?_⟩; have hnb102 := NB311_335.out; have hnc102 := NB335_311.out; have hcz103_0 : w101.cell? ⟨gb311, 0, none⟩ = some (.slice A0_0 l0_0.length c0_0) := (blk_cell BK311.out 0).trans rfl; have hcz103_1 : w101.cell? ⟨gb311, 1, none⟩ = some (.slice A0_1 l0_1.length c0_1) := (blk_cell BK311.out 1).trans rfl; have hfz103_0 := blk_frozen BK311.out 0; have hfz103_1 := blk_frozen BK311.out 1) | ((with_reducible refine gate_callee (f := 14) rfl ?_); refine goesL_ (some 113) rfl rfl Try.func14 t15_ rfl #[.agg #[.slice A0_0 l0_0.length c0_0, .slice A0_1 l0_1.length c0_1]] rfl t2_ ?_; (with_reducible refine (laws_toNetwork.calls kj65 _ _ l0_0 _ _ l0_1 t373 t376 _ ?side1 ?side2 ?side3 ?side4 A95.out).mono ?_); (case side1 => repeat (first | exact (Kd.C_below HR0_0.out t4_) | (with_reducible refine Kd.C_alloc ?_ _) | (with_reducible refine Kd.C_drewN ?_ _) | (with_reducible refine Kd.C_drew ?_))); (case side2 => exact HC0_0.out); (case side3 => repeat (first | exact (Kd.C_below HR0_1.out t4_) | (with_reducible refine Kd.C_alloc ?_ _) | (with_reducible refine Kd.C_drewN ?_ _) | (with_reducible refine Kd.C_drew ?_))); (case side4 => exact HC0_1.out); rintro e w104 ⟨v374, v377, rfl, ho0, ho1, hb⟩; refine ⟨_, rfl, ?_⟩; have n0_ := Aside0.mk (Kd.R_elder' (q2_ HO_8.out) (Kd.R_base ho0) hb); have n1_ := Aside0.mk (Kd.R_elder' (q2_ HO_13.out) (Kd.R_base ho0) hb); have n2_ := Aside0.mk (Kd.R_elder' (q2_ HO_336000.out) (Kd.R_base ho0) hb); have n3_ := Aside0.mk (Kd.R_elder' (q2_ HO_336001.out) (Kd.R_base ho1) hb); have n4_ := Aside0.mk (Kd.R_lower (Kd.R_new' (Kd.R_new' (Kd.R_new' ho0 (Kd.R_lt (q2_ HO_8.out))) (Kd.R_lt (q2_ HO_13.out))) (Kd.R_lt (q2_ HO_336000.out))) (below_size t4_)); have n5_ := Aside0.mk (Kd.R_lower (Kd.R_new' ho1 (Kd.R_lt (q2_ HO_336001.out))) (below_size t4_)); have n6_ := Aside0.mk (blk_below (g := gb311) (o := .cells #[.slice A0_0 l0_0.length c0_0, .slice A0_1 l0_1.length c0_1] 25 (0, 0)) (q1_ BK311.out) hb); have n7_ := Aside0.mk (blk_below (g := gb335) (o := .cells #[.slice Ao37 t363.length co37, .slice Ao40 t364.length co40] 32 (0, 0)) (q1_ BK335.out) hb); have n8_ := Aside0.mk (below_step t4_ hb); clear HO_8; clear HO_13; clear HO_336000; clear HO_336001; clear BK311; clear BK335; clear HB; have HO_8 := n0_; have HO_13 := n1_; have HO_336000 := n2_; have HO_336001 := n3_; have HO375 := n4_; have HO378 := n5_; have BK311 := n6_; have BK335 := n7_; have HB := n8_; clear n0_ n1_ n2_ n3_ n4_ n5_ n6_ n7_ n8_; (try clear hb); (try clear hb2); (try clear hk); (try clear hi); (try clear ho0); (try clear ho1)) | ((with_reducible refine gate_callee (f := 22) rfl ?_); refine goesL_ (some 115) rfl rfl Try.func22 t15_ rfl #[.slice A1 l1.length c1] rfl t2_ ?_; (with_reducible refine (laws_toInt64S.calls kj65 _ _ l1 t379 _ ?side1 ?side2 A96.out).mono ?_); (case side1 => repeat (first | exact (Kd.C_below HR1.out HB.out) | (with_reducible refine Kd.C_alloc ?_ _) | (with_reducible refine Kd.C_drewN ?_ _) | (with_reducible refine Kd.C_drew ?_))); (case side2 => exact HC1.out); rintro e w105 ⟨v380, rfl, ho0, hb⟩; refine ⟨_, rfl, ?_⟩; have n0_ := Aside0.mk (Kd.R_elder' (q2_ HO_8.out) (Kd.R_base ho0) hb); have n1_ := Aside0.mk (Kd.R_elder' (q2_ HO_13.out) (Kd.R_base ho0) hb); have n2_ := Aside0.mk (Kd.R_elder' (q2_ HO_336000.out) (Kd.R_base ho0) hb); have n3_ := Aside0.mk (Kd.R_below (q2_ HO_336001.out) hb); have n4_ := Aside0.mk (Kd.R_elder' (q2_ HO375.out) (Kd.R_base ho0) hb); have n5_ := Aside0.mk (Kd.R_below (q2_ HO378.out) hb); have n6_ := Aside0.mk (Kd.R_lower (Kd.R_new' (Kd.R_new' (Kd.R_new' (Kd.R_new' ho0 (Kd.R_lt (q2_ HO_8.out))) (Kd.R_lt (q2_ HO_13.out))) (Kd.R_lt (q2_ HO_336000.out))) (Kd.R_lt (q2_ HO375.out))) (below_size t4_)); have n7_ := Aside0.mk (blk_below (g := gb311) (o := .cells #[.slice A0_0 l0_0.length c0_0, .slice A0_1 l0_1.length c0_1] 25 (0, 0)) (q1_ BK311.out) hb); have n8_ := Aside0.mk (blk_below (g := gb335) (o := .cells #[.slice Ao37 t363.length co37, .slice Ao40 t364.length co40] 32 (0, 0)) (q1_ BK335.out) hb); have n9_ := Aside0.mk (below_step t4_ hb); clear HO_8; clear HO_13; clear HO_336000; clear HO_336001; clear HO375; clear HO378; clear BK311; clear BK335; clear HB; have HO_8 := n0_; have HO_13 := n1_; have HO_336000 := n2_; have HO_336001 := n3_; have HO375 := n4_; have HO378 := n5_; have HO381 := n6_; have BK311 := n7_; have BK335 := n8_; have HB := n9_; clear n0_ n1_ n2_ n3_ n4_ n5_ n6_ n7_ n8_ n9_; (try clear hb); (try clear hb2); (try clear hk); (try clear hi); (try clear ho0)) | ((with_reducible refine gate_callee (f := 22) rfl ?_); refine goesL_ (some 117) rfl rfl Try.func22 t15_ rfl #[.slice A2 l2.length c2] rfl t2_ ?_; (with_reducible refine (laws_toInt64S.calls kj65 _ _ l2 t382 _ ?side1 ?side2 A97.out).mono ?_); (case side1 => repeat (first | exact (Kd.C_below HR2.out HB.out) | (with_reducible refine Kd.C_alloc ?_ _) | (with_reducible refine Kd.C_drewN ?_ _) | (with_reducible refine Kd.C_drew ?_))); (case side2 => exact HC2.out); rintro e w106 ⟨v383, rfl, ho0, hb⟩; refine ⟨_, rfl, ?_⟩; have n0_ := Aside0.mk (Kd.R_elder' (q2_ HO_8.out) (Kd.R_base ho0) hb); have n1_ := Aside0.mk (Kd.R_elder' (q2_ HO_13.out) (Kd.R_base ho0) hb); have n2_ := Aside0.mk (Kd.R_elder' (q2_ HO_336000.out) (Kd.R_base ho0) hb); have n3_ := Aside0.mk (Kd.R_below (q2_ HO_336001.out) hb); have n4_ := Aside0.mk (Kd.R_elder' (q2_ HO375.out) (Kd.R_base ho0) hb); have n5_ := Aside0.mk (Kd.R_below (q2_ HO378.out) hb); have n6_ := Aside0.mk (Kd.R_elder' (q2_ HO381.out) (Kd.R_base ho0) hb); have n7_ := Aside0.mk (Kd.R_lower (Kd.R_new' (Kd.R_new' (Kd.R_new' (Kd.R_new' (Kd.R_new' ho0 (Kd.R_lt (q2_ HO_8.out))) (Kd.R_lt (q2_ HO_13.out))) (Kd.R_lt (q2_ HO_336000.out))) (Kd.R_lt (q2_ HO375.out))) (Kd.R_lt (q2_ HO381.out))) (below_size t4_)); have n8_ := Aside0.mk (blk_below (g := gb311) (o := .cells #[.slice A0_0 l0_0.length c0_0, .slice A0_1 l0_1.length c0_1] 25 (0, 0)) (q1_ BK311.out) hb); have n9_ := Aside0.mk (blk_below (g := gb335) (o := .cells #[.slice Ao37 t363.length co37, .slice Ao40 t364.length co40] 32 (0, 0)) (q1_ BK335.out) hb); have n10_ := Aside0.mk (below_step t4_ hb); clear HO_8; clear HO_13; clear HO_336000; clear HO_336001; clear HO375; clear HO378; clear HO381; clear BK311; clear BK335; clear HB; have HO_8 := n0_; have HO_13 := n1_; have HO_336000 := n2_; have HO_336001 := n3_; have HO375 := n4_; have HO378 := n5_; have HO381 := n6_; have HO384 := n7_; have BK311 := n8_; have BK335 := n9_; have HB := n10_; clear n0_ n1_ n2_ n3_ n4_ n5_ n6_ n7_ n8_ n9_ n10_; (try clear hb); (try clear hb2); (try clear hk); (try clear hi); (try clear ho0); obtain ⟨Ao107, co107, eo107⟩ := Kd.R_slice HO375.out; subst eo107; obtain ⟨Ao108, co108, eo108⟩ := Kd.R_slice HO378.out; subst eo108; obtain ⟨Ao109, co109, eo109⟩ := Kd.R_slice HO381.out; subst eo109; obtain ⟨Ao110, co110, eo110⟩ := Kd.R_slice HO384.out; subst eo110) | ((with_reducible refine gate_callee (f := 31) rfl ?_); refine goesL_ (some 118) rfl rfl Try.func31 t15_ rfl #[.agg #[.slice Ao107 t373.length co107, .slice Ao108 t376.length co108], .slice Ao109 t379.length co109, .slice Ao110 t382.length co110] rfl t2_ ?_; (with_reducible refine (impl_ServedNodes.calls kj65 _ _ t373 _ _ t376 _ _ t379 _ _ t382 t385 t388 _ ?side1 ?side2 ?side3 ?side4 ?side5 ?side6 ?side7 ?side8 A98.out).mono ?_); (case side1 => repeat (first | exact (Kd.R_reads' HO375.out).2.2 | (with_reducible refine Kd.C_alloc ?_ _) | (with_reducible refine Kd.C_drewN ?_ _) | (with_reducible refine Kd.C_drew ?_))); (case side2 => exact (Kd.R_reads' HO375.out).2.1); (case side3 => repeat (first | exact (Kd.R_reads' HO378.out).2.2 | (with_reducible refine Kd.C_alloc ?_ _) | (with_reducible refine Kd.C_drewN ?_ _) | (with_reducible refine Kd.C_drew ?_))); (case side4 => exact (Kd.R_reads' HO378.out).2.1); (case side5 => repeat (first | exact (Kd.R_reads' HO381.out).2.2 | (with_reducible refine Kd.C_alloc ?_ _) | (with_reducible refine Kd.C_drewN ?_ _) | (with_reducible refine Kd.C_drew ?_))); (case side6 => exact (Kd.R_reads' HO381.out).2.1); (case side7 => repeat (first | exact (Kd.R_reads' HO384.out).2.2 | (with_reducible refine Kd.C_alloc ?_ _) | (with_reducible refine Kd.C_drewN ?_ _) | (with_reducible refine Kd.C_drew ?_))); (case side8 => exact (Kd.R_reads' HO384.out).2.1); rintro e w111 ⟨v386, rfl, ho0, hb⟩; refine ⟨_, rfl, ?_⟩; have n0_ := Aside0.mk (Kd.R_elder' (q2_ HO_8.out) (Kd.R_base ho0) hb); have n1_ := Aside0.mk (Kd.R_elder' (q2_ HO_13.out) (Kd.R_base ho0) hb); have n2_ := Aside0.mk (Kd.R_elder' (q2_ HO_336000.out) (Kd.R_base ho0) hb); have n3_ := Aside0.mk (Kd.R_below (q2_ HO_336001.out) hb); have n4_ := Aside0.mk (Kd.R_elder' (q2_ HO375.out) (Kd.R_base ho0) hb); have n5_ := Aside0.mk (Kd.R_below (q2_ HO378.out) hb); have n6_ := Aside0.mk (Kd.R_elder' (q2_ HO381.out) (Kd.R_base ho0) hb); have n7_ := Aside0.mk (Kd.R_elder' (q2_ HO384.out) (Kd.R_base ho0) hb); have n8_ := Aside0.mk (Kd.R_lower (Kd.R_new' (Kd.R_new' (Kd.R_new' (Kd.R_new' (Kd.R_new' (Kd.R_new' ho0 (Kd.R_lt (q2_ HO_8.out))) (Kd.R_lt (q2_ HO_13.out))) (Kd.R_lt (q2_ HO_336000.out))) (Kd.R_lt (q2_ HO375.out))) (Kd.R_lt (q2_ HO381.out))) (Kd.R_lt (q2_ HO384.out))) (below_size t4_)); have n9_ := Aside0.mk (blk_below (g := gb311) (o := .cells #[.slice A0_0 l0_0.length c0_0, .slice A0_1 l0_1.length c0_1] 25 (0, 0)) (q1_ BK311.out) hb); have n10_ := Aside0.mk (blk_below (g := gb335) (o := .cells #[.slice Ao37 t363.length co37, .slice Ao40 t364.length co40] 32 (0, 0)) (q1_ BK335.out) hb); have n11_ := Aside0.mk (below_step t4_ hb); clear HO_8; clear HO_13; clear HO_336000; clear HO_336001; clear HO375; clear HO378; clear HO381; clear HO384; clear BK311; clear BK335; clear HB; have HO_8 := n0_; have HO_13 := n1_; have HO_336000 := n2_; have HO_336001 := n3_; have HO375 := n4_; have HO378 := n5_; have HO381 := n6_; have HO384 := n7_; have HO387 := n8_; have BK311 := n9_; have BK335 := n10_; have HB := n11_; clear n0_ n1_ n2_ n3_ n4_ n5_ n6_ n7_ n8_ n9_ n10_ n11_; (try clear hb); (try clear hb2); (try clear hk); (try clear hi); (try clear ho0)))
               (try simp only [Act.put, List.setIfInBounds_toArray, List.set_cons_zero, List.set_cons_succ])
               go_cut [129] (fun v129 wc => ∃ (kq : Nat) (x129_98 : Bool), v129 = .bool x129_98 ∧ Aside0 (laws_FnExactServedNodes.j2 kq t371 t370 x129_98 = some r) ∧ Aside0 (kq ≤ kj65) ∧ Aside0 (Kd.R (Kd.int .i64) 2 wc w.heap.size (fun k_ => some k_ ≠ ((.slice Ao37 t363.length co37) : Value).ownBlock) (.slice Ao100 t342.length co100) t371) ∧ Aside0 (Kd.R (Kd.int .i64) 2 wc w.heap.size (fun k_ => some k_ ≠ ((.slice Ao100 t342.length co100) : Value).ownBlock) (.slice Ao37 t363.length co37) t363) ∧ Aside0 (Kd.R k80 80 wc w.heap.size (fun _ => True) (.slice Ao40 t364.length co40) t364) ∧ Aside0 (wc.heap[gb311]? = some (.cells #[(.slice A0_0 l0_0.length c0_0), (.slice A0_1 l0_1.length c0_1)] 25 (0, 0))) ∧ Aside0 (wc.heap[gb335]? = some (.cells #[(.slice Ao37 t363.length co37), (.slice Ao40 t364.length co40)] 32 (0, 0))) ∧ Aside0 (Below w.heap.size w wc))
               case first =>
                have H := HC99.out
                clear HC99
                replace H := Option.bind_eq_some_iff.mp H
                obtain ⟨t389, A1120, H⟩ := H
                replace H : (if t389 = true then (laws_FnExactServedNodes.j2 kj65 t371 t370 (t388 != t328)) else (laws_FnExactServedNodes.j2 kj65 t371 t370 true)) = some r := H
                have A112 := Aside0.mk A1120
                clear A1120
                by_cases c113 : t389 = true
                ·subst c113
                 have H1 : (laws_FnExactServedNodes.j2 kj65 t371 t370 (t388 != t328)) = some r := by rw [if_pos rfl] at H; exact H
                 clear H
                 have H := H1
                 clear H1
                 have H' := Aside0.mk H
                 clear H
                 obtain ⟨Ao114, co114, eo114⟩ := Kd.R_slice HO387.out
                 subst eo114
                 obtain ⟨Ao115, co115, eo115⟩ := Kd.R_slice HO_8.out
                 subst eo115
                 go_wp2_with (first | ((with_reducible refine gate_callee (f := 24) rfl ?_); refine goesL_ (some 123) rfl rfl Try.func24 t15_ rfl #[.slice Ao114 t385.length co114, .slice Ao115 t325.length co115] rfl t2_ ?_; (with_reducible refine (laws_eqInt64S.calls kj65 _ _ t385 _ _ t325 true _ ?side1 ?side2 ?side3 ?side4 A112.out).mono ?_); (case side1 => repeat (first | exact (Kd.R_reads' HO387.out).2.2 | (with_reducible refine Kd.C_alloc ?_ _) | (with_reducible refine Kd.C_drewN ?_ _) | (with_reducible refine Kd.C_drew ?_))); (case side2 => exact (Kd.R_reads' HO387.out).2.1); (case side3 => repeat (first | exact (Kd.R_reads' HO_8.out).2.2 | (with_reducible refine Kd.C_alloc ?_ _) | (with_reducible refine Kd.C_drewN ?_ _) | (with_reducible refine Kd.C_drew ?_))); (case side4 => exact (Kd.R_reads' HO_8.out).2.1); rintro e w' ⟨rfl, ⟨nd, rfl⟩⟩; refine ⟨_, rfl, ?_⟩))
                 go_meet
                 case rel => exact ⟨_, ((t388 != t328)), t7_, H', ⟨(by have := HJ20.out; have := HJ65.out; first | omega | exact Nat.le_refl _)⟩, ⟨t72_⟩, ⟨t71_⟩, ⟨t73_⟩, ⟨(by (try simp only [hl336000_65]); (try simp only [hl336001_65]); (with_reducible repeat (first | refine blk_drewN ?_ _ | refine blk_drew ?_ | refine blk_alloc ?_ _)); exact BK311.out)⟩, ⟨(by (try simp only [hl336000_65]); (try simp only [hl336001_65]); (with_reducible repeat (first | refine blk_drewN ?_ _ | refine blk_drew ?_ | refine blk_alloc ?_ _)); exact BK335.out)⟩, ⟨t4_⟩⟩
                ·replace c113 := Bool.eq_false_iff.mpr c113
                 subst c113
                 have H1 : (laws_FnExactServedNodes.j2 kj65 t371 t370 true) = some r := by rw [if_neg (show ¬ (false = true) by decide)] at H; exact H
                 clear H
                 have H := H1
                 clear H1
                 have H' := Aside0.mk H
                 clear H
                 obtain ⟨Ao116, co116, eo116⟩ := Kd.R_slice HO387.out
                 subst eo116
                 obtain ⟨Ao117, co117, eo117⟩ := Kd.R_slice HO_8.out
                 subst eo117
                 go_wp2_with (first | ((with_reducible refine gate_callee (f := 24) rfl ?_); refine goesL_ (some 123) rfl rfl Try.func24 t15_ rfl #[.slice Ao116 t385.length co116, .slice Ao117 t325.length co117] rfl t2_ ?_; (with_reducible refine (laws_eqInt64S.calls kj65 _ _ t385 _ _ t325 false _ ?side1 ?side2 ?side3 ?side4 A112.out).mono ?_); (case side1 => repeat (first | exact (Kd.R_reads' HO387.out).2.2 | (with_reducible refine Kd.C_alloc ?_ _) | (with_reducible refine Kd.C_drewN ?_ _) | (with_reducible refine Kd.C_drew ?_))); (case side2 => exact (Kd.R_reads' HO387.out).2.1); (case side3 => repeat (first | exact (Kd.R_reads' HO_8.out).2.2 | (with_reducible refine Kd.C_alloc ?_ _) | (with_reducible refine Kd.C_drewN ?_ _) | (with_reducible refine Kd.C_drew ?_))); (case side4 => exact (Kd.R_reads' HO_8.out).2.1); rintro e w' ⟨rfl, ⟨nd, rfl⟩⟩; refine ⟨_, rfl, ?_⟩))
                 go_meet
                 case rel => exact ⟨_, (true), t7_, H', ⟨(by have := HJ20.out; have := HJ65.out; first | omega | exact Nat.le_refl _)⟩, ⟨t72_⟩, ⟨t71_⟩, ⟨t73_⟩, ⟨(by (try simp only [hl336000_65]); (try simp only [hl336001_65]); (with_reducible repeat (first | refine blk_drewN ?_ _ | refine blk_drew ?_ | refine blk_alloc ?_ _)); exact BK311.out)⟩, ⟨(by (try simp only [hl336000_65]); (try simp only [hl336001_65]); (with_reducible repeat (first | refine blk_drewN ?_ _ | refine blk_drew ?_ | refine blk_alloc ?_ _)); exact BK335.out)⟩, ⟨t4_⟩⟩
               case rest =>
                clear HC99
                try clear c1
                try clear c2
                try clear p2
                try clear c3
                try clear c4
                try clear c4b0
                try clear c4b1
                try clear c5
                try clear c6
                try clear c6b0
                try clear c6b1
                try clear c7
                try clear c8
                try clear c9
                try clear c9b0
                try clear c10
                try clear c11
                try clear c14
                try clear c17
                try clear c22
                try clear c24
                try clear c25
                try clear c26
                try clear c27
                try clear c30
                try clear c31
                try clear c38
                try clear c48
                try clear c53
                try clear c56
                try clear c59
                try clear c62
                try clear c76
                try clear c81
                try clear c81b0
                try clear c83
                try clear c88
                try clear c91
                try clear c91b0
                try clear c94
                try clear c94b0
                try clear c94b1
                try clear c102
                try clear c113
                try clear hcz103_0
                try clear hcz103_1
                try clear hcz11_0
                try clear hcz11_1
                try clear hcz23_0
                try clear hcz23_1
                try clear hcz25_0
                try clear hcz25_1
                try clear hcz34_0
                try clear hcz34_1
                try clear hcz39_0
                try clear hcz39_1
                try clear hcz43_0
                try clear hcz43_1
                try clear hcz77_0
                try clear hcz77_1
                try clear hfz103_0
                try clear hfz103_1
                try clear hfz11_0
                try clear hfz11_1
                try clear hfz23_0
                try clear hfz23_1
                try clear hfz25_0
                try clear hfz25_1
                try clear hfz34_0
                try clear hfz34_1
                try clear hfz39_0
                try clear hfz39_1
                try clear hfz43_0
                try clear hfz43_1
                try clear hfz77_0
                try clear hfz77_1
                try clear p2
                obtain ⟨kq, x129_98, rfl, HA, HJ98, HO_13, HO_336000, HO_336001, BK311, BK335, HB⟩ := hcut
                have hl13_98 := (Kd.R_reads' HO_13.out).1
                rw [hl13_98] at HO_13
                (try simp only [hl13_98])
                (try simp only [hl13_98] at BK311)
                (try simp only [hl13_98] at BK335)
                (try simp only [hl13_98] at HO_336000)
                (try simp only [hl13_98] at HO_336001)
                cases kq with
                | zero => exact absurd HA.out (by simp [laws_FnExactServedNodes.j2])
                | succ kj98 =>
                 have H := HA.out
                 clear HA
                 simp only [laws_FnExactServedNodes.j2] at H
                 by_cases c118 : x129_98 = true
                 ·subst c118
                  have H1 : (some false) = some r := by rw [if_pos rfl] at H; exact H
                  clear H
                  have H := H1
                  clear H1
                  obtain rfl := Option.some.inj H
                  go_wp2
                  go_ret
                  exact ⟨t5_, t4_⟩
                 ·replace c118 := Bool.eq_false_iff.mpr c118
                  subst c118
                  have H1 : ((laws_heldInt64S.f kj98 t371 1).bind fun t390 => (if t390 < 0 then (some false) else (if t390 = t370 then (some true) else (some false)))) = some r := by rw [if_neg (show ¬ (false = true) by decide)] at H; exact H
                  clear H
                  have H := H1
                  clear H1
                  replace H := Option.bind_eq_some_iff.mp H
                  obtain ⟨t390, A1190, H⟩ := H
                  replace H : (if t390 < 0 then (some false) else (if t390 = t370 then (some true) else (some false))) = some r := H
                  have A119 := Aside0.mk A1190
                  clear A1190
                  by_cases c120 : t390 < 0
                  ·rw [if_pos c120] at H
                   have c120b0 : decide (t390 < 0) = true := decide_eq_true c120
                   clear c120
                   obtain rfl := Option.some.inj H
                   go_wp2_with (first | ((with_reducible refine gate_callee (f := 27) rfl ?_); refine goesL_ (some 132) rfl rfl Try.func27 t15_ rfl #[.slice Ao100 t371.length co100, .int .i64 1] rfl t2_ ?_; (with_reducible refine (laws_heldInt64S.calls kj98 _ _ t371 1 t390 _ ?side1 ?side2 A119.out).mono ?_); (case side1 => repeat (first | exact (Kd.R_reads' HO_13.out).2.2 | (with_reducible refine Kd.C_alloc ?_ _) | (with_reducible refine Kd.C_drewN ?_ _) | (with_reducible refine Kd.C_drew ?_))); (case side2 => exact (Kd.R_reads' HO_13.out).2.1); rintro e w' ⟨rfl, ⟨nd, rfl⟩⟩; refine ⟨_, rfl, ?_⟩))
                   go_ret
                   exact ⟨t5_, t4_⟩
                  ·rw [if_neg c120] at H
                   have c120b0 : decide (t390 < 0) = false := decide_eq_false c120
                   clear c120
                   by_cases c121 : t390 = t370
                   ·rw [if_pos c121] at H
                    have c121b0 : (t390 == t370) = true := beq_iff_eq.mpr c121
                    have c121b1 : (t390 != t370) = false := bne_eq_false_iff_eq.mpr c121
                    clear c121
                    obtain rfl := Option.some.inj H
                    go_wp2_with (first | ((with_reducible refine gate_callee (f := 27) rfl ?_); refine goesL_ (some 132) rfl rfl Try.func27 t15_ rfl #[.slice Ao100 t371.length co100, .int .i64 1] rfl t2_ ?_; (with_reducible refine (laws_heldInt64S.calls kj98 _ _ t371 1 t390 _ ?side1 ?side2 A119.out).mono ?_); (case side1 => repeat (first | exact (Kd.R_reads' HO_13.out).2.2 | (with_reducible refine Kd.C_alloc ?_ _) | (with_reducible refine Kd.C_drewN ?_ _) | (with_reducible refine Kd.C_drew ?_))); (case side2 => exact (Kd.R_reads' HO_13.out).2.1); rintro e w' ⟨rfl, ⟨nd, rfl⟩⟩; refine ⟨_, rfl, ?_⟩))
                    go_ret
                    exact ⟨t5_, t4_⟩
                   ·rw [if_neg c121] at H
                    have c121b0 : (t390 == t370) = false := beq_eq_false_iff_ne.mpr c121
                    have c121b1 : (t390 != t370) = true := bne_iff_ne.mpr c121
                    obtain rfl := Option.some.inj H
                    go_wp2_with (first | ((with_reducible refine gate_callee (f := 27) rfl ?_); refine goesL_ (some 132) rfl rfl Try.func27 t15_ rfl #[.slice Ao100 t371.length co100, .int .i64 1] rfl t2_ ?_; (with_reducible refine (laws_heldInt64S.calls kj98 _ _ t371 1 t390 _ ?side1 ?side2 A119.out).mono ?_); (case side1 => repeat (first | exact (Kd.R_reads' HO_13.out).2.2 | (with_reducible refine Kd.C_alloc ?_ _) | (with_reducible refine Kd.C_drewN ?_ _) | (with_reducible refine Kd.C_drew ?_))); (case side2 => exact (Kd.R_reads' HO_13.out).2.1); rintro e w' ⟨rfl, ⟨nd, rfl⟩⟩; refine ⟨_, rfl, ?_⟩))
                    go_ret
                    exact ⟨t5_, t4_⟩
              ·rw [if_neg c94] at H
               have c94b0 : (t372 == t370) = false := beq_eq_false_iff_ne.mpr c94
               have c94b1 : (t372 != t370) = true := bne_iff_ne.mpr c94
               obtain rfl := Option.some.inj H
               obtain ⟨Ao122, co122, eo122⟩ := Kd.R_slice HO_13.out
               subst eo122
               go_wp2_with (first | ((with_reducible refine gate_callee (f := 26) rfl ?_); refine goesL_ (some 102) rfl rfl Try.func26 t15_ rfl #[.slice Ao122 t342.length co122, .int .i64 1] rfl t2_ ?_; (with_reducible refine (laws_markInt64S.calls kj65 (fun k_ => some k_ = (.slice Ao122 t342.length co122 : Value).ownBlock) (.slice Ao122 t342.length co122) t342 1 t370 t371 w _ ?side1 ?side2 A89.out).mono ?_); (case side1 => repeat (first | (with_reducible first | exact HB.out | apply below_alloc | apply pw_below_drewN | apply below_drew1 | refine below_set ?_ GE311.out | refine below_set ?_ GE335.out) | exact HB.out)); (case side2 => exact Kd.R_tight rfl HO_13.out); rintro e w123 ⟨rfl, hy0, hb, hkp⟩; refine ⟨_, rfl, ?_⟩; have n0_ := Aside0.mk (Kd.R_mono (ok' := fun k_ => some k_ ≠ (.slice Ao122 t342.length co122 : Value).ownBlock ∧ some k_ ≠ (.slice Ao37 t363.length co37 : Value).ownBlock) (Kd.R_keptB (HO_8.out) hkp (fun k_ hk_ hs_ => (hk_.1) hs_)) (fun k_ hk_ => ⟨hk_.1.1, hk_.1.2⟩)); have n1_ := Aside0.mk (Kd.R_reok rfl hy0 (fun k_ e_ => HO_13.out.1 k_ e_)); have n2_ := Aside0.mk (Kd.R_mono (ok' := fun k_ => some k_ ≠ (v326 : Value).ownBlock ∧ some k_ ≠ (.slice Ao122 t342.length co122 : Value).ownBlock) (Kd.R_keptB (HO_336000.out) hkp (fun k_ hk_ hs_ => (hk_.2) hs_)) (fun k_ hk_ => ⟨hk_.1.1, hk_.1.2⟩)); have n3_ := Aside0.mk (Kd.R_mono (ok' := fun k_ => True) (Kd.R_keptB ((Kd.R_apart' HO_336001.out (Kd.R_typed HO_13.out) t33_)) hkp (fun k_ hk_ hs_ => (hk_.2) hs_)) (fun k_ hk_ => trivial)); have n4_ := Aside0.mk (blk_kept (q1_ BK311.out) hkp (fun hs_ => (fun e_ => (Kd.R_ne HO_13.out BK311.out t33_) e_) hs_)); have n5_ := Aside0.mk (blk_kept (q1_ BK335.out) hkp (fun hs_ => (fun e_ => (Kd.R_ne HO_13.out BK335.out t33_) e_) hs_)); have n6_ := Aside0.mk (hb); clear HO_8; clear HO_13; clear HO_336000; clear HO_336001; clear BK311; clear BK335; clear HB; have HO_8 := n0_; have HO_13 := n1_; have HO_336000 := n2_; have HO_336001 := n3_; have BK311 := n4_; have BK335 := n5_; have HB := n6_; clear n0_ n1_ n2_ n3_ n4_ n5_ n6_; (try clear hb); (try clear hkp); (try clear hy0)) | ((with_reducible refine gate_callee (f := 27) rfl ?_); refine goesL_ (some 105) rfl rfl Try.func27 t15_ rfl #[.slice Ao122 t371.length co122, .int .i64 1] rfl t46_ ?_; (with_reducible refine (laws_heldInt64S.calls kj65 _ _ t371 1 t372 _ ?side1 ?side2 A90.out).mono ?_); (case side1 => repeat (first | exact (Kd.R_reads' HO_13.out).2.2 | (with_reducible refine Kd.C_alloc ?_ _) | (with_reducible refine Kd.C_drewN ?_ _) | (with_reducible refine Kd.C_drew ?_))); (case side2 => rw [show t371.length = t342.length from (Kd.R_reads' HO_13.out).1.symm]; exact (Kd.R_reads' HO_13.out).2.1); rintro e w' ⟨rfl, ⟨nd, rfl⟩⟩; refine ⟨_, rfl, ?_⟩))
               go_ret
               exact ⟨t5_, t4_⟩
         ·replace c62 := Bool.eq_false_iff.mpr c62
          subst c62
          have H1 : (some false) = some r := by rw [if_neg (show ¬ (false = true) by decide)] at H; exact H
          clear H
          have H := H1
          clear H1
          obtain rfl := Option.some.inj H
          try go_wp2
          have n0_ := Aside0.mk (Kd.R_drew HO_8.out)
          have n1_ := Aside0.mk (Kd.R_drew HO_11.out)
          have n2_ := Aside0.mk (Kd.R_drew HO_12.out)
          have n3_ := Aside0.mk (Kd.R_drew HO_13.out)
          have n4_ := Aside0.mk (Kd.R_drew HO_336000.out)
          have n5_ := Aside0.mk (Kd.R_drew HO_336001.out)
          have n6_ := Aside0.mk (blk_drew BK311.out)
          have n7_ := Aside0.mk (blk_drew BK335.out)
          have n8_ := Aside0.mk (below_drew1 HB.out)
          clear HO_8
          clear HO_11
          clear HO_12
          clear HO_13
          clear HO_336000
          clear HO_336001
          clear BK311
          clear BK335
          clear HB
          have HO_8 := n0_
          have HO_11 := n1_
          have HO_12 := n2_
          have HO_13 := n3_
          have HO_336000 := n4_
          have HO_336001 := n5_
          have BK311 := n6_
          have BK335 := n7_
          have HB := n8_
          clear n0_ n1_ n2_ n3_ n4_ n5_ n6_ n7_ n8_
          refine start_ (n := 5) (S := fun w' => w'.cell? ⟨gb335, 0, none⟩ = some (.slice Ao37 t329.length co37) ∧ w'.cell? ⟨gb335, 1, none⟩ = some (.slice Ao40 t332.length co40) ∧ w'.cell? ⟨gb311, 0, none⟩ = some (.slice A0_0 l0_0.length c0_0) ∧ w'.cell? ⟨gb311, 1, none⟩ = some (.slice A0_1 l0_1.length c0_1)) (ds := []) #[false, false, false, false, false] t15_ rfl rfl ⟨(blk_cell BK335.out 0).trans rfl, (blk_cell BK335.out 1).trans rfl, (blk_cell BK311.out 0).trans rfl, (blk_cell BK311.out 1).trans rfl⟩ (fun hHeld => ?_)
          generalize wc.drew = w124 at HO_8 HO_11 HO_12 HO_13 HO_336000 HO_336001 BK311 BK335 HB hHeld ⊢
          refine take_ (i := 0) (N := some 63) (v := ?_) (a' := ?_) #[true, false, false, false, false] rfl rfl t15_ (fun _ _ _ h => h) (Or.inl ⟨t68_, ?_⟩) hHeld ?_ ?_
          rotate_left
          ·rintro w' ⟨s0, s1, s2, s3⟩
           go_simp
           with_reducible rfl
          rotate_left; (· simp only [Act.put, List.setIfInBounds_toArray, List.set_cons_zero, List.set_cons_succ, i64_w, i32_w]; rfl)
          refine take_ (i := 1) (N := some 64) (v := ?_) (a' := ?_) #[true, true, false, false, false] rfl rfl t15_ (fun _ _ _ h => h) (Or.inl ⟨t68_, ?_⟩) hHeld ?_ ?_
          rotate_left
          ·rintro w' ⟨s0, s1, s2, s3⟩
           go_simp
           with_reducible rfl
          rotate_left; (· simp only [Act.put, List.setIfInBounds_toArray, List.set_cons_zero, List.set_cons_succ, i64_w, i32_w]; rfl)
          refine one_ (i := 2) (N := some 65) #[true, true, true, false, false] rfl rfl t15_ t33_ (fun K hK => ?_)
          refine goes_ Try.func14 t15_ rfl #[.agg #[.slice A0_0 l0_0.length c0_0, .slice A0_1 l0_1.length c0_1]] t68_ rfl rfl t2_ ?_
          with_reducible refine (laws_toNetwork.calls kj20 _ _ l0_0 _ _ l0_1 t347 t350 _ ?side1 ?side2 ?side3 ?side4 A54.out).mono ?_
          (case side1 => repeat (first | exact (Kd.C_below HR0_0.out HB.out) | (with_reducible refine Kd.C_alloc ?_ _) | (with_reducible refine Kd.C_drewN ?_ _) | (with_reducible refine Kd.C_drew ?_)))
          (case side2 => exact HC0_0.out)
          (case side3 => repeat (first | exact (Kd.C_below HR0_1.out HB.out) | (with_reducible refine Kd.C_alloc ?_ _) | (with_reducible refine Kd.C_drewN ?_ _) | (with_reducible refine Kd.C_drew ?_)))
          (case side4 => exact HC0_1.out)
          rintro e w125 ⟨v348, v351, rfl, ho0, ho1, hb⟩
          refine ⟨_, rfl, ?_⟩
          have n0_ := Aside0.mk (Kd.R_elder' (q2_ HO_8.out) (Kd.R_base ho0) hb)
          have n1_ := Aside0.mk (Kd.R_elder' (q2_ HO_11.out) (Kd.R_base ho0) hb)
          have n2_ := Aside0.mk (Kd.R_elder' (q2_ HO_12.out) (Kd.R_base ho0) hb)
          have n3_ := Aside0.mk (Kd.R_elder' (q2_ HO_13.out) (Kd.R_base ho0) hb)
          have n4_ := Aside0.mk (Kd.R_elder' (q2_ HO_336000.out) (Kd.R_base ho0) hb)
          have n5_ := Aside0.mk (Kd.R_elder' (q2_ HO_336001.out) (Kd.R_base ho1) hb)
          have n6_ := Aside0.mk (Kd.R_lower (Kd.R_new' (Kd.R_new' (Kd.R_new' (Kd.R_new' (Kd.R_new' ho0 (Kd.R_lt (q2_ HO_8.out))) (Kd.R_lt (q2_ HO_11.out))) (Kd.R_lt (q2_ HO_12.out))) (Kd.R_lt (q2_ HO_13.out))) (Kd.R_lt (q2_ HO_336000.out))) (below_size t4_))
          have n7_ := Aside0.mk (Kd.R_lower (Kd.R_new' ho1 (Kd.R_lt (q2_ HO_336001.out))) (below_size t4_))
          have n8_ := Aside0.mk (blk_below (g := gb311) (o := .cells #[.slice A0_0 l0_0.length c0_0, .slice A0_1 l0_1.length c0_1] 25 (0, 0)) (q1_ BK311.out) hb)
          have n9_ := Aside0.mk (blk_below (g := gb335) (o := .cells #[.slice Ao37 t329.length co37, .slice Ao40 t332.length co40] 32 (0, 0)) (q1_ BK335.out) hb)
          have n10_ := Aside0.mk (below_step t4_ hb)
          clear HO_8
          clear HO_11
          clear HO_12
          clear HO_13
          clear HO_336000
          clear HO_336001
          clear BK311
          clear BK335
          clear HB
          have HO_8 := n0_
          have HO_11 := n1_
          have HO_12 := n2_
          have HO_13 := n3_
          have HO_336000 := n4_
          have HO_336001 := n5_
          have HO349 := n6_
          have HO352 := n7_
          have BK311 := n8_
          have BK335 := n9_
          have HB := n10_
          clear n0_ n1_ n2_ n3_ n4_ n5_ n6_ n7_ n8_ n9_ n10_
          (try clear hb)
          (try clear hb2)
          (try clear hk)
          (try clear hi)
          (try clear ho0)
          (try clear ho1)
          obtain ⟨Ao126, co126, eo126⟩ := Kd.R_slice HO349.out
          (first | subst eo126 | (injection eo126 with f1_ f2_ f3_; have f4_ := f1_.symm; have f5_ := f3_.symm; clear f1_ f2_ f3_; subst f4_; subst f5_))
          obtain ⟨Ao127, co127, eo127⟩ := Kd.R_slice HO352.out
          (first | subst eo127 | (injection eo127 with f1_ f2_ f3_; have f4_ := f1_.symm; have f5_ := f3_.symm; clear f1_ f2_ f3_; subst f4_; subst f5_))
          refine hK.out _ _ ⟨(blk_cell BK335.out 0).trans rfl, (blk_cell BK335.out 1).trans rfl, (blk_cell BK311.out 0).trans rfl, (blk_cell BK311.out 1).trans rfl⟩ (fun hHeld => ?_)
          clear hK K
          refine norm_ (a' := ?_) ?_ ?_
          rotate_left
          ·show Act.put _ (some 65) _ = _
           simp only [Act.put, List.setIfInBounds_toArray, List.set_cons_zero, List.set_cons_succ, i64_w, i32_w]
           rfl
          refine one_ (i := 3) (N := some 66) #[true, true, true, true, false] rfl rfl t15_ t33_ (fun K hK => ?_)
          refine goes_ Try.func17 t15_ rfl #[.agg #[.slice Ao37 t329.length co37, .slice Ao40 t332.length co40], .agg #[.slice Ao126 t347.length co126, .slice Ao127 t350.length co127]] t68_ rfl rfl t2_ ?_
          with_reducible refine (laws_eqNetwork.calls kj20 _ _ t329 _ _ t332 _ _ t347 _ _ t350 true _ ?side1 ?side2 ?side3 ?side4 ?side5 ?side6 ?side7 ?side8 A55.out).mono ?_
          (case side1 => repeat (first | exact (Kd.R_reads' HO_336000.out).2.2 | (with_reducible refine Kd.C_alloc ?_ _) | (with_reducible refine Kd.C_drewN ?_ _) | (with_reducible refine Kd.C_drew ?_)))
          (case side2 => exact (Kd.R_reads' HO_336000.out).2.1)
          (case side3 => repeat (first | exact (Kd.R_reads' HO_336001.out).2.2 | (with_reducible refine Kd.C_alloc ?_ _) | (with_reducible refine Kd.C_drewN ?_ _) | (with_reducible refine Kd.C_drew ?_)))
          (case side4 => exact (Kd.R_reads' HO_336001.out).2.1)
          (case side5 => repeat (first | exact (Kd.R_reads' HO349.out).2.2 | (with_reducible refine Kd.C_alloc ?_ _) | (with_reducible refine Kd.C_drewN ?_ _) | (with_reducible refine Kd.C_drew ?_)))
          (case side6 => exact (Kd.R_reads' HO349.out).2.1)
          (case side7 => repeat (first | exact (Kd.R_reads' HO352.out).2.2 | (with_reducible refine Kd.C_alloc ?_ _) | (with_reducible refine Kd.C_drewN ?_ _) | (with_reducible refine Kd.C_drew ?_)))
          (case side8 => exact (Kd.R_reads' HO352.out).2.1)
          rintro e w128 ⟨rfl, hb⟩
          refine ⟨_, rfl, ?_⟩
          have n0_ := Aside0.mk (Kd.R_below (q2_ HO_8.out) hb)
          have n1_ := Aside0.mk (Kd.R_below (q2_ HO_11.out) hb)
          have n2_ := Aside0.mk (Kd.R_below (q2_ HO_12.out) hb)
          have n3_ := Aside0.mk (Kd.R_below (q2_ HO_13.out) hb)
          have n4_ := Aside0.mk (Kd.R_below (q2_ HO_336000.out) hb)
          have n5_ := Aside0.mk (Kd.R_below (q2_ HO_336001.out) hb)
          have n6_ := Aside0.mk (Kd.R_below (q2_ HO349.out) hb)
          have n7_ := Aside0.mk (Kd.R_below (q2_ HO352.out) hb)
          have n8_ := Aside0.mk (blk_below (g := gb311) (o := .cells #[.slice A0_0 l0_0.length c0_0, .slice A0_1 l0_1.length c0_1] 25 (0, 0)) (q1_ BK311.out) hb)
          have n9_ := Aside0.mk (blk_below (g := gb335) (o := .cells #[.slice Ao37 t329.length co37, .slice Ao40 t332.length co40] 32 (0, 0)) (q1_ BK335.out) hb)
          have n10_ := Aside0.mk (below_step t4_ hb)
          clear HO_8
          clear HO_11
          clear HO_12
          clear HO_13
          clear HO_336000
          clear HO_336001
          clear HO349
          clear HO352
          clear BK311
          clear BK335
          clear HB
          have HO_8 := n0_
          have HO_11 := n1_
          have HO_12 := n2_
          have HO_13 := n3_
          have HO_336000 := n4_
          have HO_336001 := n5_
          have HO349 := n6_
          have HO352 := n7_
          have BK311 := n8_
          have BK335 := n9_
          have HB := n10_
          clear n0_ n1_ n2_ n3_ n4_ n5_ n6_ n7_ n8_ n9_ n10_
          (try clear hb)
          (try clear hb2)
          (try clear hk)
          (try clear hi)
          refine hK.out _ _ ⟨(blk_cell BK335.out 0).trans rfl, (blk_cell BK335.out 1).trans rfl, (blk_cell BK311.out 0).trans rfl, (blk_cell BK311.out 1).trans rfl⟩ (fun hHeld => ?_)
          clear hK K
          refine norm_ (a' := ?_) ?_ ?_
          rotate_left
          ·show Act.put _ (some 66) _ = _
           simp only [Act.put, List.setIfInBounds_toArray, List.set_cons_zero, List.set_cons_succ, i64_w, i32_w]
           rfl
          refine pure_ (i := 4) (N := some 67) (v := ?_) (a' := ?_) #[true, true, true, true, true] rfl rfl t15_ (fun _ _ _ h => h) (Or.inl ⟨t68_, ?_⟩) ?_ ?_
          rotate_left; (· intro w'; go_simp; with_reducible rfl); rotate_left; (· simp only [Act.put, List.setIfInBounds_toArray, List.set_cons_zero, List.set_cons_succ, i64_w, i32_w]; rfl)
          refine done_ t15_ ?_
          try go_wp2_with (first | ((with_reducible refine gate_callee (f := 22) rfl ?_); refine goesL_ (some 70) rfl rfl Try.func22 t15_ rfl #[.slice A1 l1.length c1] rfl t2_ ?_; (with_reducible refine (laws_toInt64S.calls kj20 _ _ l1 t354 _ ?side1 ?side2 A57.out).mono ?_); (case side1 => repeat (first | exact (Kd.C_below HR1.out HB.out) | (with_reducible refine Kd.C_alloc ?_ _) | (with_reducible refine Kd.C_drewN ?_ _) | (with_reducible refine Kd.C_drew ?_))); (case side2 => exact HC1.out); rintro e w129 ⟨v355, rfl, ho0, hb⟩; refine ⟨_, rfl, ?_⟩; have n0_ := Aside0.mk (Kd.R_elder' (q2_ HO_8.out) (Kd.R_base ho0) hb); have n1_ := Aside0.mk (Kd.R_elder' (q2_ HO_11.out) (Kd.R_base ho0) hb); have n2_ := Aside0.mk (Kd.R_elder' (q2_ HO_12.out) (Kd.R_base ho0) hb); have n3_ := Aside0.mk (Kd.R_elder' (q2_ HO_13.out) (Kd.R_base ho0) hb); have n4_ := Aside0.mk (Kd.R_elder' (q2_ HO_336000.out) (Kd.R_base ho0) hb); have n5_ := Aside0.mk (Kd.R_below (q2_ HO_336001.out) hb); have n6_ := Aside0.mk (Kd.R_elder' (q2_ HO349.out) (Kd.R_base ho0) hb); have n7_ := Aside0.mk (Kd.R_below (q2_ HO352.out) hb); have n8_ := Aside0.mk (Kd.R_lower (Kd.R_new' (Kd.R_new' (Kd.R_new' (Kd.R_new' (Kd.R_new' (Kd.R_new' ho0 (Kd.R_lt (q2_ HO_8.out))) (Kd.R_lt (q2_ HO_11.out))) (Kd.R_lt (q2_ HO_12.out))) (Kd.R_lt (q2_ HO_13.out))) (Kd.R_lt (q2_ HO_336000.out))) (Kd.R_lt (q2_ HO349.out))) (below_size t4_)); have n9_ := Aside0.mk (blk_below (g := gb311) (o := .cells #[.slice A0_0 l0_0.length c0_0, .slice A0_1 l0_1.length c0_1] 25 (0, 0)) (q1_ BK311.out) hb); have n10_ := Aside0.mk (blk_below (g := gb335) (o := .cells #[.slice Ao37 t329.length co37, .slice Ao40 t332.length co40] 32 (0, 0)) (q1_ BK335.out) hb); have n11_ := Aside0.mk (below_step t4_ hb); clear HO_8; clear HO_11; clear HO_12; clear HO_13; clear HO_336000; clear HO_336001; clear HO349; clear HO352; clear BK311; clear BK335; clear HB; have HO_8 := n0_; have HO_11 := n1_; have HO_12 := n2_; have HO_13 := n3_; have HO_336000 := n4_; have HO_336001 := n5_; have HO349 := n6_; have HO352 := n7_; have HO356 := n8_; have BK311 := n9_; have BK335 := n10_; have HB := n11_; clear n0_ n1_ n2_ n3_ n4_ n5_ n6_ n7_ n8_ n9_ n10_ n11_; (try clear hb); (try clear hb2); (try clear hk); (try clear hi); (try clear ho0); obtain ⟨Ao130, co130, eo130⟩ := Kd.R_slice HO356.out; subst eo130) | ((with_reducible refine gate_callee (f := 24) rfl ?_); refine goesL_ (some 71) rfl rfl Try.func24 t15_ rfl #[.slice Ao44 t336.length co44, .slice Ao130 t354.length co130] rfl t2_ ?_; (with_reducible refine (laws_eqInt64S.calls kj20 _ _ t336 _ _ t354 true _ ?side1 ?side2 ?side3 ?side4 A58.out).mono ?_); (case side1 => repeat (first | exact (Kd.R_reads' HO_11.out).2.2 | (with_reducible refine Kd.C_alloc ?_ _) | (with_reducible refine Kd.C_drewN ?_ _) | (with_reducible refine Kd.C_drew ?_))); (case side2 => exact (Kd.R_reads' HO_11.out).2.1); (case side3 => repeat (first | exact (Kd.R_reads' HO356.out).2.2 | (with_reducible refine Kd.C_alloc ?_ _) | (with_reducible refine Kd.C_drewN ?_ _) | (with_reducible refine Kd.C_drew ?_))); (case side4 => exact (Kd.R_reads' HO356.out).2.1); rintro e w' ⟨rfl, ⟨nd, rfl⟩⟩; refine ⟨_, rfl, ?_⟩) | ((with_reducible refine gate_callee (f := 22) rfl ?_); refine goesL_ (some 75) rfl rfl Try.func22 t15_ rfl #[.slice A2 l2.length c2] rfl t2_ ?_; (with_reducible refine (laws_toInt64S.calls kj20 _ _ l2 t358 _ ?side1 ?side2 A60.out).mono ?_); (case side1 => repeat (first | exact (Kd.C_below HR2.out t4_) | (with_reducible refine Kd.C_alloc ?_ _) | (with_reducible refine Kd.C_drewN ?_ _) | (with_reducible refine Kd.C_drew ?_))); (case side2 => exact HC2.out); rintro e w131 ⟨v359, rfl, ho0, hb⟩; refine ⟨_, rfl, ?_⟩; have n0_ := Aside0.mk (Kd.R_elder' (q2_ HO_8.out) (Kd.R_base ho0) hb); have n1_ := Aside0.mk (Kd.R_elder' (q2_ HO_11.out) (Kd.R_base ho0) hb); have n2_ := Aside0.mk (Kd.R_elder' (q2_ HO_12.out) (Kd.R_base ho0) hb); have n3_ := Aside0.mk (Kd.R_elder' (q2_ HO_13.out) (Kd.R_base ho0) hb); have n4_ := Aside0.mk (Kd.R_elder' (q2_ HO_336000.out) (Kd.R_base ho0) hb); have n5_ := Aside0.mk (Kd.R_below (q2_ HO_336001.out) hb); have n6_ := Aside0.mk (Kd.R_elder' (q2_ HO349.out) (Kd.R_base ho0) hb); have n7_ := Aside0.mk (Kd.R_below (q2_ HO352.out) hb); have n8_ := Aside0.mk (Kd.R_elder' (q2_ HO356.out) (Kd.R_base ho0) hb); have n9_ := Aside0.mk (Kd.R_lower (Kd.R_new' (Kd.R_new' (Kd.R_new' (Kd.R_new' (Kd.R_new' (Kd.R_new' (Kd.R_new' ho0 (Kd.R_lt (q2_ HO_8.out))) (Kd.R_lt (q2_ HO_11.out))) (Kd.R_lt (q2_ HO_12.out))) (Kd.R_lt (q2_ HO_13.out))) (Kd.R_lt (q2_ HO_336000.out))) (Kd.R_lt (q2_ HO349.out))) (Kd.R_lt (q2_ HO356.out))) (below_size t4_)); have n10_ := Aside0.mk (blk_below (g := gb311) (o := .cells #[.slice A0_0 l0_0.length c0_0, .slice A0_1 l0_1.length c0_1] 25 (0, 0)) (q1_ BK311.out) hb); have n11_ := Aside0.mk (blk_below (g := gb335) (o := .cells #[.slice Ao37 t329.length co37, .slice Ao40 t332.length co40] 32 (0, 0)) (q1_ BK335.out) hb); have n12_ := Aside0.mk (below_step t4_ hb); clear HO_8; clear HO_11; clear HO_12; clear HO_13; clear HO_336000; clear HO_336001; clear HO349; clear HO352; clear HO356; clear BK311; clear BK335; clear HB; have HO_8 := n0_; have HO_11 := n1_; have HO_12 := n2_; have HO_13 := n3_; have HO_336000 := n4_; have HO_336001 := n5_; have HO349 := n6_; have HO352 := n7_; have HO356 := n8_; have HO360 := n9_; have BK311 := n10_; have BK335 := n11_; have HB := n12_; clear n0_ n1_ n2_ n3_ n4_ n5_ n6_ n7_ n8_ n9_ n10_ n11_ n12_; (try clear hb); (try clear hb2); (try clear hk); (try clear hi); (try clear ho0); obtain ⟨Ao132, co132, eo132⟩ := Kd.R_slice HO360.out; subst eo132) | ((with_reducible refine gate_callee (f := 24) rfl ?_); refine goesL_ (some 76) rfl rfl Try.func24 t15_ rfl #[.slice Ao45 t339.length co45, .slice Ao132 t358.length co132] rfl t2_ ?_; (with_reducible refine (laws_eqInt64S.calls kj20 _ _ t339 _ _ t358 false _ ?side1 ?side2 ?side3 ?side4 A61.out).mono ?_); (case side1 => repeat (first | exact (Kd.R_reads' HO_12.out).2.2 | (with_reducible refine Kd.C_alloc ?_ _) | (with_reducible refine Kd.C_drewN ?_ _) | (with_reducible refine Kd.C_drew ?_))); (case side2 => exact (Kd.R_reads' HO_12.out).2.1); (case side3 => repeat (first | exact (Kd.R_reads' HO360.out).2.2 | (with_reducible refine Kd.C_alloc ?_ _) | (with_reducible refine Kd.C_drewN ?_ _) | (with_reducible refine Kd.C_drew ?_))); (case side4 => exact (Kd.R_reads' HO360.out).2.1); rintro e w' ⟨rfl, ⟨nd, rfl⟩⟩; refine ⟨_, rfl, ?_⟩))
          go_ret
          exact ⟨t5_, t4_⟩
        ·replace c59 := Bool.eq_false_iff.mpr c59
         subst c59
         have H1 : (some false) = some r := by rw [if_neg (show ¬ (false = true) by decide)] at H; exact H
         clear H
         have H := H1
         clear H1
         obtain rfl := Option.some.inj H
         try go_wp2
         have n0_ := Aside0.mk (Kd.R_drew HO_8.out)
         have n1_ := Aside0.mk (Kd.R_drew HO_11.out)
         have n2_ := Aside0.mk (Kd.R_drew HO_12.out)
         have n3_ := Aside0.mk (Kd.R_drew HO_13.out)
         have n4_ := Aside0.mk (Kd.R_drew HO_336000.out)
         have n5_ := Aside0.mk (Kd.R_drew HO_336001.out)
         have n6_ := Aside0.mk (blk_drew BK311.out)
         have n7_ := Aside0.mk (blk_drew BK335.out)
         have n8_ := Aside0.mk (below_drew1 HB.out)
         clear HO_8
         clear HO_11
         clear HO_12
         clear HO_13
         clear HO_336000
         clear HO_336001
         clear BK311
         clear BK335
         clear HB
         have HO_8 := n0_
         have HO_11 := n1_
         have HO_12 := n2_
         have HO_13 := n3_
         have HO_336000 := n4_
         have HO_336001 := n5_
         have BK311 := n6_
         have BK335 := n7_
         have HB := n8_
         clear n0_ n1_ n2_ n3_ n4_ n5_ n6_ n7_ n8_
         refine start_ (n := 5) (S := fun w' => w'.cell? ⟨gb335, 0, none⟩ = some (.slice Ao37 t329.length co37) ∧ w'.cell? ⟨gb335, 1, none⟩ = some (.slice Ao40 t332.length co40) ∧ w'.cell? ⟨gb311, 0, none⟩ = some (.slice A0_0 l0_0.length c0_0) ∧ w'.cell? ⟨gb311, 1, none⟩ = some (.slice A0_1 l0_1.length c0_1)) (ds := []) #[false, false, false, false, false] t15_ rfl rfl ⟨(blk_cell BK335.out 0).trans rfl, (blk_cell BK335.out 1).trans rfl, (blk_cell BK311.out 0).trans rfl, (blk_cell BK311.out 1).trans rfl⟩ (fun hHeld => ?_)
         generalize wc.drew = w133 at HO_8 HO_11 HO_12 HO_13 HO_336000 HO_336001 BK311 BK335 HB hHeld ⊢
         refine take_ (i := 0) (N := some 63) (v := ?_) (a' := ?_) #[true, false, false, false, false] rfl rfl t15_ (fun _ _ _ h => h) (Or.inl ⟨t68_, ?_⟩) hHeld ?_ ?_
         rotate_left
         ·rintro w' ⟨s0, s1, s2, s3⟩
          go_simp
          with_reducible rfl
         rotate_left; (· simp only [Act.put, List.setIfInBounds_toArray, List.set_cons_zero, List.set_cons_succ, i64_w, i32_w]; rfl)
         refine take_ (i := 1) (N := some 64) (v := ?_) (a' := ?_) #[true, true, false, false, false] rfl rfl t15_ (fun _ _ _ h => h) (Or.inl ⟨t68_, ?_⟩) hHeld ?_ ?_
         rotate_left
         ·rintro w' ⟨s0, s1, s2, s3⟩
          go_simp
          with_reducible rfl
         rotate_left; (· simp only [Act.put, List.setIfInBounds_toArray, List.set_cons_zero, List.set_cons_succ, i64_w, i32_w]; rfl)
         refine one_ (i := 2) (N := some 65) #[true, true, true, false, false] rfl rfl t15_ t33_ (fun K hK => ?_)
         refine goes_ Try.func14 t15_ rfl #[.agg #[.slice A0_0 l0_0.length c0_0, .slice A0_1 l0_1.length c0_1]] t68_ rfl rfl t2_ ?_
         with_reducible refine (laws_toNetwork.calls kj20 _ _ l0_0 _ _ l0_1 t347 t350 _ ?side1 ?side2 ?side3 ?side4 A54.out).mono ?_
         (case side1 => repeat (first | exact (Kd.C_below HR0_0.out HB.out) | (with_reducible refine Kd.C_alloc ?_ _) | (with_reducible refine Kd.C_drewN ?_ _) | (with_reducible refine Kd.C_drew ?_)))
         (case side2 => exact HC0_0.out)
         (case side3 => repeat (first | exact (Kd.C_below HR0_1.out HB.out) | (with_reducible refine Kd.C_alloc ?_ _) | (with_reducible refine Kd.C_drewN ?_ _) | (with_reducible refine Kd.C_drew ?_)))
         (case side4 => exact HC0_1.out)
         rintro e w134 ⟨v348, v351, rfl, ho0, ho1, hb⟩
         refine ⟨_, rfl, ?_⟩
         have n0_ := Aside0.mk (Kd.R_elder' (q2_ HO_8.out) (Kd.R_base ho0) hb)
         have n1_ := Aside0.mk (Kd.R_elder' (q2_ HO_11.out) (Kd.R_base ho0) hb)
         have n2_ := Aside0.mk (Kd.R_elder' (q2_ HO_12.out) (Kd.R_base ho0) hb)
         have n3_ := Aside0.mk (Kd.R_elder' (q2_ HO_13.out) (Kd.R_base ho0) hb)
         have n4_ := Aside0.mk (Kd.R_elder' (q2_ HO_336000.out) (Kd.R_base ho0) hb)
         have n5_ := Aside0.mk (Kd.R_elder' (q2_ HO_336001.out) (Kd.R_base ho1) hb)
         have n6_ := Aside0.mk (Kd.R_lower (Kd.R_new' (Kd.R_new' (Kd.R_new' (Kd.R_new' (Kd.R_new' ho0 (Kd.R_lt (q2_ HO_8.out))) (Kd.R_lt (q2_ HO_11.out))) (Kd.R_lt (q2_ HO_12.out))) (Kd.R_lt (q2_ HO_13.out))) (Kd.R_lt (q2_ HO_336000.out))) (below_size t4_))
         have n7_ := Aside0.mk (Kd.R_lower (Kd.R_new' ho1 (Kd.R_lt (q2_ HO_336001.out))) (below_size t4_))
         have n8_ := Aside0.mk (blk_below (g := gb311) (o := .cells #[.slice A0_0 l0_0.length c0_0, .slice A0_1 l0_1.length c0_1] 25 (0, 0)) (q1_ BK311.out) hb)
         have n9_ := Aside0.mk (blk_below (g := gb335) (o := .cells #[.slice Ao37 t329.length co37, .slice Ao40 t332.length co40] 32 (0, 0)) (q1_ BK335.out) hb)
         have n10_ := Aside0.mk (below_step t4_ hb)
         clear HO_8
         clear HO_11
         clear HO_12
         clear HO_13
         clear HO_336000
         clear HO_336001
         clear BK311
         clear BK335
         clear HB
         have HO_8 := n0_
         have HO_11 := n1_
         have HO_12 := n2_
         have HO_13 := n3_
         have HO_336000 := n4_
         have HO_336001 := n5_
         have HO349 := n6_
         have HO352 := n7_
         have BK311 := n8_
         have BK335 := n9_
         have HB := n10_
         clear n0_ n1_ n2_ n3_ n4_ n5_ n6_ n7_ n8_ n9_ n10_
         (try clear hb)
         (try clear hb2)
         (try clear hk)
         (try clear hi)
         (try clear ho0)
         (try clear ho1)
         obtain ⟨Ao135, co135, eo135⟩ := Kd.R_slice HO349.out
         (first | subst eo135 | (injection eo135 with f1_ f2_ f3_; have f4_ := f1_.symm; have f5_ := f3_.symm; clear f1_ f2_ f3_; subst f4_; subst f5_))
         obtain ⟨Ao136, co136, eo136⟩ := Kd.R_slice HO352.out
         (first | subst eo136 | (injection eo136 with f1_ f2_ f3_; have f4_ := f1_.symm; have f5_ := f3_.symm; clear f1_ f2_ f3_; subst f4_; subst f5_))
         refine hK.out _ _ ⟨(blk_cell BK335.out 0).trans rfl, (blk_cell BK335.out 1).trans rfl, (blk_cell BK311.out 0).trans rfl, (blk_cell BK311.out 1).trans rfl⟩ (fun hHeld => ?_)
         clear hK K
         refine norm_ (a' := ?_) ?_ ?_
         rotate_left
         ·show Act.put _ (some 65) _ = _
          simp only [Act.put, List.setIfInBounds_toArray, List.set_cons_zero, List.set_cons_succ, i64_w, i32_w]
          rfl
         refine one_ (i := 3) (N := some 66) #[true, true, true, true, false] rfl rfl t15_ t33_ (fun K hK => ?_)
         refine goes_ Try.func17 t15_ rfl #[.agg #[.slice Ao37 t329.length co37, .slice Ao40 t332.length co40], .agg #[.slice Ao135 t347.length co135, .slice Ao136 t350.length co136]] t68_ rfl rfl t2_ ?_
         with_reducible refine (laws_eqNetwork.calls kj20 _ _ t329 _ _ t332 _ _ t347 _ _ t350 true _ ?side1 ?side2 ?side3 ?side4 ?side5 ?side6 ?side7 ?side8 A55.out).mono ?_
         (case side1 => repeat (first | exact (Kd.R_reads' HO_336000.out).2.2 | (with_reducible refine Kd.C_alloc ?_ _) | (with_reducible refine Kd.C_drewN ?_ _) | (with_reducible refine Kd.C_drew ?_)))
         (case side2 => exact (Kd.R_reads' HO_336000.out).2.1)
         (case side3 => repeat (first | exact (Kd.R_reads' HO_336001.out).2.2 | (with_reducible refine Kd.C_alloc ?_ _) | (with_reducible refine Kd.C_drewN ?_ _) | (with_reducible refine Kd.C_drew ?_)))
         (case side4 => exact (Kd.R_reads' HO_336001.out).2.1)
         (case side5 => repeat (first | exact (Kd.R_reads' HO349.out).2.2 | (with_reducible refine Kd.C_alloc ?_ _) | (with_reducible refine Kd.C_drewN ?_ _) | (with_reducible refine Kd.C_drew ?_)))
         (case side6 => exact (Kd.R_reads' HO349.out).2.1)
         (case side7 => repeat (first | exact (Kd.R_reads' HO352.out).2.2 | (with_reducible refine Kd.C_alloc ?_ _) | (with_reducible refine Kd.C_drewN ?_ _) | (with_reducible refine Kd.C_drew ?_)))
         (case side8 => exact (Kd.R_reads' HO352.out).2.1)
         rintro e w137 ⟨rfl, hb⟩
         refine ⟨_, rfl, ?_⟩
         have n0_ := Aside0.mk (Kd.R_below (q2_ HO_8.out) hb)
         have n1_ := Aside0.mk (Kd.R_below (q2_ HO_11.out) hb)
         have n2_ := Aside0.mk (Kd.R_below (q2_ HO_12.out) hb)
         have n3_ := Aside0.mk (Kd.R_below (q2_ HO_13.out) hb)
         have n4_ := Aside0.mk (Kd.R_below (q2_ HO_336000.out) hb)
         have n5_ := Aside0.mk (Kd.R_below (q2_ HO_336001.out) hb)
         have n6_ := Aside0.mk (Kd.R_below (q2_ HO349.out) hb)
         have n7_ := Aside0.mk (Kd.R_below (q2_ HO352.out) hb)
         have n8_ := Aside0.mk (blk_below (g := gb311) (o := .cells #[.slice A0_0 l0_0.length c0_0, .slice A0_1 l0_1.length c0_1] 25 (0, 0)) (q1_ BK311.out) hb)
         have n9_ := Aside0.mk (blk_below (g := gb335) (o := .cells #[.slice Ao37 t329.length co37, .slice Ao40 t332.length co40] 32 (0, 0)) (q1_ BK335.out) hb)
         have n10_ := Aside0.mk (below_step t4_ hb)
         clear HO_8
         clear HO_11
         clear HO_12
         clear HO_13
         clear HO_336000
         clear HO_336001
         clear HO349
         clear HO352
         clear BK311
         clear BK335
         clear HB
         have HO_8 := n0_
         have HO_11 := n1_
         have HO_12 := n2_
         have HO_13 := n3_
         have HO_336000 := n4_
         have HO_336001 := n5_
         have HO349 := n6_
         have HO352 := n7_
         have BK311 := n8_
         have BK335 := n9_
         have HB := n10_
         clear n0_ n1_ n2_ n3_ n4_ n5_ n6_ n7_ n8_ n9_ n10_
         (try clear hb)
         (try clear hb2)
         (try clear hk)
         (try clear hi)
         refine hK.out _ _ ⟨(blk_cell BK335.out 0).trans rfl, (blk_cell BK335.out 1).trans rfl, (blk_cell BK311.out 0).trans rfl, (blk_cell BK311.out 1).trans rfl⟩ (fun hHeld => ?_)
         clear hK K
         refine norm_ (a' := ?_) ?_ ?_
         rotate_left
         ·show Act.put _ (some 66) _ = _
          simp only [Act.put, List.setIfInBounds_toArray, List.set_cons_zero, List.set_cons_succ, i64_w, i32_w]
          rfl
         refine pure_ (i := 4) (N := some 67) (v := ?_) (a' := ?_) #[true, true, true, true, true] rfl rfl t15_ (fun _ _ _ h => h) (Or.inl ⟨t68_, ?_⟩) ?_ ?_
         rotate_left; (· intro w'; go_simp; with_reducible rfl); rotate_left; (· simp only [Act.put, List.setIfInBounds_toArray, List.set_cons_zero, List.set_cons_succ, i64_w, i32_w]; rfl)
         refine done_ t15_ ?_
         try go_wp2_with (first | ((with_reducible refine gate_callee (f := 22) rfl ?_); refine goesL_ (some 70) rfl rfl Try.func22 t15_ rfl #[.slice A1 l1.length c1] rfl t2_ ?_; (with_reducible refine (laws_toInt64S.calls kj20 _ _ l1 t354 _ ?side1 ?side2 A57.out).mono ?_); (case side1 => repeat (first | exact (Kd.C_below HR1.out HB.out) | (with_reducible refine Kd.C_alloc ?_ _) | (with_reducible refine Kd.C_drewN ?_ _) | (with_reducible refine Kd.C_drew ?_))); (case side2 => exact HC1.out); rintro e w138 ⟨v355, rfl, ho0, hb⟩; refine ⟨_, rfl, ?_⟩; have n0_ := Aside0.mk (Kd.R_elder' (q2_ HO_8.out) (Kd.R_base ho0) hb); have n1_ := Aside0.mk (Kd.R_elder' (q2_ HO_11.out) (Kd.R_base ho0) hb); have n2_ := Aside0.mk (Kd.R_elder' (q2_ HO_12.out) (Kd.R_base ho0) hb); have n3_ := Aside0.mk (Kd.R_elder' (q2_ HO_13.out) (Kd.R_base ho0) hb); have n4_ := Aside0.mk (Kd.R_elder' (q2_ HO_336000.out) (Kd.R_base ho0) hb); have n5_ := Aside0.mk (Kd.R_below (q2_ HO_336001.out) hb); have n6_ := Aside0.mk (Kd.R_elder' (q2_ HO349.out) (Kd.R_base ho0) hb); have n7_ := Aside0.mk (Kd.R_below (q2_ HO352.out) hb); have n8_ := Aside0.mk (Kd.R_lower (Kd.R_new' (Kd.R_new' (Kd.R_new' (Kd.R_new' (Kd.R_new' (Kd.R_new' ho0 (Kd.R_lt (q2_ HO_8.out))) (Kd.R_lt (q2_ HO_11.out))) (Kd.R_lt (q2_ HO_12.out))) (Kd.R_lt (q2_ HO_13.out))) (Kd.R_lt (q2_ HO_336000.out))) (Kd.R_lt (q2_ HO349.out))) (below_size t4_)); have n9_ := Aside0.mk (blk_below (g := gb311) (o := .cells #[.slice A0_0 l0_0.length c0_0, .slice A0_1 l0_1.length c0_1] 25 (0, 0)) (q1_ BK311.out) hb); have n10_ := Aside0.mk (blk_below (g := gb335) (o := .cells #[.slice Ao37 t329.length co37, .slice Ao40 t332.length co40] 32 (0, 0)) (q1_ BK335.out) hb); have n11_ := Aside0.mk (below_step t4_ hb); clear HO_8; clear HO_11; clear HO_12; clear HO_13; clear HO_336000; clear HO_336001; clear HO349; clear HO352; clear BK311; clear BK335; clear HB; have HO_8 := n0_; have HO_11 := n1_; have HO_12 := n2_; have HO_13 := n3_; have HO_336000 := n4_; have HO_336001 := n5_; have HO349 := n6_; have HO352 := n7_; have HO356 := n8_; have BK311 := n9_; have BK335 := n10_; have HB := n11_; clear n0_ n1_ n2_ n3_ n4_ n5_ n6_ n7_ n8_ n9_ n10_ n11_; (try clear hb); (try clear hb2); (try clear hk); (try clear hi); (try clear ho0); obtain ⟨Ao139, co139, eo139⟩ := Kd.R_slice HO356.out; subst eo139) | ((with_reducible refine gate_callee (f := 24) rfl ?_); refine goesL_ (some 71) rfl rfl Try.func24 t15_ rfl #[.slice Ao44 t336.length co44, .slice Ao139 t354.length co139] rfl t2_ ?_; (with_reducible refine (laws_eqInt64S.calls kj20 _ _ t336 _ _ t354 false _ ?side1 ?side2 ?side3 ?side4 A58.out).mono ?_); (case side1 => repeat (first | exact (Kd.R_reads' HO_11.out).2.2 | (with_reducible refine Kd.C_alloc ?_ _) | (with_reducible refine Kd.C_drewN ?_ _) | (with_reducible refine Kd.C_drew ?_))); (case side2 => exact (Kd.R_reads' HO_11.out).2.1); (case side3 => repeat (first | exact (Kd.R_reads' HO356.out).2.2 | (with_reducible refine Kd.C_alloc ?_ _) | (with_reducible refine Kd.C_drewN ?_ _) | (with_reducible refine Kd.C_drew ?_))); (case side4 => exact (Kd.R_reads' HO356.out).2.1); rintro e w' ⟨rfl, ⟨nd, rfl⟩⟩; refine ⟨_, rfl, ?_⟩))
         go_ret
         exact ⟨t5_, t4_⟩
       ·replace c56 := Bool.eq_false_iff.mpr c56
        subst c56
        have H1 : (some false) = some r := by rw [if_neg (show ¬ (false = true) by decide)] at H; exact H
        clear H
        have H := H1
        clear H1
        obtain rfl := Option.some.inj H
        try go_wp2
        have n0_ := Aside0.mk (Kd.R_drew HO_8.out)
        have n1_ := Aside0.mk (Kd.R_drew HO_11.out)
        have n2_ := Aside0.mk (Kd.R_drew HO_12.out)
        have n3_ := Aside0.mk (Kd.R_drew HO_13.out)
        have n4_ := Aside0.mk (Kd.R_drew HO_336000.out)
        have n5_ := Aside0.mk (Kd.R_drew HO_336001.out)
        have n6_ := Aside0.mk (blk_drew BK311.out)
        have n7_ := Aside0.mk (blk_drew BK335.out)
        have n8_ := Aside0.mk (below_drew1 HB.out)
        clear HO_8
        clear HO_11
        clear HO_12
        clear HO_13
        clear HO_336000
        clear HO_336001
        clear BK311
        clear BK335
        clear HB
        have HO_8 := n0_
        have HO_11 := n1_
        have HO_12 := n2_
        have HO_13 := n3_
        have HO_336000 := n4_
        have HO_336001 := n5_
        have BK311 := n6_
        have BK335 := n7_
        have HB := n8_
        clear n0_ n1_ n2_ n3_ n4_ n5_ n6_ n7_ n8_
        refine start_ (n := 5) (S := fun w' => w'.cell? ⟨gb335, 0, none⟩ = some (.slice Ao37 t329.length co37) ∧ w'.cell? ⟨gb335, 1, none⟩ = some (.slice Ao40 t332.length co40) ∧ w'.cell? ⟨gb311, 0, none⟩ = some (.slice A0_0 l0_0.length c0_0) ∧ w'.cell? ⟨gb311, 1, none⟩ = some (.slice A0_1 l0_1.length c0_1)) (ds := []) #[false, false, false, false, false] t15_ rfl rfl ⟨(blk_cell BK335.out 0).trans rfl, (blk_cell BK335.out 1).trans rfl, (blk_cell BK311.out 0).trans rfl, (blk_cell BK311.out 1).trans rfl⟩ (fun hHeld => ?_)
        generalize wc.drew = w140 at HO_8 HO_11 HO_12 HO_13 HO_336000 HO_336001 BK311 BK335 HB hHeld ⊢
        refine take_ (i := 0) (N := some 63) (v := ?_) (a' := ?_) #[true, false, false, false, false] rfl rfl t15_ (fun _ _ _ h => h) (Or.inl ⟨t68_, ?_⟩) hHeld ?_ ?_
        rotate_left
        ·rintro w' ⟨s0, s1, s2, s3⟩
         go_simp
         with_reducible rfl
        rotate_left; (· simp only [Act.put, List.setIfInBounds_toArray, List.set_cons_zero, List.set_cons_succ, i64_w, i32_w]; rfl)
        refine take_ (i := 1) (N := some 64) (v := ?_) (a' := ?_) #[true, true, false, false, false] rfl rfl t15_ (fun _ _ _ h => h) (Or.inl ⟨t68_, ?_⟩) hHeld ?_ ?_
        rotate_left
        ·rintro w' ⟨s0, s1, s2, s3⟩
         go_simp
         with_reducible rfl
        rotate_left; (· simp only [Act.put, List.setIfInBounds_toArray, List.set_cons_zero, List.set_cons_succ, i64_w, i32_w]; rfl)
        refine one_ (i := 2) (N := some 65) #[true, true, true, false, false] rfl rfl t15_ t33_ (fun K hK => ?_)
        refine goes_ Try.func14 t15_ rfl #[.agg #[.slice A0_0 l0_0.length c0_0, .slice A0_1 l0_1.length c0_1]] t68_ rfl rfl t2_ ?_
        with_reducible refine (laws_toNetwork.calls kj20 _ _ l0_0 _ _ l0_1 t347 t350 _ ?side1 ?side2 ?side3 ?side4 A54.out).mono ?_
        (case side1 => repeat (first | exact (Kd.C_below HR0_0.out HB.out) | (with_reducible refine Kd.C_alloc ?_ _) | (with_reducible refine Kd.C_drewN ?_ _) | (with_reducible refine Kd.C_drew ?_)))
        (case side2 => exact HC0_0.out)
        (case side3 => repeat (first | exact (Kd.C_below HR0_1.out HB.out) | (with_reducible refine Kd.C_alloc ?_ _) | (with_reducible refine Kd.C_drewN ?_ _) | (with_reducible refine Kd.C_drew ?_)))
        (case side4 => exact HC0_1.out)
        rintro e w141 ⟨v348, v351, rfl, ho0, ho1, hb⟩
        refine ⟨_, rfl, ?_⟩
        have n0_ := Aside0.mk (Kd.R_elder' (q2_ HO_8.out) (Kd.R_base ho0) hb)
        have n1_ := Aside0.mk (Kd.R_elder' (q2_ HO_11.out) (Kd.R_base ho0) hb)
        have n2_ := Aside0.mk (Kd.R_elder' (q2_ HO_12.out) (Kd.R_base ho0) hb)
        have n3_ := Aside0.mk (Kd.R_elder' (q2_ HO_13.out) (Kd.R_base ho0) hb)
        have n4_ := Aside0.mk (Kd.R_elder' (q2_ HO_336000.out) (Kd.R_base ho0) hb)
        have n5_ := Aside0.mk (Kd.R_elder' (q2_ HO_336001.out) (Kd.R_base ho1) hb)
        have n6_ := Aside0.mk (Kd.R_lower (Kd.R_new' (Kd.R_new' (Kd.R_new' (Kd.R_new' (Kd.R_new' ho0 (Kd.R_lt (q2_ HO_8.out))) (Kd.R_lt (q2_ HO_11.out))) (Kd.R_lt (q2_ HO_12.out))) (Kd.R_lt (q2_ HO_13.out))) (Kd.R_lt (q2_ HO_336000.out))) (below_size t4_))
        have n7_ := Aside0.mk (Kd.R_lower (Kd.R_new' ho1 (Kd.R_lt (q2_ HO_336001.out))) (below_size t4_))
        have n8_ := Aside0.mk (blk_below (g := gb311) (o := .cells #[.slice A0_0 l0_0.length c0_0, .slice A0_1 l0_1.length c0_1] 25 (0, 0)) (q1_ BK311.out) hb)
        have n9_ := Aside0.mk (blk_below (g := gb335) (o := .cells #[.slice Ao37 t329.length co37, .slice Ao40 t332.length co40] 32 (0, 0)) (q1_ BK335.out) hb)
        have n10_ := Aside0.mk (below_step t4_ hb)
        clear HO_8
        clear HO_11
        clear HO_12
        clear HO_13
        clear HO_336000
        clear HO_336001
        clear BK311
        clear BK335
        clear HB
        have HO_8 := n0_
        have HO_11 := n1_
        have HO_12 := n2_
        have HO_13 := n3_
        have HO_336000 := n4_
        have HO_336001 := n5_
        have HO349 := n6_
        have HO352 := n7_
        have BK311 := n8_
        have BK335 := n9_
        have HB := n10_
        clear n0_ n1_ n2_ n3_ n4_ n5_ n6_ n7_ n8_ n9_ n10_
        (try clear hb)
        (try clear hb2)
        (try clear hk)
        (try clear hi)
        (try clear ho0)
        (try clear ho1)
        obtain ⟨Ao142, co142, eo142⟩ := Kd.R_slice HO349.out
        (first | subst eo142 | (injection eo142 with f1_ f2_ f3_; have f4_ := f1_.symm; have f5_ := f3_.symm; clear f1_ f2_ f3_; subst f4_; subst f5_))
        obtain ⟨Ao143, co143, eo143⟩ := Kd.R_slice HO352.out
        (first | subst eo143 | (injection eo143 with f1_ f2_ f3_; have f4_ := f1_.symm; have f5_ := f3_.symm; clear f1_ f2_ f3_; subst f4_; subst f5_))
        refine hK.out _ _ ⟨(blk_cell BK335.out 0).trans rfl, (blk_cell BK335.out 1).trans rfl, (blk_cell BK311.out 0).trans rfl, (blk_cell BK311.out 1).trans rfl⟩ (fun hHeld => ?_)
        clear hK K
        refine norm_ (a' := ?_) ?_ ?_
        rotate_left
        ·show Act.put _ (some 65) _ = _
         simp only [Act.put, List.setIfInBounds_toArray, List.set_cons_zero, List.set_cons_succ, i64_w, i32_w]
         rfl
        refine one_ (i := 3) (N := some 66) #[true, true, true, true, false] rfl rfl t15_ t33_ (fun K hK => ?_)
        refine goes_ Try.func17 t15_ rfl #[.agg #[.slice Ao37 t329.length co37, .slice Ao40 t332.length co40], .agg #[.slice Ao142 t347.length co142, .slice Ao143 t350.length co143]] t68_ rfl rfl t2_ ?_
        with_reducible refine (laws_eqNetwork.calls kj20 _ _ t329 _ _ t332 _ _ t347 _ _ t350 false _ ?side1 ?side2 ?side3 ?side4 ?side5 ?side6 ?side7 ?side8 A55.out).mono ?_
        (case side1 => repeat (first | exact (Kd.R_reads' HO_336000.out).2.2 | (with_reducible refine Kd.C_alloc ?_ _) | (with_reducible refine Kd.C_drewN ?_ _) | (with_reducible refine Kd.C_drew ?_)))
        (case side2 => exact (Kd.R_reads' HO_336000.out).2.1)
        (case side3 => repeat (first | exact (Kd.R_reads' HO_336001.out).2.2 | (with_reducible refine Kd.C_alloc ?_ _) | (with_reducible refine Kd.C_drewN ?_ _) | (with_reducible refine Kd.C_drew ?_)))
        (case side4 => exact (Kd.R_reads' HO_336001.out).2.1)
        (case side5 => repeat (first | exact (Kd.R_reads' HO349.out).2.2 | (with_reducible refine Kd.C_alloc ?_ _) | (with_reducible refine Kd.C_drewN ?_ _) | (with_reducible refine Kd.C_drew ?_)))
        (case side6 => exact (Kd.R_reads' HO349.out).2.1)
        (case side7 => repeat (first | exact (Kd.R_reads' HO352.out).2.2 | (with_reducible refine Kd.C_alloc ?_ _) | (with_reducible refine Kd.C_drewN ?_ _) | (with_reducible refine Kd.C_drew ?_)))
        (case side8 => exact (Kd.R_reads' HO352.out).2.1)
        rintro e w144 ⟨rfl, hb⟩
        refine ⟨_, rfl, ?_⟩
        have n0_ := Aside0.mk (Kd.R_below (q2_ HO_8.out) hb)
        have n1_ := Aside0.mk (Kd.R_below (q2_ HO_11.out) hb)
        have n2_ := Aside0.mk (Kd.R_below (q2_ HO_12.out) hb)
        have n3_ := Aside0.mk (Kd.R_below (q2_ HO_13.out) hb)
        have n4_ := Aside0.mk (Kd.R_below (q2_ HO_336000.out) hb)
        have n5_ := Aside0.mk (Kd.R_below (q2_ HO_336001.out) hb)
        have n6_ := Aside0.mk (Kd.R_below (q2_ HO349.out) hb)
        have n7_ := Aside0.mk (Kd.R_below (q2_ HO352.out) hb)
        have n8_ := Aside0.mk (blk_below (g := gb311) (o := .cells #[.slice A0_0 l0_0.length c0_0, .slice A0_1 l0_1.length c0_1] 25 (0, 0)) (q1_ BK311.out) hb)
        have n9_ := Aside0.mk (blk_below (g := gb335) (o := .cells #[.slice Ao37 t329.length co37, .slice Ao40 t332.length co40] 32 (0, 0)) (q1_ BK335.out) hb)
        have n10_ := Aside0.mk (below_step t4_ hb)
        clear HO_8
        clear HO_11
        clear HO_12
        clear HO_13
        clear HO_336000
        clear HO_336001
        clear HO349
        clear HO352
        clear BK311
        clear BK335
        clear HB
        have HO_8 := n0_
        have HO_11 := n1_
        have HO_12 := n2_
        have HO_13 := n3_
        have HO_336000 := n4_
        have HO_336001 := n5_
        have HO349 := n6_
        have HO352 := n7_
        have BK311 := n8_
        have BK335 := n9_
        have HB := n10_
        clear n0_ n1_ n2_ n3_ n4_ n5_ n6_ n7_ n8_ n9_ n10_
        (try clear hb)
        (try clear hb2)
        (try clear hk)
        (try clear hi)
        refine hK.out _ _ ⟨(blk_cell BK335.out 0).trans rfl, (blk_cell BK335.out 1).trans rfl, (blk_cell BK311.out 0).trans rfl, (blk_cell BK311.out 1).trans rfl⟩ (fun hHeld => ?_)
        clear hK K
        refine norm_ (a' := ?_) ?_ ?_
        rotate_left
        ·show Act.put _ (some 66) _ = _
         simp only [Act.put, List.setIfInBounds_toArray, List.set_cons_zero, List.set_cons_succ, i64_w, i32_w]
         rfl
        refine pure_ (i := 4) (N := some 67) (v := ?_) (a' := ?_) #[true, true, true, true, true] rfl rfl t15_ (fun _ _ _ h => h) (Or.inl ⟨t68_, ?_⟩) ?_ ?_
        rotate_left; (· intro w'; go_simp; with_reducible rfl); rotate_left; (· simp only [Act.put, List.setIfInBounds_toArray, List.set_cons_zero, List.set_cons_succ, i64_w, i32_w]; rfl)
        refine done_ t15_ ?_
        try go_wp2
        go_ret
        exact ⟨t5_, t4_⟩

/-- What is known of values that were read. -/
def wfIi64 (x : Int) : Prop := (Lit.int .i64 x).wf = true
def wfLIi64 (x : List Int) : Prop := x.length ≤ 9223372036854775807 ∧ ∀ x_ ∈ x, wfIi64 x_
def wfZ (x : ByteArray) : Prop := x.size ≤ maxLen
def wfT99 (x : S99) : Prop := x.f0.size ≤ maxLen ∧ (Lit.int .i64 x.f1).wf = true ∧ (Lit.int .i64 x.f2).wf = true ∧ (Lit.int .i64 x.f3).wf = true ∧ (Lit.int .i64 x.f4).wf = true ∧ (Lit.int .i64 x.f5).wf = true
def wfLT99 (x : List (S99)) : Prop := x.length ≤ 9223372036854775807 ∧ ∀ x_ ∈ x, wfT99 x_
def wfT25 (x : S25) : Prop := wfLIi64 x.f0 ∧ wfLT99 x.f1

/-- THE ONE PURE STATEMENT of laws_FnExactServedNodes. -/
def laws_FnExactServedNodes.Pure : Prop := ∀ (x0 : S25) (x1 : List Int) (x2 : List Int), wfT25 x0 → wfLIi64 x1 → wfLIi64 x2 → ∃ k, laws_FnExactServedNodes.f k x0.f0 x0.f1 x1 x2 = some true
theorem laws_FnExactServedNodes.walk0 : True := trivial
theorem laws_FnExactServedNodes.walk : True := trivial

end Go.Proofs.Ytjelfhmgbhidnaa.PFnExactServedNodes
