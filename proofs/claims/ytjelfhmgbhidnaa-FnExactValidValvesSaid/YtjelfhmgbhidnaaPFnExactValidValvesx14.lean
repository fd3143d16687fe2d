-- written by wip/xprint.py, a program of this session, for this claim; not trusted: Lean checks it.
import Derived.Test.YtjelfhmgbhidnaaPFnExactValidValvesx0
import Derived.Test.YtjelfhmgbhidnaaPFnExactValidValvesx1
import Derived.Test.YtjelfhmgbhidnaaPFnExactValidValvesx7
import Derived.Test.YtjelfhmgbhidnaaPFnExactValidValvesx11
import Derived.Test.YtjelfhmgbhidnaaPFnExactValidValvesx12
import Derived.Test.YtjelfhmgbhidnaaPFnExactValidValvesx13
namespace Go.Proofs.Ytjelfhmgbhidnaa.PFnExactValidValves
open Go.RowKit Go.Proofs.YtjelfhmgbhidnaaW.PrintWords Go.Proofs.YtjelfhmgbhidnaaW.PrintLast Go.Proofs.YtjelfhmgbhidnaaW.PrintMore
attribute [local go_sem] leq_less_ max2_int min2_int max_two min_two max_three min_three max_four min_four   -- for this text's walks alone
set_option linter.unusedVariables false
set_option linter.unusedSimpArgs false

/-! ### laws_FnExactValidValves: function 3 -/
def laws_FnExactValidValves.f (k : Nat) (l0_0 : List Int) (l0_1 : List (S99)) (l1 : List (S60)) : Option (Bool) := (laws_szNetwork.f k l0_0 l0_1 1048576).bind fun t280 => (if t280 < 0 then (some true) else ((laws_szValveS.f k l1 t280).bind fun t281 => (if t281 < 0 then (some true) else ((laws_toNetwork.f k l0_0 l0_1).bind fun bt282 => ((laws_toValveS.f k l1).bind fun t288 => ((spec_ValidValves.f k bt282.1 bt282.2 t288).bind fun t291 => ((laws_toNetwork.f k l0_0 l0_1).bind fun bt292 => ((laws_toValveS.f k l1).bind fun t299 => ((impl_ValidValves.f k bt292.1 bt292.2 t299).bind fun t302 => (if (t302 != t291) = true then (some false) else ((laws_toNetwork.f k l0_0 l0_1).bind fun bt303 => ((laws_eqNetwork.f k bt292.1 bt292.2 bt303.1 bt303.2).bind fun t309 => (if t309 = true then ((laws_toValveS.f k l1).bind fun t310 => ((laws_eqValveS.f k t299 t310).bind fun t313 => (if t313 = true then (some true) else (some false)))) else (some false))))))))))))))
theorem laws_FnExactValidValves.mono : ∀ a0 a1 a2 k, LeO (laws_FnExactValidValves.f k a0 a1 a2) (laws_FnExactValidValves.f (k + 1) a0 a1 a2) := by
 intro a0 a1 a2 k
 unfold laws_FnExactValidValves.f
 repeat' first
   | (with_reducible exact impl_ValidValves.mono _ _ _ _)
   | (with_reducible exact laws_eqNetwork.mono _ _ _ _ _)
   | (with_reducible exact laws_eqValveS.mono _ _ _)
   | (with_reducible exact laws_szNetwork.mono _ _ _ _)
   | (with_reducible exact laws_szValveS.mono _ _ _)
   | (with_reducible exact laws_toNetwork.mono _ _ _)
   | (with_reducible exact laws_toValveS.mono _ _)
   | (with_reducible exact spec_ValidValves.mono _ _ _ _)
   | (with_reducible exact LeO.refl _)
   | (with_reducible exact LeO.none _)
   | (with_reducible refine LeO.ite ?_ ?_)
   | (with_reducible refine LeO.bind ?_ (fun _ => ?_))
   | exact impl_ValidValves.mono _ _ _ _
   | exact laws_eqNetwork.mono _ _ _ _ _
   | exact laws_eqValveS.mono _ _ _
   | exact laws_szNetwork.mono _ _ _ _
   | exact laws_szValveS.mono _ _ _
   | exact laws_toNetwork.mono _ _ _
   | exact laws_toValveS.mono _ _
   | exact spec_ValidValves.mono _ _ _ _
   | exact LeO.none _
   | refine LeO.ite ?_ ?_
   | refine LeO.bind ?_ (fun _ => ?_)
set_option maxHeartbeats 8000000 in
set_option maxRecDepth 100000 in
theorem laws_FnExactValidValves.calls (k : Nat) (A0_0 : Option Addr) (c0_0 : Nat) (l0_0 : List Int) (A0_1 : Option Addr) (c0_1 : Nat) (l0_1 : List (S99)) (A1 : Option Addr) (c1 : Nat) (l1 : List (S60)) (r : Bool) (w : World) (hr0_0 : Kd.C (Kd.int .i64) w A0_0 l0_0.length l0_0) (hc0_0 : l0_0.length ≤ c0_0) (hr0_1 : Kd.C k99 w A0_1 l0_1.length l0_1) (hc0_1 : l0_1.length ≤ c0_1) (hr1 : Kd.C k60 w A1 l1.length l1) (hc1 : l1.length ≤ c1) (h : laws_FnExactValidValves.f k l0_0 l0_1 l1 = some r) :
  Calls Try.prog 3 #[.agg #[.slice A0_0 l0_0.length c0_0, .slice A0_1 l0_1.length c0_1], .slice A1 l1.length c1] w fun e w' => e = .returned (.bool r) ∧ Below w.heap.size w w' := by
 have hu25 := Try.underlying25
 have hu32 := Try.underlying32
 have HR0_0 := Aside0.mk hr0_0
 have HC0_0 := Aside0.mk hc0_0
 clear hr0_0 hc0_0
 have HR0_1 := Aside0.mk hr0_1
 have HC0_1 := Aside0.mk hc0_1
 clear hr0_1 hc0_1
 have HR1 := Aside0.mk hr1
 have HC1 := Aside0.mk hc1
 clear hr1 hc1
 have HB := Aside0.mk (Below.refl w.heap.size w)
 have H : ((laws_szNetwork.f k l0_0 l0_1 1048576).bind fun t280 => (if t280 < 0 then (some true) else ((laws_szValveS.f k l1 t280).bind fun t281 => (if t281 < 0 then (some true) else ((laws_toNetwork.f k l0_0 l0_1).bind fun bt282 => ((laws_toValveS.f k l1).bind fun t288 => ((spec_ValidValves.f k bt282.1 bt282.2 t288).bind fun t291 => ((laws_toNetwork.f k l0_0 l0_1).bind fun bt292 => ((laws_toValveS.f k l1).bind fun t299 => ((impl_ValidValves.f k bt292.1 bt292.2 t299).bind fun t302 => (if (t302 != t291) = true then (some false) else ((laws_toNetwork.f k l0_0 l0_1).bind fun bt303 => ((laws_eqNetwork.f k bt292.1 bt292.2 bt303.1 bt303.2).bind fun t309 => (if t309 = true then ((laws_toValveS.f k l1).bind fun t310 => ((laws_eqValveS.f k t299 t310).bind fun t313 => (if t313 = true then (some true) else (some false)))) else (some false))))))))))))))) = some r := h
 clear h
 replace H := Option.bind_eq_some_iff.mp H
 obtain ⟨t280, A30, H⟩ := H
 replace H : (if t280 < 0 then (some true) else ((laws_szValveS.f k l1 t280).bind fun t281 => (if t281 < 0 then (some true) else ((laws_toNetwork.f k l0_0 l0_1).bind fun bt282 => ((laws_toValveS.f k l1).bind fun t288 => ((spec_ValidValves.f k bt282.1 bt282.2 t288).bind fun t291 => ((laws_toNetwork.f k l0_0 l0_1).bind fun bt292 => ((laws_toValveS.f k l1).bind fun t299 => ((impl_ValidValves.f k bt292.1 bt292.2 t299).bind fun t302 => (if (t302 != t291) = true then (some false) else ((laws_toNetwork.f k l0_0 l0_1).bind fun bt303 => ((laws_eqNetwork.f k bt292.1 bt292.2 bt303.1 bt303.2).bind fun t309 => (if t309 = true then ((laws_toValveS.f k l1).bind fun t310 => ((laws_eqValveS.f k t299 t310).bind fun t313 => (if t313 = true then (some true) else (some false)))) else (some false)))))))))))))) = some r := H
 have A3 := Aside0.mk A30
 clear A30
 by_cases c4 : t280 < 0
 ·rw [if_pos c4] at H
  have c4b0 : decide (t280 < 0) = true := decide_eq_true c4
  clear c4
  obtain rfl := Option.some.inj H
  go_enter Try.func3, Try.ntmps3
  go_wp2_with (first | ((with_reducible refine gate_dst (N := 2) rfl ?_); refine box_event ?hg (N := 2) ?hd (cs := #[.slice A0_0 l0_0.length c0_0, .slice A0_1 l0_1.length c0_1]) (t := 25) ?hr ?_; (case hd => rfl); (case hg => rfl); (case hr => first | (go_simp; done) | (go_simp; rfl)); intro gb279 hg w5 hbox hb; have n0_ := Aside0.mk (below_step t1_ hb); have n1_ := Aside0.mk (hbox); have n2_ := Aside0.mk ((by rw [hg]; exact (below_size t1_) : w.heap.size ≤ gb279)); have n3_ := Aside0.mk ((by rw [hg]; exact (below_size t1_) : w.heap.size ≤ gb279)); clear HB; have HB := n0_; have BK279 := n1_; have GW279 := n2_; have GE279 := n3_; clear n0_ n1_ n2_ n3_; clear hb hbox hg; have hcz6_0 : w5.cell? ⟨gb279, 0, none⟩ = some (.slice A0_0 l0_0.length c0_0) := (blk_cell BK279.out 0).trans rfl; have hcz6_1 : w5.cell? ⟨gb279, 1, none⟩ = some (.slice A0_1 l0_1.length c0_1) := (blk_cell BK279.out 1).trans rfl; have hfz6_0 := blk_frozen BK279.out 0; have hfz6_1 := blk_frozen BK279.out 1) | ((with_reducible refine gate_callee (f := 11) rfl ?_); refine goesL_ (some 12) rfl rfl Try.func11 t8_ rfl #[.agg #[.slice A0_0 l0_0.length c0_0, .slice A0_1 l0_1.length c0_1], .int .i64 1048576] rfl t2_ ?_; (with_reducible refine (laws_szNetwork.calls k _ _ l0_0 _ _ l0_1 1048576 t280 _ ?side1 ?side2 ?side3 ?side4 A3.out).mono ?_); (case side1 => repeat (first | exact (Kd.C_below HR0_0.out HB.out) | (with_reducible refine Kd.C_alloc ?_ _) | (with_reducible refine Kd.C_drewN ?_ _) | (with_reducible refine Kd.C_drew ?_))); (case side2 => exact HC0_0.out); (case side3 => repeat (first | exact (Kd.C_below HR0_1.out HB.out) | (with_reducible refine Kd.C_alloc ?_ _) | (with_reducible refine Kd.C_drewN ?_ _) | (with_reducible refine Kd.C_drew ?_))); (case side4 => exact HC0_1.out); rintro e w7 ⟨rfl, hb⟩; refine ⟨_, rfl, ?_⟩; have n0_ := Aside0.mk (blk_below (g := gb279) (o := .cells #[.slice A0_0 l0_0.length c0_0, .slice A0_1 l0_1.length c0_1] 25 (0, 0)) (q1_ BK279.out) hb); have n1_ := Aside0.mk (below_step t4_ hb); clear BK279; clear HB; have BK279 := n0_; have HB := n1_; clear n0_ n1_; (try clear hb); (try clear hb2); (try clear hk); (try clear hi)))
  go_ret
  exact ⟨by first | rfl | (rw [Int.tdiv_eq_ediv_of_nonneg t12_]; rfl) | (simp [errW_none, errW_some] <;> rfl) | (simp [*, errW_none, errW_some] <;> rfl), by repeat (first | (with_reducible first | exact HB.out | apply below_alloc | apply pw_below_drewN | apply below_drew1 | refine below_set ?_ GE279.out) | exact HB.out)⟩
 ·rw [if_neg c4] at H
  have c4b0 : decide (t280 < 0) = false := decide_eq_false c4
  clear c4
  replace H := Option.bind_eq_some_iff.mp H
  obtain ⟨t281, A80, H⟩ := H
  replace H : (if t281 < 0 then (some true) else ((laws_toNetwork.f k l0_0 l0_1).bind fun bt282 => ((laws_toValveS.f k l1).bind fun t288 => ((spec_ValidValves.f k bt282.1 bt282.2 t288).bind fun t291 => ((laws_toNetwork.f k l0_0 l0_1).bind fun bt292 => ((laws_toValveS.f k l1).bind fun t299 => ((impl_ValidValves.f k bt292.1 bt292.2 t299).bind fun t302 => (if (t302 != t291) = true then (some false) else ((laws_toNetwork.f k l0_0 l0_1).bind fun bt303 => ((laws_eqNetwork.f k bt292.1 bt292.2 bt303.1 bt303.2).bind fun t309 => (if t309 = true then ((laws_toValveS.f k l1).bind fun t310 => ((laws_eqValveS.f k t299 t310).bind fun t313 => (if t313 = true then (some true) else (some false)))) else (some false)))))))))))) = some r := H
  have A8 := Aside0.mk A80
  clear A80
  by_cases c9 : t281 < 0
  ·rw [if_pos c9] at H
   have c9b0 : decide (t281 < 0) = true := decide_eq_true c9
   clear c9
   obtain rfl := Option.some.inj H
   go_enter Try.func3, Try.ntmps3
   go_wp2_with (first | ((with_reducible refine gate_dst (N := 2) rfl ?_); refine box_event ?hg (N := 2) ?hd (cs := #[.slice A0_0 l0_0.length c0_0, .slice A0_1 l0_1.length c0_1]) (t := 25) ?hr ?_; (case hd => rfl); (case hg => rfl); (case hr => first | (go_simp; done) | (go_simp; rfl)); intro gb279 hg w10 hbox hb; have n0_ := Aside0.mk (below_step t1_ hb); have n1_ := Aside0.mk (hbox); have n2_ := Aside0.mk ((by rw [hg]; exact (below_size t1_) : w.heap.size ≤ gb279)); have n3_ := Aside0.mk ((by rw [hg]; exact (below_size t1_) : w.heap.size ≤ gb279)); clear HB; have HB := n0_; have BK279 := n1_; have GW279 := n2_; have GE279 := n3_; clear n0_ n1_ n2_ n3_; clear hb hbox hg; have hcz11_0 : w10.cell? ⟨gb279, 0, none⟩ = some (.slice A0_0 l0_0.length c0_0) := (blk_cell BK279.out 0).trans rfl; have hcz11_1 : w10.cell? ⟨gb279, 1, none⟩ = some (.slice A0_1 l0_1.length c0_1) := (blk_cell BK279.out 1).trans rfl; have hfz11_0 := blk_frozen BK279.out 0; have hfz11_1 := blk_frozen BK279.out 1) | ((with_reducible refine gate_callee (f := 11) rfl ?_); refine goesL_ (some 12) rfl rfl Try.func11 t8_ rfl #[.agg #[.slice A0_0 l0_0.length c0_0, .slice A0_1 l0_1.length c0_1], .int .i64 1048576] rfl t2_ ?_; (with_reducible refine (laws_szNetwork.calls k _ _ l0_0 _ _ l0_1 1048576 t280 _ ?side1 ?side2 ?side3 ?side4 A3.out).mono ?_); (case side1 => repeat (first | exact (Kd.C_below HR0_0.out HB.out) | (with_reducible refine Kd.C_alloc ?_ _) | (with_reducible refine Kd.C_drewN ?_ _) | (with_reducible refine Kd.C_drew ?_))); (case side2 => exact HC0_0.out); (case side3 => repeat (first | exact (Kd.C_below HR0_1.out HB.out) | (with_reducible refine Kd.C_alloc ?_ _) | (with_reducible refine Kd.C_drewN ?_ _) | (with_reducible refine Kd.C_drew ?_))); (case side4 => exact HC0_1.out); rintro e w12 ⟨rfl, hb⟩; refine ⟨_, rfl, ?_⟩; have n0_ := Aside0.mk (blk_below (g := gb279) (o := .cells #[.slice A0_0 l0_0.length c0_0, .slice A0_1 l0_1.length c0_1] 25 (0, 0)) (q1_ BK279.out) hb); have n1_ := Aside0.mk (below_step t4_ hb); clear BK279; clear HB; have BK279 := n0_; have HB := n1_; clear n0_ n1_; (try clear hb); (try clear hb2); (try clear hk); (try clear hi)) | ((with_reducible refine gate_callee (f := 12) rfl ?_); refine goesL_ (some 17) rfl rfl Try.func12 t8_ rfl #[.slice A1 l1.length c1, .int .i64 t280] rfl t2_ ?_; (with_reducible refine (laws_szValveS.calls k _ _ l1 t280 t281 _ ?side1 ?side2 A8.out).mono ?_); (case side1 => repeat (first | exact (Kd.C_below HR1.out HB.out) | (with_reducible refine Kd.C_alloc ?_ _) | (with_reducible refine Kd.C_drewN ?_ _) | (with_reducible refine Kd.C_drew ?_))); (case side2 => exact HC1.out); rintro e w13 ⟨rfl, hb⟩; refine ⟨_, rfl, ?_⟩; have n0_ := Aside0.mk (blk_below (g := gb279) (o := .cells #[.slice A0_0 l0_0.length c0_0, .slice A0_1 l0_1.length c0_1] 25 (0, 0)) (q1_ BK279.out) hb); have n1_ := Aside0.mk (below_step t4_ hb); clear BK279; clear HB; have BK279 := n0_; have HB := n1_; clear n0_ n1_; (try clear hb); (try clear hb2); (try clear hk); (try clear hi)))
   go_ret
   exact ⟨by first | rfl | (rw [Int.tdiv_eq_ediv_of_nonneg t12_]; rfl) | (simp [errW_none, errW_some] <;> rfl) | (simp [*, errW_none, errW_some] <;> rfl), by repeat (first | (with_reducible first | exact HB.out | apply below_alloc | apply pw_below_drewN | apply below_drew1 | refine below_set ?_ GE279.out) | exact HB.out)⟩
  ·rw [if_neg c9] at H
   have c9b0 : decide (t281 < 0) = false := decide_eq_false c9
   clear c9
   replace H := Option.bind_eq_some_iff.mp H
   obtain ⟨⟨t282, t285⟩, A140, H⟩ := H
   replace H : ((laws_toValveS.f k l1).bind fun t288 => ((spec_ValidValves.f k t282 t285 t288).bind fun t291 => ((laws_toNetwork.f k l0_0 l0_1).bind fun bt292 => ((laws_toValveS.f k l1).bind fun t299 => ((impl_ValidValves.f k bt292.1 bt292.2 t299).bind fun t302 => (if (t302 != t291) = true then (some false) else ((laws_toNetwork.f k l0_0 l0_1).bind fun bt303 => ((laws_eqNetwork.f k bt292.1 bt292.2 bt303.1 bt303.2).bind fun t309 => (if t309 = true then ((laws_toValveS.f k l1).bind fun t310 => ((laws_eqValveS.f k t299 t310).bind fun t313 => (if t313 = true then (some true) else (some false)))) else (some false)))))))))) = some r := H
   have A14 := Aside0.mk A140
   clear A140
   replace H := Option.bind_eq_some_iff.mp H
   obtain ⟨t288, A150, H⟩ := H
   replace H : ((spec_ValidValves.f k t282 t285 t288).bind fun t291 => ((laws_toNetwork.f k l0_0 l0_1).bind fun bt292 => ((laws_toValveS.f k l1).bind fun t299 => ((impl_ValidValves.f k bt292.1 bt292.2 t299).bind fun t302 => (if (t302 != t291) = true then (some false) else ((laws_toNetwork.f k l0_0 l0_1).bind fun bt303 => ((laws_eqNetwork.f k bt292.1 bt292.2 bt303.1 bt303.2).bind fun t309 => (if t309 = true then ((laws_toValveS.f k l1).bind fun t310 => ((laws_eqValveS.f k t299 t310).bind fun t313 => (if t313 = true then (some true) else (some false)))) else (some false))))))))) = some r := H
   have A15 := Aside0.mk A150
   clear A150
   replace H := Option.bind_eq_some_iff.mp H
   obtain ⟨t291, A160, H⟩ := H
   replace H : ((laws_toNetwork.f k l0_0 l0_1).bind fun bt292 => ((laws_toValveS.f k l1).bind fun t299 => ((impl_ValidValves.f k bt292.1 bt292.2 t299).bind fun t302 => (if (t302 != t291) = true then (some false) else ((laws_toNetwork.f k l0_0 l0_1).bind fun bt303 => ((laws_eqNetwork.f k bt292.1 bt292.2 bt303.1 bt303.2).bind fun t309 => (if t309 = true then ((laws_toValveS.f k l1).bind fun t310 => ((laws_eqValveS.f k t299 t310).bind fun t313 => (if t313 = true then (some true) else (some false)))) else (some false)))))))) = some r := H
   have A16 := Aside0.mk A160
   clear A160
   replace H := Option.bind_eq_some_iff.mp H
   obtain ⟨⟨t292, t295⟩, A170, H⟩ := H
   replace H : ((laws_toValveS.f k l1).bind fun t299 => ((impl_ValidValves.f k t292 t295 t299).bind fun t302 => (if (t302 != t291) = true then (some false) else ((laws_toNetwork.f k l0_0 l0_1).bind fun bt303 => ((laws_eqNetwork.f k t292 t295 bt303.1 bt303.2).bind fun t309 => (if t309 = true then ((laws_toValveS.f k l1).bind fun t310 => ((laws_eqValveS.f k t299 t310).bind fun t313 => (if t313 = true then (some true) else (some false)))) else (some false))))))) = some r := H
   have A17 := Aside0.mk A170
   clear A170
   replace H := Option.bind_eq_some_iff.mp H
   obtain ⟨t299, A180, H⟩ := H
   replace H : ((impl_ValidValves.f k t292 t295 t299).bind fun t302 => (if (t302 != t291) = true then (some false) else ((laws_toNetwork.f k l0_0 l0_1).bind fun bt303 => ((laws_eqNetwork.f k t292 t295 bt303.1 bt303.2).bind fun t309 => (if t309 = true then ((laws_toValveS.f k l1).bind fun t310 => ((laws_eqValveS.f k t299 t310).bind fun t313 => (if t313 = true then (some true) else (some false)))) else (some false)))))) = some r := H
   have A18 := Aside0.mk A180
   clear A180
   replace H := Option.bind_eq_some_iff.mp H
   obtain ⟨t302, A190, H⟩ := H
   replace H : (if (t302 != t291) = true then (some false) else ((laws_toNetwork.f k l0_0 l0_1).bind fun bt303 => ((laws_eqNetwork.f k t292 t295 bt303.1 bt303.2).bind fun t309 => (if t309 = true then ((laws_toValveS.f k l1).bind fun t310 => ((laws_eqValveS.f k t299 t310).bind fun t313 => (if t313 = true then (some true) else (some false)))) else (some false))))) = some r := H
   have A19 := Aside0.mk A190
   clear A190
   by_cases c20 : (t302 != t291) = true
   ·rw [if_pos c20] at H
    have c20b0 : (t302 != t291) = true := c20
    (try (have c20b1 : decide (t302 = t291) = false := by simpa using c20))
    (try (have c20b2 : (t302 == t291) = false := by simpa using c20))
    (try (have c20b3 : ¬ (t302 = t291) := by simpa using c20))
    clear c20
    obtain rfl := Option.some.inj H
    go_enter Try.func3, Try.ntmps3
    go_wp2_with (first | ((with_reducible refine gate_dst (N := 2) rfl ?_); refine box_event ?hg (N := 2) ?hd (cs := #[.slice A0_0 l0_0.length c0_0, .slice A0_1 l0_1.length c0_1]) (t := 25) ?hr ?_; (case hd => rfl); (case hg => rfl); (case hr => first | (go_simp; done) | (go_simp; rfl)); intro gb279 hg w21 hbox hb; have n0_ := Aside0.mk (below_step t1_ hb); have n1_ := Aside0.mk (hbox); have n2_ := Aside0.mk ((by rw [hg]; exact (below_size t1_) : w.heap.size ≤ gb279)); have n3_ := Aside0.mk ((by rw [hg]; exact (below_size t1_) : w.heap.size ≤ gb279)); clear HB; have HB := n0_; have BK279 := n1_; have GW279 := n2_; have GE279 := n3_; clear n0_ n1_ n2_ n3_; clear hb hbox hg; have hcz22_0 : w21.cell? ⟨gb279, 0, none⟩ = some (.slice A0_0 l0_0.length c0_0) := (blk_cell BK279.out 0).trans rfl; have hcz22_1 : w21.cell? ⟨gb279, 1, none⟩ = some (.slice A0_1 l0_1.length c0_1) := (blk_cell BK279.out 1).trans rfl; have hfz22_0 := blk_frozen BK279.out 0; have hfz22_1 := blk_frozen BK279.out 1) | ((with_reducible refine gate_callee (f := 11) rfl ?_); refine goesL_ (some 12) rfl rfl Try.func11 t8_ rfl #[.agg #[.slice A0_0 l0_0.length c0_0, .slice A0_1 l0_1.length c0_1], .int .i64 1048576] rfl t2_ ?_; (with_reducible refine (laws_szNetwork.calls k _ _ l0_0 _ _ l0_1 1048576 t280 _ ?side1 ?side2 ?side3 ?side4 A3.out).mono ?_); (case side1 => repeat (first | exact (Kd.C_below HR0_0.out HB.out) | (with_reducible refine Kd.C_alloc ?_ _) | (with_reducible refine Kd.C_drewN ?_ _) | (with_reducible refine Kd.C_drew ?_))); (case side2 => exact HC0_0.out); (case side3 => repeat (first | exact (Kd.C_below HR0_1.out HB.out) | (with_reducible refine Kd.C_alloc ?_ _) | (with_reducible refine Kd.C_drewN ?_ _) | (with_reducible refine Kd.C_drew ?_))); (case side4 => exact HC0_1.out); rintro e w23 ⟨rfl, hb⟩; refine ⟨_, rfl, ?_⟩; have n0_ := Aside0.mk (blk_below (g := gb279) (o := .cells #[.slice A0_0 l0_0.length c0_0, .slice A0_1 l0_1.length c0_1] 25 (0, 0)) (q1_ BK279.out) hb); have n1_ := Aside0.mk (below_step t4_ hb); clear BK279; clear HB; have BK279 := n0_; have HB := n1_; clear n0_ n1_; (try clear hb); (try clear hb2); (try clear hk); (try clear hi)) | ((with_reducible refine gate_callee (f := 12) rfl ?_); refine goesL_ (some 17) rfl rfl Try.func12 t8_ rfl #[.slice A1 l1.length c1, .int .i64 t280] rfl t2_ ?_; (with_reducible refine (laws_szValveS.calls k _ _ l1 t280 t281 _ ?side1 ?side2 A8.out).mono ?_); (case side1 => repeat (first | exact (Kd.C_below HR1.out HB.out) | (with_reducible refine Kd.C_alloc ?_ _) | (with_reducible refine Kd.C_drewN ?_ _) | (with_reducible refine Kd.C_drew ?_))); (case side2 => exact HC1.out); rintro e w24 ⟨rfl, hb⟩; refine ⟨_, rfl, ?_⟩; have n0_ := Aside0.mk (blk_below (g := gb279) (o := .cells #[.slice A0_0 l0_0.length c0_0, .slice A0_1 l0_1.length c0_1] 25 (0, 0)) (q1_ BK279.out) hb); have n1_ := Aside0.mk (below_step t4_ hb); clear BK279; clear HB; have BK279 := n0_; have HB := n1_; clear n0_ n1_; (try clear hb); (try clear hb2); (try clear hk); (try clear hi); have hcz25_0 : w24.cell? ⟨gb279, 0, none⟩ = some (.slice A0_0 l0_0.length c0_0) := (blk_cell BK279.out 0).trans rfl; have hcz25_1 : w24.cell? ⟨gb279, 1, none⟩ = some (.slice A0_1 l0_1.length c0_1) := (blk_cell BK279.out 1).trans rfl; have hfz25_0 := blk_frozen BK279.out 0; have hfz25_1 := blk_frozen BK279.out 1) | ((with_reducible refine gate_callee (f := 14) rfl ?_); refine goesL_ (some 21) rfl rfl Try.func14 t8_ rfl #[.agg #[.slice A0_0 l0_0.length c0_0, .slice A0_1 l0_1.length c0_1]] rfl t2_ ?_; (with_reducible refine (laws_toNetwork.calls k _ _ l0_0 _ _ l0_1 t282 t285 _ ?side1 ?side2 ?side3 ?side4 A14.out).mono ?_); (case side1 => repeat (first | exact (Kd.C_below HR0_0.out HB.out) | (with_reducible refine Kd.C_alloc ?_ _) | (with_reducible refine Kd.C_drewN ?_ _) | (with_reducible refine Kd.C_drew ?_))); (case side2 => exact HC0_0.out); (case side3 => repeat (first | exact (Kd.C_below HR0_1.out HB.out) | (with_reducible refine Kd.C_alloc ?_ _) | (with_reducible refine Kd.C_drewN ?_ _) | (with_reducible refine Kd.C_drew ?_))); (case side4 => exact HC0_1.out); rintro e w26 ⟨v283, v286, rfl, ho0, ho1, hb⟩; refine ⟨_, rfl, ?_⟩; have n0_ := Aside0.mk (Kd.R_lower ho0 (below_size t4_)); have n1_ := Aside0.mk (Kd.R_lower ho1 (below_size t4_)); have n2_ := Aside0.mk (blk_below (g := gb279) (o := .cells #[.slice A0_0 l0_0.length c0_0, .slice A0_1 l0_1.length c0_1] 25 (0, 0)) (q1_ BK279.out) hb); have n3_ := Aside0.mk (below_step t4_ hb); clear BK279; clear HB; have HO284 := n0_; have HO287 := n1_; have BK279 := n2_; have HB := n3_; clear n0_ n1_ n2_ n3_; (try clear hb); (try clear hb2); (try clear hk); (try clear hi); (try clear ho0); (try clear ho1)) | ((with_reducible refine gate_callee (f := 15) rfl ?_); refine goesL_ (some 23) rfl rfl Try.func15 t8_ rfl #[.slice A1 l1.length c1] rfl t2_ ?_; (with_reducible refine (laws_toValveS.calls k _ _ l1 t288 _ ?side1 ?side2 A15.out).mono ?_); (case side1 => repeat (first | exact (Kd.C_below HR1.out HB.out) | (with_reducible refine Kd.C_alloc ?_ _) | (with_reducible refine Kd.C_drewN ?_ _) | (with_reducible refine Kd.C_drew ?_))); (case side2 => exact HC1.out); rintro e w27 ⟨v289, rfl, ho0, hb⟩; refine ⟨_, rfl, ?_⟩; have n0_ := Aside0.mk (Kd.R_below (q2_ HO284.out) hb); have n1_ := Aside0.mk (Kd.R_below (q2_ HO287.out) hb); have n2_ := Aside0.mk (Kd.R_lower ho0 (below_size t4_)); have n3_ := Aside0.mk (blk_below (g := gb279) (o := .cells #[.slice A0_0 l0_0.length c0_0, .slice A0_1 l0_1.length c0_1] 25 (0, 0)) (q1_ BK279.out) hb); have n4_ := Aside0.mk (below_step t4_ hb); clear HO284; clear HO287; clear BK279; clear HB; have HO284 := n0_; have HO287 := n1_; have HO290 := n2_; have BK279 := n3_; have HB := n4_; clear n0_ n1_ n2_ n3_ n4_; (try clear hb); (try clear hb2); (try clear hk); (try clear hi); (try clear ho0); obtain ⟨Ao28, co28, eo28⟩ := Kd.R_slice HO284.out; subst eo28; obtain ⟨Ao29, co29, eo29⟩ := Kd.R_slice HO287.out; subst eo29; obtain ⟨Ao30, co30, eo30⟩ := Kd.R_slice HO290.out; subst eo30) | ((with_reducible refine gate_callee (f := 13) rfl ?_); refine goesL_ (some 24) rfl rfl Try.func13 t8_ rfl #[.agg #[.slice Ao28 t282.length co28, .slice Ao29 t285.length co29], .slice Ao30 t288.length co30] rfl t2_ ?_; (with_reducible refine (spec_ValidValves.calls k _ _ t282 _ _ t285 _ _ t288 t291 _ ?side1 ?side2 ?side3 ?side4 ?side5 ?side6 A16.out).mono ?_); (case side1 => repeat (first | exact (Kd.R_reads' HO284.out).2.2 | (with_reducible refine Kd.C_alloc ?_ _) | (with_reducible refine Kd.C_drewN ?_ _) | (with_reducible refine Kd.C_drew ?_))); (case side2 => exact (Kd.R_reads' HO284.out).2.1); (case side3 => repeat (first | exact (Kd.R_reads' HO287.out).2.2 | (with_reducible refine Kd.C_alloc ?_ _) | (with_reducible refine Kd.C_drewN ?_ _) | (with_reducible refine Kd.C_drew ?_))); (case side4 => exact (Kd.R_reads' HO287.out).2.1); (case side5 => repeat (first | exact (Kd.R_reads' HO290.out).2.2 | (with_reducible refine Kd.C_alloc ?_ _) | (with_reducible refine Kd.C_drewN ?_ _) | (with_reducible refine Kd.C_drew ?_))); (case side6 => exact (Kd.R_reads' HO290.out).2.1); rintro e w31 ⟨rfl, hb⟩; refine ⟨_, rfl, ?_⟩; have n0_ := Aside0.mk (Kd.R_below (q2_ HO284.out) hb); have n1_ := Aside0.mk (Kd.R_below (q2_ HO287.out) hb); have n2_ := Aside0.mk (Kd.R_below (q2_ HO290.out) hb); have n3_ := Aside0.mk (blk_below (g := gb279) (o := .cells #[.slice A0_0 l0_0.length c0_0, .slice A0_1 l0_1.length c0_1] 25 (0, 0)) (q1_ BK279.out) hb); have n4_ := Aside0.mk (below_step t4_ hb); clear HO284; clear HO287; clear HO290; clear BK279; clear HB; have HO284 := n0_; have HO287 := n1_; have HO290 := n2_; have BK279 := n3_; have HB := n4_; clear n0_ n1_ n2_ n3_ n4_; (try clear hb); (try clear hb2); (try clear hk); (try clear hi); have hcz32_0 : w31.cell? ⟨gb279, 0, none⟩ = some (.slice A0_0 l0_0.length c0_0) := (blk_cell BK279.out 0).trans rfl; have hcz32_1 : w31.cell? ⟨gb279, 1, none⟩ = some (.slice A0_1 l0_1.length c0_1) := (blk_cell BK279.out 1).trans rfl; have hfz32_0 := blk_frozen BK279.out 0; have hfz32_1 := blk_frozen BK279.out 1) | ((with_reducible refine gate_callee (f := 14) rfl ?_); refine goesL_ (some 26) rfl rfl Try.func14 t8_ rfl #[.agg #[.slice A0_0 l0_0.length c0_0, .slice A0_1 l0_1.length c0_1]] rfl t2_ ?_; (with_reducible refine (laws_toNetwork.calls k _ _ l0_0 _ _ l0_1 t292 t295 _ ?side1 ?side2 ?side3 ?side4 A17.out).mono ?_); (case side1 => repeat (first | exact (Kd.C_below HR0_0.out HB.out) | (with_reducible refine Kd.C_alloc ?_ _) | (with_reducible refine Kd.C_drewN ?_ _) | (with_reducible refine Kd.C_drew ?_))); (case side2 => exact HC0_0.out); (case side3 => repeat (first | exact (Kd.C_below HR0_1.out HB.out) | (with_reducible refine Kd.C_alloc ?_ _) | (with_reducible refine Kd.C_drewN ?_ _) | (with_reducible refine Kd.C_drew ?_))); (case side4 => exact HC0_1.out); rintro e w33 ⟨v293, v296, rfl, ho0, ho1, hb⟩; refine ⟨_, rfl, ?_⟩; have n0_ := Aside0.mk (Kd.R_elder' (q2_ HO284.out) (Kd.R_base ho0) hb); have n1_ := Aside0.mk (Kd.R_elder' (q2_ HO287.out) (Kd.R_base ho1) hb); have n2_ := Aside0.mk (Kd.R_below (q2_ HO290.out) hb); have n3_ := Aside0.mk (Kd.R_lower (Kd.R_new' ho0 (Kd.R_lt (q2_ HO284.out))) (below_size t4_)); have n4_ := Aside0.mk (Kd.R_lower (Kd.R_new' ho1 (Kd.R_lt (q2_ HO287.out))) (below_size t4_)); have n5_ := Aside0.mk (blk_below (g := gb279) (o := .cells #[.slice A0_0 l0_0.length c0_0, .slice A0_1 l0_1.length c0_1] 25 (0, 0)) (q1_ BK279.out) hb); have n6_ := Aside0.mk (below_step t4_ hb); clear HO284; clear HO287; clear HO290; clear BK279; clear HB; have HO284 := n0_; have HO287 := n1_; have HO290 := n2_; have HO294 := n3_; have HO297 := n4_; have BK279 := n5_; have HB := n6_; clear n0_ n1_ n2_ n3_ n4_ n5_ n6_; (try clear hb); (try clear hb2); (try clear hk); (try clear hi); (try clear ho0); (try clear ho1)) | ((with_reducible refine gate_dst (N := 7) rfl ?_); refine box_event ?hg (N := 7) ?hd (cs := #[.slice none 0 0, .slice none 0 0]) (t := 32) ?hr ?_; (case hd => rfl); (case hg => rfl); (case hr => first | (go_simp; done) | (go_simp; rfl)); intro gb298 hg w34 hbox hb; have n0_ := Aside0.mk (Kd.R_below (q2_ HO284.out) hb); have n1_ := Aside0.mk (Kd.R_below (q2_ HO287.out) hb); have n2_ := Aside0.mk (Kd.R_below (q2_ HO290.out) hb); have n3_ := Aside0.mk (Kd.R_below (q2_ HO294.out) hb); have n4_ := Aside0.mk (Kd.R_below (q2_ HO297.out) hb); have n5_ := Aside0.mk (blk_below (g := gb279) (o := .cells #[.slice A0_0 l0_0.length c0_0, .slice A0_1 l0_1.length c0_1] 25 (0, 0)) (q1_ BK279.out) hb); have n6_ := Aside0.mk (below_step t4_ hb); have n7_ := Aside0.mk (hbox); have n8_ := Aside0.mk ((by rw [hg]; exact (below_size t4_) : w.heap.size ≤ gb298)); have n9_ := Aside0.mk ((by rw [hg]; exact (below_size t4_) : w.heap.size ≤ gb298)); have n10_ := Aside0.mk ((by rw [hg]; exact Nat.ne_of_lt (blk_lt (g := gb279) (o := .cells #[.slice A0_0 l0_0.length c0_0, .slice A0_1 l0_1.length c0_1] 25 (0, 0)) (q1_ BK279.out)) : gb279 ≠ gb298)); have n11_ := Aside0.mk ((by rw [hg]; exact Nat.ne_of_gt (blk_lt (g := gb279) (o := .cells #[.slice A0_0 l0_0.length c0_0, .slice A0_1 l0_1.length c0_1] 25 (0, 0)) (q1_ BK279.out)) : gb298 ≠ gb279)); clear HO284; clear HO287; clear HO290; clear HO294; clear HO297; clear BK279; clear HB; have HO284 := n0_; have HO287 := n1_; have HO290 := n2_; have HO294 := n3_; have HO297 := n4_; have BK279 := n5_; have HB := n6_; have BK298 := n7_; have GW298 := n8_; have GE298 := n9_; have NB279_298 := n10_; have NB298_279 := n11_; clear n0_ n1_ n2_ n3_ n4_ n5_ n6_ n7_ n8_ n9_ n10_ n11_; clear hb hbox hg; obtain ⟨Ao35, co35, eo35⟩ := Kd.R_slice HO294.out; subst eo35; have hnb36 := NB298_279.out; have hnc36 := NB279_298.out; have hcz37_0 : w34.cell? ⟨gb298, 0, none⟩ = some (.slice none 0 0) := (blk_cell BK298.out 0).trans rfl; have hcz37_1 : w34.cell? ⟨gb298, 1, none⟩ = some (.slice none 0 0) := (blk_cell BK298.out 1).trans rfl; have hfz37_0 := blk_frozen BK298.out 0; have hfz37_1 := blk_frozen BK298.out 1; obtain ⟨Ao38, co38, eo38⟩ := Kd.R_slice HO297.out; subst eo38) | ((with_reducible refine gate_callee (f := 15) rfl ?_); refine goesL_ (some 28) rfl rfl Try.func15 t8_ rfl #[.slice A1 l1.length c1] rfl t2_ ?_; (with_reducible refine (laws_toValveS.calls k _ _ l1 t299 _ ?side1 ?side2 A18.out).mono ?_); (case side1 => exact Kd.C_below HR1.out t5_); (case side2 => exact HC1.out); rintro e w39 ⟨v300, rfl, ho0, hb⟩; refine ⟨_, rfl, ?_⟩; have n0_ := Aside0.mk (Kd.R_below (by (with_reducible repeat (first | apply Kd.R_alloc | apply Kd.R_drewN | apply Kd.R_drew)); exact (Kd.R_mono (Kd.R_far (p := ⟨gb298, 1, none⟩) (Kd.R_far (p := ⟨gb298, 0, none⟩) (Kd.R_types HO284.out BK298.out t20_) (fun _ hk => hk.2) (.slice Ao35 t292.length co35)) (fun _ hk => hk.2) (.slice Ao38 t295.length co38)) (fun _ h_ => h_.1))) hb); have n1_ := Aside0.mk (Kd.R_below (by (with_reducible repeat (first | apply Kd.R_alloc | apply Kd.R_drewN | apply Kd.R_drew)); exact (Kd.R_mono (Kd.R_far (p := ⟨gb298, 1, none⟩) (Kd.R_far (p := ⟨gb298, 0, none⟩) (Kd.R_types HO287.out BK298.out t20_) (fun _ hk => hk.2) (.slice Ao35 t292.length co35)) (fun _ hk => hk.2) (.slice Ao38 t295.length co38)) (fun _ h_ => h_.1))) hb); have n2_ := Aside0.mk (Kd.R_elder' t31_ (Kd.R_base ho0) hb); have n3_ := Aside0.mk (Kd.R_below (by (with_reducible repeat (first | apply Kd.R_alloc | apply Kd.R_drewN | apply Kd.R_drew)); exact (Kd.R_mono (Kd.R_far (p := ⟨gb298, 1, none⟩) (Kd.R_far (p := ⟨gb298, 0, none⟩) (Kd.R_types HO294.out BK298.out t20_) (fun _ hk => hk.2) (.slice Ao35 t292.length co35)) (fun _ hk => hk.2) (.slice Ao38 t295.length co38)) (fun _ h_ => h_.1))) hb); have n4_ := Aside0.mk (Kd.R_below (by (with_reducible repeat (first | apply Kd.R_alloc | apply Kd.R_drewN | apply Kd.R_drew)); exact (Kd.R_mono (Kd.R_far (p := ⟨gb298, 1, none⟩) (Kd.R_far (p := ⟨gb298, 0, none⟩) (Kd.R_types HO297.out BK298.out t20_) (fun _ hk => hk.2) (.slice Ao35 t292.length co35)) (fun _ hk => hk.2) (.slice Ao38 t295.length co38)) (fun _ h_ => h_.1))) hb); have n5_ := Aside0.mk (Kd.R_lower (Kd.R_new' ho0 (Kd.R_lt t31_)) (below_size t5_)); have n6_ := Aside0.mk (blk_below (g := gb279) (o := .cells #[.slice A0_0 l0_0.length c0_0, .slice A0_1 l0_1.length c0_1] 25 (0, 0)) t15_ hb); have n7_ := Aside0.mk (blk_below (g := gb298) (o := .cells #[.slice Ao35 t292.length co35, .slice Ao38 t295.length co38] 32 (0, 0)) (by (with_reducible repeat (first | refine blk_drewN ?_ _ | refine blk_drew ?_ | refine blk_alloc ?_ _)); refine blk_put (cs := #[.slice Ao35 t292.length co35, .slice none 0 0]) ?_ 1 _ rfl; (with_reducible repeat (first | refine blk_drewN ?_ _ | refine blk_drew ?_ | refine blk_alloc ?_ _)); refine blk_put (cs := #[.slice none 0 0, .slice none 0 0]) ?_ 0 _ rfl; (with_reducible repeat (first | refine blk_drewN ?_ _ | refine blk_drew ?_ | refine blk_alloc ?_ _)); exact BK298.out) hb); have n8_ := Aside0.mk (below_step t5_ hb); clear HO284; clear HO287; clear HO290; clear HO294; clear HO297; clear BK279; clear BK298; clear HB; have HO284 := n0_; have HO287 := n1_; have HO290 := n2_; have HO294 := n3_; have HO297 := n4_; have HO301 := n5_; have BK279 := n6_; have BK298 := n7_; have HB := n8_; clear n0_ n1_ n2_ n3_ n4_ n5_ n6_ n7_ n8_; (try clear hb); (try clear hb2); (try clear hk); (try clear hi); (try clear ho0); have hcz40_0 : w39.cell? ⟨gb298, 0, none⟩ = some (.slice Ao35 t292.length co35) := (blk_cell BK298.out 0).trans rfl; have hcz40_1 : w39.cell? ⟨gb298, 1, none⟩ = some (.slice Ao38 t295.length co38) := (blk_cell BK298.out 1).trans rfl; have hfz40_0 := blk_frozen BK298.out 0; have hfz40_1 := blk_frozen BK298.out 1; obtain ⟨Ao41, co41, eo41⟩ := Kd.R_slice HO301.out; subst eo41) | ((with_reducible refine gate_callee (f := 16) rfl ?_); refine goesL_ (some 31) rfl rfl Try.func16 t8_ rfl #[.agg #[.slice Ao35 t292.length co35, .slice Ao38 t295.length co38], .slice Ao41 t299.length co41] rfl t2_ ?_; (with_reducible refine (impl_ValidValves.calls k _ _ t292 _ _ t295 _ _ t299 t302 _ ?side1 ?side2 ?side3 ?side4 ?side5 ?side6 A19.out).mono ?_); (case side1 => repeat (first | exact (Kd.R_reads' HO294.out).2.2 | (with_reducible refine Kd.C_alloc ?_ _) | (with_reducible refine Kd.C_drewN ?_ _) | (with_reducible refine Kd.C_drew ?_))); (case side2 => exact (Kd.R_reads' HO294.out).2.1); (case side3 => repeat (first | exact (Kd.R_reads' HO297.out).2.2 | (with_reducible refine Kd.C_alloc ?_ _) | (with_reducible refine Kd.C_drewN ?_ _) | (with_reducible refine Kd.C_drew ?_))); (case side4 => exact (Kd.R_reads' HO297.out).2.1); (case side5 => repeat (first | exact (Kd.R_reads' HO301.out).2.2 | (with_reducible refine Kd.C_alloc ?_ _) | (with_reducible refine Kd.C_drewN ?_ _) | (with_reducible refine Kd.C_drew ?_))); (case side6 => exact (Kd.R_reads' HO301.out).2.1); rintro e w42 ⟨rfl, hb⟩; refine ⟨_, rfl, ?_⟩; have n0_ := Aside0.mk (Kd.R_below (q2_ HO284.out) hb); have n1_ := Aside0.mk (Kd.R_below (q2_ HO287.out) hb); have n2_ := Aside0.mk (Kd.R_below (q2_ HO290.out) hb); have n3_ := Aside0.mk (Kd.R_below (q2_ HO294.out) hb); have n4_ := Aside0.mk (Kd.R_below (q2_ HO297.out) hb); have n5_ := Aside0.mk (Kd.R_below (q2_ HO301.out) hb); have n6_ := Aside0.mk (blk_below (g := gb279) (o := .cells #[.slice A0_0 l0_0.length c0_0, .slice A0_1 l0_1.length c0_1] 25 (0, 0)) (q1_ BK279.out) hb); have n7_ := Aside0.mk (blk_below (g := gb298) (o := .cells #[.slice Ao35 t292.length co35, .slice Ao38 t295.length co38] 32 (0, 0)) (q1_ BK298.out) hb); have n8_ := Aside0.mk (below_step t5_ hb); clear HO284; clear HO287; clear HO290; clear HO294; clear HO297; clear HO301; clear BK279; clear BK298; clear HB; have HO284 := n0_; have HO287 := n1_; have HO290 := n2_; have HO294 := n3_; have HO297 := n4_; have HO301 := n5_; have BK279 := n6_; have BK298 := n7_; have HB := n8_; clear n0_ n1_ n2_ n3_ n4_ n5_ n6_ n7_ n8_; (try clear hb); (try clear hb2); (try clear hk); (try clear hi)))
    go_ret
    exact ⟨by first | rfl | (rw [Int.tdiv_eq_ediv_of_nonneg t12_]; rfl) | (simp [errW_none, errW_some] <;> rfl) | (simp [*, errW_none, errW_some] <;> rfl), by repeat (first | (with_reducible first | exact HB.out | apply below_alloc | apply pw_below_drewN | apply below_drew1 | refine below_set ?_ GE279.out | refine below_set ?_ GE298.out) | exact HB.out)⟩
   ·rw [if_neg c20] at H
    have c20b0 : (t302 != t291) = false := by simpa using c20
    (try (have c20b1 : decide (t302 = t291) = true := by simpa using c20))
    (try (have c20b2 : (t302 == t291) = true := by simpa using c20))
    clear c20
    replace H := Option.bind_eq_some_iff.mp H
    obtain ⟨⟨t303, t306⟩, A430, H⟩ := H
    replace H : ((laws_eqNetwork.f k t292 t295 t303 t306).bind fun t309 => (if t309 = true then ((laws_toValveS.f k l1).bind fun t310 => ((laws_eqValveS.f k t299 t310).bind fun t313 => (if t313 = true then (some true) else (some false)))) else (some false))) = some r := H
    have A43 := Aside0.mk A430
    clear A430
    replace H := Option.bind_eq_some_iff.mp H
    obtain ⟨t309, A440, H⟩ := H
    replace H : (if t309 = true then ((laws_toValveS.f k l1).bind fun t310 => ((laws_eqValveS.f k t299 t310).bind fun t313 => (if t313 = true then (some true) else (some false)))) else (some false)) = some r := H
    have A44 := Aside0.mk A440
    clear A440
    by_cases c45 : t309 = true
    ·subst c45
     have H1 : ((laws_toValveS.f k l1).bind fun t310 => ((laws_eqValveS.f k t299 t310).bind fun t313 => (if t313 = true then (some true) else (some false)))) = some r := by rw [if_pos rfl] at H; exact H
     clear H
     have H := H1
     clear H1
     replace H := Option.bind_eq_some_iff.mp H
     obtain ⟨t310, A460, H⟩ := H
     replace H : ((laws_eqValveS.f k t299 t310).bind fun t313 => (if t313 = true then (some true) else (some false))) = some r := H
     have A46 := Aside0.mk A460
     clear A460
     replace H := Option.bind_eq_some_iff.mp H
     obtain ⟨t313, A470, H⟩ := H
     replace H : (if t313 = true then (some true) else (some false)) = some r := H
     have A47 := Aside0.mk A470
     clear A470
     by_cases c48 : t313 = true
     ·subst c48
      have H1 : (some true) = some r := by rw [if_pos rfl] at H; exact H
      clear H
      have H := H1
      clear H1
      obtain rfl := Option.some.inj H
      go_enter Try.func3, Try.ntmps3
      try go_wp2_with (first | ((with_reducible refine gate_dst (N := 2) rfl ?_); refine box_event ?hg (N := 2) ?hd (cs := #[.slice A0_0 l0_0.length c0_0, .slice A0_1 l0_1.length c0_1]) (t := 25) ?hr ?_; (case hd => rfl); (case hg => rfl); (case hr => first | (go_simp; done) | (go_simp; rfl)); intro gb279 hg w49 hbox hb; have n0_ := Aside0.mk (below_step t1_ hb); have n1_ := Aside0.mk (hbox); have n2_ := Aside0.mk ((by rw [hg]; exact (below_size t1_) : w.heap.size ≤ gb279)); have n3_ := Aside0.mk ((by rw [hg]; exact (below_size t1_) : w.heap.size ≤ gb279)); clear HB; have HB := n0_; have BK279 := n1_; have GW279 := n2_; have GE279 := n3_; clear n0_ n1_ n2_ n3_; clear hb hbox hg; have hcz50_0 : w49.cell? ⟨gb279, 0, none⟩ = some (.slice A0_0 l0_0.length c0_0) := (blk_cell BK279.out 0).trans rfl; have hcz50_1 : w49.cell? ⟨gb279, 1, none⟩ = some (.slice A0_1 l0_1.length c0_1) := (blk_cell BK279.out 1).trans rfl; have hfz50_0 := blk_frozen BK279.out 0; have hfz50_1 := blk_frozen BK279.out 1) | ((with_reducible refine gate_callee (f := 11) rfl ?_); refine goesL_ (some 12) rfl rfl Try.func11 t8_ rfl #[.agg #[.slice A0_0 l0_0.length c0_0, .slice A0_1 l0_1.length c0_1], .int .i64 1048576] rfl t2_ ?_; (with_reducible refine (laws_szNetwork.calls k _ _ l0_0 _ _ l0_1 1048576 t280 _ ?side1 ?side2 ?side3 ?side4 A3.out).mono ?_); (case side1 => repeat (first | exact (Kd.C_below HR0_0.out HB.out) | (with_reducible refine Kd.C_alloc ?_ _) | (with_reducible refine Kd.C_drewN ?_ _) | (with_reducible refine Kd.C_drew ?_))); (case side2 => exact HC0_0.out); (case side3 => repeat (first | exact (Kd.C_below HR0_1.out HB.out) | (with_reducible refine Kd.C_alloc ?_ _) | (with_reducible refine Kd.C_drewN ?_ _) | (with_reducible refine Kd.C_drew ?_))); (case side4 => exact HC0_1.out); rintro e w51 ⟨rfl, hb⟩; refine ⟨_, rfl, ?_⟩; have n0_ := Aside0.mk (blk_below (g := gb279) (o := .cells #[.slice A0_0 l0_0.length c0_0, .slice A0_1 l0_1.length c0_1] 25 (0, 0)) (q1_ BK279.out) hb); have n1_ := Aside0.mk (below_step t4_ hb); clear BK279; clear HB; have BK279 := n0_; have HB := n1_; clear n0_ n1_; (try clear hb); (try clear hb2); (try clear hk); (try clear hi)) | ((with_reducible refine gate_callee (f := 12) rfl ?_); refine goesL_ (some 17) rfl rfl Try.func12 t8_ rfl #[.slice A1 l1.length c1, .int .i64 t280] rfl t2_ ?_; (with_reducible refine (laws_szValveS.calls k _ _ l1 t280 t281 _ ?side1 ?side2 A8.out).mono ?_); (case side1 => repeat (first | exact (Kd.C_below HR1.out HB.out) | (with_reducible refine Kd.C_alloc ?_ _) | (with_reducible refine Kd.C_drewN ?_ _) | (with_reducible refine Kd.C_drew ?_))); (case side2 => exact HC1.out); rintro e w52 ⟨rfl, hb⟩; refine ⟨_, rfl, ?_⟩; have n0_ := Aside0.mk (blk_below (g := gb279) (o := .cells #[.slice A0_0 l0_0.length c0_0, .slice A0_1 l0_1.length c0_1] 25 (0, 0)) (q1_ BK279.out) hb); have n1_ := Aside0.mk (below_step t4_ hb); clear BK279; clear HB; have BK279 := n0_; have HB := n1_; clear n0_ n1_; (try clear hb); (try clear hb2); (try clear hk); (try clear hi); have hcz53_0 : w52.cell? ⟨gb279, 0, none⟩ = some (.slice A0_0 l0_0.length c0_0) := (blk_cell BK279.out 0).trans rfl; have hcz53_1 : w52.cell? ⟨gb279, 1, none⟩ = some (.slice A0_1 l0_1.length c0_1) := (blk_cell BK279.out 1).trans rfl; have hfz53_0 := blk_frozen BK279.out 0; have hfz53_1 := blk_frozen BK279.out 1) | ((with_reducible refine gate_callee (f := 14) rfl ?_); refine goesL_ (some 21) rfl rfl Try.func14 t8_ rfl #[.agg #[.slice A0_0 l0_0.length c0_0, .slice A0_1 l0_1.length c0_1]] rfl t2_ ?_; (with_reducible refine (laws_toNetwork.calls k _ _ l0_0 _ _ l0_1 t282 t285 _ ?side1 ?side2 ?side3 ?side4 A14.out).mono ?_); (case side1 => repeat (first | exact (Kd.C_below HR0_0.out HB.out) | (with_reducible refine Kd.C_alloc ?_ _) | (with_reducible refine Kd.C_drewN ?_ _) | (with_reducible refine Kd.C_drew ?_))); (case side2 => exact HC0_0.out); (case side3 => repeat (first | exact (Kd.C_below HR0_1.out HB.out) | (with_reducible refine Kd.C_alloc ?_ _) | (with_reducible refine Kd.C_drewN ?_ _) | (with_reducible refine Kd.C_drew ?_))); (case side4 => exact HC0_1.out); rintro e w54 ⟨v283, v286, rfl, ho0, ho1, hb⟩; refine ⟨_, rfl, ?_⟩; have n0_ := Aside0.mk (Kd.R_lower ho0 (below_size t4_)); have n1_ := Aside0.mk (Kd.R_lower ho1 (below_size t4_)); have n2_ := Aside0.mk (blk_below (g := gb279) (o := .cells #[.slice A0_0 l0_0.length c0_0, .slice A0_1 l0_1.length c0_1] 25 (0, 0)) (q1_ BK279.out) hb); have n3_ := Aside0.mk (below_step t4_ hb); clear BK279; clear HB; have HO284 := n0_; have HO287 := n1_; have BK279 := n2_; have HB := n3_; clear n0_ n1_ n2_ n3_; (try clear hb); (try clear hb2); (try clear hk); (try clear hi); (try clear ho0); (try clear ho1)) | ((with_reducible refine gate_callee (f := 15) rfl ?_); refine goesL_ (some 23) rfl rfl Try.func15 t8_ rfl #[.slice A1 l1.length c1] rfl t2_ ?_; (with_reducible refine (laws_toValveS.calls k _ _ l1 t288 _ ?side1 ?side2 A15.out).mono ?_); (case side1 => repeat (first | exact (Kd.C_below HR1.out HB.out) | (with_reducible refine Kd.C_alloc ?_ _) | (with_reducible refine Kd.C_drewN ?_ _) | (with_reducible refine Kd.C_drew ?_))); (case side2 => exact HC1.out); rintro e w55 ⟨v289, rfl, ho0, hb⟩; refine ⟨_, rfl, ?_⟩; have n0_ := Aside0.mk (Kd.R_below (q2_ HO284.out) hb); have n1_ := Aside0.mk (Kd.R_below (q2_ HO287.out) hb); have n2_ := Aside0.mk (Kd.R_lower ho0 (below_size t4_)); have n3_ := Aside0.mk (blk_below (g := gb279) (o := .cells #[.slice A0_0 l0_0.length c0_0, .slice A0_1 l0_1.length c0_1] 25 (0, 0)) (q1_ BK279.out) hb); have n4_ := Aside0.mk (below_step t4_ hb); clear HO284; clear HO287; clear BK279; clear HB; have HO284 := n0_; have HO287 := n1_; have HO290 := n2_; have BK279 := n3_; have HB := n4_; clear n0_ n1_ n2_ n3_ n4_; (try clear hb); (try clear hb2); (try clear hk); (try clear hi); (try clear ho0); obtain ⟨Ao56, co56, eo56⟩ := Kd.R_slice HO284.out; subst eo56; obtain ⟨Ao57, co57, eo57⟩ := Kd.R_slice HO287.out; subst eo57; obtain ⟨Ao58, co58, eo58⟩ := Kd.R_slice HO290.out; subst eo58) | ((with_reducible refine gate_callee (f := 13) rfl ?_); refine goesL_ (some 24) rfl rfl Try.func13 t8_ rfl #[.agg #[.slice Ao56 t282.length co56, .slice Ao57 t285.length co57], .slice Ao58 t288.length co58] rfl t2_ ?_; (with_reducible refine (spec_ValidValves.calls k _ _ t282 _ _ t285 _ _ t288 t291 _ ?side1 ?side2 ?side3 ?side4 ?side5 ?side6 A16.out).mono ?_); (case side1 => repeat (first | exact (Kd.R_reads' HO284.out).2.2 | (with_reducible refine Kd.C_alloc ?_ _) | (with_reducible refine Kd.C_drewN ?_ _) | (with_reducible refine Kd.C_drew ?_))); (case side2 => exact (Kd.R_reads' HO284.out).2.1); (case side3 => repeat (first | exact (Kd.R_reads' HO287.out).2.2 | (with_reducible refine Kd.C_alloc ?_ _) | (with_reducible refine Kd.C_drewN ?_ _) | (with_reducible refine Kd.C_drew ?_))); (case side4 => exact (Kd.R_reads' HO287.out).2.1); (case side5 => repeat (first | exact (Kd.R_reads' HO290.out).2.2 | (with_reducible refine Kd.C_alloc ?_ _) | (with_reducible refine Kd.C_drewN ?_ _) | (with_reducible refine Kd.C_drew ?_))); (case side6 => exact (Kd.R_reads' HO290.out).2.1); rintro e w59 ⟨rfl, hb⟩; refine ⟨_, rfl, ?_⟩; have n0_ := Aside0.mk (Kd.R_below (q2_ HO284.out) hb); have n1_ := Aside0.mk (Kd.R_below (q2_ HO287.out) hb); have n2_ := Aside0.mk (Kd.R_below (q2_ HO290.out) hb); have n3_ := Aside0.mk (blk_below (g := gb279) (o := .cells #[.slice A0_0 l0_0.length c0_0, .slice A0_1 l0_1.length c0_1] 25 (0, 0)) (q1_ BK279.out) hb); have n4_ := Aside0.mk (below_step t4_ hb); clear HO284; clear HO287; clear HO290; clear BK279; clear HB; have HO284 := n0_; have HO287 := n1_; have HO290 := n2_; have BK279 := n3_; have HB := n4_; clear n0_ n1_ n2_ n3_ n4_; (try clear hb); (try clear hb2); (try clear hk); (try clear hi); have hcz60_0 : w59.cell? ⟨gb279, 0, none⟩ = some (.slice A0_0 l0_0.length c0_0) := (blk_cell BK279.out 0).trans rfl; have hcz60_1 : w59.cell? ⟨gb279, 1, none⟩ = some (.slice A0_1 l0_1.length c0_1) := (blk_cell BK279.out 1).trans rfl; have hfz60_0 := blk_frozen BK279.out 0; have hfz60_1 := blk_frozen BK279.out 1) | ((with_reducible refine gate_callee (f := 14) rfl ?_); refine goesL_ (some 26) rfl rfl Try.func14 t8_ rfl #[.agg #[.slice A0_0 l0_0.length c0_0, .slice A0_1 l0_1.length c0_1]] rfl t2_ ?_; (with_reducible refine (laws_toNetwork.calls k _ _ l0_0 _ _ l0_1 t292 t295 _ ?side1 ?side2 ?side3 ?side4 A17.out).mono ?_); (case side1 => repeat (first | exact (Kd.C_below HR0_0.out HB.out) | (with_reducible refine Kd.C_alloc ?_ _) | (with_reducible refine Kd.C_drewN ?_ _) | (with_reducible refine Kd.C_drew ?_))); (case side2 => exact HC0_0.out); (case side3 => repeat (first | exact (Kd.C_below HR0_1.out HB.out) | (with_reducible refine Kd.C_alloc ?_ _) | (with_reducible refine Kd.C_drewN ?_ _) | (with_reducible refine Kd.C_drew ?_))); (case side4 => exact HC0_1.out); rintro e w61 ⟨v293, v296, rfl, ho0, ho1, hb⟩; refine ⟨_, rfl, ?_⟩; have n0_ := Aside0.mk (Kd.R_elder' (q2_ HO284.out) (Kd.R_base ho0) hb); have n1_ := Aside0.mk (Kd.R_elder' (q2_ HO287.out) (Kd.R_base ho1) hb); have n2_ := Aside0.mk (Kd.R_below (q2_ HO290.out) hb); have n3_ := Aside0.mk (Kd.R_lower (Kd.R_new' ho0 (Kd.R_lt (q2_ HO284.out))) (below_size t4_)); have n4_ := Aside0.mk (Kd.R_lower (Kd.R_new' ho1 (Kd.R_lt (q2_ HO287.out))) (below_size t4_)); have n5_ := Aside0.mk (blk_below (g := gb279) (o := .cells #[.slice A0_0 l0_0.length c0_0, .slice A0_1 l0_1.length c0_1] 25 (0, 0)) (q1_ BK279.out) hb); have n6_ := Aside0.mk (below_step t4_ hb); clear HO284; clear HO287; clear HO290; clear BK279; clear HB; have HO284 := n0_; have HO287 := n1_; have HO290 := n2_; have HO294 := n3_; have HO297 := n4_; have BK279 := n5_; have HB := n6_; clear n0_ n1_ n2_ n3_ n4_ n5_ n6_; (try clear hb); (try clear hb2); (try clear hk); (try clear hi); (try clear ho0); (try clear ho1)) | ((with_reducible refine gate_dst (N := 7) rfl ?_); refine box_event ?hg (N := 7) ?hd (cs := #[.slice none 0 0, .slice none 0 0]) (t := 32) ?hr ?_; (case hd => rfl); (case hg => rfl); (case hr => first | (go_simp; done) | (go_simp; rfl)); intro gb298 hg w62 hbox hb; have n0_ := Aside0.mk (Kd.R_below (q2_ HO284.out) hb); have n1_ := Aside0.mk (Kd.R_below (q2_ HO287.out) hb); have n2_ := Aside0.mk (Kd.R_below (q2_ HO290.out) hb); have n3_ := Aside0.mk (Kd.R_below (q2_ HO294.out) hb); have n4_ := Aside0.mk (Kd.R_below (q2_ HO297.out) hb); have n5_ := Aside0.mk (blk_below (g := gb279) (o := .cells #[.slice A0_0 l0_0.length c0_0, .slice A0_1 l0_1.length c0_1] 25 (0, 0)) (q1_ BK279.out) hb); have n6_ := Aside0.mk (below_step t4_ hb); have n7_ := Aside0.mk (hbox); have n8_ := Aside0.mk ((by rw [hg]; exact (below_size t4_) : w.heap.size ≤ gb298)); have n9_ := Aside0.mk ((by rw [hg]; exact (below_size t4_) : w.heap.size ≤ gb298)); have n10_ := Aside0.mk ((by rw [hg]; exact Nat.ne_of_lt (blk_lt (g := gb279) (o := .cells #[.slice A0_0 l0_0.length c0_0, .slice A0_1 l0_1.length c0_1] 25 (0, 0)) (q1_ BK279.out)) : gb279 ≠ gb298)); have n11_ := Aside0.mk ((by rw [hg]; exact Nat.ne_of_gt (blk_lt (g := gb279) (o := .cells #[.slice A0_0 l0_0.length c0_0, .slice A0_1 l0_1.length c0_1] 25 (0, 0)) (q1_ BK279.out)) : gb298 ≠ gb279)); clear HO284; clear HO287; clear HO290; clear HO294; clear HO297; clear BK279; clear HB; have HO284 := n0_; have HO287 := n1_; have HO290 := n2_; have HO294 := n3_; have HO297 := n4_; have BK279 := n5_; have HB := n6_; have BK298 := n7_; have GW298 := n8_; have GE298 := n9_; have NB279_298 := n10_; have NB298_279 := n11_; clear n0_ n1_ n2_ n3_ n4_ n5_ n6_ n7_ n8_ n9_ n10_ n11_; clear hb hbox hg; obtain ⟨Ao63, co63, eo63⟩ := Kd.R_slice HO294.out; subst eo63; have hnb64 := NB298_279.out; have hnc64 := NB279_298.out; have hcz65_0 : w62.cell? ⟨gb298, 0, none⟩ = some (.slice none 0 0) := (blk_cell BK298.out 0).trans rfl; have hcz65_1 : w62.cell? ⟨gb298, 1, none⟩ = some (.slice none 0 0) := (blk_cell BK298.out 1).trans rfl; have hfz65_0 := blk_frozen BK298.out 0; have hfz65_1 := blk_frozen BK298.out 1; obtain ⟨Ao66, co66, eo66⟩ := Kd.R_slice HO297.out; subst eo66) | ((with_reducible refine gate_callee (f := 15) rfl ?_); refine goesL_ (some 28) rfl rfl Try.func15 t8_ rfl #[.slice A1 l1.length c1] rfl t2_ ?_; (with_reducible refine (laws_toValveS.calls k _ _ l1 t299 _ ?side1 ?side2 A18.out).mono ?_); (case side1 => exact Kd.C_below HR1.out t5_); (case side2 => exact HC1.out); rintro e w67 ⟨v300, rfl, ho0, hb⟩; refine ⟨_, rfl, ?_⟩; have n0_ := Aside0.mk (Kd.R_below (by (with_reducible repeat (first | apply Kd.R_alloc | apply Kd.R_drewN | apply Kd.R_drew)); exact (Kd.R_mono (Kd.R_far (p := ⟨gb298, 1, none⟩) (Kd.R_far (p := ⟨gb298, 0, none⟩) (Kd.R_types HO284.out BK298.out t20_) (fun _ hk => hk.2) (.slice Ao63 t292.length co63)) (fun _ hk => hk.2) (.slice Ao66 t295.length co66)) (fun _ h_ => h_.1))) hb); have n1_ := Aside0.mk (Kd.R_below (by (with_reducible repeat (first | apply Kd.R_alloc | apply Kd.R_drewN | apply Kd.R_drew)); exact (Kd.R_mono (Kd.R_far (p := ⟨gb298, 1, none⟩) (Kd.R_far (p := ⟨gb298, 0, none⟩) (Kd.R_types HO287.out BK298.out t20_) (fun _ hk => hk.2) (.slice Ao63 t292.length co63)) (fun _ hk => hk.2) (.slice Ao66 t295.length co66)) (fun _ h_ => h_.1))) hb); have n2_ := Aside0.mk (Kd.R_elder' t30_ (Kd.R_base ho0) hb); have n3_ := Aside0.mk (Kd.R_below (by (with_reducible repeat (first | apply Kd.R_alloc | apply Kd.R_drewN | apply Kd.R_drew)); exact (Kd.R_mono (Kd.R_far (p := ⟨gb298, 1, none⟩) (Kd.R_far (p := ⟨gb298, 0, none⟩) (Kd.R_types HO294.out BK298.out t20_) (fun _ hk => hk.2) (.slice Ao63 t292.length co63)) (fun _ hk => hk.2) (.slice Ao66 t295.length co66)) (fun _ h_ => h_.1))) hb); have n4_ := Aside0.mk (Kd.R_below (by (with_reducible repeat (first | apply Kd.R_alloc | apply Kd.R_drewN | apply Kd.R_drew)); exact (Kd.R_mono (Kd.R_far (p := ⟨gb298, 1, none⟩) (Kd.R_far (p := ⟨gb298, 0, none⟩) (Kd.R_types HO297.out BK298.out t20_) (fun _ hk => hk.2) (.slice Ao63 t292.length co63)) (fun _ hk => hk.2) (.slice Ao66 t295.length co66)) (fun _ h_ => h_.1))) hb); have n5_ := Aside0.mk (Kd.R_lower (Kd.R_new' ho0 (Kd.R_lt t30_)) (below_size t5_)); have n6_ := Aside0.mk (blk_below (g := gb279) (o := .cells #[.slice A0_0 l0_0.length c0_0, .slice A0_1 l0_1.length c0_1] 25 (0, 0)) t15_ hb); have n7_ := Aside0.mk (blk_below (g := gb298) (o := .cells #[.slice Ao63 t292.length co63, .slice Ao66 t295.length co66] 32 (0, 0)) (by (with_reducible repeat (first | refine blk_drewN ?_ _ | refine blk_drew ?_ | refine blk_alloc ?_ _)); refine blk_put (cs := #[.slice Ao63 t292.length co63, .slice none 0 0]) ?_ 1 _ rfl; (with_reducible repeat (first | refine blk_drewN ?_ _ | refine blk_drew ?_ | refine blk_alloc ?_ _)); refine blk_put (cs := #[.slice none 0 0, .slice none 0 0]) ?_ 0 _ rfl; (with_reducible repeat (first | refine blk_drewN ?_ _ | refine blk_drew ?_ | refine blk_alloc ?_ _)); exact BK298.out) hb); have n8_ := Aside0.mk (below_step t5_ hb); clear HO284; clear HO287; clear HO290; clear HO294; clear HO297; clear BK279; clear BK298; clear HB; have HO284 := n0_; have HO287 := n1_; have HO290 := n2_; have HO294 := n3_; have HO297 := n4_; have HO301 := n5_; have BK279 := n6_; have BK298 := n7_; have HB := n8_; clear n0_ n1_ n2_ n3_ n4_ n5_ n6_ n7_ n8_; (try clear hb); (try clear hb2); (try clear hk); (try clear hi); (try clear ho0); have hcz68_0 : w67.cell? ⟨gb298, 0, none⟩ = some (.slice Ao63 t292.length co63) := (blk_cell BK298.out 0).trans rfl; have hcz68_1 : w67.cell? ⟨gb298, 1, none⟩ = some (.slice Ao66 t295.length co66) := (blk_cell BK298.out 1).trans rfl; have hfz68_0 := blk_frozen BK298.out 0; have hfz68_1 := blk_frozen BK298.out 1; obtain ⟨Ao69, co69, eo69⟩ := Kd.R_slice HO301.out; subst eo69) | ((with_reducible refine gate_callee (f := 16) rfl ?_); refine goesL_ (some 31) rfl rfl Try.func16 t8_ rfl #[.agg #[.slice Ao63 t292.length co63, .slice Ao66 t295.length co66], .slice Ao69 t299.length co69] rfl t2_ ?_; (with_reducible refine (impl_ValidValves.calls k _ _ t292 _ _ t295 _ _ t299 t302 _ ?side1 ?side2 ?side3 ?side4 ?side5 ?side6 A19.out).mono ?_); (case side1 => repeat (first | exact (Kd.R_reads' HO294.out).2.2 | (with_reducible refine Kd.C_alloc ?_ _) | (with_reducible refine Kd.C_drewN ?_ _) | (with_reducible refine Kd.C_drew ?_))); (case side2 => exact (Kd.R_reads' HO294.out).2.1); (case side3 => repeat (first | exact (Kd.R_reads' HO297.out).2.2 | (with_reducible refine Kd.C_alloc ?_ _) | (with_reducible refine Kd.C_drewN ?_ _) | (with_reducible refine Kd.C_drew ?_))); (case side4 => exact (Kd.R_reads' HO297.out).2.1); (case side5 => repeat (first | exact (Kd.R_reads' HO301.out).2.2 | (with_reducible refine Kd.C_alloc ?_ _) | (with_reducible refine Kd.C_drewN ?_ _) | (with_reducible refine Kd.C_drew ?_))); (case side6 => exact (Kd.R_reads' HO301.out).2.1); rintro e w70 ⟨rfl, hb⟩; refine ⟨_, rfl, ?_⟩; have n0_ := Aside0.mk (Kd.R_below (q2_ HO284.out) hb); have n1_ := Aside0.mk (Kd.R_below (q2_ HO287.out) hb); have n2_ := Aside0.mk (Kd.R_below (q2_ HO290.out) hb); have n3_ := Aside0.mk (Kd.R_below (q2_ HO294.out) hb); have n4_ := Aside0.mk (Kd.R_below (q2_ HO297.out) hb); have n5_ := Aside0.mk (Kd.R_below (q2_ HO301.out) hb); have n6_ := Aside0.mk (blk_below (g := gb279) (o := .cells #[.slice A0_0 l0_0.length c0_0, .slice A0_1 l0_1.length c0_1] 25 (0, 0)) (q1_ BK279.out) hb); have n7_ := Aside0.mk (blk_below (g := gb298) (o := .cells #[.slice Ao63 t292.length co63, .slice Ao66 t295.length co66] 32 (0, 0)) (q1_ BK298.out) hb); have n8_ := Aside0.mk (below_step t5_ hb); clear HO284; clear HO287; clear HO290; clear HO294; clear HO297; clear HO301; clear BK279; clear BK298; clear HB; have HO284 := n0_; have HO287 := n1_; have HO290 := n2_; have HO294 := n3_; have HO297 := n4_; have HO301 := n5_; have BK279 := n6_; have BK298 := n7_; have HB := n8_; clear n0_ n1_ n2_ n3_ n4_ n5_ n6_ n7_ n8_; (try clear hb); (try clear hb2); (try clear hk); (try clear hi)))
      have n0_ := Aside0.mk (Kd.R_drew HO284.out)
      have n1_ := Aside0.mk (Kd.R_drew HO287.out)
      have n2_ := Aside0.mk (Kd.R_drew HO290.out)
      have n3_ := Aside0.mk (Kd.R_drew HO294.out)
      have n4_ := Aside0.mk (Kd.R_drew HO297.out)
      have n5_ := Aside0.mk (Kd.R_drew HO301.out)
      have n6_ := Aside0.mk (blk_drew BK279.out)
      have n7_ := Aside0.mk (blk_drew BK298.out)
      have n8_ := Aside0.mk (below_drew1 HB.out)
      clear HO284
      clear HO287
      clear HO290
      clear HO294
      clear HO297
      clear HO301
      clear BK279
      clear BK298
      clear HB
      have HO284 := n0_
      have HO287 := n1_
      have HO290 := n2_
      have HO294 := n3_
      have HO297 := n4_
      have HO301 := n5_
      have BK279 := n6_
      have BK298 := n7_
      have HB := n8_
      clear n0_ n1_ n2_ n3_ n4_ n5_ n6_ n7_ n8_
      refine start_ (n := 5) (S := fun w' => w'.cell? ⟨gb298, 0, none⟩ = some (.slice Ao63 t292.length co63) ∧ w'.cell? ⟨gb298, 1, none⟩ = some (.slice Ao66 t295.length co66) ∧ w'.cell? ⟨gb279, 0, none⟩ = some (.slice A0_0 l0_0.length c0_0) ∧ w'.cell? ⟨gb279, 1, none⟩ = some (.slice A0_1 l0_1.length c0_1)) (ds := []) #[false, false, false, false, false] t8_ rfl rfl ⟨(blk_cell BK298.out 0).trans rfl, (blk_cell BK298.out 1).trans rfl, (blk_cell BK279.out 0).trans rfl, (blk_cell BK279.out 1).trans rfl⟩ (fun hHeld => ?_)
      generalize w70.drew = w71 at HO284 HO287 HO290 HO294 HO297 HO301 BK279 BK298 HB hHeld ⊢
      refine take_ (i := 0) (N := some 35) (v := ?_) (a' := ?_) #[true, false, false, false, false] rfl rfl t8_ (fun _ _ _ h => h) (Or.inl ⟨by rfl, ?_⟩) hHeld ?_ ?_
      rotate_left
      ·rintro w' ⟨s0, s1, s2, s3⟩
       go_simp
       with_reducible rfl
      rotate_left; (· simp only [Act.put, List.setIfInBounds_toArray, List.set_cons_zero, List.set_cons_succ, i64_w, i32_w]; rfl)
      refine take_ (i := 1) (N := some 36) (v := ?_) (a' := ?_) #[true, true, false, false, false] rfl rfl t8_ (fun _ _ _ h => h) (Or.inl ⟨by rfl, ?_⟩) hHeld ?_ ?_
      rotate_left
      ·rintro w' ⟨s0, s1, s2, s3⟩
       go_simp
       with_reducible rfl
      rotate_left; (· simp only [Act.put, List.setIfInBounds_toArray, List.set_cons_zero, List.set_cons_succ, i64_w, i32_w]; rfl)
      refine one_ (i := 2) (N := some 37) #[true, true, true, false, false] rfl rfl t8_ t20_ (fun K hK => ?_)
      refine goes_ Try.func14 t8_ rfl #[.agg #[.slice A0_0 l0_0.length c0_0, .slice A0_1 l0_1.length c0_1]] t37_ rfl rfl t2_ ?_
      with_reducible refine (laws_toNetwork.calls k _ _ l0_0 _ _ l0_1 t303 t306 _ ?side1 ?side2 ?side3 ?side4 A43.out).mono ?_
      (case side1 => repeat (first | exact (Kd.C_below HR0_0.out HB.out) | (with_reducible refine Kd.C_alloc ?_ _) | (with_reducible refine Kd.C_drewN ?_ _) | (with_reducible refine Kd.C_drew ?_)))
      (case side2 => exact HC0_0.out)
      (case side3 => repeat (first | exact (Kd.C_below HR0_1.out HB.out) | (with_reducible refine Kd.C_alloc ?_ _) | (with_reducible refine Kd.C_drewN ?_ _) | (with_reducible refine Kd.C_drew ?_)))
      (case side4 => exact HC0_1.out)
      rintro e w72 ⟨v304, v307, rfl, ho0, ho1, hb⟩
      refine ⟨_, rfl, ?_⟩
      have n0_ := Aside0.mk (Kd.R_elder' (q2_ HO284.out) (Kd.R_base ho0) hb)
      have n1_ := Aside0.mk (Kd.R_elder' (q2_ HO287.out) (Kd.R_base ho1) hb)
      have n2_ := Aside0.mk (Kd.R_below (q2_ HO290.out) hb)
      have n3_ := Aside0.mk (Kd.R_elder' (q2_ HO294.out) (Kd.R_base ho0) hb)
      have n4_ := Aside0.mk (Kd.R_elder' (q2_ HO297.out) (Kd.R_base ho1) hb)
      have n5_ := Aside0.mk (Kd.R_below (q2_ HO301.out) hb)
      have n6_ := Aside0.mk (Kd.R_lower (Kd.R_new' (Kd.R_new' ho0 (Kd.R_lt (q2_ HO284.out))) (Kd.R_lt (q2_ HO294.out))) (below_size t5_))
      have n7_ := Aside0.mk (Kd.R_lower (Kd.R_new' (Kd.R_new' ho1 (Kd.R_lt (q2_ HO287.out))) (Kd.R_lt (q2_ HO297.out))) (below_size t5_))
      have n8_ := Aside0.mk (blk_below (g := gb279) (o := .cells #[.slice A0_0 l0_0.length c0_0, .slice A0_1 l0_1.length c0_1] 25 (0, 0)) (q1_ BK279.out) hb)
      have n9_ := Aside0.mk (blk_below (g := gb298) (o := .cells #[.slice Ao63 t292.length co63, .slice Ao66 t295.length co66] 32 (0, 0)) (q1_ BK298.out) hb)
      have n10_ := Aside0.mk (below_step t5_ hb)
      clear HO284
      clear HO287
      clear HO290
      clear HO294
      clear HO297
      clear HO301
      clear BK279
      clear BK298
      clear HB
      have HO284 := n0_
      have HO287 := n1_
      have HO290 := n2_
      have HO294 := n3_
      have HO297 := n4_
      have HO301 := n5_
      have HO305 := n6_
      have HO308 := n7_
      have BK279 := n8_
      have BK298 := n9_
      have HB := n10_
      clear n0_ n1_ n2_ n3_ n4_ n5_ n6_ n7_ n8_ n9_ n10_
      (try clear hb)
      (try clear hb2)
      (try clear hk)
      (try clear hi)
      (try clear ho0)
      (try clear ho1)
      obtain ⟨Ao73, co73, eo73⟩ := Kd.R_slice HO305.out
      (first | subst eo73 | (injection eo73 with f1_ f2_ f3_; have f4_ := f1_.symm; have f5_ := f3_.symm; clear f1_ f2_ f3_; subst f4_; subst f5_))
      obtain ⟨Ao74, co74, eo74⟩ := Kd.R_slice HO308.out
      (first | subst eo74 | (injection eo74 with f1_ f2_ f3_; have f4_ := f1_.symm; have f5_ := f3_.symm; clear f1_ f2_ f3_; subst f4_; subst f5_))
      refine hK.out _ _ ⟨(blk_cell BK298.out 0).trans rfl, (blk_cell BK298.out 1).trans rfl, (blk_cell BK279.out 0).trans rfl, (blk_cell BK279.out 1).trans rfl⟩ (fun hHeld => ?_)
      clear hK K
      refine norm_ (a' := ?_) ?_ ?_
      rotate_left
      ·show Act.put _ (some 37) _ = _
       simp only [Act.put, List.setIfInBounds_toArray, List.set_cons_zero, List.set_cons_succ, i64_w, i32_w]
       rfl
      refine one_ (i := 3) (N := some 38) #[true, true, true, true, false] rfl rfl t8_ t20_ (fun K hK => ?_)
      refine goes_ Try.func17 t8_ rfl #[.agg #[.slice Ao63 t292.length co63, .slice Ao66 t295.length co66], .agg #[.slice Ao73 t303.length co73, .slice Ao74 t306.length co74]] t37_ rfl rfl t2_ ?_
      with_reducible refine (laws_eqNetwork.calls k _ _ t292 _ _ t295 _ _ t303 _ _ t306 true _ ?side1 ?side2 ?side3 ?side4 ?side5 ?side6 ?side7 ?side8 A44.out).mono ?_
      (case side1 => repeat (first | exact (Kd.R_reads' HO294.out).2.2 | (with_reducible refine Kd.C_alloc ?_ _) | (with_reducible refine Kd.C_drewN ?_ _) | (with_reducible refine Kd.C_drew ?_)))
      (case side2 => exact (Kd.R_reads' HO294.out).2.1)
      (case side3 => repeat (first | exact (Kd.R_reads' HO297.out).2.2 | (with_reducible refine Kd.C_alloc ?_ _) | (with_reducible refine Kd.C_drewN ?_ _) | (with_reducible refine Kd.C_drew ?_)))
      (case side4 => exact (Kd.R_reads' HO297.out).2.1)
      (case side5 => repeat (first | exact (Kd.R_reads' HO305.out).2.2 | (with_reducible refine Kd.C_alloc ?_ _) | (with_reducible refine Kd.C_drewN ?_ _) | (with_reducible refine Kd.C_drew ?_)))
      (case side6 => exact (Kd.R_reads' HO305.out).2.1)
      (case side7 => repeat (first | exact (Kd.R_reads' HO308.out).2.2 | (with_reducible refine Kd.C_alloc ?_ _) | (with_reducible refine Kd.C_drewN ?_ _) | (with_reducible refine Kd.C_drew ?_)))
      (case side8 => exact (Kd.R_reads' HO308.out).2.1)
      rintro e w75 ⟨rfl, hb⟩
      refine ⟨_, rfl, ?_⟩
      have n0_ := Aside0.mk (Kd.R_below (q2_ HO284.out) hb)
      have n1_ := Aside0.mk (Kd.R_below (q2_ HO287.out) hb)
      have n2_ := Aside0.mk (Kd.R_below (q2_ HO290.out) hb)
      have n3_ := Aside0.mk (Kd.R_below (q2_ HO294.out) hb)
      have n4_ := Aside0.mk (Kd.R_below (q2_ HO297.out) hb)
      have n5_ := Aside0.mk (Kd.R_below (q2_ HO301.out) hb)
      have n6_ := Aside0.mk (Kd.R_below (q2_ HO305.out) hb)
      have n7_ := Aside0.mk (Kd.R_below (q2_ HO308.out) hb)
      have n8_ := Aside0.mk (blk_below (g := gb279) (o := .cells #[.slice A0_0 l0_0.length c0_0, .slice A0_1 l0_1.length c0_1] 25 (0, 0)) (q1_ BK279.out) hb)
      have n9_ := Aside0.mk (blk_below (g := gb298) (o := .cells #[.slice Ao63 t292.length co63, .slice Ao66 t295.length co66] 32 (0, 0)) (q1_ BK298.out) hb)
      have n10_ := Aside0.mk (below_step t5_ hb)
      clear HO284
      clear HO287
      clear HO290
      clear HO294
      clear HO297
      clear HO301
      clear HO305
      clear HO308
      clear BK279
      clear BK298
      clear HB
      have HO284 := n0_
      have HO287 := n1_
      have HO290 := n2_
      have HO294 := n3_
      have HO297 := n4_
      have HO301 := n5_
      have HO305 := n6_
      have HO308 := n7_
      have BK279 := n8_
      have BK298 := n9_
      have HB := n10_
      clear n0_ n1_ n2_ n3_ n4_ n5_ n6_ n7_ n8_ n9_ n10_
      (try clear hb)
      (try clear hb2)
      (try clear hk)
      (try clear hi)
      refine hK.out _ _ ⟨(blk_cell BK298.out 0).trans rfl, (blk_cell BK298.out 1).trans rfl, (blk_cell BK279.out 0).trans rfl, (blk_cell BK279.out 1).trans rfl⟩ (fun hHeld => ?_)
      clear hK K
      refine norm_ (a' := ?_) ?_ ?_
      rotate_left
      ·show Act.put _ (some 38) _ = _
       simp only [Act.put, List.setIfInBounds_toArray, List.set_cons_zero, List.set_cons_succ, i64_w, i32_w]
       rfl
      refine pure_ (i := 4) (N := some 39) (v := ?_) (a' := ?_) #[true, true, true, true, true] rfl rfl t8_ (fun _ _ _ h => h) (Or.inl ⟨by rfl, ?_⟩) ?_ ?_
      rotate_left; (· intro w'; go_simp; with_reducible rfl); rotate_left; (· simp only [Act.put, List.setIfInBounds_toArray, List.set_cons_zero, List.set_cons_succ, i64_w, i32_w]; rfl)
      refine done_ t8_ ?_
      try go_wp2_with (first | ((with_reducible refine gate_callee (f := 15) rfl ?_); refine goesL_ (some 42) rfl rfl Try.func15 t8_ rfl #[.slice A1 l1.length c1] rfl t2_ ?_; (with_reducible refine (laws_toValveS.calls k _ _ l1 t310 _ ?side1 ?side2 A46.out).mono ?_); (case side1 => repeat (first | exact (Kd.C_below HR1.out HB.out) | (with_reducible refine Kd.C_alloc ?_ _) | (with_reducible refine Kd.C_drewN ?_ _) | (with_reducible refine Kd.C_drew ?_))); (case side2 => exact HC1.out); rintro e w76 ⟨v311, rfl, ho0, hb⟩; refine ⟨_, rfl, ?_⟩; have n0_ := Aside0.mk (Kd.R_below (q2_ HO284.out) hb); have n1_ := Aside0.mk (Kd.R_below (q2_ HO287.out) hb); have n2_ := Aside0.mk (Kd.R_elder' (q2_ HO290.out) (Kd.R_base ho0) hb); have n3_ := Aside0.mk (Kd.R_below (q2_ HO294.out) hb); have n4_ := Aside0.mk (Kd.R_below (q2_ HO297.out) hb); have n5_ := Aside0.mk (Kd.R_elder' (q2_ HO301.out) (Kd.R_base ho0) hb); have n6_ := Aside0.mk (Kd.R_below (q2_ HO305.out) hb); have n7_ := Aside0.mk (Kd.R_below (q2_ HO308.out) hb); have n8_ := Aside0.mk (Kd.R_lower (Kd.R_new' (Kd.R_new' ho0 (Kd.R_lt (q2_ HO290.out))) (Kd.R_lt (q2_ HO301.out))) (below_size t5_)); have n9_ := Aside0.mk (blk_below (g := gb279) (o := .cells #[.slice A0_0 l0_0.length c0_0, .slice A0_1 l0_1.length c0_1] 25 (0, 0)) (q1_ BK279.out) hb); have n10_ := Aside0.mk (blk_below (g := gb298) (o := .cells #[.slice Ao63 t292.length co63, .slice Ao66 t295.length co66] 32 (0, 0)) (q1_ BK298.out) hb); have n11_ := Aside0.mk (below_step t5_ hb); clear HO284; clear HO287; clear HO290; clear HO294; clear HO297; clear HO301; clear HO305; clear HO308; clear BK279; clear BK298; clear HB; have HO284 := n0_; have HO287 := n1_; have HO290 := n2_; have HO294 := n3_; have HO297 := n4_; have HO301 := n5_; have HO305 := n6_; have HO308 := n7_; have HO312 := n8_; have BK279 := n9_; have BK298 := n10_; have HB := n11_; clear n0_ n1_ n2_ n3_ n4_ n5_ n6_ n7_ n8_ n9_ n10_ n11_; (try clear hb); (try clear hb2); (try clear hk); (try clear hi); (try clear ho0); obtain ⟨Ao77, co77, eo77⟩ := Kd.R_slice HO312.out; subst eo77) | ((with_reducible refine gate_callee (f := 18) rfl ?_); refine goesL_ (some 43) rfl rfl Try.func18 t8_ rfl #[.slice Ao69 t299.length co69, .slice Ao77 t310.length co77] rfl t2_ ?_; (with_reducible refine (laws_eqValveS.calls k _ _ t299 _ _ t310 true _ ?side1 ?side2 ?side3 ?side4 A47.out).mono ?_); (case side1 => repeat (first | exact (Kd.R_reads' HO301.out).2.2 | (with_reducible refine Kd.C_alloc ?_ _) | (with_reducible refine Kd.C_drewN ?_ _) | (with_reducible refine Kd.C_drew ?_))); (case side2 => exact (Kd.R_reads' HO301.out).2.1); (case side3 => repeat (first | exact (Kd.R_reads' HO312.out).2.2 | (with_reducible refine Kd.C_alloc ?_ _) | (with_reducible refine Kd.C_drewN ?_ _) | (with_reducible refine Kd.C_drew ?_))); (case side4 => exact (Kd.R_reads' HO312.out).2.1); rintro e w78 ⟨rfl, hb⟩; refine ⟨_, rfl, ?_⟩; have n0_ := Aside0.mk (Kd.R_below (q2_ HO284.out) hb); have n1_ := Aside0.mk (Kd.R_below (q2_ HO287.out) hb); have n2_ := Aside0.mk (Kd.R_below (q2_ HO290.out) hb); have n3_ := Aside0.mk (Kd.R_below (q2_ HO294.out) hb); have n4_ := Aside0.mk (Kd.R_below (q2_ HO297.out) hb); have n5_ := Aside0.mk (Kd.R_below (q2_ HO301.out) hb); have n6_ := Aside0.mk (Kd.R_below (q2_ HO305.out) hb); have n7_ := Aside0.mk (Kd.R_below (q2_ HO308.out) hb); have n8_ := Aside0.mk (Kd.R_below (q2_ HO312.out) hb); have n9_ := Aside0.mk (blk_below (g := gb279) (o := .cells #[.slice A0_0 l0_0.length c0_0, .slice A0_1 l0_1.length c0_1] 25 (0, 0)) (q1_ BK279.out) hb); have n10_ := Aside0.mk (blk_below (g := gb298) (o := .cells #[.slice Ao63 t292.length co63, .slice Ao66 t295.length co66] 32 (0, 0)) (q1_ BK298.out) hb); have n11_ := Aside0.mk (below_step t5_ hb); clear HO284; clear HO287; clear HO290; clear HO294; clear HO297; clear HO301; clear HO305; clear HO308; clear HO312; clear BK279; clear BK298; clear HB; have HO284 := n0_; have HO287 := n1_; have HO290 := n2_; have HO294 := n3_; have HO297 := n4_; have HO301 := n5_; have HO305 := n6_; have HO308 := n7_; have HO312 := n8_; have BK279 := n9_; have BK298 := n10_; have HB := n11_; clear n0_ n1_ n2_ n3_ n4_ n5_ n6_ n7_ n8_ n9_ n10_ n11_; (try clear hb); (try clear hb2); (try clear hk); (try clear hi)))
      go_ret
      exact ⟨by first | rfl | (rw [Int.tdiv_eq_ediv_of_nonneg t12_]; rfl) | (simp [errW_none, errW_some] <;> rfl) | (simp [*, errW_none, errW_some] <;> rfl), by repeat (first | (with_reducible first | exact HB.out | apply below_alloc | apply pw_below_drewN | apply below_drew1 | refine below_set ?_ GE279.out | refine below_set ?_ GE298.out) | exact HB.out)⟩
     ·replace c48 := Bool.eq_false_iff.mpr c48
      subst c48
      have H1 : (some false) = some r := by rw [if_neg (show ¬ (false = true) by decide)] at H; exact H
      clear H
      have H := H1
      clear H1
      obtain rfl := Option.some.inj H
      go_enter Try.func3, Try.ntmps3
      try go_wp2_with (first | ((with_reducible refine gate_dst (N := 2) rfl ?_); refine box_event ?hg (N := 2) ?hd (cs := #[.slice A0_0 l0_0.length c0_0, .slice A0_1 l0_1.length c0_1]) (t := 25) ?hr ?_; (case hd => rfl); (case hg => rfl); (case hr => first | (go_simp; done) | (go_simp; rfl)); intro gb279 hg w79 hbox hb; have n0_ := Aside0.mk (below_step t1_ hb); have n1_ := Aside0.mk (hbox); have n2_ := Aside0.mk ((by rw [hg]; exact (below_size t1_) : w.heap.size ≤ gb279)); have n3_ := Aside0.mk ((by rw [hg]; exact (below_size t1_) : w.heap.size ≤ gb279)); clear HB; have HB := n0_; have BK279 := n1_; have GW279 := n2_; have GE279 := n3_; clear n0_ n1_ n2_ n3_; clear hb hbox hg; have hcz80_0 : w79.cell? ⟨gb279, 0, none⟩ = some (.slice A0_0 l0_0.length c0_0) := (blk_cell BK279.out 0).trans rfl; have hcz80_1 : w79.cell? ⟨gb279, 1, none⟩ = some (.slice A0_1 l0_1.length c0_1) := (blk_cell BK279.out 1).trans rfl; have hfz80_0 := blk_frozen BK279.out 0; have hfz80_1 := blk_frozen BK279.out 1) | ((with_reducible refine gate_callee (f := 11) rfl ?_); refine goesL_ (some 12) rfl rfl Try.func11 t8_ rfl #[.agg #[.slice A0_0 l0_0.length c0_0, .slice A0_1 l0_1.length c0_1], .int .i64 1048576] rfl t2_ ?_; (with_reducible refine (laws_szNetwork.calls k _ _ l0_0 _ _ l0_1 1048576 t280 _ ?side1 ?side2 ?side3 ?side4 A3.out).mono ?_); (case side1 => repeat (first | exact (Kd.C_below HR0_0.out HB.out) | (with_reducible refine Kd.C_alloc ?_ _) | (with_reducible refine Kd.C_drewN ?_ _) | (with_reducible refine Kd.C_drew ?_))); (case side2 => exact HC0_0.out); (case side3 => repeat (first | exact (Kd.C_below HR0_1.out HB.out) | (with_reducible refine Kd.C_alloc ?_ _) | (with_reducible refine Kd.C_drewN ?_ _) | (with_reducible refine Kd.C_drew ?_))); (case side4 => exact HC0_1.out); rintro e w81 ⟨rfl, hb⟩; refine ⟨_, rfl, ?_⟩; have n0_ := Aside0.mk (blk_below (g := gb279) (o := .cells #[.slice A0_0 l0_0.length c0_0, .slice A0_1 l0_1.length c0_1] 25 (0, 0)) (q1_ BK279.out) hb); have n1_ := Aside0.mk (below_step t4_ hb); clear BK279; clear HB; have BK279 := n0_; have HB := n1_; clear n0_ n1_; (try clear hb); (try clear hb2); (try clear hk); (try clear hi)) | ((with_reducible refine gate_callee (f := 12) rfl ?_); refine goesL_ (some 17) rfl rfl Try.func12 t8_ rfl #[.slice A1 l1.length c1, .int .i64 t280] rfl t2_ ?_; (with_reducible refine (laws_szValveS.calls k _ _ l1 t280 t281 _ ?side1 ?side2 A8.out).mono ?_); (case side1 => repeat (first | exact (Kd.C_below HR1.out HB.out) | (with_reducible refine Kd.C_alloc ?_ _) | (with_reducible refine Kd.C_drewN ?_ _) | (with_reducible refine Kd.C_drew ?_))); (case side2 => exact HC1.out); rintro e w82 ⟨rfl, hb⟩; refine ⟨_, rfl, ?_⟩; have n0_ := Aside0.mk (blk_below (g := gb279) (o := .cells #[.slice A0_0 l0_0.length c0_0, .slice A0_1 l0_1.length c0_1] 25 (0, 0)) (q1_ BK279.out) hb); have n1_ := Aside0.mk (below_step t4_ hb); clear BK279; clear HB; have BK279 := n0_; have HB := n1_; clear n0_ n1_; (try clear hb); (try clear hb2); (try clear hk); (try clear hi); have hcz83_0 : w82.cell? ⟨gb279, 0, none⟩ = some (.slice A0_0 l0_0.length c0_0) := (blk_cell BK279.out 0).trans rfl; have hcz83_1 : w82.cell? ⟨gb279, 1, none⟩ = some (.slice A0_1 l0_1.length c0_1) := (blk_cell BK279.out 1).trans rfl; have hfz83_0 := blk_frozen BK279.out 0; have hfz83_1 := blk_frozen BK279.out 1) | ((with_reducible refine gate_callee (f := 14) rfl ?_); refine goesL_ (some 21) rfl rfl Try.func14 t8_ rfl #[.agg #[.slice A0_0 l0_0.length c0_0, .slice A0_1 l0_1.length c0_1]] rfl t2_ ?_; (with_reducible refine (laws_toNetwork.calls k _ _ l0_0 _ _ l0_1 t282 t285 _ ?side1 ?side2 ?side3 ?side4 A14.out).mono ?_); (case side1 => repeat (first | exact (Kd.C_below HR0_0.out HB.out) | (with_reducible refine Kd.C_alloc ?_ _) | (with_reducible refine Kd.C_drewN ?_ _) | (with_reducible refine Kd.C_drew ?_))); (case side2 => exact HC0_0.out); (case side3 => repeat (first | exact (Kd.C_below HR0_1.out HB.out) | (with_reducible refine Kd.C_alloc ?_ _) | (with_reducible refine Kd.C_drewN ?_ _) | (with_reducible refine Kd.C_drew ?_))); (case side4 => exact HC0_1.out); rintro e w84 ⟨v283, v286, rfl, ho0, ho1, hb⟩; refine ⟨_, rfl, ?_⟩; have n0_ := Aside0.mk (Kd.R_lower ho0 (below_size t4_)); have n1_ := Aside0.mk (Kd.R_lower ho1 (below_size t4_)); have n2_ := Aside0.mk (blk_below (g := gb279) (o := .cells #[.slice A0_0 l0_0.length c0_0, .slice A0_1 l0_1.length c0_1] 25 (0, 0)) (q1_ BK279.out) hb); have n3_ := Aside0.mk (below_step t4_ hb); clear BK279; clear HB; have HO284 := n0_; have HO287 := n1_; have BK279 := n2_; have HB := n3_; clear n0_ n1_ n2_ n3_; (try clear hb); (try clear hb2); (try clear hk); (try clear hi); (try clear ho0); (try clear ho1)) | ((with_reducible refine gate_callee (f := 15) rfl ?_); refine goesL_ (some 23) rfl rfl Try.func15 t8_ rfl #[.slice A1 l1.length c1] rfl t2_ ?_; (with_reducible refine (laws_toValveS.calls k _ _ l1 t288 _ ?side1 ?side2 A15.out).mono ?_); (case side1 => repeat (first | exact (Kd.C_below HR1.out HB.out) | (with_reducible refine Kd.C_alloc ?_ _) | (with_reducible refine Kd.C_drewN ?_ _) | (with_reducible refine Kd.C_drew ?_))); (case side2 => exact HC1.out); rintro e w85 ⟨v289, rfl, ho0, hb⟩; refine ⟨_, rfl, ?_⟩; have n0_ := Aside0.mk (Kd.R_below (q2_ HO284.out) hb); have n1_ := Aside0.mk (Kd.R_below (q2_ HO287.out) hb); have n2_ := Aside0.mk (Kd.R_lower ho0 (below_size t4_)); have n3_ := Aside0.mk (blk_below (g := gb279) (o := .cells #[.slice A0_0 l0_0.length c0_0, .slice A0_1 l0_1.length c0_1] 25 (0, 0)) (q1_ BK279.out) hb); have n4_ := Aside0.mk (below_step t4_ hb); clear HO284; clear HO287; clear BK279; clear HB; have HO284 := n0_; have HO287 := n1_; have HO290 := n2_; have BK279 := n3_; have HB := n4_; clear n0_ n1_ n2_ n3_ n4_; (try clear hb); (try clear hb2); (try clear hk); (try clear hi); (try clear ho0); obtain ⟨Ao86, co86, eo86⟩ := Kd.R_slice HO284.out; subst eo86; obtain ⟨Ao87, co87, eo87⟩ := Kd.R_slice HO287.out; subst eo87; obtain ⟨Ao88, co88, eo88⟩ := Kd.R_slice HO290.out; subst eo88) | ((with_reducible refine gate_callee (f := 13) rfl ?_); refine goesL_ (some 24) rfl rfl Try.func13 t8_ rfl #[.agg #[.slice Ao86 t282.length co86, .slice Ao87 t285.length co87], .slice Ao88 t288.length co88] rfl t2_ ?_; (with_reducible refine (spec_ValidValves.calls k _ _ t282 _ _ t285 _ _ t288 t291 _ ?side1 ?side2 ?side3 ?side4 ?side5 ?side6 A16.out).mono ?_); (case side1 => repeat (first | exact (Kd.R_reads' HO284.out).2.2 | (with_reducible refine Kd.C_alloc ?_ _) | (with_reducible refine Kd.C_drewN ?_ _) | (with_reducible refine Kd.C_drew ?_))); (case side2 => exact (Kd.R_reads' HO284.out).2.1); (case side3 => repeat (first | exact (Kd.R_reads' HO287.out).2.2 | (with_reducible refine Kd.C_alloc ?_ _) | (with_reducible refine Kd.C_drewN ?_ _) | (with_reducible refine Kd.C_drew ?_))); (case side4 => exact (Kd.R_reads' HO287.out).2.1); (case side5 => repeat (first | exact (Kd.R_reads' HO290.out).2.2 | (with_reducible refine Kd.C_alloc ?_ _) | (with_reducible refine Kd.C_drewN ?_ _) | (with_reducible refine Kd.C_drew ?_))); (case side6 => exact (Kd.R_reads' HO290.out).2.1); rintro e w89 ⟨rfl, hb⟩; refine ⟨_, rfl, ?_⟩; have n0_ := Aside0.mk (Kd.R_below (q2_ HO284.out) hb); have n1_ := Aside0.mk (Kd.R_below (q2_ HO287.out) hb); have n2_ := Aside0.mk (Kd.R_below (q2_ HO290.out) hb); have n3_ := Aside0.mk (blk_below (g := gb279) (o := .cells #[.slice A0_0 l0_0.length c0_0, .slice A0_1 l0_1.length c0_1] 25 (0, 0)) (q1_ BK279.out) hb); have n4_ := Aside0.mk (below_step t4_ hb); clear HO284; clear HO287; clear HO290; clear BK279; clear HB; have HO284 := n0_; have HO287 := n1_; have HO290 := n2_; have BK279 := n3_; have HB := n4_; clear n0_ n1_ n2_ n3_ n4_; (try clear hb); (try clear hb2); (try clear hk); (try clear hi); have hcz90_0 : w89.cell? ⟨gb279, 0, none⟩ = some (.slice A0_0 l0_0.length c0_0) := (blk_cell BK279.out 0).trans rfl; have hcz90_1 : w89.cell? ⟨gb279, 1, none⟩ = some (.slice A0_1 l0_1.length c0_1) := (blk_cell BK279.out 1).trans rfl; have hfz90_0 := blk_frozen BK279.out 0; have hfz90_1 := blk_frozen BK279.out 1) | ((with_reducible refine gate_callee (f := 14) rfl ?_); refine goesL_ (some 26) rfl rfl Try.func14 t8_ rfl #[.agg #[.slice A0_0 l0_0.length c0_0, .slice A0_1 l0_1.length c0_1]] rfl t2_ ?_; (with_reducible refine (laws_toNetwork.calls k _ _ l0_0 _ _ l0_1 t292 t295 _ ?side1 ?side2 ?side3 ?side4 A17.out).mono ?_); (case side1 => repeat (first | exact (Kd.C_below HR0_0.out HB.out) | (with_reducible refine Kd.C_alloc ?_ _) | (with_reducible refine Kd.C_drewN ?_ _) | (with_reducible refine Kd.C_drew ?_))); (case side2 => exact HC0_0.out); (case side3 => repeat (first | exact (Kd.C_below HR0_1.out HB.out) | (with_reducible refine Kd.C_alloc ?_ _) | (with_reducible refine Kd.C_drewN ?_ _) | (with_reducible refine Kd.C_drew ?_))); (case side4 => exact HC0_1.out); rintro e w91 ⟨v293, v296, rfl, ho0, ho1, hb⟩; refine ⟨_, rfl, ?_⟩; have n0_ := Aside0.mk (Kd.R_elder' (q2_ HO284.out) (Kd.R_base ho0) hb); have n1_ := Aside0.mk (Kd.R_elder' (q2_ HO287.out) (Kd.R_base ho1) hb); have n2_ := Aside0.mk (Kd.R_below (q2_ HO290.out) hb); have n3_ := Aside0.mk (Kd.R_lower (Kd.R_new' ho0 (Kd.R_lt (q2_ HO284.out))) (below_size t4_)); have n4_ := Aside0.mk (Kd.R_lower (Kd.R_new' ho1 (Kd.R_lt (q2_ HO287.out))) (below_size t4_)); have n5_ := Aside0.mk (blk_below (g := gb279) (o := .cells #[.slice A0_0 l0_0.length c0_0, .slice A0_1 l0_1.length c0_1] 25 (0, 0)) (q1_ BK279.out) hb); have n6_ := Aside0.mk (below_step t4_ hb); clear HO284; clear HO287; clear HO290; clear BK279; clear HB; have HO284 := n0_; have HO287 := n1_; have HO290 := n2_; have HO294 := n3_; have HO297 := n4_; have BK279 := n5_; have HB := n6_; clear n0_ n1_ n2_ n3_ n4_ n5_ n6_; (try clear hb); (try clear hb2); (try clear hk); (try clear hi); (try clear ho0); (try clear ho1)) | ((with_reducible refine gate_dst (N := 7) rfl ?_); refine box_event ?hg (N := 7) ?hd (cs := #[.slice none 0 0, .slice none 0 0]) (t := 32) ?hr ?_; (case hd => rfl); (case hg => rfl); (case hr => first | (go_simp; done) | (go_simp; rfl)); intro gb298 hg w92 hbox hb; have n0_ := Aside0.mk (Kd.R_below (q2_ HO284.out) hb); have n1_ := Aside0.mk (Kd.R_below (q2_ HO287.out) hb); have n2_ := Aside0.mk (Kd.R_below (q2_ HO290.out) hb); have n3_ := Aside0.mk (Kd.R_below (q2_ HO294.out) hb); have n4_ := Aside0.mk (Kd.R_below (q2_ HO297.out) hb); have n5_ := Aside0.mk (blk_below (g := gb279) (o := .cells #[.slice A0_0 l0_0.length c0_0, .slice A0_1 l0_1.length c0_1] 25 (0, 0)) (q1_ BK279.out) hb); have n6_ := Aside0.mk (below_step t4_ hb); have n7_ := Aside0.mk (hbox); have n8_ := Aside0.mk ((by rw [hg]; exact (below_size t4_) : w.heap.size ≤ gb298)); have n9_ := Aside0.mk ((by rw [hg]; exact (below_size t4_) : w.heap.size ≤ gb298)); have n10_ := Aside0.mk ((by rw [hg]; exact Nat.ne_of_lt (blk_lt (g := gb279) (o := .cells #[.slice A0_0 l0_0.length c0_0, .slice A0_1 l0_1.length c0_1] 25 (0, 0)) (q1_ BK279.out)) : gb279 ≠ gb298)); have n11_ := Aside0.mk ((by rw [hg]; exact Nat.ne_of_gt (blk_lt (g := gb279) (o := .cells #[.slice A0_0 l0_0.length c0_0, .slice A0_1 l0_1.length c0_1] 25 (0, 0)) (q1_ BK279.out)) : gb298 ≠ gb279)); clear HO284; clear HO287; clear HO290; clear HO294; clear HO297; clear BK279; clear HB; have HO284 := n0_; have HO287 := n1_; have HO290 := n2_; have HO294 := n3_; have HO297 := n4_; have BK279 := n5_; have HB := n6_; have BK298 := n7_; have GW298 := n8_; have GE298 := n9_; have NB279_298 := n10_; have NB298_279 := n11_; clear n0_ n1_ n2_ n3_ n4_ n5_ n6_ n7_ n8_ n9_ n10_ n11_; clear hb hbox hg; obtain ⟨Ao93, co93, eo93⟩ := Kd.R_slice HO294.out; subst eo93; have hnb94 := NB298_279.out; have hnc94 := NB279_298.out; have hcz95_0 : w92.cell? ⟨gb298, 0, none⟩ = some (.slice none 0 0) := (blk_cell BK298.out 0).trans rfl; have hcz95_1 : w92.cell? ⟨gb298, 1, none⟩ = some (.slice none 0 0) := (blk_cell BK298.out 1).trans rfl; have hfz95_0 := blk_frozen BK298.out 0; have hfz95_1 := blk_frozen BK298.out 1; obtain ⟨Ao96, co96, eo96⟩ := Kd.R_slice HO297.out; subst eo96) | ((with_reducible refine gate_callee (f := 15) rfl ?_); refine goesL_ (some 28) rfl rfl Try.func15 t8_ rfl #[.slice A1 l1.length c1] rfl t2_ ?_; (with_reducible refine (laws_toValveS.calls k _ _ l1 t299 _ ?side1 ?side2 A18.out).mono ?_); (case side1 => exact Kd.C_below HR1.out t5_); (case side2 => exact HC1.out); rintro e w97 ⟨v300, rfl, ho0, hb⟩; refine ⟨_, rfl, ?_⟩; have n0_ := Aside0.mk (Kd.R_below (by (with_reducible repeat (first | apply Kd.R_alloc | apply Kd.R_drewN | apply Kd.R_drew)); exact (Kd.R_mono (Kd.R_far (p := ⟨gb298, 1, none⟩) (Kd.R_far (p := ⟨gb298, 0, none⟩) (Kd.R_types HO284.out BK298.out t20_) (fun _ hk => hk.2) (.slice Ao93 t292.length co93)) (fun _ hk => hk.2) (.slice Ao96 t295.length co96)) (fun _ h_ => h_.1))) hb); have n1_ := Aside0.mk (Kd.R_below (by (with_reducible repeat (first | apply Kd.R_alloc | apply Kd.R_drewN | apply Kd.R_drew)); exact (Kd.R_mono (Kd.R_far (p := ⟨gb298, 1, none⟩) (Kd.R_far (p := ⟨gb298, 0, none⟩) (Kd.R_types HO287.out BK298.out t20_) (fun _ hk => hk.2) (.slice Ao93 t292.length co93)) (fun _ hk => hk.2) (.slice Ao96 t295.length co96)) (fun _ h_ => h_.1))) hb); have n2_ := Aside0.mk (Kd.R_elder' t29_ (Kd.R_base ho0) hb); have n3_ := Aside0.mk (Kd.R_below (by (with_reducible repeat (first | apply Kd.R_alloc | apply Kd.R_drewN | apply Kd.R_drew)); exact (Kd.R_mono (Kd.R_far (p := ⟨gb298, 1, none⟩) (Kd.R_far (p := ⟨gb298, 0, none⟩) (Kd.R_types HO294.out BK298.out t20_) (fun _ hk => hk.2) (.slice Ao93 t292.length co93)) (fun _ hk => hk.2) (.slice Ao96 t295.length co96)) (fun _ h_ => h_.1))) hb); have n4_ := Aside0.mk (Kd.R_below (by (with_reducible repeat (first | apply Kd.R_alloc | apply Kd.R_drewN | apply Kd.R_drew)); exact (Kd.R_mono (Kd.R_far (p := ⟨gb298, 1, none⟩) (Kd.R_far (p := ⟨gb298, 0, none⟩) (Kd.R_types HO297.out BK298.out t20_) (fun _ hk => hk.2) (.slice Ao93 t292.length co93)) (fun _ hk => hk.2) (.slice Ao96 t295.length co96)) (fun _ h_ => h_.1))) hb); have n5_ := Aside0.mk (Kd.R_lower (Kd.R_new' ho0 (Kd.R_lt t29_)) (below_size t5_)); have n6_ := Aside0.mk (blk_below (g := gb279) (o := .cells #[.slice A0_0 l0_0.length c0_0, .slice A0_1 l0_1.length c0_1] 25 (0, 0)) t15_ hb); have n7_ := Aside0.mk (blk_below (g := gb298) (o := .cells #[.slice Ao93 t292.length co93, .slice Ao96 t295.length co96] 32 (0, 0)) (by (with_reducible repeat (first | refine blk_drewN ?_ _ | refine blk_drew ?_ | refine blk_alloc ?_ _)); refine blk_put (cs := #[.slice Ao93 t292.length co93, .slice none 0 0]) ?_ 1 _ rfl; (with_reducible repeat (first | refine blk_drewN ?_ _ | refine blk_drew ?_ | refine blk_alloc ?_ _)); refine blk_put (cs := #[.slice none 0 0, .slice none 0 0]) ?_ 0 _ rfl; (with_reducible repeat (first | refine blk_drewN ?_ _ | refine blk_drew ?_ | refine blk_alloc ?_ _)); exact BK298.out) hb); have n8_ := Aside0.mk (below_step t5_ hb); clear HO284; clear HO287; clear HO290; clear HO294; clear HO297; clear BK279; clear BK298; clear HB; have HO284 := n0_; have HO287 := n1_; have HO290 := n2_; have HO294 := n3_; have HO297 := n4_; have HO301 := n5_; have BK279 := n6_; have BK298 := n7_; have HB := n8_; clear n0_ n1_ n2_ n3_ n4_ n5_ n6_ n7_ n8_; (try clear hb); (try clear hb2); (try clear hk); (try clear hi); (try clear ho0); have hcz98_0 : w97.cell? ⟨gb298, 0, none⟩ = some (.slice Ao93 t292.length co93) := (blk_cell BK298.out 0).trans rfl; have hcz98_1 : w97.cell? ⟨gb298, 1, none⟩ = some (.slice Ao96 t295.length co96) := (blk_cell BK298.out 1).trans rfl; have hfz98_0 := blk_frozen BK298.out 0; have hfz98_1 := blk_frozen BK298.out 1; obtain ⟨Ao99, co99, eo99⟩ := Kd.R_slice HO301.out; subst eo99) | ((with_reducible refine gate_callee (f := 16) rfl ?_); refine goesL_ (some 31) rfl rfl Try.func16 t8_ rfl #[.agg #[.slice Ao93 t292.length co93, .slice Ao96 t295.length co96], .slice Ao99 t299.length co99] rfl t2_ ?_; (with_reducible refine (impl_ValidValves.calls k _ _ t292 _ _ t295 _ _ t299 t302 _ ?side1 ?side2 ?side3 ?side4 ?side5 ?side6 A19.out).mono ?_); (case side1 => repeat (first | exact (Kd.R_reads' HO294.out).2.2 | (with_reducible refine Kd.C_alloc ?_ _) | (with_reducible refine Kd.C_drewN ?_ _) | (with_reducible refine Kd.C_drew ?_))); (case side2 => exact (Kd.R_reads' HO294.out).2.1); (case side3 => repeat (first | exact (Kd.R_reads' HO297.out).2.2 | (with_reducible refine Kd.C_alloc ?_ _) | (with_reducible refine Kd.C_drewN ?_ _) | (with_reducible refine Kd.C_drew ?_))); (case side4 => exact (Kd.R_reads' HO297.out).2.1); (case side5 => repeat (first | exact (Kd.R_reads' HO301.out).2.2 | (with_reducible refine Kd.C_alloc ?_ _) | (with_reducible refine Kd.C_drewN ?_ _) | (with_reducible refine Kd.C_drew ?_))); (case side6 => exact (Kd.R_reads' HO301.out).2.1); rintro e w100 ⟨rfl, hb⟩; refine ⟨_, rfl, ?_⟩; have n0_ := Aside0.mk (Kd.R_below (q2_ HO284.out) hb); have n1_ := Aside0.mk (Kd.R_below (q2_ HO287.out) hb); have n2_ := Aside0.mk (Kd.R_below (q2_ HO290.out) hb); have n3_ := Aside0.mk (Kd.R_below (q2_ HO294.out) hb); have n4_ := Aside0.mk (Kd.R_below (q2_ HO297.out) hb); have n5_ := Aside0.mk (Kd.R_below (q2_ HO301.out) hb); have n6_ := Aside0.mk (blk_below (g := gb279) (o := .cells #[.slice A0_0 l0_0.length c0_0, .slice A0_1 l0_1.length c0_1] 25 (0, 0)) (q1_ BK279.out) hb); have n7_ := Aside0.mk (blk_below (g := gb298) (o := .cells #[.slice Ao93 t292.length co93, .slice Ao96 t295.length co96] 32 (0, 0)) (q1_ BK298.out) hb); have n8_ := Aside0.mk (below_step t5_ hb); clear HO284; clear HO287; clear HO290; clear HO294; clear HO297; clear HO301; clear BK279; clear BK298; clear HB; have HO284 := n0_; have HO287 := n1_; have HO290 := n2_; have HO294 := n3_; have HO297 := n4_; have HO301 := n5_; have BK279 := n6_; have BK298 := n7_; have HB := n8_; clear n0_ n1_ n2_ n3_ n4_ n5_ n6_ n7_ n8_; (try clear hb); (try clear hb2); (try clear hk); (try clear hi)))
      have n0_ := Aside0.mk (Kd.R_drew HO284.out)
      have n1_ := Aside0.mk (Kd.R_drew HO287.out)
      have n2_ := Aside0.mk (Kd.R_drew HO290.out)
      have n3_ := Aside0.mk (Kd.R_drew HO294.out)
      have n4_ := Aside0.mk (Kd.R_drew HO297.out)
      have n5_ := Aside0.mk (Kd.R_drew HO301.out)
      have n6_ := Aside0.mk (blk_drew BK279.out)
      have n7_ := Aside0.mk (blk_drew BK298.out)
      have n8_ := Aside0.mk (below_drew1 HB.out)
      clear HO284
      clear HO287
      clear HO290
      clear HO294
      clear HO297
      clear HO301
      clear BK279
      clear BK298
      clear HB
      have HO284 := n0_
      have HO287 := n1_
      have HO290 := n2_
      have HO294 := n3_
      have HO297 := n4_
      have HO301 := n5_
      have BK279 := n6_
      have BK298 := n7_
      have HB := n8_
      clear n0_ n1_ n2_ n3_ n4_ n5_ n6_ n7_ n8_
      refine start_ (n := 5) (S := fun w' => w'.cell? ⟨gb298, 0, none⟩ = some (.slice Ao93 t292.length co93) ∧ w'.cell? ⟨gb298, 1, none⟩ = some (.slice Ao96 t295.length co96) ∧ w'.cell? ⟨gb279, 0, none⟩ = some (.slice A0_0 l0_0.length c0_0) ∧ w'.cell? ⟨gb279, 1, none⟩ = some (.slice A0_1 l0_1.length c0_1)) (ds := []) #[false, false, false, false, false] t8_ rfl rfl ⟨(blk_cell BK298.out 0).trans rfl, (blk_cell BK298.out 1).trans rfl, (blk_cell BK279.out 0).trans rfl, (blk_cell BK279.out 1).trans rfl⟩ (fun hHeld => ?_)
      generalize w100.drew = w101 at HO284 HO287 HO290 HO294 HO297 HO301 BK279 BK298 HB hHeld ⊢
      refine take_ (i := 0) (N := some 35) (v := ?_) (a' := ?_) #[true, false, false, false, false] rfl rfl t8_ (fun _ _ _ h => h) (Or.inl ⟨by rfl, ?_⟩) hHeld ?_ ?_
      rotate_left
      ·rintro w' ⟨s0, s1, s2, s3⟩
       go_simp
       with_reducible rfl
      rotate_left; (· simp only [Act.put, List.setIfInBounds_toArray, List.set_cons_zero, List.set_cons_succ, i64_w, i32_w]; rfl)
      refine take_ (i := 1) (N := some 36) (v := ?_) (a' := ?_) #[true, true, false, false, false] rfl rfl t8_ (fun _ _ _ h => h) (Or.inl ⟨by rfl, ?_⟩) hHeld ?_ ?_
      rotate_left
      ·rintro w' ⟨s0, s1, s2, s3⟩
       go_simp
       with_reducible rfl
      rotate_left; (· simp only [Act.put, List.setIfInBounds_toArray, List.set_cons_zero, List.set_cons_succ, i64_w, i32_w]; rfl)
      refine one_ (i := 2) (N := some 37) #[true, true, true, false, false] rfl rfl t8_ t20_ (fun K hK => ?_)
      refine goes_ Try.func14 t8_ rfl #[.agg #[.slice A0_0 l0_0.length c0_0, .slice A0_1 l0_1.length c0_1]] t37_ rfl rfl t2_ ?_
      with_reducible refine (laws_toNetwork.calls k _ _ l0_0 _ _ l0_1 t303 t306 _ ?side1 ?side2 ?side3 ?side4 A43.out).mono ?_
      (case side1 => repeat (first | exact (Kd.C_below HR0_0.out HB.out) | (with_reducible refine Kd.C_alloc ?_ _) | (with_reducible refine Kd.C_drewN ?_ _) | (with_reducible refine Kd.C_drew ?_)))
      (case side2 => exact HC0_0.out)
      (case side3 => repeat (first | exact (Kd.C_below HR0_1.out HB.out) | (with_reducible refine Kd.C_alloc ?_ _) | (with_reducible refine Kd.C_drewN ?_ _) | (with_reducible refine Kd.C_drew ?_)))
      (case side4 => exact HC0_1.out)
      rintro e w102 ⟨v304, v307, rfl, ho0, ho1, hb⟩
      refine ⟨_, rfl, ?_⟩
      have n0_ := Aside0.mk (Kd.R_elder' (q2_ HO284.out) (Kd.R_base ho0) hb)
      have n1_ := Aside0.mk (Kd.R_elder' (q2_ HO287.out) (Kd.R_base ho1) hb)
      have n2_ := Aside0.mk (Kd.R_below (q2_ HO290.out) hb)
      have n3_ := Aside0.mk (Kd.R_elder' (q2_ HO294.out) (Kd.R_base ho0) hb)
      have n4_ := Aside0.mk (Kd.R_elder' (q2_ HO297.out) (Kd.R_base ho1) hb)
      have n5_ := Aside0.mk (Kd.R_below (q2_ HO301.out) hb)
      have n6_ := Aside0.mk (Kd.R_lower (Kd.R_new' (Kd.R_new' ho0 (Kd.R_lt (q2_ HO284.out))) (Kd.R_lt (q2_ HO294.out))) (below_size t5_))
      have n7_ := Aside0.mk (Kd.R_lower (Kd.R_new' (Kd.R_new' ho1 (Kd.R_lt (q2_ HO287.out))) (Kd.R_lt (q2_ HO297.out))) (below_size t5_))
      have n8_ := Aside0.mk (blk_below (g := gb279) (o := .cells #[.slice A0_0 l0_0.length c0_0, .slice A0_1 l0_1.length c0_1] 25 (0, 0)) (q1_ BK279.out) hb)
      have n9_ := Aside0.mk (blk_below (g := gb298) (o := .cells #[.slice Ao93 t292.length co93, .slice Ao96 t295.length co96] 32 (0, 0)) (q1_ BK298.out) hb)
      have n10_ := Aside0.mk (below_step t5_ hb)
      clear HO284
      clear HO287
      clear HO290
      clear HO294
      clear HO297
      clear HO301
      clear BK279
      clear BK298
      clear HB
      have HO284 := n0_
      have HO287 := n1_
      have HO290 := n2_
      have HO294 := n3_
      have HO297 := n4_
      have HO301 := n5_
      have HO305 := n6_
      have HO308 := n7_
      have BK279 := n8_
      have BK298 := n9_
      have HB := n10_
      clear n0_ n1_ n2_ n3_ n4_ n5_ n6_ n7_ n8_ n9_ n10_
      (try clear hb)
      (try clear hb2)
      (try clear hk)
      (try clear hi)
      (try clear ho0)
      (try clear ho1)
      obtain ⟨Ao103, co103, eo103⟩ := Kd.R_slice HO305.out
      (first | subst eo103 | (injection eo103 with f1_ f2_ f3_; have f4_ := f1_.symm; have f5_ := f3_.symm; clear f1_ f2_ f3_; subst f4_; subst f5_))
      obtain ⟨Ao104, co104, eo104⟩ := Kd.R_slice HO308.out
      (first | subst eo104 | (injection eo104 with f1_ f2_ f3_; have f4_ := f1_.symm; have f5_ := f3_.symm; clear f1_ f2_ f3_; subst f4_; subst f5_))
      refine hK.out _ _ ⟨(blk_cell BK298.out 0).trans rfl, (blk_cell BK298.out 1).trans rfl, (blk_cell BK279.out 0).trans rfl, (blk_cell BK279.out 1).trans rfl⟩ (fun hHeld => ?_)
      clear hK K
      refine norm_ (a' := ?_) ?_ ?_
      rotate_left
      ·show Act.put _ (some 37) _ = _
       simp only [Act.put, List.setIfInBounds_toArray, List.set_cons_zero, List.set_cons_succ, i64_w, i32_w]
       rfl
      refine one_ (i := 3) (N := some 38) #[true, true, true, true, false] rfl rfl t8_ t20_ (fun K hK => ?_)
      refine goes_ Try.func17 t8_ rfl #[.agg #[.slice Ao93 t292.length co93, .slice Ao96 t295.length co96], .agg #[.slice Ao103 t303.length co103, .slice Ao104 t306.length co104]] t37_ rfl rfl t2_ ?_
      with_reducible refine (laws_eqNetwork.calls k _ _ t292 _ _ t295 _ _ t303 _ _ t306 true _ ?side1 ?side2 ?side3 ?side4 ?side5 ?side6 ?side7 ?side8 A44.out).mono ?_
      (case side1 => repeat (first | exact (Kd.R_reads' HO294.out).2.2 | (with_reducible refine Kd.C_alloc ?_ _) | (with_reducible refine Kd.C_drewN ?_ _) | (with_reducible refine Kd.C_drew ?_)))
      (case side2 => exact (Kd.R_reads' HO294.out).2.1)
      (case side3 => repeat (first | exact (Kd.R_reads' HO297.out).2.2 | (with_reducible refine Kd.C_alloc ?_ _) | (with_reducible refine Kd.C_drewN ?_ _) | (with_reducible refine Kd.C_drew ?_)))
      (case side4 => exact (Kd.R_reads' HO297.out).2.1)
      (case side5 => repeat (first | exact (Kd.R_reads' HO305.out).2.2 | (with_reducible refine Kd.C_alloc ?_ _) | (with_reducible refine Kd.C_drewN ?_ _) | (with_reducible refine Kd.C_drew ?_)))
      (case side6 => exact (Kd.R_reads' HO305.out).2.1)
      (case side7 => repeat (first | exact (Kd.R_reads' HO308.out).2.2 | (with_reducible refine Kd.C_alloc ?_ _) | (with_reducible refine Kd.C_drewN ?_ _) | (with_reducible refine Kd.C_drew ?_)))
      (case side8 => exact (Kd.R_reads' HO308.out).2.1)
      rintro e w105 ⟨rfl, hb⟩
      refine ⟨_, rfl, ?_⟩
      have n0_ := Aside0.mk (Kd.R_below (q2_ HO284.out) hb)
      have n1_ := Aside0.mk (Kd.R_below (q2_ HO287.out) hb)
      have n2_ := Aside0.mk (Kd.R_below (q2_ HO290.out) hb)
      have n3_ := Aside0.mk (Kd.R_below (q2_ HO294.out) hb)
      have n4_ := Aside0.mk (Kd.R_below (q2_ HO297.out) hb)
      have n5_ := Aside0.mk (Kd.R_below (q2_ HO301.out) hb)
      have n6_ := Aside0.mk (Kd.R_below (q2_ HO305.out) hb)
      have n7_ := Aside0.mk (Kd.R_below (q2_ HO308.out) hb)
      have n8_ := Aside0.mk (blk_below (g := gb279) (o := .cells #[.slice A0_0 l0_0.length c0_0, .slice A0_1 l0_1.length c0_1] 25 (0, 0)) (q1_ BK279.out) hb)
      have n9_ := Aside0.mk (blk_below (g := gb298) (o := .cells #[.slice Ao93 t292.length co93, .slice Ao96 t295.length co96] 32 (0, 0)) (q1_ BK298.out) hb)
      have n10_ := Aside0.mk (below_step t5_ hb)
      clear HO284
      clear HO287
      clear HO290
      clear HO294
      clear HO297
      clear HO301
      clear HO305
      clear HO308
      clear BK279
      clear BK298
      clear HB
      have HO284 := n0_
      have HO287 := n1_
      have HO290 := n2_
      have HO294 := n3_
      have HO297 := n4_
      have HO301 := n5_
      have HO305 := n6_
      have HO308 := n7_
      have BK279 := n8_
      have BK298 := n9_
      have HB := n10_
      clear n0_ n1_ n2_ n3_ n4_ n5_ n6_ n7_ n8_ n9_ n10_
      (try clear hb)
      (try clear hb2)
      (try clear hk)
      (try clear hi)
      refine hK.out _ _ ⟨(blk_cell BK298.out 0).trans rfl, (blk_cell BK298.out 1).trans rfl, (blk_cell BK279.out 0).trans rfl, (blk_cell BK279.out 1).trans rfl⟩ (fun hHeld => ?_)
      clear hK K
      refine norm_ (a' := ?_) ?_ ?_
      rotate_left
      ·show Act.put _ (some 38) _ = _
       simp only [Act.put, List.setIfInBounds_toArray, List.set_cons_zero, List.set_cons_succ, i64_w, i32_w]
       rfl
      refine pure_ (i := 4) (N := some 39) (v := ?_) (a' := ?_) #[true, true, true, true, true] rfl rfl t8_ (fun _ _ _ h => h) (Or.inl ⟨by rfl, ?_⟩) ?_ ?_
      rotate_left; (· intro w'; go_simp; with_reducible rfl); rotate_left; (· simp only [Act.put, List.setIfInBounds_toArray, List.set_cons_zero, List.set_cons_succ, i64_w, i32_w]; rfl)
      refine done_ t8_ ?_
      try go_wp2_with (first | ((with_reducible refine gate_callee (f := 15) rfl ?_); refine goesL_ (some 42) rfl rfl Try.func15 t8_ rfl #[.slice A1 l1.length c1] rfl t2_ ?_; (with_reducible refine (laws_toValveS.calls k _ _ l1 t310 _ ?side1 ?side2 A46.out).mono ?_); (case side1 => repeat (first | exact (Kd.C_below HR1.out HB.out) | (with_reducible refine Kd.C_alloc ?_ _) | (with_reducible refine Kd.C_drewN ?_ _) | (with_reducible refine Kd.C_drew ?_))); (case side2 => exact HC1.out); rintro e w106 ⟨v311, rfl, ho0, hb⟩; refine ⟨_, rfl, ?_⟩; have n0_ := Aside0.mk (Kd.R_below (q2_ HO284.out) hb); have n1_ := Aside0.mk (Kd.R_below (q2_ HO287.out) hb); have n2_ := Aside0.mk (Kd.R_elder' (q2_ HO290.out) (Kd.R_base ho0) hb); have n3_ := Aside0.mk (Kd.R_below (q2_ HO294.out) hb); have n4_ := Aside0.mk (Kd.R_below (q2_ HO297.out) hb); have n5_ := Aside0.mk (Kd.R_elder' (q2_ HO301.out) (Kd.R_base ho0) hb); have n6_ := Aside0.mk (Kd.R_below (q2_ HO305.out) hb); have n7_ := Aside0.mk (Kd.R_below (q2_ HO308.out) hb); have n8_ := Aside0.mk (Kd.R_lower (Kd.R_new' (Kd.R_new' ho0 (Kd.R_lt (q2_ HO290.out))) (Kd.R_lt (q2_ HO301.out))) (below_size t5_)); have n9_ := Aside0.mk (blk_below (g := gb279) (o := .cells #[.slice A0_0 l0_0.length c0_0, .slice A0_1 l0_1.length c0_1] 25 (0, 0)) (q1_ BK279.out) hb); have n10_ := Aside0.mk (blk_below (g := gb298) (o := .cells #[.slice Ao93 t292.length co93, .slice Ao96 t295.length co96] 32 (0, 0)) (q1_ BK298.out) hb); have n11_ := Aside0.mk (below_step t5_ hb); clear HO284; clear HO287; clear HO290; clear HO294; clear HO297; clear HO301; clear HO305; clear HO308; clear BK279; clear BK298; clear HB; have HO284 := n0_; have HO287 := n1_; have HO290 := n2_; have HO294 := n3_; have HO297 := n4_; have HO301 := n5_; have HO305 := n6_; have HO308 := n7_; have HO312 := n8_; have BK279 := n9_; have BK298 := n10_; have HB := n11_; clear n0_ n1_ n2_ n3_ n4_ n5_ n6_ n7_ n8_ n9_ n10_ n11_; (try clear hb); (try clear hb2); (try clear hk); (try clear hi); (try clear ho0); obtain ⟨Ao107, co107, eo107⟩ := Kd.R_slice HO312.out; subst eo107) | ((with_reducible refine gate_callee (f := 18) rfl ?_); refine goesL_ (some 43) rfl rfl Try.func18 t8_ rfl #[.slice Ao99 t299.length co99, .slice Ao107 t310.length co107] rfl t2_ ?_; (with_reducible refine (laws_eqValveS.calls k _ _ t299 _ _ t310 false _ ?side1 ?side2 ?side3 ?side4 A47.out).mono ?_); (case side1 => repeat (first | exact (Kd.R_reads' HO301.out).2.2 | (with_reducible refine Kd.C_alloc ?_ _) | (with_reducible refine Kd.C_drewN ?_ _) | (with_reducible refine Kd.C_drew ?_))); (case side2 => exact (Kd.R_reads' HO301.out).2.1); (case side3 => repeat (first | exact (Kd.R_reads' HO312.out).2.2 | (with_reducible refine Kd.C_alloc ?_ _) | (with_reducible refine Kd.C_drewN ?_ _) | (with_reducible refine Kd.C_drew ?_))); (case side4 => exact (Kd.R_reads' HO312.out).2.1); rintro e w108 ⟨rfl, hb⟩; refine ⟨_, rfl, ?_⟩; have n0_ := Aside0.mk (Kd.R_below (q2_ HO284.out) hb); have n1_ := Aside0.mk (Kd.R_below (q2_ HO287.out) hb); have n2_ := Aside0.mk (Kd.R_below (q2_ HO290.out) hb); have n3_ := Aside0.mk (Kd.R_below (q2_ HO294.out) hb); have n4_ := Aside0.mk (Kd.R_below (q2_ HO297.out) hb); have n5_ := Aside0.mk (Kd.R_below (q2_ HO301.out) hb); have n6_ := Aside0.mk (Kd.R_below (q2_ HO305.out) hb); have n7_ := Aside0.mk (Kd.R_below (q2_ HO308.out) hb); have n8_ := Aside0.mk (Kd.R_below (q2_ HO312.out) hb); have n9_ := Aside0.mk (blk_below (g := gb279) (o := .cells #[.slice A0_0 l0_0.length c0_0, .slice A0_1 l0_1.length c0_1] 25 (0, 0)) (q1_ BK279.out) hb); have n10_ := Aside0.mk (blk_below (g := gb298) (o := .cells #[.slice Ao93 t292.length co93, .slice Ao96 t295.length co96] 32 (0, 0)) (q1_ BK298.out) hb); have n11_ := Aside0.mk (below_step t5_ hb); clear HO284; clear HO287; clear HO290; clear HO294; clear HO297; clear HO301; clear HO305; clear HO308; clear HO312; clear BK279; clear BK298; clear HB; have HO284 := n0_; have HO287 := n1_; have HO290 := n2_; have HO294 := n3_; have HO297 := n4_; have HO301 := n5_; have HO305 := n6_; have HO308 := n7_; have HO312 := n8_; have BK279 := n9_; have BK298 := n10_; have HB := n11_; clear n0_ n1_ n2_ n3_ n4_ n5_ n6_ n7_ n8_ n9_ n10_ n11_; (try clear hb); (try clear hb2); (try clear hk); (try clear hi)))
      go_ret
      exact ⟨by first | rfl | (rw [Int.tdiv_eq_ediv_of_nonneg t12_]; rfl) | (simp [errW_none, errW_some] <;> rfl) | (simp [*, errW_none, errW_some] <;> rfl), by repeat (first | (with_reducible first | exact HB.out | apply below_alloc | apply pw_below_drewN | apply below_drew1 | refine below_set ?_ GE279.out | refine below_set ?_ GE298.out) | exact HB.out)⟩
    ·replace c45 := Bool.eq_false_iff.mpr c45
     subst c45
     have H1 : (some false) = some r := by rw [if_neg (show ¬ (false = true) by decide)] at H; exact H
     clear H
     have H := H1
     clear H1
     obtain rfl := Option.some.inj H
     go_enter Try.func3, Try.ntmps3
     try go_wp2_with (first | ((with_reducible refine gate_dst (N := 2) rfl ?_); refine box_event ?hg (N := 2) ?hd (cs := #[.slice A0_0 l0_0.length c0_0, .slice A0_1 l0_1.length c0_1]) (t := 25) ?hr ?_; (case hd => rfl); (case hg => rfl); (case hr => first | (go_simp; done) | (go_simp; rfl)); intro gb279 hg w109 hbox hb; have n0_ := Aside0.mk (below_step t1_ hb); have n1_ := Aside0.mk (hbox); have n2_ := Aside0.mk ((by rw [hg]; exact (below_size t1_) : w.heap.size ≤ gb279)); have n3_ := Aside0.mk ((by rw [hg]; exact (below_size t1_) : w.heap.size ≤ gb279)); clear HB; have HB := n0_; have BK279 := n1_; have GW279 := n2_; have GE279 := n3_; clear n0_ n1_ n2_ n3_; clear hb hbox hg; have hcz110_0 : w109.cell? ⟨gb279, 0, none⟩ = some (.slice A0_0 l0_0.length c0_0) := (blk_cell BK279.out 0).trans rfl; have hcz110_1 : w109.cell? ⟨gb279, 1, none⟩ = some (.slice A0_1 l0_1.length c0_1) := (blk_cell BK279.out 1).trans rfl; have hfz110_0 := blk_frozen BK279.out 0; have hfz110_1 := blk_frozen BK279.out 1) | ((with_reducible refine gate_callee (f := 11) rfl ?_); refine goesL_ (some 12) rfl rfl Try.func11 t8_ rfl #[.agg #[.slice A0_0 l0_0.length c0_0, .slice A0_1 l0_1.length c0_1], .int .i64 1048576] rfl t2_ ?_; (with_reducible refine (laws_szNetwork.calls k _ _ l0_0 _ _ l0_1 1048576 t280 _ ?side1 ?side2 ?side3 ?side4 A3.out).mono ?_); (case side1 => repeat (first | exact (Kd.C_below HR0_0.out HB.out) | (with_reducible refine Kd.C_alloc ?_ _) | (with_reducible refine Kd.C_drewN ?_ _) | (with_reducible refine Kd.C_drew ?_))); (case side2 => exact HC0_0.out); (case side3 => repeat (first | exact (Kd.C_below HR0_1.out HB.out) | (with_reducible refine Kd.C_alloc ?_ _) | (with_reducible refine Kd.C_drewN ?_ _) | (with_reducible refine Kd.C_drew ?_))); (case side4 => exact HC0_1.out); rintro e w111 ⟨rfl, hb⟩; refine ⟨_, rfl, ?_⟩; have n0_ := Aside0.mk (blk_below (g := gb279) (o := .cells #[.slice A0_0 l0_0.length c0_0, .slice A0_1 l0_1.length c0_1] 25 (0, 0)) (q1_ BK279.out) hb); have n1_ := Aside0.mk (below_step t4_ hb); clear BK279; clear HB; have BK279 := n0_; have HB := n1_; clear n0_ n1_; (try clear hb); (try clear hb2); (try clear hk); (try clear hi)) | ((with_reducible refine gate_callee (f := 12) rfl ?_); refine goesL_ (some 17) rfl rfl Try.func12 t8_ rfl #[.slice A1 l1.length c1, .int .i64 t280] rfl t2_ ?_; (with_reducible refine (laws_szValveS.calls k _ _ l1 t280 t281 _ ?side1 ?side2 A8.out).mono ?_); (case side1 => repeat (first | exact (Kd.C_below HR1.out HB.out) | (with_reducible refine Kd.C_alloc ?_ _) | (with_reducible refine Kd.C_drewN ?_ _) | (with_reducible refine Kd.C_drew ?_))); (case side2 => exact HC1.out); rintro e w112 ⟨rfl, hb⟩; refine ⟨_, rfl, ?_⟩; have n0_ := Aside0.mk (blk_below (g := gb279) (o := .cells #[.slice A0_0 l0_0.length c0_0, .slice A0_1 l0_1.length c0_1] 25 (0, 0)) (q1_ BK279.out) hb); have n1_ := Aside0.mk (below_step t4_ hb); clear BK279; clear HB; have BK279 := n0_; have HB := n1_; clear n0_ n1_; (try clear hb); (try clear hb2); (try clear hk); (try clear hi); have hcz113_0 : w112.cell? ⟨gb279, 0, none⟩ = some (.slice A0_0 l0_0.length c0_0) := (blk_cell BK279.out 0).trans rfl; have hcz113_1 : w112.cell? ⟨gb279, 1, none⟩ = some (.slice A0_1 l0_1.length c0_1) := (blk_cell BK279.out 1).trans rfl; have hfz113_0 := blk_frozen BK279.out 0; have hfz113_1 := blk_frozen BK279.out 1) | ((with_reducible refine gate_callee (f := 14) rfl ?_); refine goesL_ (some 21) rfl rfl Try.func14 t8_ rfl #[.agg #[.slice A0_0 l0_0.length c0_0, .slice A0_1 l0_1.length c0_1]] rfl t2_ ?_; (with_reducible refine (laws_toNetwork.calls k _ _ l0_0 _ _ l0_1 t282 t285 _ ?side1 ?side2 ?side3 ?side4 A14.out).mono ?_); (case side1 => repeat (first | exact (Kd.C_below HR0_0.out HB.out) | (with_reducible refine Kd.C_alloc ?_ _) | (with_reducible refine Kd.C_drewN ?_ _) | (with_reducible refine Kd.C_drew ?_))); (case side2 => exact HC0_0.out); (case side3 => repeat (first | exact (Kd.C_below HR0_1.out HB.out) | (with_reducible refine Kd.C_alloc ?_ _) | (with_reducible refine Kd.C_drewN ?_ _) | (with_reducible refine Kd.C_drew ?_))); (case side4 => exact HC0_1.out); rintro e w114 ⟨v283, v286, rfl, ho0, ho1, hb⟩; refine ⟨_, rfl, ?_⟩; have n0_ := Aside0.mk (Kd.R_lower ho0 (below_size t4_)); have n1_ := Aside0.mk (Kd.R_lower ho1 (below_size t4_)); have n2_ := Aside0.mk (blk_below (g := gb279) (o := .cells #[.slice A0_0 l0_0.length c0_0, .slice A0_1 l0_1.length c0_1] 25 (0, 0)) (q1_ BK279.out) hb); have n3_ := Aside0.mk (below_step t4_ hb); clear BK279; clear HB; have HO284 := n0_; have HO287 := n1_; have BK279 := n2_; have HB := n3_; clear n0_ n1_ n2_ n3_; (try clear hb); (try clear hb2); (try clear hk); (try clear hi); (try clear ho0); (try clear ho1)) | ((with_reducible refine gate_callee (f := 15) rfl ?_); refine goesL_ (some 23) rfl rfl Try.func15 t8_ rfl #[.slice A1 l1.length c1] rfl t2_ ?_; (with_reducible refine (laws_toValveS.calls k _ _ l1 t288 _ ?side1 ?side2 A15.out).mono ?_); (case side1 => repeat (first | exact (Kd.C_below HR1.out HB.out) | (with_reducible refine Kd.C_alloc ?_ _) | (with_reducible refine Kd.C_drewN ?_ _) | (with_reducible refine Kd.C_drew ?_))); (case side2 => exact HC1.out); rintro e w115 ⟨v289, rfl, ho0, hb⟩; refine ⟨_, rfl, ?_⟩; have n0_ := Aside0.mk (Kd.R_below (q2_ HO284.out) hb); have n1_ := Aside0.mk (Kd.R_below (q2_ HO287.out) hb); have n2_ := Aside0.mk (Kd.R_lower ho0 (below_size t4_)); have n3_ := Aside0.mk (blk_below (g := gb279) (o := .cells #[.slice A0_0 l0_0.length c0_0, .slice A0_1 l0_1.length c0_1] 25 (0, 0)) (q1_ BK279.out) hb); have n4_ := Aside0.mk (below_step t4_ hb); clear HO284; clear HO287; clear BK279; clear HB; have HO284 := n0_; have HO287 := n1_; have HO290 := n2_; have BK279 := n3_; have HB := n4_; clear n0_ n1_ n2_ n3_ n4_; (try clear hb); (try clear hb2); (try clear hk); (try clear hi); (try clear ho0); obtain ⟨Ao116, co116, eo116⟩ := Kd.R_slice HO284.out; subst eo116; obtain ⟨Ao117, co117, eo117⟩ := Kd.R_slice HO287.out; subst eo117; obtain ⟨Ao118, co118, eo118⟩ := Kd.R_slice HO290.out; subst eo118) | ((with_reducible refine gate_callee (f := 13) rfl ?_); refine goesL_ (some 24) rfl rfl Try.func13 t8_ rfl #[.agg #[.slice Ao116 t282.length co116, .slice Ao117 t285.length co117], .slice Ao118 t288.length co118] rfl t2_ ?_; (with_reducible refine (spec_ValidValves.calls k _ _ t282 _ _ t285 _ _ t288 t291 _ ?side1 ?side2 ?side3 ?side4 ?side5 ?side6 A16.out).mono ?_); (case side1 => repeat (first | exact (Kd.R_reads' HO284.out).2.2 | (with_reducible refine Kd.C_alloc ?_ _) | (with_reducible refine Kd.C_drewN ?_ _) | (with_reducible refine Kd.C_drew ?_))); (case side2 => exact (Kd.R_reads' HO284.out).2.1); (case side3 => repeat (first | exact (Kd.R_reads' HO287.out).2.2 | (with_reducible refine Kd.C_alloc ?_ _) | (with_reducible refine Kd.C_drewN ?_ _) | (with_reducible refine Kd.C_drew ?_))); (case side4 => exact (Kd.R_reads' HO287.out).2.1); (case side5 => repeat (first | exact (Kd.R_reads' HO290.out).2.2 | (with_reducible refine Kd.C_alloc ?_ _) | (with_reducible refine Kd.C_drewN ?_ _) | (with_reducible refine Kd.C_drew ?_))); (case side6 => exact (Kd.R_reads' HO290.out).2.1); rintro e w119 ⟨rfl, hb⟩; refine ⟨_, rfl, ?_⟩; have n0_ := Aside0.mk (Kd.R_below (q2_ HO284.out) hb); have n1_ := Aside0.mk (Kd.R_below (q2_ HO287.out) hb); have n2_ := Aside0.mk (Kd.R_below (q2_ HO290.out) hb); have n3_ := Aside0.mk (blk_below (g := gb279) (o := .cells #[.slice A0_0 l0_0.length c0_0, .slice A0_1 l0_1.length c0_1] 25 (0, 0)) (q1_ BK279.out) hb); have n4_ := Aside0.mk (below_step t4_ hb); clear HO284; clear HO287; clear HO290; clear BK279; clear HB; have HO284 := n0_; have HO287 := n1_; have HO290 := n2_; have BK279 := n3_; have HB := n4_; clear n0_ n1_ n2_ n3_ n4_; (try clear hb); (try clear hb2); (try clear hk); (try clear hi); have hcz120_0 : w119.cell? ⟨gb279, 0, none⟩ = some (.slice A0_0 l0_0.length c0_0) := (blk_cell BK279.out 0).trans rfl; have hcz120_1 : w119.cell? ⟨gb279, 1, none⟩ = some (.slice A0_1 l0_1.length c0_1) := (blk_cell BK279.out 1).trans rfl; have hfz120_0 := blk_frozen BK279.out 0; have hfz120_1 := blk_frozen BK279.out 1) | ((with_reducible refine gate_callee (f := 14) rfl ?_); refine goesL_ (some 26) rfl rfl Try.func14 t8_ rfl #[.agg #[.slice A0_0 l0_0.length c0_0, .slice A0_1 l0_1.length c0_1]] rfl t2_ ?_; (with_reducible refine (laws_toNetwork.calls k _ _ l0_0 _ _ l0_1 t292 t295 _ ?side1 ?side2 ?side3 ?side4 A17.out).mono ?_); (case side1 => repeat (first | exact (Kd.C_below HR0_0.out HB.out) | (with_reducible refine Kd.C_alloc ?_ _) | (with_reducible refine Kd.C_drewN ?_ _) | (with_reducible refine Kd.C_drew ?_))); (case side2 => exact HC0_0.out); (case side3 => repeat (first | exact (Kd.C_below HR0_1.out HB.out) | (with_reducible refine Kd.C_alloc ?_ _) | (with_reducible refine Kd.C_drewN ?_ _) | (with_reducible refine Kd.C_drew ?_))); (case side4 => exact HC0_1.out); rintro e w121 ⟨v293, v296, rfl, ho0, ho1, hb⟩; refine ⟨_, rfl, ?_⟩; have n0_ := Aside0.mk (Kd.R_elder' (q2_ HO284.out) (Kd.R_base ho0) hb); have n1_ := Aside0.mk (Kd.R_elder' (q2_ HO287.out) (Kd.R_base ho1) hb); have n2_ := Aside0.mk (Kd.R_below (q2_ HO290.out) hb); have n3_ := Aside0.mk (Kd.R_lower (Kd.R_new' ho0 (Kd.R_lt (q2_ HO284.out))) (below_size t4_)); have n4_ := Aside0.mk (Kd.R_lower (Kd.R_new' ho1 (Kd.R_lt (q2_ HO287.out))) (below_size t4_)); have n5_ := Aside0.mk (blk_below (g := gb279) (o := .cells #[.slice A0_0 l0_0.length c0_0, .slice A0_1 l0_1.length c0_1] 25 (0, 0)) (q1_ BK279.out) hb); have n6_ := Aside0.mk (below_step t4_ hb); clear HO284; clear HO287; clear HO290; clear BK279; clear HB; have HO284 := n0_; have HO287 := n1_; have HO290 := n2_; have HO294 := n3_; have HO297 := n4_; have BK279 := n5_; have HB := n6_; clear n0_ n1_ n2_ n3_ n4_ n5_ n6_; (try clear hb); (try clear hb2); (try clear hk); (try clear hi); (try clear ho0); (try clear ho1)) | ((with_reducible refine gate_dst (N := 7) rfl ?_); refine box_event ?hg (N := 7) ?hd (cs := #[.slice none 0 0, .slice none 0 0]) (t := 32) ?hr ?_; (case hd => rfl); (case hg => rfl); (case hr => first | (go_simp; done) | (go_simp; rfl)); intro gb298 hg w122 hbox hb; have n0_ := Aside0.mk (Kd.R_below (q2_ HO284.out) hb); have n1_ := Aside0.mk (Kd.R_below (q2_ HO287.out) hb); have n2_ := Aside0.mk (Kd.R_below (q2_ HO290.out) hb); have n3_ := Aside0.mk (Kd.R_below (q2_ HO294.out) hb); have n4_ := Aside0.mk (Kd.R_below (q2_ HO297.out) hb); have n5_ := Aside0.mk (blk_below (g := gb279) (o := .cells #[.slice A0_0 l0_0.length c0_0, .slice A0_1 l0_1.length c0_1] 25 (0, 0)) (q1_ BK279.out) hb); have n6_ := Aside0.mk (below_step t4_ hb); have n7_ := Aside0.mk (hbox); have n8_ := Aside0.mk ((by rw [hg]; exact (below_size t4_) : w.heap.size ≤ gb298)); have n9_ := Aside0.mk ((by rw [hg]; exact (below_size t4_) : w.heap.size ≤ gb298)); have n10_ := Aside0.mk ((by rw [hg]; exact Nat.ne_of_lt (blk_lt (g := gb279) (o := .cells #[.slice A0_0 l0_0.length c0_0, .slice A0_1 l0_1.length c0_1] 25 (0, 0)) (q1_ BK279.out)) : gb279 ≠ gb298)); have n11_ := Aside0.mk ((by rw [hg]; exact Nat.ne_of_gt (blk_lt (g := gb279) (o := .cells #[.slice A0_0 l0_0.length c0_0, .slice A0_1 l0_1.length c0_1] 25 (0, 0)) (q1_ BK279.out)) : gb298 ≠ gb279)); clear HO284; clear HO287; clear HO290; clear HO294; clear HO297; clear BK279; clear HB; have HO284 := n0_; have HO287 := n1_; have HO290 := n2_; have HO294 := n3_; have HO297 := n4_; have BK279 := n5_; have HB := n6_; have BK298 := n7_; have GW298 := n8_; have GE298 := n9_; have NB279_298 := n10_; have NB298_279 := n11_; clear n0_ n1_ n2_ n3_ n4_ n5_ n6_ n7_ n8_ n9_ n10_ n11_; clear hb hbox hg; obtain ⟨Ao123, co123, eo123⟩ := Kd.R_slice HO294.out; subst eo123; have hnb124 := NB298_279.out; have hnc124 := NB279_298.out; have hcz125_0 : w122.cell? ⟨gb298, 0, none⟩ = some (.slice none 0 0) := (blk_cell BK298.out 0).trans rfl; have hcz125_1 : w122.cell? ⟨gb298, 1, none⟩ = some (.slice none 0 0) := (blk_cell BK298.out 1).trans rfl; have hfz125_0 := blk_frozen BK298.out 0; have hfz125_1 := blk_frozen BK298.out 1; obtain ⟨Ao126, co126, eo126⟩ := Kd.R_slice HO297.out; subst eo126) | ((with_reducible refine gate_callee (f := 15) rfl ?_); refine goesL_ (some 28) rfl rfl Try.func15 t8_ rfl #[.slice A1 l1.length c1] rfl t2_ ?_; (with_reducible refine (laws_toValveS.calls k _ _ l1 t299 _ ?side1 ?side2 A18.out).mono ?_); (case side1 => exact Kd.C_below HR1.out t5_); (case side2 => exact HC1.out); rintro e w127 ⟨v300, rfl, ho0, hb⟩; refine ⟨_, rfl, ?_⟩; have n0_ := Aside0.mk (Kd.R_below (by (with_reducible repeat (first | apply Kd.R_alloc | apply Kd.R_drewN | apply Kd.R_drew)); exact (Kd.R_mono (Kd.R_far (p := ⟨gb298, 1, none⟩) (Kd.R_far (p := ⟨gb298, 0, none⟩) (Kd.R_types HO284.out BK298.out t20_) (fun _ hk => hk.2) (.slice Ao123 t292.length co123)) (fun _ hk => hk.2) (.slice Ao126 t295.length co126)) (fun _ h_ => h_.1))) hb); have n1_ := Aside0.mk (Kd.R_below (by (with_reducible repeat (first | apply Kd.R_alloc | apply Kd.R_drewN | apply Kd.R_drew)); exact (Kd.R_mono (Kd.R_far (p := ⟨gb298, 1, none⟩) (Kd.R_far (p := ⟨gb298, 0, none⟩) (Kd.R_types HO287.out BK298.out t20_) (fun _ hk => hk.2) (.slice Ao123 t292.length co123)) (fun _ hk => hk.2) (.slice Ao126 t295.length co126)) (fun _ h_ => h_.1))) hb); have n2_ := Aside0.mk (Kd.R_elder' t27_ (Kd.R_base ho0) hb); have n3_ := Aside0.mk (Kd.R_below (by (with_reducible repeat (first | apply Kd.R_alloc | apply Kd.R_drewN | apply Kd.R_drew)); exact (Kd.R_mono (Kd.R_far (p := ⟨gb298, 1, none⟩) (Kd.R_far (p := ⟨gb298, 0, none⟩) (Kd.R_types HO294.out BK298.out t20_) (fun _ hk => hk.2) (.slice Ao123 t292.length co123)) (fun _ hk => hk.2) (.slice Ao126 t295.length co126)) (fun _ h_ => h_.1))) hb); have n4_ := Aside0.mk (Kd.R_below (by (with_reducible repeat (first | apply Kd.R_alloc | apply Kd.R_drewN | apply Kd.R_drew)); exact (Kd.R_mono (Kd.R_far (p := ⟨gb298, 1, none⟩) (Kd.R_far (p := ⟨gb298, 0, none⟩) (Kd.R_types HO297.out BK298.out t20_) (fun _ hk => hk.2) (.slice Ao123 t292.length co123)) (fun _ hk => hk.2) (.slice Ao126 t295.length co126)) (fun _ h_ => h_.1))) hb); have n5_ := Aside0.mk (Kd.R_lower (Kd.R_new' ho0 (Kd.R_lt t27_)) (below_size t5_)); have n6_ := Aside0.mk (blk_below (g := gb279) (o := .cells #[.slice A0_0 l0_0.length c0_0, .slice A0_1 l0_1.length c0_1] 25 (0, 0)) t15_ hb); have n7_ := Aside0.mk (blk_below (g := gb298) (o := .cells #[.slice Ao123 t292.length co123, .slice Ao126 t295.length co126] 32 (0, 0)) (by (with_reducible repeat (first | refine blk_drewN ?_ _ | refine blk_drew ?_ | refine blk_alloc ?_ _)); refine blk_put (cs := #[.slice Ao123 t292.length co123, .slice none 0 0]) ?_ 1 _ rfl; (with_reducible repeat (first | refine blk_drewN ?_ _ | refine blk_drew ?_ | refine blk_alloc ?_ _)); refine blk_put (cs := #[.slice none 0 0, .slice none 0 0]) ?_ 0 _ rfl; (with_reducible repeat (first | refine blk_drewN ?_ _ | refine blk_drew ?_ | refine blk_alloc ?_ _)); exact BK298.out) hb); have n8_ := Aside0.mk (below_step t5_ hb); clear HO284; clear HO287; clear HO290; clear HO294; clear HO297; clear BK279; clear BK298; clear HB; have HO284 := n0_; have HO287 := n1_; have HO290 := n2_; have HO294 := n3_; have HO297 := n4_; have HO301 := n5_; have BK279 := n6_; have BK298 := n7_; have HB := n8_; clear n0_ n1_ n2_ n3_ n4_ n5_ n6_ n7_ n8_; (try clear hb); (try clear hb2); (try clear hk); (try clear hi); (try clear ho0); have hcz128_0 : w127.cell? ⟨gb298, 0, none⟩ = some (.slice Ao123 t292.length co123) := (blk_cell BK298.out 0).trans rfl; have hcz128_1 : w127.cell? ⟨gb298, 1, none⟩ = some (.slice Ao126 t295.length co126) := (blk_cell BK298.out 1).trans rfl; have hfz128_0 := blk_frozen BK298.out 0; have hfz128_1 := blk_frozen BK298.out 1; obtain ⟨Ao129, co129, eo129⟩ := Kd.R_slice HO301.out; subst eo129) | ((with_reducible refine gate_callee (f := 16) rfl ?_); refine goesL_ (some 31) rfl rfl Try.func16 t8_ rfl #[.agg #[.slice Ao123 t292.length co123, .slice Ao126 t295.length co126], .slice Ao129 t299.length co129] rfl t2_ ?_; (with_reducible refine (impl_ValidValves.calls k _ _ t292 _ _ t295 _ _ t299 t302 _ ?side1 ?side2 ?side3 ?side4 ?side5 ?side6 A19.out).mono ?_); (case side1 => repeat (first | exact (Kd.R_reads' HO294.out).2.2 | (with_reducible refine Kd.C_alloc ?_ _) | (with_reducible refine Kd.C_drewN ?_ _) | (with_reducible refine Kd.C_drew ?_))); (case side2 => exact (Kd.R_reads' HO294.out).2.1); (case side3 => repeat (first | exact (Kd.R_reads' HO297.out).2.2 | (with_reducible refine Kd.C_alloc ?_ _) | (with_reducible refine Kd.C_drewN ?_ _) | (with_reducible refine Kd.C_drew ?_))); (case side4 => exact (Kd.R_reads' HO297.out).2.1); (case side5 => repeat (first | exact (Kd.R_reads' HO301.out).2.2 | (with_reducible refine Kd.C_alloc ?_ _) | (with_reducible refine Kd.C_drewN ?_ _) | (with_reducible refine Kd.C_drew ?_))); (case side6 => exact (Kd.R_reads' HO301.out).2.1); rintro e w130 ⟨rfl, hb⟩; refine ⟨_, rfl, ?_⟩; have n0_ := Aside0.mk (Kd.R_below (q2_ HO284.out) hb); have n1_ := Aside0.mk (Kd.R_below (q2_ HO287.out) hb); have n2_ := Aside0.mk (Kd.R_below (q2_ HO290.out) hb); have n3_ := Aside0.mk (Kd.R_below (q2_ HO294.out) hb); have n4_ := Aside0.mk (Kd.R_below (q2_ HO297.out) hb); have n5_ := Aside0.mk (Kd.R_below (q2_ HO301.out) hb); have n6_ := Aside0.mk (blk_below (g := gb279) (o := .cells #[.slice A0_0 l0_0.length c0_0, .slice A0_1 l0_1.length c0_1] 25 (0, 0)) (q1_ BK279.out) hb); have n7_ := Aside0.mk (blk_below (g := gb298) (o := .cells #[.slice Ao123 t292.length co123, .slice Ao126 t295.length co126] 32 (0, 0)) (q1_ BK298.out) hb); have n8_ := Aside0.mk (below_step t5_ hb); clear HO284; clear HO287; clear HO290; clear HO294; clear HO297; clear HO301; clear BK279; clear BK298; clear HB; have HO284 := n0_; have HO287 := n1_; have HO290 := n2_; have HO294 := n3_; have HO297 := n4_; have HO301 := n5_; have BK279 := n6_; have BK298 := n7_; have HB := n8_; clear n0_ n1_ n2_ n3_ n4_ n5_ n6_ n7_ n8_; (try clear hb); (try clear hb2); (try clear hk); (try clear hi)))
     have n0_ := Aside0.mk (Kd.R_drew HO284.out)
     have n1_ := Aside0.mk (Kd.R_drew HO287.out)
     have n2_ := Aside0.mk (Kd.R_drew HO290.out)
     have n3_ := Aside0.mk (Kd.R_drew HO294.out)
     have n4_ := Aside0.mk (Kd.R_drew HO297.out)
     have n5_ := Aside0.mk (Kd.R_drew HO301.out)
     have n6_ := Aside0.mk (blk_drew BK279.out)
     have n7_ := Aside0.mk (blk_drew BK298.out)
     have n8_ := Aside0.mk (below_drew1 HB.out)
     clear HO284
     clear HO287
     clear HO290
     clear HO294
     clear HO297
     clear HO301
     clear BK279
     clear BK298
     clear HB
     have HO284 := n0_
     have HO287 := n1_
     have HO290 := n2_
     have HO294 := n3_
     have HO297 := n4_
     have HO301 := n5_
     have BK279 := n6_
     have BK298 := n7_
     have HB := n8_
     clear n0_ n1_ n2_ n3_ n4_ n5_ n6_ n7_ n8_
     refine start_ (n := 5) (S := fun w' => w'.cell? ⟨gb298, 0, none⟩ = some (.slice Ao123 t292.length co123) ∧ w'.cell? ⟨gb298, 1, none⟩ = some (.slice Ao126 t295.length co126) ∧ w'.cell? ⟨gb279, 0, none⟩ = some (.slice A0_0 l0_0.length c0_0) ∧ w'.cell? ⟨gb279, 1, none⟩ = some (.slice A0_1 l0_1.length c0_1)) (ds := []) #[false, false, false, false, false] t8_ rfl rfl ⟨(blk_cell BK298.out 0).trans rfl, (blk_cell BK298.out 1).trans rfl, (blk_cell BK279.out 0).trans rfl, (blk_cell BK279.out 1).trans rfl⟩ (fun hHeld => ?_)
     generalize w130.drew = w131 at HO284 HO287 HO290 HO294 HO297 HO301 BK279 BK298 HB hHeld ⊢
     refine take_ (i := 0) (N := some 35) (v := ?_) (a' := ?_) #[true, false, false, false, false] rfl rfl t8_ (fun _ _ _ h => h) (Or.inl ⟨by rfl, ?_⟩) hHeld ?_ ?_
     rotate_left
     ·rintro w' ⟨s0, s1, s2, s3⟩
      go_simp
      with_reducible rfl
     rotate_left; (· simp only [Act.put, List.setIfInBounds_toArray, List.set_cons_zero, List.set_cons_succ, i64_w, i32_w]; rfl)
     refine take_ (i := 1) (N := some 36) (v := ?_) (a' := ?_) #[true, true, false, false, false] rfl rfl t8_ (fun _ _ _ h => h) (Or.inl ⟨by rfl, ?_⟩) hHeld ?_ ?_
     rotate_left
     ·rintro w' ⟨s0, s1, s2, s3⟩
      go_simp
      with_reducible rfl
     rotate_left; (· simp only [Act.put, List.setIfInBounds_toArray, List.set_cons_zero, List.set_cons_succ, i64_w, i32_w]; rfl)
     refine one_ (i := 2) (N := some 37) #[true, true, true, false, false] rfl rfl t8_ t20_ (fun K hK => ?_)
     refine goes_ Try.func14 t8_ rfl #[.agg #[.slice A0_0 l0_0.length c0_0, .slice A0_1 l0_1.length c0_1]] t37_ rfl rfl t2_ ?_
     with_reducible refine (laws_toNetwork.calls k _ _ l0_0 _ _ l0_1 t303 t306 _ ?side1 ?side2 ?side3 ?side4 A43.out).mono ?_
     (case side1 => repeat (first | exact (Kd.C_below HR0_0.out HB.out) | (with_reducible refine Kd.C_alloc ?_ _) | (with_reducible refine Kd.C_drewN ?_ _) | (with_reducible refine Kd.C_drew ?_)))
     (case side2 => exact HC0_0.out)
     (case side3 => repeat (first | exact (Kd.C_below HR0_1.out HB.out) | (with_reducible refine Kd.C_alloc ?_ _) | (with_reducible refine Kd.C_drewN ?_ _) | (with_reducible refine Kd.C_drew ?_)))
     (case side4 => exact HC0_1.out)
     rintro e w132 ⟨v304, v307, rfl, ho0, ho1, hb⟩
     refine ⟨_, rfl, ?_⟩
     have n0_ := Aside0.mk (Kd.R_elder' (q2_ HO284.out) (Kd.R_base ho0) hb)
     have n1_ := Aside0.mk (Kd.R_elder' (q2_ HO287.out) (Kd.R_base ho1) hb)
     have n2_ := Aside0.mk (Kd.R_below (q2_ HO290.out) hb)
     have n3_ := Aside0.mk (Kd.R_elder' (q2_ HO294.out) (Kd.R_base ho0) hb)
     have n4_ := Aside0.mk (Kd.R_elder' (q2_ HO297.out) (Kd.R_base ho1) hb)
     have n5_ := Aside0.mk (Kd.R_below (q2_ HO301.out) hb)
     have n6_ := Aside0.mk (Kd.R_lower (Kd.R_new' (Kd.R_new' ho0 (Kd.R_lt (q2_ HO284.out))) (Kd.R_lt (q2_ HO294.out))) (below_size t5_))
     have n7_ := Aside0.mk (Kd.R_lower (Kd.R_new' (Kd.R_new' ho1 (Kd.R_lt (q2_ HO287.out))) (Kd.R_lt (q2_ HO297.out))) (below_size t5_))
     have n8_ := Aside0.mk (blk_below (g := gb279) (o := .cells #[.slice A0_0 l0_0.length c0_0, .slice A0_1 l0_1.length c0_1] 25 (0, 0)) (q1_ BK279.out) hb)
     have n9_ := Aside0.mk (blk_below (g := gb298) (o := .cells #[.slice Ao123 t292.length co123, .slice Ao126 t295.length co126] 32 (0, 0)) (q1_ BK298.out) hb)
     have n10_ := Aside0.mk (below_step t5_ hb)
     clear HO284
     clear HO287
     clear HO290
     clear HO294
     clear HO297
     clear HO301
     clear BK279
     clear BK298
     clear HB
     have HO284 := n0_
     have HO287 := n1_
     have HO290 := n2_
     have HO294 := n3_
     have HO297 := n4_
     have HO301 := n5_
     have HO305 := n6_
     have HO308 := n7_
     have BK279 := n8_
     have BK298 := n9_
     have HB := n10_
     clear n0_ n1_ n2_ n3_ n4_ n5_ n6_ n7_ n8_ n9_ n10_
     (try clear hb)
     (try clear hb2)
     (try clear hk)
     (try clear hi)
     (try clear ho0)
     (try clear ho1)
     obtain ⟨Ao133, co133, eo133⟩ := Kd.R_slice HO305.out
     (first | subst eo133 | (injection eo133 with f1_ f2_ f3_; have f4_ := f1_.symm; have f5_ := f3_.symm; clear f1_ f2_ f3_; subst f4_; subst f5_))
     obtain ⟨Ao134, co134, eo134⟩ := Kd.R_slice HO308.out
     (first | subst eo134 | (injection eo134 with f1_ f2_ f3_; have f4_ := f1_.symm; have f5_ := f3_.symm; clear f1_ f2_ f3_; subst f4_; subst f5_))
     refine hK.out _ _ ⟨(blk_cell BK298.out 0).trans rfl, (blk_cell BK298.out 1).trans rfl, (blk_cell BK279.out 0).trans rfl, (blk_cell BK279.out 1).trans rfl⟩ (fun hHeld => ?_)
     clear hK K
     refine norm_ (a' := ?_) ?_ ?_
     rotate_left
     ·show Act.put _ (some 37) _ = _
      simp only [Act.put, List.setIfInBounds_toArray, List.set_cons_zero, List.set_cons_succ, i64_w, i32_w]
      rfl
     refine one_ (i := 3) (N := some 38) #[true, true, true, true, false] rfl rfl t8_ t20_ (fun K hK => ?_)
     refine goes_ Try.func17 t8_ rfl #[.agg #[.slice Ao123 t292.length co123, .slice Ao126 t295.length co126], .agg #[.slice Ao133 t303.length co133, .slice Ao134 t306.length co134]] t37_ rfl rfl t2_ ?_
     with_reducible refine (laws_eqNetwork.calls k _ _ t292 _ _ t295 _ _ t303 _ _ t306 false _ ?side1 ?side2 ?side3 ?side4 ?side5 ?side6 ?side7 ?side8 A44.out).mono ?_
     (case side1 => repeat (first | exact (Kd.R_reads' HO294.out).2.2 | (with_reducible refine Kd.C_alloc ?_ _) | (with_reducible refine Kd.C_drewN ?_ _) | (with_reducible refine Kd.C_drew ?_)))
     (case side2 => exact (Kd.R_reads' HO294.out).2.1)
     (case side3 => repeat (first | exact (Kd.R_reads' HO297.out).2.2 | (with_reducible refine Kd.C_alloc ?_ _) | (with_reducible refine Kd.C_drewN ?_ _) | (with_reducible refine Kd.C_drew ?_)))
     (case side4 => exact (Kd.R_reads' HO297.out).2.1)
     (case side5 => repeat (first | exact (Kd.R_reads' HO305.out).2.2 | (with_reducible refine Kd.C_alloc ?_ _) | (with_reducible refine Kd.C_drewN ?_ _) | (with_reducible refine Kd.C_drew ?_)))
     (case side6 => exact (Kd.R_reads' HO305.out).2.1)
     (case side7 => repeat (first | exact (Kd.R_reads' HO308.out).2.2 | (with_reducible refine Kd.C_alloc ?_ _) | (with_reducible refine Kd.C_drewN ?_ _) | (with_reducible refine Kd.C_drew ?_)))
     (case side8 => exact (Kd.R_reads' HO308.out).2.1)
     rintro e w135 ⟨rfl, hb⟩
     refine ⟨_, rfl, ?_⟩
     have n0_ := Aside0.mk (Kd.R_below (q2_ HO284.out) hb)
     have n1_ := Aside0.mk (Kd.R_below (q2_ HO287.out) hb)
     have n2_ := Aside0.mk (Kd.R_below (q2_ HO290.out) hb)
     have n3_ := Aside0.mk (Kd.R_below (q2_ HO294.out) hb)
     have n4_ := Aside0.mk (Kd.R_below (q2_ HO297.out) hb)
     have n5_ := Aside0.mk (Kd.R_below (q2_ HO301.out) hb)
     have n6_ := Aside0.mk (Kd.R_below (q2_ HO305.out) hb)
     have n7_ := Aside0.mk (Kd.R_below (q2_ HO308.out) hb)
     have n8_ := Aside0.mk (blk_below (g := gb279) (o := .cells #[.slice A0_0 l0_0.length c0_0, .slice A0_1 l0_1.length c0_1] 25 (0, 0)) (q1_ BK279.out) hb)
     have n9_ := Aside0.mk (blk_below (g := gb298) (o := .cells #[.slice Ao123 t292.length co123, .slice Ao126 t295.length co126] 32 (0, 0)) (q1_ BK298.out) hb)
     have n10_ := Aside0.mk (below_step t5_ hb)
     clear HO284
     clear HO287
     clear HO290
     clear HO294
     clear HO297
     clear HO301
     clear HO305
     clear HO308
     clear BK279
     clear BK298
     clear HB
     have HO284 := n0_
     have HO287 := n1_
     have HO290 := n2_
     have HO294 := n3_
     have HO297 := n4_
     have HO301 := n5_
     have HO305 := n6_
     have HO308 := n7_
     have BK279 := n8_
     have BK298 := n9_
     have HB := n10_
     clear n0_ n1_ n2_ n3_ n4_ n5_ n6_ n7_ n8_ n9_ n10_
     (try clear hb)
     (try clear hb2)
     (try clear hk)
     (try clear hi)
     refine hK.out _ _ ⟨(blk_cell BK298.out 0).trans rfl, (blk_cell BK298.out 1).trans rfl, (blk_cell BK279.out 0).trans rfl, (blk_cell BK279.out 1).trans rfl⟩ (fun hHeld => ?_)
     clear hK K
     refine norm_ (a' := ?_) ?_ ?_
     rotate_left
     ·show Act.put _ (some 38) _ = _
      simp only [Act.put, List.setIfInBounds_toArray, List.set_cons_zero, List.set_cons_succ, i64_w, i32_w]
      rfl
     refine pure_ (i := 4) (N := some 39) (v := ?_) (a' := ?_) #[true, true, true, true, true] rfl rfl t8_ (fun _ _ _ h => h) (Or.inl ⟨by rfl, ?_⟩) ?_ ?_
     rotate_left; (· intro w'; go_simp; with_reducible rfl); rotate_left; (· simp only [Act.put, List.setIfInBounds_toArray, List.set_cons_zero, List.set_cons_succ, i64_w, i32_w]; rfl)
     refine done_ t8_ ?_
     try go_wp2
     go_ret
     exact ⟨by first | rfl | (rw [Int.tdiv_eq_ediv_of_nonneg t12_]; rfl) | (simp [errW_none, errW_some] <;> rfl) | (simp [*, errW_none, errW_some] <;> rfl), by repeat (first | (with_reducible first | exact HB.out | apply below_alloc | apply pw_below_drewN | apply below_drew1 | refine below_set ?_ GE279.out | refine below_set ?_ GE298.out) | exact HB.out)⟩

/-- What is known of values that were read. -/
def wfIi64 (x : Int) : Prop := (Lit.int .i64 x).wf = true
def wfLIi64 (x : List Int) : Prop := x.length ≤ 9223372036854775807 ∧ ∀ x_ ∈ x, wfIi64 x_
def wfZ (x : ByteArray) : Prop := x.size ≤ maxLen
def wfT99 (x : S99) : Prop := x.f0.size ≤ maxLen ∧ (Lit.int .i64 x.f1).wf = true ∧ (Lit.int .i64 x.f2).wf = true ∧ (Lit.int .i64 x.f3).wf = true ∧ (Lit.int .i64 x.f4).wf = true ∧ (Lit.int .i64 x.f5).wf = true
def wfLT99 (x : List (S99)) : Prop := x.length ≤ 9223372036854775807 ∧ ∀ x_ ∈ x, wfT99 x_
def wfT25 (x : S25) : Prop := wfLIi64 x.f0 ∧ wfLT99 x.f1
def wfB (x : Bool) : Prop := True
def wfT60 (x : S60) : Prop := x.f0.size ≤ maxLen ∧ x.f1.size ≤ maxLen ∧ True
def wfLT60 (x : List (S60)) : Prop := x.length ≤ 9223372036854775807 ∧ ∀ x_ ∈ x, wfT60 x_

/-- THE ONE PURE STATEMENT of laws_FnExactValidValves. -/
def laws_FnExactValidValves.Pure : Prop := ∀ (x0 : S25) (x1 : List (S60)), wfT25 x0 → wfLT60 x1 → ∃ k, laws_FnExactValidValves.f k x0.f0 x0.f1 x1 = some true
theorem laws_FnExactValidValves.walk0 : True := trivial
theorem laws_FnExactValidValves.walk : True := trivial

end Go.Proofs.Ytjelfhmgbhidnaa.PFnExactValidValves
