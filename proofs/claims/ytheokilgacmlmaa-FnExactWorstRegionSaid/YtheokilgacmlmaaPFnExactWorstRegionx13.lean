-- written by wip/xprint.py, a program of this session, for this claim; not trusted: Lean checks it.
import Derived.Test.YtheokilgacmlmaaPFnExactWorstRegionx0
namespace Go.Proofs.Ytheokilgacmlmaa.PFnExactWorstRegion
open Go.RowKit Go.Proofs.YtheokilgacmlmaaW.PrintWords Go.Proofs.YtheokilgacmlmaaW.PrintLast Go.Proofs.YtheokilgacmlmaaW.PrintMore
attribute [local go_sem] leq_less_ max2_int min2_int max_two min_two max_three min_three max_four min_four   -- for this text's walks alone
set_option linter.unusedVariables false
set_option linter.unusedSimpArgs false

/-! ### impl_ValidValves_1: function 96 -/
def impl_ValidValves_1.f (a0_0 : ByteArray) (a0_1 : ByteArray) (a0_2 : Bool) (l1 : List (S51)) : Option (Bool) := if 0 < (l1.length : Int) then (if a0_1.toList = ((rd_T51 l1 0).f1).toList then (some (a0_2 == ((rd_T51 l1 0).f2))) else (some false)) else (none)
set_option maxHeartbeats 8000000 in
set_option maxRecDepth 100000 in
theorem impl_ValidValves_1.calls (a0_0 : ByteArray) (a0_1 : ByteArray) (a0_2 : Bool) (A1 : Option Addr) (c1 : Nat) (l1 : List (S51)) (r : Bool) (w : World) (hr1 : Kd.C k51 w A1 l1.length l1) (hc1 : l1.length ≤ c1) (h : impl_ValidValves_1.f a0_0 a0_1 a0_2 l1 = some r) :
  Calls Try.prog 96 #[.agg #[.string a0_0, .string a0_1, .bool a0_2], .pointer A1] w fun e w' => e = .returned (.bool r) ∧ Below w.heap.size w w' := by
 have hu51 := Try.underlying51; have HR1 := a_ hr1; have HC1 := a_ hc1; clear hr1 hc1; have HB := a_ (Below.refl w.heap.size w); have H : (if 0 < (l1.length : Int) then (if a0_1.toList = ((rd_T51 l1 0).f1).toList then (some (a0_2 == ((rd_T51 l1 0).f2))) else (some false)) else (none)) = some r := h; clear h; by_cases c3 : 0 < (l1.length : Int)
 ·rw [if_pos c3] at H; have c3b0 : decide (0 < (l1.length : Int)) = true := d1_ c3; have c3b1 : decide (0 < l1.length) = true := decide_eq_true t24_; clear c3; by_cases c4 : a0_1.toList = ((rd_T51 l1 0).f1).toList
  ·rw [if_pos c4] at H; have c4b0 : (a0_1.toList == ((rd_T51 l1 0).f1).toList) = true := b1_ c4; have c4b1 : (a0_1.toList != ((rd_T51 l1 0).f1).toList) = false := b4_ c4; clear c4; obtain rfl := Option.some.inj H; go_enter Try.func96, Try.ntmps96; go_wp2_with (first | ((with_reducible refine gate_dst (N := 2) rfl ?_); refine box_event ?hg (N := 2) ?hd (cs := #[.string a0_0, .string a0_1, .bool a0_2]) (t := 51) ?hr ?_; (case hd => rfl); (case hg => rfl); (case hr => first | (go_simp; done) | (go_simp; rfl)); intro gb289 hg w5 hbox hb; have n0_ := a_ (below_step t1_ hb); have n1_ := a_ (hbox); have n2_ := a_ ((by rw [hg]; exact (below_size t1_) : w.heap.size ≤ gb289)); have n3_ := a_ ((by rw [hg]; exact (below_size t1_) : w.heap.size ≤ gb289)); clear HB; have HB := n0_; have BK289 := n1_; have GW289 := n2_; have GE289 := n3_; clear n0_ n1_ n2_ n3_; clear hb hbox hg; have ⟨hcz6_0, hcz6_1, hcz6_2, hfz6_0, hfz6_1, hfz6_2⟩ := bc3_ BK289.out; have p290 : 0 ≤ (0 : Int) := t24_; have q290 : 0 < (l1.length : Int) := od_; obtain ⟨ad290, e290, hx290_0, hx290_1, hx290_2⟩ := at_T51 HR1.out 0 p290 q290; cases e290; have qi290 : (0 < l1.length) = True := eq_true t24_; (try rw [show ((0 : Int)).toNat = 0 from rfl] at hx290_0); (try rw [show 0 * 3 = 0 from rfl] at hx290_0); (try rw [Addr.add_zero'] at hx290_0); (try rw [show ((0 : Int)).toNat = 0 from rfl] at hx290_1); (try rw [show 0 * 3 = 0 from rfl] at hx290_1); (try rw [Addr.add_zero'] at hx290_1); (try rw [show ((0 : Int)).toNat = 0 from rfl] at hx290_2); (try rw [show 0 * 3 = 0 from rfl] at hx290_2); (try rw [Addr.add_zero'] at hx290_2); replace hx290_0 := (HB.out.cell (World.block_lt_of_cell? w _ hx290_0)).trans hx290_0; replace hx290_1 := (HB.out.cell (World.block_lt_of_cell? w _ hx290_1)).trans hx290_1; replace hx290_2 := (HB.out.cell (World.block_lt_of_cell? w _ hx290_2)).trans hx290_2; replace p290 := eq_true p290; replace q290 := eq_true q290; have p291 : 0 ≤ (0 : Int) := t24_; have q291 : 0 < (l1.length : Int) := od_; obtain ⟨ad291, e291, hx291_0, hx291_1, hx291_2⟩ := at_T51 HR1.out 0 p291 q291; obtain rfl : ad290 = ad291 := (by injection e291); have qi291 : (0 < l1.length) = True := eq_true t24_; (try rw [show ((0 : Int)).toNat = 0 from rfl] at hx291_0); (try rw [show 0 * 3 = 0 from rfl] at hx291_0); (try rw [Addr.add_zero'] at hx291_0); (try rw [show ((0 : Int)).toNat = 0 from rfl] at hx291_1); (try rw [show 0 * 3 = 0 from rfl] at hx291_1); (try rw [Addr.add_zero'] at hx291_1); (try rw [show ((0 : Int)).toNat = 0 from rfl] at hx291_2); (try rw [show 0 * 3 = 0 from rfl] at hx291_2); (try rw [Addr.add_zero'] at hx291_2); replace hx291_0 := (HB.out.cell (World.block_lt_of_cell? w _ hx291_0)).trans hx291_0; replace hx291_1 := (HB.out.cell (World.block_lt_of_cell? w _ hx291_1)).trans hx291_1; replace hx291_2 := (HB.out.cell (World.block_lt_of_cell? w _ hx291_2)).trans hx291_2; replace p291 := eq_true p291; replace q291 := eq_true q291)); go_ret
   exact ⟨t3_, (by repeat (first | (with_reducible first | exact HB.out | apply below_alloc | apply pw_below_drewN | apply below_drew1 | refine below_set ?_ GE289.out) | exact HB.out))⟩
  ·rw [if_neg c4] at H; have c4b0 : (a0_1.toList == ((rd_T51 l1 0).f1).toList) = false := b2_ c4; have c4b1 : (a0_1.toList != ((rd_T51 l1 0).f1).toList) = true := b3_ c4; obtain rfl := Option.some.inj H; go_enter Try.func96, Try.ntmps96; go_wp2_with (first | ((with_reducible refine gate_dst (N := 2) rfl ?_); refine box_event ?hg (N := 2) ?hd (cs := #[.string a0_0, .string a0_1, .bool a0_2]) (t := 51) ?hr ?_; (case hd => rfl); (case hg => rfl); (case hr => first | (go_simp; done) | (go_simp; rfl)); intro gb289 hg w7 hbox hb; have n0_ := a_ (below_step t1_ hb); have n1_ := a_ (hbox); have n2_ := a_ ((by rw [hg]; exact (below_size t1_) : w.heap.size ≤ gb289)); have n3_ := a_ ((by rw [hg]; exact (below_size t1_) : w.heap.size ≤ gb289)); clear HB; have HB := n0_; have BK289 := n1_; have GW289 := n2_; have GE289 := n3_; clear n0_ n1_ n2_ n3_; clear hb hbox hg; have ⟨hcz8_0, hcz8_1, hcz8_2, hfz8_0, hfz8_1, hfz8_2⟩ := bc3_ BK289.out; have p290 : 0 ≤ (0 : Int) := t24_; have q290 : 0 < (l1.length : Int) := od_; obtain ⟨ad290, e290, hx290_0, hx290_1, hx290_2⟩ := at_T51 HR1.out 0 p290 q290; cases e290; have qi290 : (0 < l1.length) = True := eq_true t24_; (try rw [show ((0 : Int)).toNat = 0 from rfl] at hx290_0); (try rw [show 0 * 3 = 0 from rfl] at hx290_0); (try rw [Addr.add_zero'] at hx290_0); (try rw [show ((0 : Int)).toNat = 0 from rfl] at hx290_1); (try rw [show 0 * 3 = 0 from rfl] at hx290_1); (try rw [Addr.add_zero'] at hx290_1); (try rw [show ((0 : Int)).toNat = 0 from rfl] at hx290_2); (try rw [show 0 * 3 = 0 from rfl] at hx290_2); (try rw [Addr.add_zero'] at hx290_2); replace hx290_0 := (HB.out.cell (World.block_lt_of_cell? w _ hx290_0)).trans hx290_0; replace hx290_1 := (HB.out.cell (World.block_lt_of_cell? w _ hx290_1)).trans hx290_1; replace hx290_2 := (HB.out.cell (World.block_lt_of_cell? w _ hx290_2)).trans hx290_2; replace p290 := eq_true p290; replace q290 := eq_true q290)); go_ret
   exact ⟨t3_, (by repeat (first | (with_reducible first | exact HB.out | apply below_alloc | apply pw_below_drewN | apply below_drew1 | refine below_set ?_ GE289.out) | exact HB.out))⟩
 ·rw [if_neg c3] at H; exact absurd H t57_

/-! ### impl_Valve_107_c96: function 107 -/
def impl_Valve_107_c96.l0 : Nat → List (S51) → Int → Int → List (S51) → Option (Int)
 | 0, _, _, _, _ => none
 | k + 1, x0, x7, x8, x910 => if x8 < x7 then (if 0 ≤ x8 then (if x8 < (x0.length : Int) then ((impl_ValidValves_1.f ((rd_T51 x0 x8).f0) ((rd_T51 x0 x8).f1) ((rd_T51 x0 x8).f2) x910).bind fun t304 => (if t304 = true then (some x8) else (impl_Valve_107_c96.l0 k x0 x7 (wrap64 (x8 + 1)) x910))) else (none)) else (none)) else (some (-1))
def impl_Valve_107_c96.f (k : Nat) (l0 : List (S51)) (l1_0 : List (S51)) : Option (Int) := impl_Valve_107_c96.l0 k l0 (l0.length : Int) 0 l1_0
theorem impl_Valve_107_c96.mono_l : ∀ k, (∀ y0 y1 y2 y3, LeO (impl_Valve_107_c96.l0 k y0 y1 y2 y3) (impl_Valve_107_c96.l0 (k + 1) y0 y1 y2 y3))
 | 0 => fun _ _ _ _ r h => by simp [impl_Valve_107_c96.l0] at h
 | k + 1 => by
  have ih0 := impl_Valve_107_c96.mono_l k
  ·intro y0 y1 y2 y3
   unfold impl_Valve_107_c96.l0
   repeat' first
   | (with_reducible exact ih0 _ _ _ _)
   | (with_reducible exact LeO.refl _)
   | (with_reducible exact LeO.none _)
   | (with_reducible refine LeO.ite ?_ ?_)
   | (with_reducible refine LeO.bind ?_ (fun _ => ?_))
theorem impl_Valve_107_c96.mono : ∀ a0 a1 k, LeO (impl_Valve_107_c96.f k a0 a1) (impl_Valve_107_c96.f (k + 1) a0 a1) := by
 intro a0 a1 k; have ih0 := impl_Valve_107_c96.mono_l k; unfold impl_Valve_107_c96.f
 repeat' first
   | (with_reducible exact ih0 _ _ _ _)
   | (with_reducible exact LeO.refl _)
   | (with_reducible exact LeO.none _)
   | (with_reducible refine LeO.ite ?_ ?_)
   | (with_reducible refine LeO.bind ?_ (fun _ => ?_))
set_option maxHeartbeats 8000000 in
set_option maxRecDepth 100000 in
theorem impl_Valve_107_c96.calls (k : Nat) (A0 : Option Addr) (c0 : Nat) (l0 : List (S51)) (A1_0 : Option Addr) (c1_0 : Nat) (l1_0 : List (S51)) (r : Int) (w : World) (hr0 : Kd.C k51 w A0 l0.length l0) (hc0 : l0.length ≤ c0) (hr1_0 : Kd.C k51 w A1_0 l1_0.length l1_0) (hc1_0 : l1_0.length ≤ c1_0) (h : impl_Valve_107_c96.f k l0 l1_0 = some r) :
  Calls Try.prog 107 #[.slice A0 l0.length c0, .func (.func 96) #[] #[.pointer A1_0]] w fun e w' => e = .returned (.int .i64 r) ∧ Below w.heap.size w w' := by
 have hu51 := Try.underlying51; have HR0 := a_ hr0; have HC0 := a_ hc0; clear hr0 hc0; have HR1_0 := a_ hr1_0; have HC1_0 := a_ hc1_0; clear hr1_0 hc1_0; have HB := a_ (Below.refl w.heap.size w); have H : (impl_Valve_107_c96.l0 k l0 (l0.length : Int) 0 l1_0) = some r := h; clear h; have H' := a_ H; clear H; go_enter Try.func107, Try.ntmps107; go_wp2; go_loopg [8] k (fun kq v8 w' => ∃ (x8_1 : Int), v8 = .int .i64 x8_1 ∧ Aside0 (impl_Valve_107_c96.l0 kq l0 (l0.length : Int) x8_1 l1_0 = some r) ∧ Aside0 (kq ≤ k) ∧ Aside0 (Below w.heap.size w w'))
 case atStart => exact ⟨(0), t4_, H', ⟨Nat.le_refl _⟩, ⟨t1_⟩⟩
 case round =>
  clear H'; (try clear c1); (try clear p2); obtain ⟨x8_1, rfl, HA, HK1, HB⟩ := hrel; cases gk with
  | zero => exact absurd HA.out (by simp [impl_Valve_107_c96.l0])
  | succ k1 =>
   have H := HA.out; clear HA; simp only [impl_Valve_107_c96.l0] at H; by_cases c3 : x8_1 < (l0.length : Int)
   ·rw [if_pos c3] at H; have c3b0 : decide (x8_1 < (l0.length : Int)) = true := d1_ c3; clear c3; by_cases c4 : 0 ≤ x8_1
    ·rw [if_pos c4] at H; have c4b0 : decide (0 ≤ x8_1) = true := d1_ c4; clear c4; by_cases c5 : x8_1 < (l0.length : Int)
     ·rw [if_pos c5] at H; have c5b0 : decide (x8_1 < (l0.length : Int)) = true := d1_ c5; clear c5; replace H := be_ H; obtain ⟨t304, A60, H⟩ := H; have A6 := a_ A60; clear A60; by_cases c7 : t304 = true
      ·subst c7; replace H := (if_pos rfl).symm.trans H; obtain rfl := Option.some.inj H; have p303 : 0 ≤ (x8_1 : Int) := od_; have q303 : x8_1 < (l0.length : Int) := od_; obtain ⟨ad303, e303, hx303_0, hx303_1, hx303_2⟩ := at_T51 HR0.out x8_1 p303 q303; cases e303; replace hx303_0 := hb_ HB hx303_0; replace hx303_1 := hb_ HB hx303_1; replace hx303_2 := hb_ HB hx303_2; replace p303 := eq_true p303; replace q303 := eq_true q303; go_wp2_with (first | (go_at_call 96; (with_reducible refine (impl_ValidValves_1.calls ((rd_T51 l0 x8_1).f0) ((rd_T51 l0 x8_1).f1) ((rd_T51 l0 x8_1).f2) _ c1_0 l1_0 true _ ?side1 ?side2 A6.out).mono ?_); (case side1 => exact qc_ (Kd.C_below HR1_0.out HB.out)); (case side2 => exact HC1_0.out); rintro e w8 ⟨rfl, hb⟩; have n0_ := a_ (below_step t1_ hb); clear HB; have HB := n0_; clear n0_; (try clear hb); (try clear hb2); (try clear hk); (try clear hi))); go_ret
       exact ⟨t3_, t1_⟩
      ·replace c7 := Bool.eq_false_iff.mpr c7; subst c7; replace H := (if_neg (show ¬ (false = true) by decide)).symm.trans H; have H' := a_ H; clear H; have p303 : 0 ≤ (x8_1 : Int) := od_; have q303 : x8_1 < (l0.length : Int) := od_; obtain ⟨ad303, e303, hx303_0, hx303_1, hx303_2⟩ := at_T51 HR0.out x8_1 p303 q303; cases e303; replace hx303_0 := hb_ HB hx303_0; replace hx303_1 := hb_ HB hx303_1; replace hx303_2 := hb_ HB hx303_2; replace p303 := eq_true p303; replace q303 := eq_true q303; go_wp2_with (first | (go_at_call 96; (with_reducible refine (impl_ValidValves_1.calls ((rd_T51 l0 x8_1).f0) ((rd_T51 l0 x8_1).f1) ((rd_T51 l0 x8_1).f2) _ c1_0 l1_0 false _ ?side1 ?side2 A6.out).mono ?_); (case side1 => exact qc_ (Kd.C_below HR1_0.out HB.out)); (case side2 => exact HC1_0.out); rintro e w9 ⟨rfl, hb⟩; have n0_ := a_ (below_step t1_ hb); clear HB; have HB := n0_; clear n0_; (try clear hb); (try clear hb2); (try clear hk); (try clear hi))); go_roundg k1
       case measure => have := HK1.out; omega
       case rel => exact ⟨(wrap64 (x8_1 + 1)), t4_, H', ⟨t52_⟩, ⟨t1_⟩⟩
     ·rw [if_neg c5] at H; exact absurd H t57_
    ·rw [if_neg c4] at H; exact absurd H t57_
   ·rw [if_neg c3] at H; have c3b0 : decide (x8_1 < (l0.length : Int)) = false := d2_ c3; clear c3; obtain rfl := Option.some.inj H; go_wp2; go_ret
    exact ⟨t3_, t1_⟩

/-! ### impl_Valve_77_c96: function 77 -/
def impl_Valve_77_c96.f (k : Nat) (l0 : List (S51)) (l1_0 : List (S51)) : Option (Bool) := (impl_Valve_107_c96.f k l0 l1_0).bind fun t305 => (some (decide (t305 ≥ 0)))
theorem impl_Valve_77_c96.mono : ∀ a0 a1 k, LeO (impl_Valve_77_c96.f k a0 a1) (impl_Valve_77_c96.f (k + 1) a0 a1) := by
 intro a0 a1 k; unfold impl_Valve_77_c96.f
 repeat' first
   | (with_reducible exact impl_Valve_107_c96.mono _ _ _)
   | (with_reducible exact LeO.refl _)
   | (with_reducible exact LeO.none _)
   | (with_reducible refine LeO.ite ?_ ?_)
   | (with_reducible refine LeO.bind ?_ (fun _ => ?_))
set_option maxHeartbeats 8000000 in
set_option maxRecDepth 100000 in
theorem impl_Valve_77_c96.calls (k : Nat) (A0 : Option Addr) (c0 : Nat) (l0 : List (S51)) (A1_0 : Option Addr) (c1_0 : Nat) (l1_0 : List (S51)) (r : Bool) (w : World) (hr0 : Kd.C k51 w A0 l0.length l0) (hc0 : l0.length ≤ c0) (hr1_0 : Kd.C k51 w A1_0 l1_0.length l1_0) (hc1_0 : l1_0.length ≤ c1_0) (h : impl_Valve_77_c96.f k l0 l1_0 = some r) :
  Calls Try.prog 77 #[.slice A0 l0.length c0, .func (.func 96) #[] #[.pointer A1_0]] w fun e w' => e = .returned (.bool r) ∧ Below w.heap.size w w' := by
 have HR0 := a_ hr0; have HC0 := a_ hc0; clear hr0 hc0; have HR1_0 := a_ hr1_0; have HC1_0 := a_ hc1_0; clear hr1_0 hc1_0; have HB := a_ (Below.refl w.heap.size w); have H : ((impl_Valve_107_c96.f k l0 l1_0).bind fun t305 => (some (decide (t305 ≥ 0)))) = some r := h; clear h; replace H := be_ H; obtain ⟨t305, A30, H⟩ := H; have A3 := a_ A30; clear A30; obtain rfl := Option.some.inj H; go_enter Try.func77, Try.ntmps77; go_wp2_with (first | ((with_reducible refine gate_callee (f := 107) rfl ?_); refine goesL_ (some 7) rfl rfl Try.func107 t13_ rfl #[.slice A0 l0.length c0, .func (.func 96) #[] #[.pointer A1_0]] rfl t2_ ?_; (with_reducible refine (impl_Valve_107_c96.calls k _ _ l0 _ c1_0 l1_0 t305 _ ?side1 ?side2 ?side3 ?side4 A3.out).mono ?_); (case side1 => exact qc_ HR0.out); (case side2 => exact HC0.out); (case side3 => exact qc_ HR1_0.out); (case side4 => exact HC1_0.out); rintro e w4 ⟨rfl, hb⟩; refine ⟨_, rfl, ?_⟩; have n0_ := a_ (below_step t1_ hb); clear HB; have HB := n0_; clear n0_; (try clear hb); (try clear hb2); (try clear hk); (try clear hi))); go_ret
 exact ⟨t3_, t1_⟩

end Go.Proofs.Ytheokilgacmlmaa.PFnExactWorstRegion
